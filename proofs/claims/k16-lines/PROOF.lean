import PyProof.Rows.All
import Wide.All
import OpenK.AllK
import Wide.FinOn
import HandS.ForMost
import HandS.Exc
import HandS.TryOnly
import HandS.ExcOwn
import HandS.WordsExc
import HandS.IsInst
import HandS.TupAny
import HandS.SetFor
import HandS.Strs
import HandS.Steps
import HandS.Style
import HandS.Deep
import HandS.Conv
import HandS.More
import HandS.HeadHook3
import KE.GoesNew
import KE.KExcIs
import HandS.ExcIs
import HandS.ExcField
import HandS.ExcInit
import HandS.Lambda
import HandS.EndOwn
import HandS.Nested
import KE.KDflt
import PySem.Challenge.RW_trainline_k16_lines_frame_by_frame
set_option Elab.async false
set_option linter.all false
set_option maxRecDepth 100000
set_option maxHeartbeats 4000000
namespace TL
open PySem PySem.Spec PyProof.Rows L2
/-! ### heaps -/
/-- what was tracked and isn't in S stays; tuples stay; nothing goes -/
structure Frm (S : List Addr) (H H' : Hp) : Prop where
  keep : ∀ b o, H b = some o → b ∉ S → H' b = some o
  tups : ∀ b ys, H b = some (.tup ys) → H' b = some (.tup ys)
  there : ∀ b o, H b = some o → ∃ o', H' b = some o'
instance {S : List Addr} {H H' : Hp} : CoeFun (Frm S H H') (fun _ => ∀ b o, H b = some o → b ∉ S → H' b = some o) := ⟨Frm.keep⟩
theorem Frm.refl (S : List Addr) (H : Hp) : Frm S H H := ⟨fun _ _ e _ => e, fun _ _ e => e, fun _ o e => ⟨o, e⟩⟩
theorem Frm.trans {S : List Addr} {H H1 H2 : Hp} (a : Frm S H H1) (b : Frm S H1 H2) : Frm S H H2 := ⟨fun c o e h => b.keep c o (a.keep c o e h) h, fun c o e => b.tups c o (a.tups c o e), fun c o e => let ⟨o', e'⟩ := a.there c o e; b.there c o' e'⟩
theorem Frm.mono {S S' : List Addr} {H H1 : Hp} (a : Frm S H H1) (h : ∀ x ∈ S, x ∈ S') : Frm S' H H1 := ⟨fun c o e hn => a.keep c o e fun z => hn (h _ z), a.tups, a.there⟩
theorem Frm.of_same {S : List Addr} {H H1 : Hp} (a : Same H H1) : Frm S H H1 := ⟨fun c o e _ => a c o e, fun c o e => a c _ e, fun c o e => ⟨o, a c o e⟩⟩
theorem Frm.same {H H1 : Hp} (a : Frm [] H H1) : Same H H1 := fun c o e => a.keep c o e (by simp)
theorem upd_there {H : Hp} {d b : Addr} {o u : HO} (e : H b = some u) : ∃ o', L2.upd H d o b = some o' := by
  by_cases h : b = d
  · subst h; exact ⟨o, upd_same⟩
  · exact ⟨u, by rw [upd_ne h]; exact e⟩
/-- something that is no tuple is written -/
theorem Frm.updN {H : Hp} {d : Addr} {o : HO} (n : ∀ ys, H d ≠ some (.tup ys)) : Frm [d] H (L2.upd H d o) := ⟨fun b u e h => by
  rw [upd_ne (fun z => h (by simp [z]))]
  exact e, fun b ys e => by
  rw [upd_ne (fun z => by rw [z] at e; exact n ys e)]
  exact e, fun b u e => upd_there e⟩
theorem Frm.updL {H : Hp} {d : Addr} {o : HO} {xs : List V} (h : H d = some (.lst xs)) : Frm [d] H (L2.upd H d o) := Frm.updN fun ys z => by rw [h] at z; cases z
theorem Frm.updI {H : Hp} {d C dx : Addr} {o : HO} {fs : List (Str × V)} (h : H d = some (.ins C dx fs)) : Frm [d] H (L2.upd H d o) := Frm.updN fun ys z => by rw [h] at z; cases z
theorem Frm.updK {H : Hp} {d : Addr} {o : HO} {kvs : List (Key × V)} (h : H d = some (.dK kvs)) : Frm [d] H (L2.upd H d o) := Frm.updN fun ys z => by rw [h] at z; cases z
theorem Frm.new {S : List Addr} {H : Hp} {p : Addr} {o : HO} (n : H p = none) : Frm S H (L2.upd H p o) := ⟨fun b u e _ => by
  rw [upd_ne (ne_of_none e n)]
  exact e, fun b u e => by
  rw [upd_ne (ne_of_none e n)]
  exact e, fun b u e => upd_there e⟩
/-- what is written was made since: all that stood ahead stands -/
theorem Frm.own {S : List Addr} {H H1 H2 : Hp} (a : Frm S H H1) {l : Addr} (hl : H l = none) (b : Frm [l] H1 H2) : Frm S H H2 := ⟨fun c o e h => b.keep c o (a.keep c o e h) (by
  simp only [List.mem_singleton]
  exact ne_of_none e hl), fun c o e => b.tups c o (a.tups c o e), fun c o e => let ⟨o', e'⟩ := a.there c o e; b.there c o' e'⟩
theorem Frm.free {S : List Addr} {H H1 : Hp} (a : Frm S H H1) {l : Addr} (h : H1 l = none) : H l = none := by
  cases q : H l with
  | none => rfl
  | some o =>
    obtain ⟨o', e⟩ := a.there l o q
    rw [e] at h
    cases h
/-- all that S names stands -/
def Alloc (S : List Addr) (H : Hp) : Prop := ∀ z ∈ S, ∃ o, H z = some o
theorem Alloc.frm {S Z : List Addr} {H H' : Hp} (a : Alloc Z H) (f : Frm S H H') : Alloc Z H' := fun z hz => let ⟨o, e⟩ := a z hz; f.there z o e
theorem Alloc.not {Z : List Addr} {H : Hp} (a : Alloc Z H) {l : Addr} (h : H l = none) : l ∉ Z := fun z => by
  obtain ⟨o, e⟩ := a l z
  rw [h] at e
  cases e
/-! ### attributes by their places -/
theorem zip_lookup : ∀ {N : List Str} {vs : List V} {i : Nat} {f : Str} {v : V}, N.Nodup → N[i]? = some f → vs[i]? = some v → (N.zip vs).lookup f = some v
  | [], _, _, _, _, _, h, _ => by simp at h
  | _ :: _, [], _, _, _, _, _, h => by simp at h
  | n :: N, x :: vs, 0, f, v, nd, h, g => by
    simp at h g
    subst h g
    simp [List.lookup]
  | n :: N, x :: vs, i + 1, f, v, nd, h, g => by
    rw [List.nodup_cons] at nd
    simp at h g
    have hne : (f == n) = false := by
      rw [beq_eq_false_iff_ne]
      rintro rfl
      exact nd.1 (List.mem_of_getElem? h)
    rw [List.zip_cons_cons, List.lookup, hne]
    exact zip_lookup nd.2 h g
theorem zip_no : ∀ {N : List Str} {vs : List V} {f : Str}, f ∉ N → (N.zip vs).lookup f = none
  | [], _, _, _ => rfl
  | _ :: _, [], _, _ => rfl
  | n :: N, x :: vs, f, h => by
    simp at h
    have hne : (f == n) = false := by rw [beq_eq_false_iff_ne]; exact h.1
    rw [List.zip_cons_cons, List.lookup, hne]
    exact zip_no h.2
/-- an attribute is stored again -/
theorem zip_put : ∀ {N : List Str} {vs : List V} {i : Nat} {f : Str} {v : V}, N.Nodup → N[i]? = some f → i < vs.length → putF f v (N.zip vs) = N.zip (vs.set i v)
  | [], _, _, _, _, _, h, _ => by simp at h
  | _ :: _, [], _, _, _, _, _, h => by simp at h
  | n :: N, x :: vs, 0, f, v, nd, h, g => by
    simp at h
    subst h
    simp [putF]
  | n :: N, x :: vs, i + 1, f, v, nd, h, g => by
    rw [List.nodup_cons] at nd
    simp at h g
    have hne : ¬ n = f := by
      rintro rfl
      exact nd.1 (List.mem_of_getElem? h)
    rw [List.zip_cons_cons]
    show (if n = f then _ else _) = _
    rw [if_neg hne, zip_put nd.2 h g]
    rfl
/-- an attribute is stored for the first time, the next by its place -/
theorem zip_add : ∀ {N : List Str} {vs : List V} {f : Str} {v : V}, N.Nodup → N[vs.length]? = some f → putF f v (N.zip vs) = N.zip (vs ++ [v])
  | [], _, _, _, _, h => by simp at h
  | n :: N, [], f, v, nd, h => by
    simp at h
    subst h
    simp [putF]
  | n :: N, x :: vs, f, v, nd, h => by
    rw [List.nodup_cons] at nd
    simp at h
    have hne : ¬ n = f := by
      rintro rfl
      exact nd.1 (List.mem_of_getElem? h)
    rw [List.zip_cons_cons]
    show (if n = f then _ else _) = _
    rw [if_neg hne, zip_add nd.2 h]
    rfl
theorem zip_small {N : List Str} {vs : List V} (h : N.length < 1000) : (N.zip vs).length < 1000 := by
  rw [List.length_zip]
  omega
theorem Same.upd_new {H : Hp} {p : Addr} {o : HO} (n : H p = none) : Same H (L2.upd H p o) := fun b u e => by
  rw [upd_ne (ne_of_none e n)]
  exact e
/-- a tuple isn't among what may be written -/
theorem iteD {p A B : Prop} [Decidable p] (h1 : p → A) (h2 : ¬ p → B) : if decide p = true then A else B := by
  by_cases h : p
  · rw [if_pos (decide_eq_true h)]
    exact h1 h
  · rw [if_neg (by simp [h])]
    exact h2 h
theorem iteN {p A B : Prop} [Decidable p] (h1 : ¬ p → A) (h2 : p → B) : if (!decide p) = true then A else B := by
  by_cases h : p
  · rw [if_neg (by simp [h])]
    exact h2 h
  · rw [if_pos (by simp [h])]
    exact h1 h
theorem iteB {b : Bool} {A B : Prop} (h1 : b = true → A) (h2 : b = false → B) : if b = true then A else B := by
  cases b
  · rw [if_neg (by simp)]; exact h2 rfl
  · rw [if_pos rfl]; exact h1 rfl
theorem vint_inj {i j : Int} : (V.int i = V.int j) ↔ i = j := ⟨fun h => by cases h; rfl, fun h => by rw [h]⟩
theorem getmap {α : Type} {f : α → V} {ns : List α} {i : Nat} {y : V} (h : (ns.map f)[i]? = some y) : ∃ z, ns[i]? = some z ∧ y = f z := by
  rw [List.getElem?_map] at h
  cases e : ns[i]? with
  | none => rw [e] at h; cases h
  | some z => rw [e] at h; exact ⟨z, rfl, (Option.some.inj h).symm⟩
theorem take_more {α : Type} : ∀ {l : List α} {i : Nat} {x : α}, l[i]? = some x → l.take (i + 1) = l.take i ++ [x]
  | [], i, x, h => by simp at h
  | a :: l, 0, x, h => by
    have e : a = x := Option.some.inj h
    subst e
    rfl
  | a :: l, i + 1, x, h => by
    have ih := take_more (l := l) (i := i) (x := x) h
    show a :: l.take (i + 1) = a :: l.take i ++ [x]
    rw [ih]
    rfl
/-! ### loops over enumerate(..) -/
/-- the invariant of a for over J -/
abbrev ForW (J : It) (g : TG) (tb : TS) (D : Ends) (σ : L2.St) (H : Hp) : Prop :=
  ∃ W : Nat → Nat → L2.St → Hp → Prop, (∃ m, W 0 m σ H) ∧ ∀ i m σ H, W i m σ H → (J.stop i H ∧ D.nx σ H) ∨
    (J.go i H ∧ ∃ N : L2.St → Hp → Prop, (∀ σ' H', N σ' H' → ∃ m', m' < m ∧ W (i + 1) m' σ' H') ∧ ∀ x H', J.yld i H x H' → g x σ H' fun σ2 H2 => tb { D with nx := N, ct := N, bk := D.nx } σ2 H2)
abbrev LcW (J : It) (g : TG) (tt : TT) (te : TE) (vs : List Nat) (σ : L2.St) (H1 : Hp) (D : Addr) (Qd : Hp → Prop) : Prop :=
  ∃ W : Nat → Nat → Hp → Prop, (∃ m, W 0 m (upd H1 D (.lst []))) ∧ ∀ i m H, W i m H → (J.stop i H ∧ Qd H) ∨
    (J.go i H ∧ ∃ Nx : Hp → Prop, (∀ H', Nx H' → ∃ m', m' < m ∧ W (i + 1) m' H') ∧ ∀ x H', J.yld i H x H' → g x (wipe σ vs) H' fun σ2 H2 => wipe σ2 vs = wipe σ vs ∧ tt σ2 H2 fun b H3 =>
      if b = true then te σ2 H3 fun y H4 => ∃ acc, H4 D = some (.lst acc) ∧ acc.length < sizeLine ∧ Nx (upd H4 D (.lst (acc ++ [y]))) else Nx H3)
theorem for_enum {K : PySem.W.Frag} {a : Addr} {xs : List V} {g : TG} {tb : TS} {D : Ends} {σ : L2.St} {H : Hp} (Pv : Nat → L2.St → Hp → Prop) (h0 : Pv 0 σ H) (hl : ∀ i σ H, i ≤ xs.length → Pv i σ H → SqL K H a xs)
    (hs : ∀ (i : Nat) (x : V) (T : Addr) (σ : L2.St) (H : Hp), xs[i]? = some x → Pv i σ H → H T = none → g (.ref T) σ (upd H T (.tup [.int (i : Nat), x])) fun σ2 H2 => tb { D with nx := Pv (i + 1), ct := Pv (i + 1), bk := D.nx } σ2 H2)
    (hd : ∀ σ H, Pv xs.length σ H → D.nx σ H) : ForW (Ite K a) g tb D σ H := by
  refine ⟨fun i m σ H => m = xs.length - i ∧ i ≤ xs.length ∧ Pv i σ H, ⟨_, rfl, Nat.zero_le _, h0⟩, fun i m σ H hw => ?_⟩
  obtain ⟨rfl, hi, p⟩ := hw
  have q := hl i σ H hi p
  rcases Nat.lt_or_ge i xs.length with hlt | hge
  · refine .inr ⟨⟨xs, xs[i], q, by simp [hlt]⟩, Pv (i + 1), fun σ' H' p' => ⟨xs.length - (i + 1), by omega, rfl, hlt, p'⟩, fun v H' y => ?_⟩
    obtain ⟨T, x, rfl, hT, rfl, hx⟩ := y
    exact hs i x T σ H (hx xs q) p hT
  · have e : i = xs.length := by omega
    subst e
    exact .inl ⟨⟨xs, q, Nat.le_refl _⟩, hd σ H p⟩
theorem lc_enum {K : PySem.W.Frag} {a : Addr} {xs : List V} {g : TG} {tt : TT} {te : TE} {vs : List Nat} {σ : L2.St} {H1 : Hp} {D : Addr} {Qd : Hp → Prop} (Pv : Nat → Hp → Prop) (h0 : Pv 0 (upd H1 D (.lst []))) (hl : ∀ i H, i ≤ xs.length → Pv i H → SqL K H a xs)
    (hs : ∀ (i : Nat) (x : V) (T : Addr) (H : Hp), xs[i]? = some x → Pv i H → H T = none → g (.ref T) (wipe σ vs) (upd H T (.tup [.int (i : Nat), x])) fun σ2 H2 => wipe σ2 vs = wipe σ vs ∧ tt σ2 H2 fun b H3 =>
      if b = true then te σ2 H3 fun y H4 => ∃ acc, H4 D = some (.lst acc) ∧ acc.length < sizeLine ∧ Pv (i + 1) (upd H4 D (.lst (acc ++ [y]))) else Pv (i + 1) H3)
    (hd : ∀ H, Pv xs.length H → Qd H) : LcW (Ite K a) g tt te vs σ H1 D Qd := by
  refine ⟨fun i m H => m = xs.length - i ∧ i ≤ xs.length ∧ Pv i H, ⟨_, rfl, Nat.zero_le _, h0⟩, fun i m H hw => ?_⟩
  obtain ⟨rfl, hi, p⟩ := hw
  have q := hl i H hi p
  rcases Nat.lt_or_ge i xs.length with hlt | hge
  · refine .inr ⟨⟨xs, xs[i], q, by simp [hlt]⟩, Pv (i + 1), fun H' p' => ⟨xs.length - (i + 1), by omega, rfl, hlt, p'⟩, fun v H' y => ?_⟩
    obtain ⟨T, x, rfl, hT, rfl, hx⟩ := y
    exact hs i x T H (hx xs q) p hT
  · have e : i = xs.length := by omega
    subst e
    exact .inl ⟨⟨xs, q, Nat.le_refl _⟩, hd H p⟩
/-! ### o.f as one of several targets -/
def gFld (K : PySem.W.Frag) (to : TE) (f : Str) : TG := fun v σ H Q => to σ H fun x H1 => ∃ a C dx fs, x = .ref a ∧ H1 a = some (.ins C dx fs) ∧ Cls K C ∧ NoAttr K C f ∧ fs.length < 1000 ∧ Q σ (upd H1 a (.ins C dx (putF f v fs)))
theorem pg_fld {X : Cx} {o : Expr} {f : Str} {pos : Pos} {to : TE} (ho : PE X o to) : PG X (.Attribute o f pos) (gFld X.K to f) := by
  refine ⟨fun pins s σ H v u Q I r h => ?_⟩
  rw [assign_Attribute]
  refine wpAny_bind (wpAny_holding (thn (ho.run pins s σ H _ I h) fun ov s1 ⟨x, H1, I1, rx, a, C, dx, fs, ex, ea, c, n, l, q⟩ => ?_))
  subst ex
  obtain rfl : ov = Value.ref a := rx
  refine wpAny_bind (wpAny_standAt (wpAny_bind (wpAny_holding (setattr_ok I1 ea c n l r fun s2 I2 => ?_))))
  exact wpAny_release ⟨σ, _, I2, q⟩
/-! ### a comprehension within a comprehension -/
def FrIn (sc : Scope) : List Str → Prop
  | [] => True
  | n :: r => (sc.names.lookup n = some .cell ∨ sc.names.lookup n = some .free) ∧ FrIn sc r
def frees (scope : Scope) : List Str := (scope.names.filter fun y => y.2 == .free).map (·.1)
def blkD (N : List Str) (scope : Scope) (own : List (Str × Nat)) : Bool :=
  (match scope.kind with | .function => true | _ => false) && (scope.names.all fun y => decide (scope.names.lookup y.1 = some y.2)) && (own.all fun p => decide (N[p.2]? = some p.1)) &&
    (scope.names.all fun y => match y.2 with
      | .local => decide (y.1 ∈ own.map (·.1)) || decide (y.1 ∉ N)
      | .cell => decide (y.1 ∈ own.map (·.1)) || decide (y.1 ∉ N)
      | _ => true)
theorem FrIn.of {sc : Scope} : ∀ {l : List Str} {n : Str}, FrIn sc l → n ∈ l → sc.names.lookup n = some .cell ∨ sc.names.lookup n = some .free
  | [], _, _, h => by simp at h
  | a :: r, n, f, h => by
    rcases List.mem_cons.mp h with rfl | h
    · exact f.1
    · exact FrIn.of f.2 h
theorem blkOk_in {N : List Str} {sc scope : Scope} {own : List (Str × Nat)} (h : blkD N scope own = true) (hf : FrIn sc (frees scope)) : BlkOk N sc scope own := by
  unfold blkD at h
  simp only [Bool.and_eq_true, List.all_eq_true, decide_eq_true_eq] at h
  obtain ⟨⟨⟨h1, h2⟩, h3⟩, h4⟩ := h
  refine ⟨?_, h2, h3, fun y hy e => ?_, fun y hy e => ?_⟩
  · split at h1
    · assumption
    · cases h1
  · refine hf.of ?_
    unfold frees
    rw [List.mem_map]
    exact ⟨y, by rw [List.mem_filter]; exact ⟨hy, by rw [e]; rfl⟩, rfl⟩
  · have q := h4 y hy
    rcases e with e | e
    · rw [e] at q
      simpa using q
    · rw [e] at q
      simpa using q
/-- a comprehension over a list of two -/
theorem lc_two {K : PySem.W.Frag} {a : Addr} {v0 v1 : V} {g : TG} {tt : TT} {te : TE} {vs : List Nat} {σ : L2.St} {H1 : Hp} {D : Addr} {Qd : Hp → Prop} (P0 P1 P2 : Hp → Prop) (h0 : P0 (upd H1 D (.lst []))) (l0 : ∀ H, P0 H → SqL K H a [v0, v1]) (l1 : ∀ H, P1 H → SqL K H a [v0, v1]) (l2 : ∀ H, P2 H → SqL K H a [v0, v1])
    (s0 : ∀ H, P0 H → g v0 (wipe σ vs) H fun σ2 H2 => wipe σ2 vs = wipe σ vs ∧ tt σ2 H2 fun b H3 => if b = true then te σ2 H3 fun y H4 => ∃ acc, H4 D = some (.lst acc) ∧ acc.length < sizeLine ∧ P1 (upd H4 D (.lst (acc ++ [y]))) else P1 H3)
    (s1 : ∀ H, P1 H → g v1 (wipe σ vs) H fun σ2 H2 => wipe σ2 vs = wipe σ vs ∧ tt σ2 H2 fun b H3 => if b = true then te σ2 H3 fun y H4 => ∃ acc, H4 D = some (.lst acc) ∧ acc.length < sizeLine ∧ P2 (upd H4 D (.lst (acc ++ [y]))) else P2 H3)
    (hd : ∀ H, P2 H → Qd H) : LcW (Itl K a) g tt te vs σ H1 D Qd := by
  refine lc_list (K := K) (a := a) (xs := [v0, v1]) (fun i H => match i with | 0 => P0 H | 1 => P1 H | _ => P2 H) h0 ?_ ?_ hd
  · intro i H hi p
    match i, p with
    | 0, p => exact l0 H p
    | 1, p => exact l1 H p
    | _ + 2, p => exact l2 H p
  · intro i x H hx p
    match i, hx, p with
    | 0, hx, p =>
      have e : v0 = x := Option.some.inj hx
      subst e
      exact s0 H p
    | 1, hx, p =>
      have e : v1 = x := Option.some.inj hx
      subst e
      exact s1 H p
    | n + 2, hx, p => simp at hx
/-- a loop over 0, 1 -/
theorem for_two {g : TG} {tb : TS} {D : Ends} {σ : L2.St} {H : Hp} (P0 P1 P2 : L2.St → Hp → Prop) (h0 : P0 σ H)
    (s0 : ∀ σ H, P0 σ H → g (.int 0) σ H fun σ2 H2 => tb { D with nx := P1, ct := P1, bk := D.nx } σ2 H2)
    (s1 : ∀ σ H, P1 σ H → g (.int 1) σ H fun σ2 H2 => tb { D with nx := P2, ct := P2, bk := D.nx } σ2 H2)
    (hd : ∀ σ H, P2 σ H → D.nx σ H) : ForW (Itr 0 2) g tb D σ H := by
  refine for_range (lo := 0) (n := 2) (fun i σ H => match i with | 0 => P0 σ H | 1 => P1 σ H | _ => P2 σ H) h0 ?_ hd
  intro i σ H hi p
  match i, hi, p with
  | 0, _, p => exact s0 σ H p
  | 1, _, p => exact s1 σ H p
/-! ### where ways come together -/
/-- behind t N holds, and from N on the rest goes -/
def tCut (t : TS) : TS := fun D σ H => ∃ N : L2.St → Hp → Prop, t { D with nx := N } σ H ∧ ∀ σ' H', N σ' H' → D.nx σ' H'
theorem ps_cut {X : Cx} {st : Stmt} {t : TS} (h : PS X st t) : PS X st (tCut t) := ⟨fun pins s σ H D I ⟨N, h1, h2⟩ => thn (h.run pins s σ H { D with nx := N } I h1) fun f s' q => by
  cases f with
  | next =>
    obtain ⟨σ', H', I', n⟩ := q
    exact ⟨σ', H', I', h2 _ _ n⟩
  | brk => exact q
  | cont => exact q
  | ret u => exact q⟩
/-- the same of an expression: its value, and of a test -/
def tCutE (t : TE) : TE := fun σ H Q => ∃ N : VK, t σ H N ∧ ∀ v H', N v H' → Q v H'
theorem pe_cut {X : Cx} {e : Expr} {t : TE} (h : PE X e t) : PE X e (tCutE t) := ⟨fun pins s σ H Q I ⟨N, h1, h2⟩ => thn (h.run pins s σ H N I h1) fun u s' ⟨x, H', I', r, n⟩ => ⟨x, H', I', r, h2 _ _ n⟩⟩
def tCutT (t : TT) : TT := fun σ H Q => ∃ N : Bool → Hp → Prop, t σ H N ∧ ∀ b H', N b H' → Q b H'
theorem pt_cut {X : Cx} {e : Expr} {t : TT} (h : PT X e t) : PT X e (tCutT t) := ⟨fun pins s σ H Q I ⟨N, h1, h2⟩ => thn (h.run pins s σ H N I h1) fun c s' ⟨H', I', n⟩ => ⟨H', I', h2 _ _ n⟩⟩
/-! ### set(t), t a tuple of whole numbers -/
section
variable {X : Cx}
def rSetT (K : PySem.W.Frag) (w : World) : List V → Hp → VK → Prop := fun xs H Q => ∃ (p : Addr) (ns : List Int), xs = [.ref p] ∧ SqT K H p (ns.map V.int) ∧ ns.length ≤ 1000 ∧
  ∀ (q : Addr) (c : Nat), H q = none → c ≤ ns.length → Q (.ref q) (upd H q (SetO w q (fun j => decide (j ∈ ns)) c))
theorem cr_setT (hc : X.calm = true) : CallR X (.type "set") (rSetT X.K X.w) := by
  intro pins s σ H xs us Q I rv h
  obtain ⟨p0, ns, rfl, hq, hl, q⟩ := h
  cases rv with
  | cons r rr =>
    cases rr
    cases r
    obtain ⟨its, rv, pt, hz⟩ := I.tuple hq
    have hi : IntsAre its.toArray.toList ns := ints_of_vals rv
    refine call_set_tupI ns (I.ok.hd hc) (show s.heap.IsTuple p0 its.toArray from pt) hi (by unfold scanBound; omega) fun h' tk c R1 hcn k => ?_
    exact ⟨.ref _, upd H s.heap.objs.size (SetO X.w s.heap.objs.size (fun j => decide (j ∈ ns)) c), I.laid (t' := tk) k (Nat.le_refl _) (setO_new R1), rfl, q _ _ (I.hok.fresh (Nat.le_refl _)) hcn⟩
/-! ### xs.count(y), flat items -/
def rCountF (K : PySem.W.Frag) : V → List V → Hp → VK → Prop := fun x xs H Q => ∃ (p : Addr) (ys : List V) (y : V), x = .ref p ∧ xs = [y] ∧ SqL K H p ys ∧ flatV y = true ∧ ys.all flatV = true ∧ Q (.int (ys.countP (fun z => eqV z y) : Nat)) H
theorem countP_eqU {y : V} : ∀ {ys : List V} {us : List Value}, Vals ys us → ys.all flatV = true → us.countP (eqU y) = ys.countP (fun z => eqV z y)
  | _, _, .nil, _ => rfl
  | _, _, .cons r t, f => by
    simp only [List.all_cons, Bool.and_eq_true] at f
    rw [List.countP_cons, List.countP_cons, countP_eqU t f.2, eqU_of r f.1]
theorem mt_countF : MtR X "list.count" (rCountF X.K) := by
  intro pins s σ H x xs v us Q I rx rxs h
  obtain ⟨p, ys, y, rfl, rfl, hs, fy, fys, q⟩ := h
  cases rx
  obtain ⟨u, rfl, ru⟩ := rxs.one
  obtain ⟨its, rv, ⟨⟨cls, dd, data, sl⟩, n, ho, hc, hdn, hd⟩, hlen⟩ := I.list hs
  simp only at hc hd
  subst hc hd
  refine call_meets PySem.F.slot_list_count ⟨_, ho, rfl⟩ PySem.F.entry_list_count (PySem.F.args_list_count_2 _ _)
    (SeqAt.list_countAt p its.toArray n dd sl u (eqU y)) ⟨ho, fun z hz => mem_eqAt ru fy rv fys z (by simpa using hz), ?_⟩
  have ec : its.toArray.toList.countP (eqU y) = ys.countP (fun z => eqV z y) := countP_eqU rv fys
  refine ⟨.int (ys.countP (fun z => eqV z y) : Nat), H, I.tok _, ⟨s.toks, ?_⟩, q⟩
  show Value.int ((its.toArray.toList.countP (eqU y) : Nat) : Int) s.toks = Value.int ((ys.countP (fun z => eqV z y) : Nat) : Int) s.toks
  rw [ec]
end
theorem count_int (ns : List Int) (k : Int) : (ns.map V.int).countP (fun z => eqV z (.int k)) = ns.count k := by
  induction ns with
  | nil => rfl
  | cons a r ih =>
    rw [List.map_cons, List.countP_cons, ih, List.count_cons]
    rfl
/-! ### data and ints -/
theorem flat_ints (ns : List Int) : (ns.map V.int).all flatV = true := by
  rw [List.all_map, List.all_eq_true]
  intro _ _
  rfl
theorem inV_int (k : Int) (ns : List Int) : inV (.int k) (ns.map V.int) = decide (k ∈ ns) := by
  unfold inV
  rw [List.any_map]
  induction ns with
  | nil => rfl
  | cons a r ih =>
    rw [List.any_cons, ih]
    show (a == k || decide (k ∈ r)) = _
    by_cases e : a = k
    · subst e; simp
    · have e' : ¬ k = a := fun z => e z.symm
      simp [e, e']
end TL

namespace L2
open PySem PySem.Spec PyProof.Rows
mutual
theorem Dp.same {K : PySem.W.Frag} {H H' : Hp} (e : Same H H') : ∀ {x : V} {d : PyData}, Dp K H x d → Dp K H' x d
  | _, _, .non => .non
  | _, _, .bl b => .bl b
  | _, _, .int i => .int i
  | _, _, .str z => .str z
  | _, _, .lst h a => .lst (e.seq h) (DpAll.same e a)
  | _, _, .tup h a => .tup (by
      rcases h with (h | ⟨o, h⟩) | h
      · exact .inl (.inl (e _ _ h))
      · exact .inl (.inr ⟨o, e _ _ h⟩)
      · exact .inr h) (DpAll.same e a)
theorem DpAll.same {K : PySem.W.Frag} {H H' : Hp} (e : Same H H') : ∀ {xs : List V} {ds : List PyData}, DpAll K H xs ds → DpAll K H' xs ds
  | _, _, .nil => .nil
  | _, _, .cons h t => .cons (Dp.same e h) (DpAll.same e t)
end
theorem SqT_same {K : PySem.W.Frag} {H H' : Hp} {a : Addr} {xs : List V} (e : Same H H') (h : SqT K H a xs) : SqT K H' a xs := by
  rcases h with (h | ⟨o, h⟩) | h
  · exact .inl (.inl (e _ _ h))
  · exact .inl (.inr ⟨o, e _ _ h⟩)
  · exact .inr h
theorem DpAll.length {K : PySem.W.Frag} {H : Hp} : ∀ {xs : List V} {ds : List PyData}, DpAll K H xs ds → xs.length = ds.length
  | _, _, .nil => rfl
  | _, _, .cons _ t => by rw [List.length_cons, List.length_cons, DpAll.length t]
theorem DpAll.get {K : PySem.W.Frag} {H : Hp} : ∀ {xs : List V} {ds : List PyData} {i : Nat} {d : PyData}, DpAll K H xs ds → ds[i]? = some d → ∃ x, xs[i]? = some x ∧ Dp K H x d
  | _, _, i, d, .nil, e => by simp at e
  | _, _, 0, d, .cons h t, e => by simp at e; subst e; exact ⟨_, rfl, h⟩
  | _, _, i + 1, d, .cons h t, e => by
    obtain ⟨x, h1, h2⟩ := DpAll.get (i := i) (d := d) t (by simpa using e)
    exact ⟨x, by simpa using h1, h2⟩
theorem dp_ints {K : PySem.W.Frag} {H : Hp} : ∀ ns : List Int, DpAll K H (ns.map V.int) (ns.map PyData.int)
  | [] => .nil
  | n :: r => .cons (.int n) (dp_ints r)
theorem DpAll.append {K : PySem.W.Frag} {H : Hp} : ∀ {xs ys : List V} {ds es : List PyData}, DpAll K H xs ds → DpAll K H ys es → DpAll K H (xs ++ ys) (ds ++ es)
  | _, _, _, _, .nil, b => b
  | _, _, _, _, .cons h t, b => .cons h (DpAll.append t b)
theorem DpAll.get' {K : PySem.W.Frag} {H : Hp} : ∀ {xs : List V} {ds : List PyData} {i : Nat} {x : V}, DpAll K H xs ds → xs[i]? = some x → ∃ d, ds[i]? = some d ∧ Dp K H x d
  | _, _, i, d, .nil, e => by simp at e
  | _, _, 0, d, .cons h t, e => by simp at e; subst e; exact ⟨_, rfl, h⟩
  | _, _, i + 1, d, .cons h t, e => by
    obtain ⟨x, h1, h2⟩ := DpAll.get' (i := i) (x := d) t (by simpa using e)
    exact ⟨x, by simpa using h1, h2⟩
theorem DpAll.ints_inv {K : PySem.W.Frag} {H : Hp} : ∀ {xs : List V} {ns : List Int}, DpAll K H xs (ns.map .int) → xs = ns.map V.int
  | _, [], .nil => rfl
  | _, n :: r, .cons h t => by
    cases h
    rw [List.map_cons, DpAll.ints_inv t]
end L2
namespace TL
open PySem PySem.Spec PyProof.Rows L2
/-! ### isinstance, by the kinds -/
theorem kb_ii : kitB "int" "int" = some true := by decide +kernel
theorem kb_ib : kitB "int" "bool" = some false := by decide +kernel
theorem kb_is : kitB "int" "str" = some false := by decide +kernel
theorem kb_it : kitB "int" "tuple" = some false := by decide +kernel
theorem kb_il : kitB "int" "list" = some false := by decide +kernel
theorem kb_bi : kitB "bool" "int" = some true := by decide +kernel
theorem kb_bb : kitB "bool" "bool" = some true := by decide +kernel
theorem kb_bt : kitB "bool" "tuple" = some false := by decide +kernel
theorem kb_bs : kitB "bool" "str" = some false := by decide +kernel
theorem kb_si : kitB "str" "int" = some false := by decide +kernel
theorem kb_sb : kitB "str" "bool" = some false := by decide +kernel
theorem kb_ss : kitB "str" "str" = some true := by decide +kernel
theorem kb_st : kitB "str" "tuple" = some false := by decide +kernel
theorem kb_ni : kitB "NoneType" "int" = some false := by decide +kernel
theorem kb_nb : kitB "NoneType" "bool" = some false := by decide +kernel
theorem kb_nt : kitB "NoneType" "tuple" = some false := by decide +kernel
theorem kb_ns : kitB "NoneType" "str" = some false := by decide +kernel
theorem kb_ti : kitB "tuple" "int" = some false := by decide +kernel
theorem kb_tb : kitB "tuple" "bool" = some false := by decide +kernel
theorem kb_ts : kitB "tuple" "str" = some false := by decide +kernel
theorem kb_tt : kitB "tuple" "tuple" = some true := by decide +kernel
theorem kb_tl : kitB "tuple" "list" = some false := by decide +kernel
theorem kb_li : kitB "list" "int" = some false := by decide +kernel
theorem kb_lb : kitB "list" "bool" = some false := by decide +kernel
theorem kb_ls : kitB "list" "str" = some false := by decide +kernel
theorem kb_lt : kitB "list" "tuple" = some false := by decide +kernel
theorem kb_ll : kitB "list" "list" = some true := by decide +kernel
theorem tyx_L {K : PySem.W.Frag} {H : Hp} {a : Addr} {xs : List V} (h : SqL K H a xs) : TyX K H (.ref a) (.type "list") := by
  rcases h with (h | ⟨o, h⟩) | ⟨o, its, n, hk, hc, _⟩
  · exact .base (.lst h)
  · exact .base (.frz h)
  · exact .kList hk hc
theorem tyx_T {K : PySem.W.Frag} {H : Hp} {a : Addr} {xs : List V} (h : SqT K H a xs) : TyX K H (.ref a) (.type "tuple") := by
  rcases h with (h | ⟨o, h⟩) | ⟨o, its, n, hk, hc, _⟩
  · exact .base (.tup h)
  · exact .fTuple h
  · exact .kTuple hk hc
/-- what is, by its kind: the type that isinstance asks -/
def kty : PyData → String
  | .none => "NoneType" | .bool _ => "bool" | .int _ => "int" | .str _ => "str" | .list _ => "list" | .tuple _ => "tuple" | .dict _ => "dict"
theorem tyx_D {K : PySem.W.Frag} {H : Hp} {x : V} {d : PyData} (h : Dp K H x d) : TyX K H x (.type (kty d)) := by
  cases h with
  | non => exact .base .non
  | bl b => exact .base (.bl b)
  | int i => exact .base (.int i)
  | str z => exact .base (.str z)
  | lst h _ => exact tyx_L h
  | tup h _ => exact tyx_T h
/-- isinstance(x, c) of data -/
theorem isi_D {K : PySem.W.Frag} {H : Hp} {x : V} {d : PyData} {c : String} {b : Bool} {Q : VK} (h : Dp K H x d) (k : kitB (kty d) c = some b) (q : Q (.bl b) H) : rIsi K [x, .ty c] H Q :=
  ⟨x, .ty c, _, _, b, rfl, .ty c, tyx_D h, kit_ty k, q⟩
/-- numbers, texts, truths, None, lists and tuples of these, nested no more than n deep -/
def lv : Nat → PyData → Prop
  | _, .none => True | _, .bool _ => True | _, .int _ => True | _, .str x => (PyData.str x).canLay0 = true
  | n + 1, .list ds => ds.length ≤ 100000 ∧ ∀ d ∈ ds, lv n d
  | n + 1, .tuple ds => ds.length ≤ 100000 ∧ ∀ d ∈ ds, lv n d
  | _, _ => False
/-- such data are laid out and compared -/
theorem lv_ok : ∀ (n : Nat) (d : PyData), lv n d → d.canLay0 = true ∧ d.depth ≤ n
  | _, .none, _ => ⟨rfl, by simp [PyData.depth]⟩
  | _, .bool _, _ => ⟨rfl, by simp [PyData.depth]⟩
  | _, .int _, _ => ⟨rfl, by simp [PyData.depth]⟩
  | _, .str _, h => ⟨by simpa [lv] using h, by simp [PyData.depth]⟩
  | 0, .list _, h => by simp [lv] at h
  | 0, .tuple _, h => by simp [lv] at h
  | n + 1, .list ds, h => by
    simp only [lv] at h
    have q : ∀ es : List PyData, (∀ d ∈ es, lv n d) → PyData.canLayAll0 es = true ∧ PyData.depthAll es ≤ n := by
      intro es
      induction es with
      | nil => intro _; exact ⟨rfl, by simp [PyData.depthAll]⟩
      | cons e r ih =>
        intro z
        obtain ⟨a1, a2⟩ := lv_ok n e (z e (by simp))
        obtain ⟨b1, b2⟩ := ih fun d hd => z d (by simp [hd])
        exact ⟨by simp [PyData.canLayAll0, a1, b1], by simp only [PyData.depthAll]; omega⟩
    obtain ⟨q1, q2⟩ := q ds h.2
    exact ⟨by simpa [PyData.canLay0] using q1, by simp only [PyData.depth]; omega⟩
  | n + 1, .tuple ds, h => by
    simp only [lv] at h
    have q : ∀ es : List PyData, (∀ d ∈ es, lv n d) → PyData.canLayAll0 es = true ∧ PyData.depthAll es ≤ n := by
      intro es
      induction es with
      | nil => intro _; exact ⟨rfl, by simp [PyData.depthAll]⟩
      | cons e r ih =>
        intro z
        obtain ⟨a1, a2⟩ := lv_ok n e (z e (by simp))
        obtain ⟨b1, b2⟩ := ih fun d hd => z d (by simp [hd])
        exact ⟨by simp [PyData.canLayAll0, a1, b1], by simp only [PyData.depthAll]; omega⟩
    obtain ⟨q1, q2⟩ := q ds h.2
    exact ⟨by simpa [PyData.canLay0] using q1, by simp only [PyData.depth]; omega⟩
  | 0, .dict _, h => by simp [lv] at h
  | _ + 1, .dict _, h => by simp [lv] at h
theorem shaped_lv {n : Nat} {d : PyData} (h : lv n d) (hn : n ≤ 64) : SeqAt.shaped d = true := by
  obtain ⟨a, b⟩ := lv_ok n d h
  unfold SeqAt.shaped
  rw [a, decide_eq_true (Nat.le_trans b hn)]
  rfl
theorem eqvAll_ints : ∀ ns ms : List Int, PyData.eqvAll (ns.map .int) (ms.map .int) = decide (ns = ms)
  | [], [] => rfl
  | [], _ :: _ => rfl
  | _ :: _, [] => rfl
  | a :: r, b :: s => by
    rw [List.map_cons, List.map_cons]
    show (PyData.eqv (.int a) (.int b) && PyData.eqvAll _ _) = _
    rw [eqvAll_ints r s]
    show ((a == b) && decide (r = s)) = _
    by_cases h : a = b
    · subst h; simp
    · simp [h]
theorem canLay_ints (ns : List Int) : (PyData.list (ns.map .int)).canLay0 = true := by
  induction ns with
  | nil => rfl
  | cons a r ih => exact ih
theorem depth_ints (ns : List Int) : (PyData.list (ns.map .int)).depth ≤ 2 := by
  induction ns with
  | nil => decide
  | cons a r ih =>
    revert ih
    simp only [PyData.depth, PyData.depthAll, List.map_cons]
    omega
theorem shaped_ints (ns : List Int) : SeqAt.shaped (.list (ns.map .int)) = true := by
  unfold SeqAt.shaped
  rw [canLay_ints, decide_eq_true (Nat.le_trans (depth_ints ns) (by decide))]
  rfl
/-! ### what can't be changed: numbers, texts, truths, None, tuples of these -/
mutual
inductive Im (H : Hp) : V → PyData → Prop
  | non : Im H .non .none
  | bl (b : Bool) : Im H (.bl b) (.bool b)
  | int (i : Int) : Im H (.int i) (.int i)
  | str (x : Str) : Im H (.str x) (.str x)
  | tup {a : Addr} {xs : List V} {ds : List PyData} : H a = some (.tup xs) → ImAll H xs ds → Im H (.ref a) (.tuple ds)
inductive ImAll (H : Hp) : List V → List PyData → Prop
  | nil : ImAll H [] []
  | cons {v : V} {vs : List V} {d : PyData} {ds : List PyData} : Im H v d → ImAll H vs ds → ImAll H (v :: vs) (d :: ds)
end
mutual
theorem Im.dp {K : PySem.W.Frag} {H : Hp} : ∀ {x : V} {d : PyData}, Im H x d → Dp K H x d
  | _, _, .non => .non
  | _, _, .bl b => .bl b
  | _, _, .int i => .int i
  | _, _, .str z => .str z
  | _, _, .tup h a => .tup (SqT.of h) (ImAll.dp a)
theorem ImAll.dp {K : PySem.W.Frag} {H : Hp} : ∀ {xs : List V} {ds : List PyData}, ImAll H xs ds → DpAll K H xs ds
  | _, _, .nil => .nil
  | _, _, .cons h t => .cons (Im.dp h) (ImAll.dp t)
end
mutual
theorem Im.frm {S : List Addr} {H H' : Hp} (e : Frm S H H') : ∀ {x : V} {d : PyData}, Im H x d → Im H' x d
  | _, _, .non => .non
  | _, _, .bl b => .bl b
  | _, _, .int i => .int i
  | _, _, .str z => .str z
  | _, _, .tup h a => .tup (e.tups _ _ h) (ImAll.frm e a)
theorem ImAll.frm {S : List Addr} {H H' : Hp} (e : Frm S H H') : ∀ {xs : List V} {ds : List PyData}, ImAll H xs ds → ImAll H' xs ds
  | _, _, .nil => .nil
  | _, _, .cons h t => .cons (Im.frm e h) (ImAll.frm e t)
end
theorem ImAll.same {H H' : Hp} {xs : List V} {ds : List PyData} (h : ImAll H xs ds) (e : Same H H') : ImAll H' xs ds := h.frm (S := []) (.of_same e)
theorem Im.same {H H' : Hp} {x : V} {d : PyData} (h : Im H x d) (e : Same H H') : Im H' x d := h.frm (S := []) (.of_same e)
theorem ImAll.new {H : Hp} {xs : List V} {ds : List PyData} {p : Addr} {o : HO} (h : ImAll H xs ds) (n : H p = none) : ImAll (upd H p o) xs ds := h.same (Same.upd_new n)
theorem Im.new {H : Hp} {x : V} {d : PyData} {p : Addr} {o : HO} (h : Im H x d) (n : H p = none) : Im (upd H p o) x d := h.same (Same.upd_new n)
theorem ImAll.updL {H : Hp} {xs : List V} {ds : List PyData} {p : Addr} {o : HO} {ys : List V} (h : ImAll H xs ds) (n : H p = some (.lst ys)) : ImAll (upd H p o) xs ds := h.frm (Frm.updL n)
theorem Im.updL {H : Hp} {x : V} {d : PyData} {p : Addr} {o : HO} {ys : List V} (h : Im H x d) (n : H p = some (.lst ys)) : Im (upd H p o) x d := h.frm (Frm.updL n)
theorem ImAll.length {H : Hp} : ∀ {xs : List V} {ds : List PyData}, ImAll H xs ds → xs.length = ds.length
  | _, _, .nil => rfl
  | _, _, .cons _ t => by rw [List.length_cons, List.length_cons, ImAll.length t]
theorem ImAll.append {H : Hp} : ∀ {xs ys : List V} {ds es : List PyData}, ImAll H xs ds → ImAll H ys es → ImAll H (xs ++ ys) (ds ++ es)
  | _, _, _, _, .nil, b => b
  | _, _, _, _, .cons h t, b => .cons h (ImAll.append t b)
theorem ImAll.get {H : Hp} : ∀ {xs : List V} {ds : List PyData} {i : Nat} {d : PyData}, ImAll H xs ds → ds[i]? = some d → ∃ x, xs[i]? = some x ∧ Im H x d
  | _, _, i, d, .nil, e => by simp at e
  | _, _, 0, d, .cons h t, e => by simp at e; subst e; exact ⟨_, rfl, h⟩
  | _, _, i + 1, d, .cons h t, e => by
    obtain ⟨x, h1, h2⟩ := ImAll.get (i := i) (d := d) t (by simpa using e)
    exact ⟨x, by simpa using h1, h2⟩
theorem ImAll.get' {H : Hp} : ∀ {xs : List V} {ds : List PyData} {i : Nat} {x : V}, ImAll H xs ds → xs[i]? = some x → ∃ d, ds[i]? = some d ∧ Im H x d
  | _, _, i, d, .nil, e => by simp at e
  | _, _, 0, d, .cons h t, e => by simp at e; subst e; exact ⟨_, rfl, h⟩
  | _, _, i + 1, d, .cons h t, e => by
    obtain ⟨x, h1, h2⟩ := ImAll.get' (i := i) (x := d) t (by simpa using e)
    exact ⟨x, by simpa using h1, h2⟩
theorem ImAll.take {H : Hp} : ∀ {xs : List V} {ds : List PyData} (n : Nat), ImAll H xs ds → ImAll H (xs.take n) (ds.take n)
  | _, _, 0, _ => .nil
  | _, _, n + 1, .nil => .nil
  | _, _, n + 1, .cons h t => .cons h (ImAll.take n t)
theorem ImAll.drop {H : Hp} : ∀ {xs : List V} {ds : List PyData} (n : Nat), ImAll H xs ds → ImAll H (xs.drop n) (ds.drop n)
  | _, _, 0, h => h
  | _, _, n + 1, .nil => .nil
  | _, _, n + 1, .cons h t => ImAll.drop n t
theorem ImAll.set {H : Hp} {x : V} {d : PyData} (h : Im H x d) : ∀ {xs : List V} {ds : List PyData} (n : Nat), ImAll H xs ds → ImAll H (xs.set n x) (ds.set n d)
  | _, _, _, .nil => .nil
  | _, _, 0, .cons _ t => .cons h t
  | _, _, n + 1, .cons g t => .cons g (ImAll.set h n t)
theorem ImAll.rep {H : Hp} {xs : List V} {ds : List PyData} (h : ImAll H xs ds) : ∀ n : Nat, ImAll H (List.replicate n xs).flatten (List.replicate n ds).flatten
  | 0 => .nil
  | n + 1 => by
    rw [List.replicate_succ, List.replicate_succ, List.flatten_cons, List.flatten_cons]
    exact h.append (ImAll.rep h n)
theorem im_ints {H : Hp} : ∀ ns : List Int, ImAll H (ns.map V.int) (ns.map PyData.int)
  | [] => .nil
  | n :: r => .cons (.int n) (im_ints r)
mutual
theorem eqv_refl : ∀ {n : Nat} {d : PyData}, lv n d → PyData.eqv d d = true
  | _, .none, _ => rfl
  | _, .bool b, _ => by simp [PyData.eqv]
  | _, .int i, _ => by simp [PyData.eqv]
  | _, .str z, _ => by simp [PyData.eqv]
  | 0, .list _, h => by simp [lv] at h
  | 0, .tuple _, h => by simp [lv] at h
  | n + 1, .list ds, h => by
    simp only [lv] at h
    simp only [PyData.eqv]
    exact eqvAll_refl h.2
  | n + 1, .tuple ds, h => by
    simp only [lv] at h
    simp only [PyData.eqv]
    exact eqvAll_refl h.2
  | 0, .dict _, h => by simp [lv] at h
  | _ + 1, .dict _, h => by simp [lv] at h
theorem eqvAll_refl : ∀ {n : Nat} {ds : List PyData}, (∀ d ∈ ds, lv n d) → PyData.eqvAll ds ds = true
  | _, [], _ => rfl
  | n, d :: r, h => by
    simp only [PyData.eqvAll, Bool.and_eq_true]
    exact ⟨eqv_refl (h d (by simp)), eqvAll_refl (n := n) fun x hx => h x (by simp [hx])⟩
end
theorem lv_mono : ∀ {n : Nat} {d : PyData}, lv n d → lv (n + 1) d
  | _, .none, _ => by simp [lv]
  | _, .bool b, _ => by simp [lv]
  | _, .int i, _ => by simp [lv]
  | _, .str z, h => by simpa [lv] using h
  | 0, .list _, h => by simp [lv] at h
  | 0, .tuple _, h => by simp [lv] at h
  | n + 1, .list ds, h => by
    simp only [lv] at h ⊢
    exact ⟨h.1, fun d hd => lv_mono (h.2 d hd)⟩
  | n + 1, .tuple ds, h => by
    simp only [lv] at h ⊢
    exact ⟨h.1, fun d hd => lv_mono (h.2 d hd)⟩
  | 0, .dict _, h => by simp [lv] at h
  | _ + 1, .dict _, h => by simp [lv] at h
end TL

namespace TL
open PySem PySem.Spec PyProof.Rows L2
/-- the dice: a list of whole numbers, two at least -/
def DiceAt (H : Hp) (d : Addr) : Prop := ∃ ns : List Int, H d = some (.lst (ns.map V.int)) ∧ 2 ≤ ns.length ∧ ns.length ≤ 65
theorem DiceAt.frm {S : List Addr} {H H' : Hp} {d : Addr} (h : DiceAt H d) (e : Frm S H H') (n : d ∉ S) : DiceAt H' d := by
  obtain ⟨ns, h1, h2⟩ := h
  exact ⟨ns, e _ _ h1 n, h2⟩
theorem DiceAt.upd_ne {H : Hp} {d l : Addr} {o : HO} (h : DiceAt H d) (n : d ≠ l) : DiceAt (upd H l o) d := by
  obtain ⟨ns, h1, h2⟩ := h
  exact ⟨ns, by rw [L2.upd_ne n]; exact h1, h2⟩
theorem DiceAt.same {H H' : Hp} {d : Addr} (h : DiceAt H d) (e : Same H H') : DiceAt H' d := by
  obtain ⟨ns, h1, h2⟩ := h
  exact ⟨ns, e _ _ h1, h2⟩
theorem DiceAt.new {H : Hp} {d l : Addr} {o : HO} (h : DiceAt H d) (n : H l = none) : DiceAt (upd H l o) d := h.same (Same.upd_new n)
theorem DiceAt.ne_new {H : Hp} {d l : Addr} (h : DiceAt H d) (n : H l = none) : l ≠ d := by
  obtain ⟨ns, h1, h2⟩ := h
  exact fun e => by rw [e, h1] at n; cases n
theorem DiceAt.ne_tup {H : Hp} {d t : Addr} {xs : List V} (h : DiceAt H d) (e : H t = some (.tup xs)) : t ≠ d := by
  obtain ⟨ns, h1, h2⟩ := h
  exact ne_of e h1 (by intro q; cases q)
/-! ### manners -/
def intOf : PyData → Int
  | .int i => i
  | _ => 0
/-- a number within bounds -/
def between : PyData → Int → Int → Bool
  | .int i, lo, hi => decide (lo ≤ i) && decide (i ≤ hi)
  | _, _, _ => false
def isMan : PyData → Bool
  | .tuple ds => ds.all (fun e => between e 0 9) && (decide ((ds.map intOf).Pairwise (· < ·)) && decide (0 ∈ ds.map intOf))
  | _ => false
/-- what may be handed in in the place of manners -/
def mdat : PyData → Prop
  | .list _ => False
  | .dict _ => False
  | .str x => (PyData.str x).canLay0 = true
  | .tuple ds => ds.length ≤ 60 ∧ ∀ e ∈ ds, (∀ l, e ≠ .list l) ∧ lv 1 e
  | _ => True
theorem mdat.nolist {d : PyData} (h : mdat d) : ∀ ds, d ≠ .list ds := fun ds e => by subst e; exact h
theorem ints_of_between : ∀ {ds : List PyData}, ds.all (fun e => between e 0 9) = true → ds = (ds.map intOf).map .int
  | [], _ => rfl
  | d :: r, h => by
    rw [List.all_cons, Bool.and_eq_true] at h
    rw [List.map_cons, List.map_cons, ← ints_of_between h.2]
    cases d with
    | int i => rfl
    | _ => exact absurd h.1 (by simp [between])
theorem between_of {ds : List PyData} (h : ds.all (fun e => between e 0 9) = true) : ∀ i ∈ ds.map intOf, 0 ≤ i ∧ i ≤ 9 := fun i hi => by
  obtain ⟨d, hd, rfl⟩ := List.mem_map.mp hi
  have q := List.all_eq_true.mp h d hd
  cases d with
  | int j => simpa [between, intOf] using q
  | _ => exact absurd q (by simp [between])
/-- manners as numbers -/
def Can (ms : List Int) : Prop := (∀ i ∈ ms, 0 ≤ i ∧ i ≤ 9) ∧ ms.Pairwise (· < ·) ∧ 0 ∈ ms ∧ ms.length ≤ 60
theorem isMan_ints {ms : List Int} (h : Can ms) : isMan (.tuple (ms.map .int)) = true := by
  have e : (ms.map PyData.int).map intOf = ms := by
    rw [List.map_map]
    have : (intOf ∘ PyData.int) = id := rfl
    rw [this, List.map_id]
  simp only [isMan]
  rw [e, decide_eq_true h.2.1, decide_eq_true h.2.2.1]
  simp only [Bool.and_true, List.all_map, List.all_eq_true]
  intro i hi
  have := h.1 i hi
  simp [between, this]
theorem mdat_ints {ms : List Int} (h : ms.length ≤ 60) : mdat (.tuple (ms.map .int)) := by
  refine ⟨by rw [List.length_map]; exact h, fun e he => ?_⟩
  obtain ⟨i, _, rfl⟩ := List.mem_map.mp he
  exact ⟨fun l z => PyData.noConfusion z, trivial⟩
theorem sorted_ext : ∀ {a b : List Int}, a.Pairwise (· < ·) → b.Pairwise (· < ·) → (∀ k, k ∈ a ↔ k ∈ b) → a = b
  | [], [], _, _, _ => rfl
  | [], y :: s, _, _, h => absurd ((h y).mpr (by simp)) (by simp)
  | x :: r, [], _, _, h => absurd ((h x).mp (by simp)) (by simp)
  | x :: r, y :: s, ha, hb, h => by
    rw [List.pairwise_cons] at ha hb
    have hxy : x = y := by
      rcases List.mem_cons.mp ((h x).mp (by simp)) with e | e
      · exact e
      · rcases List.mem_cons.mp ((h y).mpr (by simp)) with e' | e'
        · exact e'.symm
        · have := ha.1 y e'
          have := hb.1 x e
          omega
    subst hxy
    rw [sorted_ext ha.2 hb.2 fun k => ?_]
    constructor
    · intro hk
      rcases List.mem_cons.mp ((h k).mp (by simp [hk])) with e | e
      · have := ha.1 k hk
        omega
      · exact e
    · intro hk
      rcases List.mem_cons.mp ((h k).mpr (by simp [hk])) with e | e
      · have := hb.1 k hk
        omega
      · exact e
/-- the greatest that both can and that isn't bad -/
def chosenF (one other bad : List Int) : Int := (one.filter fun m => decide (m ∈ other) && !decide (m ∈ bad)).foldl max 0
def IsChosen (one other bad : List Int) (m : Int) : Prop := (m = 0 ∨ (m ∈ one ∧ m ∈ other ∧ m ∉ bad)) ∧ 0 ≤ m ∧ ∀ y ∈ one, y ∈ other → y ∉ bad → y ≤ m
theorem foldl_max : ∀ (l : List Int) (a : Int), a ≤ l.foldl max a ∧ (∀ y ∈ l, y ≤ l.foldl max a) ∧ (l.foldl max a = a ∨ l.foldl max a ∈ l)
  | [], a => ⟨Int.le_refl _, by simp, .inl rfl⟩
  | x :: r, a => by
    obtain ⟨h1, h2, h3⟩ := foldl_max r (max a x)
    rw [List.foldl_cons]
    refine ⟨by omega, fun y hy => ?_, ?_⟩
    · rcases List.mem_cons.mp hy with rfl | hy
      · omega
      · exact h2 y hy
    · rcases h3 with h3 | h3
      · rw [h3]
        by_cases hax : a ≤ x
        · right
          rw [Int.max_eq_right hax]
          simp
        · left
          exact Int.max_eq_left (by omega)
      · right
        exact List.mem_cons_of_mem _ h3
theorem isChosen_F (one other bad : List Int) : IsChosen one other bad (chosenF one other bad) := by
  obtain ⟨h1, h2, h3⟩ := foldl_max (one.filter fun m => decide (m ∈ other) && !decide (m ∈ bad)) 0
  refine ⟨?_, h1, fun y h4 h5 h6 => h2 y ?_⟩
  · rcases h3 with h3 | h3
    · exact .inl h3
    · right
      have := List.mem_filter.mp h3
      simp only [Bool.and_eq_true, decide_eq_true_eq, Bool.not_eq_true', decide_eq_false_iff_not] at this
      exact this
  · rw [List.mem_filter]
    simp [h4, h5, h6]
theorem IsChosen.unique {one other bad : List Int} {m k : Int} (a : IsChosen one other bad m) (b : IsChosen one other bad k) : m = k := by
  have h1 : m ≤ k := by
    rcases a.1 with e | ⟨e1, e2, e3⟩
    · rw [e]; exact b.2.1
    · exact b.2.2 m e1 e2 e3
  have h2 : k ≤ m := by
    rcases b.1 with e | ⟨e1, e2, e3⟩
    · rw [e]; exact a.2.1
    · exact a.2.2 k e1 e2 e3
  omega
theorem IsChosen.eq {one other bad : List Int} {m : Int} (a : IsChosen one other bad m) : m = chosenF one other bad := a.unique (isChosen_F _ _ _)
theorem IsChosen.symm {one other bad : List Int} {m : Int} (a : IsChosen one other bad m) : IsChosen other one bad m :=
  ⟨a.1.imp id fun h => ⟨h.2.1, h.1, h.2.2⟩, a.2.1, fun y h1 h2 h3 => a.2.2 y h2 h1 h3⟩
theorem IsChosen.congr {one other bad bad' : List Int} {m : Int} (a : IsChosen one other bad m) (h : ∀ x, x ∈ bad ↔ x ∈ bad') : IsChosen one other bad' m :=
  ⟨a.1.imp id fun z => ⟨z.1, z.2.1, fun q => z.2.2 ((h _).mpr q)⟩, a.2.1, fun y h1 h2 h3 => a.2.2 y h1 h2 fun q => h3 ((h _).mp q)⟩
theorem man_tuple {d : PyData} (h : isMan d = true) : ∃ ns : List Int, d = .tuple (ns.map .int) ∧ (∀ i ∈ ns, 0 ≤ i ∧ i ≤ 9) := by
  cases d with
  | tuple ds =>
    simp only [isMan, Bool.and_eq_true] at h
    exact ⟨ds.map intOf, by rw [← ints_of_between h.1], between_of h.1⟩
  | _ => exact absurd h (by simp [isMan])
end TL

namespace TL
open PySem PySem.Spec PyProof.Rows L2
/-! ### rows of a log -/
abbrev Row := Int × Bool × Int × Bool
def rowV (r : Row) : List V := [.int r.1, .bl r.2.1, .int r.2.2.1, .bl r.2.2.2]
def rowD (r : Row) : PyData := .tuple [.int r.1, .bool r.2.1, .int r.2.2.1, .bool r.2.2.2]
def okRow (r : Row) : Prop := (0 ≤ r.1 ∧ r.1 ≤ 9) ∧ 0 ≤ r.2.2.1 ∧ r.2.2.1 ≤ 9
theorem im_row {H : Hp} {t : Addr} {r : Row} (h : H t = some (.tup (rowV r))) : Im H (.ref t) (rowD r) :=
  .tup h (.cons (.int _) (.cons (.bl _) (.cons (.int _) (.cons (.bl _) .nil))))
theorem im_row_inv {H : Hp} {x : V} {r : Row} (h : Im H x (rowD r)) : ∃ t, x = .ref t ∧ H t = some (.tup (rowV r)) := by
  obtain ⟨a, b, c, d⟩ := r
  generalize e : rowD (a, b, c, d) = dd at h
  cases h with
  | tup ht ha =>
    rename_i t xs ds
    injection e with e
    subst e
    cases ha with
    | cons h1 ha => cases h1; cases ha with
      | cons h1 ha => cases h1; cases ha with
        | cons h1 ha => cases h1; cases ha with
          | cons h1 ha => cases h1; cases ha; exact ⟨t, rfl, ht⟩
  | _ => exact PyData.noConfusion e
theorem rows_get {H : Hp} {xs : List V} {rs : List Row} {i : Nat} {r : Row} (h : ImAll H xs (rs.map rowD)) (e : rs[i]? = some r) : ∃ t, xs[i]? = some (.ref t) ∧ H t = some (.tup (rowV r)) := by
  obtain ⟨x, h1, h2⟩ := h.get (i := i) (d := rowD r) (by rw [List.getElem?_map, e]; rfl)
  obtain ⟨t, rfl, h3⟩ := im_row_inv h2
  exact ⟨t, h1, h3⟩
theorem rows_get' {H : Hp} {xs : List V} {rs : List Row} {i : Nat} {x : V} (h : ImAll H xs (rs.map rowD)) (e : xs[i]? = some x) : ∃ t r, rs[i]? = some r ∧ x = .ref t ∧ H t = some (.tup (rowV r)) := by
  obtain ⟨d, h1, h2⟩ := h.get' e
  rw [List.getElem?_map] at h1
  cases q : rs[i]? with
  | none => rw [q] at h1; cases h1
  | some r =>
    rw [q] at h1
    have h1' : rowD r = d := Option.some.inj h1
    subst h1'
    obtain ⟨t, h3, h4⟩ := im_row_inv h2
    exact ⟨t, r, rfl, h3, h4⟩
theorem rows_len {H : Hp} {xs : List V} {rs : List Row} (h : ImAll H xs (rs.map rowD)) : xs.length = rs.length := by
  rw [h.length, List.length_map]
theorem lv_row (r : Row) : lv 1 (rowD r) := by
  refine ⟨by show 4 ≤ 100000; decide, fun d hd => ?_⟩
  simp at hd
  rcases hd with rfl | rfl | rfl | rfl <;> exact trivial
theorem lv_rows {rs : List Row} (h : rs.length ≤ 100000) : lv 2 (.list (rs.map rowD)) := by
  refine ⟨by rw [List.length_map]; exact h, fun d hd => ?_⟩
  obtain ⟨r, _, rfl⟩ := List.mem_map.mp hd
  exact lv_row r
theorem eqv_rows_nil (rs : List Row) : PyData.eqv (.list (rs.map rowD)) (.list []) = decide (rs = []) := by
  cases rs with
  | nil => rfl
  | cons a r => rfl
/-! ### what is a row -/
def isB : PyData → Bool
  | .bool _ => true
  | _ => false
def isRowD : PyData → Bool
  | .tuple [a, b, c, d] => between a 0 9 && (between c 0 9 && (isB b && isB d))
  | _ => false
theorem isRow_row {r : Row} (h : okRow r) : isRowD (rowD r) = true := by
  obtain ⟨⟨h1, h2⟩, h3, h4⟩ := h
  simp [isRowD, rowD, between, isB, h1, h2, h3, h4]
/-- what may be handed in as a row -/
def rdat : PyData → Prop
  | .list _ => False
  | .dict _ => False
  | .tuple ds => ∀ e ∈ ds, ∀ l, e ≠ .list l
  | _ => True
theorem rdat_row (r : Row) : rdat (rowD r) := by
  intro e he l
  simp at he
  rcases he with rfl | rfl | rfl | rfl <;> exact fun z => PyData.noConfusion z
theorem rdat.nolist {d : PyData} (h : rdat d) : ∀ ds, d ≠ .list ds := fun ds e => by subst e; exact h
/-! ### stretches -/
/-- the manner by which both were joined -/
def mark (r : Row) : Option Int := if r.2.1 = true ∧ r.2.2.2 = true ∧ r.1 = r.2.2.1 then some r.1 else none
abbrev Str3 := Int × Int × Int
def strV (s : Str3) : List V := [.int s.1, .int s.2.1, .int s.2.2]
def strD (s : Str3) : PyData := .tuple [.int s.1, .int s.2.1, .int s.2.2]
theorem im_str {H : Hp} {t : Addr} {s : Str3} (h : H t = some (.tup (strV s))) : Im H (.ref t) (strD s) := .tup h (.cons (.int _) (.cons (.int _) (.cons (.int _) .nil)))
theorem im_str_inv {H : Hp} {x : V} {s : Str3} (h : Im H x (strD s)) : ∃ t, x = .ref t ∧ H t = some (.tup (strV s)) := by
  obtain ⟨a, b, c⟩ := s
  generalize e : strD (a, b, c) = dd at h
  cases h with
  | tup ht ha =>
    rename_i t xs ds
    injection e with e
    subst e
    cases ha with
    | cons h1 ha => cases h1; cases ha with
      | cons h1 ha => cases h1; cases ha with
        | cons h1 ha => cases h1; cases ha; exact ⟨t, rfl, ht⟩
  | _ => exact PyData.noConfusion e
/-- one row more: the last stretch grows, or a new one begins -/
def stStep (acc : List Str3) (i : Nat) (m : Option Int) : List Str3 :=
  match m with
  | none => acc
  | some m => match acc.getLast? with
    | some (k, s, e) => if k = m ∧ e = (i : Int) then acc.dropLast ++ [(m, s, (i : Int) + 1)] else acc ++ [(m, (i : Int), (i : Int) + 1)]
    | none => acc ++ [(m, (i : Int), (i : Int) + 1)]
/-- the stretches of the first i rows -/
def stTo (ms : List (Option Int)) : Nat → List Str3
  | 0 => []
  | i + 1 => stStep (stTo ms i) i (ms.getD i none)
theorem stTo_len (ms : List (Option Int)) : ∀ i, (stTo ms i).length ≤ i
  | 0 => Nat.le_refl _
  | i + 1 => by
    have ih := stTo_len ms i
    unfold stTo stStep
    cases ms.getD i none with
    | none => exact Nat.le_succ_of_le ih
    | some m =>
      cases h : (stTo ms i).getLast? with
      | none => simp; omega
      | some k =>
        obtain ⟨k, s, e⟩ := k
        simp only
        split
        · simp; omega
        · simp; omega
/-- no stretch ends behind what was gone through -/
theorem stTo_end (ms : List (Option Int)) : ∀ i (x : Str3), (stTo ms i).getLast? = some x → x.2.2 ≤ i
  | 0, x, h => by simp [stTo] at h
  | i + 1, x, h => by
    have ih := stTo_end ms i
    unfold stTo stStep at h
    cases hm : ms.getD i none with
    | none =>
      rw [hm] at h
      have := ih x h
      omega
    | some m =>
      rw [hm] at h
      cases hl : (stTo ms i).getLast? with
      | none =>
        rw [hl] at h
        simp at h
        subst h
        simp
      | some k =>
        obtain ⟨k, s, e⟩ := k
        rw [hl] at h
        simp only at h
        split at h
        · simp at h
          subst h
          simp
        · simp at h
          subst h
          simp
/-- at i a new stretch begins, if one does -/
def Fresh (ms : List (Option Int)) (i : Nat) : Prop := ∀ k s e, (stTo ms i).getLast? = some (k, s, e) → e = (i : Int) → ms.getD i none ≠ some k
theorem stTo_none {ms : List (Option Int)} {i : Nat} (h : ms.getD i none = none) : stTo ms (i + 1) = stTo ms i := by
  show stStep _ _ _ = _
  rw [h]
  rfl
theorem stTo_first {ms : List (Option Int)} {i : Nat} {m : Int} (h : ms.getD i none = some m) (f : Fresh ms i) : stTo ms (i + 1) = stTo ms i ++ [(m, (i : Int), (i : Int) + 1)] := by
  show stStep _ _ _ = _
  rw [h]
  unfold stStep
  cases hl : (stTo ms i).getLast? with
  | none => rfl
  | some k =>
    obtain ⟨k, s, e⟩ := k
    simp only
    rw [if_neg]
    rintro ⟨rfl, h2⟩
    exact f _ _ _ hl h2 h
theorem stTo_more {ms : List (Option Int)} {a j : Nat} {m : Int} (h : ms.getD j none = some m) (e : stTo ms j = stTo ms a ++ [(m, (a : Int), (j : Int))]) : stTo ms (j + 1) = stTo ms a ++ [(m, (a : Int), (j : Int) + 1)] := by
  show stStep _ _ _ = _
  rw [h, e]
  unfold stStep
  simp
def markV : Option Int → V
  | none => .non
  | some m => .int m
theorem lv_strs (l : List Str3) (h : l.length ≤ 100000) : lv 3 (.list (l.map strD)) := by
  refine lv_mono ⟨by rw [List.length_map]; exact h, fun d hd => ?_⟩
  obtain ⟨s, _, rfl⟩ := List.mem_map.mp hd
  refine ⟨by show 3 ≤ 100000; decide, fun d hd => ?_⟩
  simp at hd
  rcases hd with rfl | rfl | rfl <;> exact trivial
/-- what stands within a turn: the dice, the rows at p -/
structure Got (H : Hp) (d p : Addr) (xs : List V) (rs : List Row) : Prop where
  D : DiceAt H d
  L : H p = some (.lst xs)
  A : ImAll H xs (rs.map rowD)
  ok : ∀ r ∈ rs, okRow r
  len : rs.length ≤ 300
  np : p ≠ d
theorem Got.same {H H' : Hp} {d p : Addr} {xs : List V} {rs : List Row} (g : Got H d p xs rs) (e : Same H H') : Got H' d p xs rs := ⟨g.D.same e, e _ _ g.L, g.A.same e, g.ok, g.len, g.np⟩
/-- another list is written -/
theorem Got.updL {H : Hp} {d p : Addr} {xs : List V} {rs : List Row} (g : Got H d p xs rs) {l : Addr} {ys : List V} {o : HO} (h : H l = some (.lst ys)) (n1 : l ≠ d) (n2 : l ≠ p) : Got (upd H l o) d p xs rs :=
  ⟨g.D.upd_ne (Ne.symm n1), by rw [upd_ne (Ne.symm n2)]; exact g.L, g.A.updL h, g.ok, g.len, g.np⟩
/-- whether a row can be -/
def unl (ca cb : List Int) (m : Int) : Bool := !decide (m ∈ ca) || !decide (m ∈ cb)
def goodRow (ca cb : List Int) (r : Row) : Bool := !(unl ca cb r.1) && (!(unl ca cb r.2.2.1) && !((r.2.1 || r.2.2.2) && !decide (r.1 = r.2.2.1)))
end TL

namespace TL
open PySem PySem.Spec PyProof.Rows L2
/-! ### marks: the mirror -/
structure MkS where
  wait : Int → Option Int
  untl : Int → Option Int
  run : Int → Option Int
  tries : Int → Option (List Bool)
def MkS.new : MkS := ⟨fun _ => none, fun _ => none, fun _ => none, fun _ => none⟩
def setA {α : Type} (f : Int → Option α) (i : Int) (v : α) : Int → Option α := fun j => if j = i then some v else f j
def last6 {α : Type} (l : List α) : List α := l.drop (l.length - 6)
/-- what a note leaves: the tries and runs; the wait -/
def triesOf (s : MkS) (m : Int) (p : Bool) : List Bool := last6 ((s.tries m).getD [] ++ [p])
def runOf (s : MkS) (m : Int) (p : Bool) : Int := if p = true then (s.run m).getD 0 + 1 else 0
def waitsOf (s : MkS) (m : Int) (p : Bool) : Int → Option Int := if runOf s m p = 32 then setA s.wait m 16 else s.wait
def isMarked (s : MkS) (m : Int) (p : Bool) : Bool := !decide (((triesOf s m p).count false : Int) < 3)
def noteF (s : MkS) (m : Int) (p : Bool) (f : Int) : MkS :=
  if isMarked s m p = true then
    { wait := setA (waitsOf s m p) m (min 256 (2 * ((waitsOf s m p) m).getD 16)), untl := setA s.untl m (max ((s.untl m).getD 0) (f + ((waitsOf s m p) m).getD 16)), run := setA s.run m (runOf s m p), tries := setA s.tries m [] }
  else { s with wait := waitsOf s m p, run := setA s.run m (runOf s m p), tries := setA s.tries m (triesOf s m p) }
def nine : List Int := [1, 2, 3, 4, 5, 6, 7, 8, 9]
def badF (s : MkS) (f : Int) : List Int := nine.filter fun i => match s.untl i with | some u => decide (f ≤ u) | none => false
/-! ### a dict whose keys are manners -/
def DictM (H : Hp) (a : Addr) (f : Int → Option V) : Prop :=
  ∃ kvs : List (Key × V), H a = some (.dK kvs) ∧ (kvs.map (·.1)).Nodup ∧ (∀ kv ∈ kvs, ∃ i : Int, kv.1 = .inl i ∧ 1 ≤ i ∧ i ≤ 9) ∧ ∀ i : Int, valV kvs (.inl i) = f i
theorem DictM.new {H : Hp} {a : Addr} (h : H a = some (.dK [])) : DictM H a fun _ => none := ⟨[], h, List.nodup_nil, by simp, fun _ => rfl⟩
theorem DictM.frm {S : List Addr} {H H' : Hp} {a : Addr} {f : Int → Option V} (h : DictM H a f) (e : Frm S H H') (n : a ∉ S) : DictM H' a f := by
  obtain ⟨kvs, h1, h2⟩ := h
  exact ⟨kvs, e _ _ h1 n, h2⟩
theorem pig : ∀ (n : Nat) (l : List Int), l.Nodup → (∀ x ∈ l, 1 ≤ x ∧ x ≤ n) → l.length ≤ n
  | 0, l, _, h => by
    match l with
    | [] => simp
    | x :: r => have := h x (by simp); omega
  | n + 1, l, nd, h => by
    by_cases hm : ((n + 1 : Nat) : Int) ∈ l
    · have h1 := pig n (l.erase ((n + 1 : Nat) : Int)) (nd.erase _) fun x hx => by
        have hx' := (nd.mem_erase_iff).mp hx
        have := h x hx'.2
        have := hx'.1
        omega
      rw [List.length_erase_of_mem hm] at h1
      omega
    · have h1 := pig n l nd fun x hx => by
        have := h x hx
        have hne : x ≠ ((n + 1 : Nat) : Int) := fun e => hm (by rw [← e]; exact hx)
        omega
      omega
theorem keys_int {kvs : List (Key × V)} (h : ∀ kv ∈ kvs, ∃ i : Int, kv.1 = .inl i ∧ 1 ≤ i ∧ i ≤ 9) : ∃ ks : List Int, kvs.map (·.1) = ks.map Sum.inl ∧ ∀ k ∈ ks, 1 ≤ k ∧ k ≤ 9 := by
  induction kvs with
  | nil => exact ⟨[], rfl, by simp⟩
  | cons a r ih =>
    obtain ⟨ks, e, hk⟩ := ih fun kv hkv => h kv (by simp [hkv])
    obtain ⟨i, hi, h1, h9⟩ := h a (by simp)
    refine ⟨i :: ks, by simp [hi, e], fun k hk' => ?_⟩
    rcases List.mem_cons.mp hk' with rfl | hk'
    · exact ⟨h1, h9⟩
    · exact hk k hk'
theorem nodup_inl {ks : List Int} (h : (ks.map (Sum.inl : Int → Key)).Nodup) : ks.Nodup := by
  rw [List.nodup_iff_pairwise_ne, List.pairwise_map] at h
  rw [List.nodup_iff_pairwise_ne]
  exact h.imp fun hne e => hne (by rw [e])
theorem dict_len {kvs : List (Key × V)} (nd : (kvs.map (·.1)).Nodup) (h : ∀ kv ∈ kvs, ∃ i : Int, kv.1 = .inl i ∧ 1 ≤ i ∧ i ≤ 9) : kvs.length ≤ 9 := by
  obtain ⟨ks, e, hk⟩ := keys_int h
  rw [e] at nd
  have := pig 9 ks (nodup_inl nd) hk
  have hl : kvs.length = ks.length := by
    have := congrArg List.length e
    simpa using this
  omega
theorem mem_key {kvs : List (Key × V)} {k : Key} : (valV kvs k).isSome = true ↔ k ∈ kvs.map (·.1) := by
  rw [← valV_any, List.any_eq_true, List.mem_map]
  constructor
  · rintro ⟨p, hp, h⟩
    exact ⟨p, hp, by simpa using h⟩
  · rintro ⟨p, hp, h⟩
    exact ⟨p, hp, by simpa using h⟩
theorem putK_keys {kvs : List (Key × V)} {k : Key} {v : V} : ((putK kvs k v).map (·.1)) = if (valV kvs k).isSome = true then kvs.map (·.1) else kvs.map (·.1) ++ [k] := by
  unfold putK
  rw [valV_any]
  by_cases h : (valV kvs k).isSome = true
  · rw [if_pos h, if_pos h, List.map_map]
    apply List.map_congr_left
    intro p _
    simp only [Function.comp]
    split
    · rfl
    · rfl
  · rw [if_neg h, if_neg h, List.map_append]
    rfl
/-- d[i] = v -/
theorem DictM.put {H : Hp} {a : Addr} {f : Int → Option V} (h : DictM H a f) {i : Int} (h1 : 1 ≤ i) (h9 : i ≤ 9) (v : V) : ∃ H', DPut H a (.int i) v H' ∧ DictM H' a (setA f i v) ∧ Frm [a] H H' := by
  obtain ⟨kvs, e, nd, hk, hv⟩ := h
  have hl := dict_len nd hk
  refine ⟨_, DPut.k (k := Sum.inl i) e (small1000 (by omega)), ⟨_, upd_same, ?_, ?_, fun j => ?_⟩, Frm.updK e⟩
  · rw [putK_keys]
    split
    · exact nd
    · rename_i hn
      rw [List.nodup_append]
      exact ⟨nd, by simp, fun x hx y hy => by simp at hy; subst hy; rintro rfl; exact hn (mem_key.mpr hx)⟩
  · intro kv hkv
    have hm : kv.1 ∈ (putK kvs (Sum.inl i : Key) v).map (·.1) := List.mem_map_of_mem hkv
    rw [putK_keys] at hm
    have hin : kv.1 ∈ kvs.map (·.1) ∨ kv.1 = Sum.inl i := by
      split at hm
      · exact .inl hm
      · rcases List.mem_append.mp hm with q | q
        · exact .inl q
        · exact .inr (by simpa using q)
    rcases hin with q | q
    · obtain ⟨p, hp, hpe⟩ := List.mem_map.mp q
      rw [← hpe]
      exact hk p hp
    · exact ⟨i, q, h1, h9⟩
  · rw [valV_put, hv]
    unfold setA
    by_cases q : j = i
    · subst q; simp
    · rw [if_neg (fun z => q (Sum.inl.inj z)), if_neg q]
theorem DictM.get {H : Hp} {a : Addr} {f : Int → Option V} (h : DictM H a f) (i : Int) : DGet H a (.int i) (f i) := by
  obtain ⟨kvs, e, nd, hk, hv⟩ := h
  rw [← hv i]
  exact DGet.k (k := Sum.inl i) e
theorem DictM.isD {H : Hp} {a : Addr} {f : Int → Option V} (h : DictM H a f) : IsD H a := by
  obtain ⟨kvs, e, _⟩ := h
  exact .inl ⟨kvs, Rd.of e⟩
theorem DictM.at_ {H : Hp} {a : Addr} {f : Int → Option V} (h : DictM H a f) : ∃ o, H a = some o := by
  obtain ⟨kvs, e, _⟩ := h
  exact ⟨_, e⟩
/-! ### marks in the heap -/
structure MAd where
  m : Addr
  w : Addr
  u : Addr
  r : Addr
  t : Addr
def MAd.all (a : MAd) : List Addr := [a.w, a.u, a.r, a.t]
abbrev mkN : List Str := ["waits", "until", "runs", "tries"]
theorem mkN_nd : mkN.Nodup := by decide +kernel
def mkV (a : MAd) : List V := [.ref a.w, .ref a.u, .ref a.r, .ref a.t]
/-- C: the class; Z: what may be written, of all that stands -/
structure MarksAt (C : Addr) (Z : List Addr) (H : Hp) (a : MAd) (s : MkS) : Prop where
  ob : ∃ dx, H a.m = some (.ins C dx (mkN.zip (mkV a)))
  w : DictM H a.w fun i => (s.wait i).map V.int
  u : DictM H a.u fun i => (s.untl i).map V.int
  r : DictM H a.r fun i => (s.run i).map V.int
  t : ∃ ta : Int → Option Addr, DictM H a.t (fun i => (ta i).map V.ref) ∧ ∀ i, (ta i = none ∧ s.tries i = none) ∨ ∃ l bs, ta i = some l ∧ s.tries i = some bs ∧ H l = some (.lst (bs.map V.bl)) ∧ l ∉ Z ∧ bs.length ≤ 6
  nd : a.w ≠ a.u ∧ a.w ≠ a.r ∧ a.w ≠ a.t ∧ a.u ≠ a.r ∧ a.u ≠ a.t ∧ a.r ≠ a.t
theorem MarksAt.frm {C : Addr} {Z S : List Addr} {H H' : Hp} {a : MAd} {s : MkS} (h : MarksAt C Z H a s) (e : Frm S H H') (hS : ∀ x ∈ S, x ∈ Z) (hm : a.m ∉ S) (hd : ∀ x ∈ a.all, x ∉ S) : MarksAt C Z H' a s := by
  obtain ⟨⟨dx, h0⟩, hw, hu, hr, ⟨ta, ht, hl⟩, nd⟩ := h
  refine ⟨⟨dx, e _ _ h0 hm⟩, hw.frm e (hd _ (by simp [MAd.all])), hu.frm e (hd _ (by simp [MAd.all])), hr.frm e (hd _ (by simp [MAd.all])), ⟨ta, ht.frm e (hd _ (by simp [MAd.all])), fun i => ?_⟩, nd⟩
  rcases hl i with q | ⟨l, bs, h1, h2, h3, h4⟩
  · exact .inl q
  · exact .inr ⟨l, bs, h1, h2, e _ _ h3 fun z => h4.1 (hS _ z), h4⟩
theorem MarksAt.same {C : Addr} {Z : List Addr} {H H' : Hp} {a : MAd} {s : MkS} (h : MarksAt C Z H a s) (e : Same H H') : MarksAt C Z H' a s := h.frm (S := []) (.of_same e) (by simp) (by simp) (by simp)
/-- something new may be written, too -/
theorem MarksAt.more {C : Addr} {Z Z' : List Addr} {H : Hp} {a : MAd} {s : MkS} (h : MarksAt C Z H a s) (hz : ∀ x ∈ Z', x ∈ Z ∨ ∀ bs, H x ≠ some (.lst bs)) : MarksAt C Z' H a s := by
  obtain ⟨h0, hw, hu, hr, ⟨ta, ht, hl⟩, nd⟩ := h
  refine ⟨h0, hw, hu, hr, ⟨ta, ht, fun i => ?_⟩, nd⟩
  rcases hl i with q | ⟨l, bs, h1, h2, h3, h4⟩
  · exact .inl q
  · exact .inr ⟨l, bs, h1, h2, h3, fun z => (hz l z).elim h4.1 fun q => q _ h3, h4.2⟩
theorem MarksAt.out {C : Addr} {Z : List Addr} {H : Hp} {a : MAd} {s : MkS} (h : MarksAt C Z H a s) : ∀ x ∈ a.all, x ≠ a.m ∧ ∃ o, H x = some o := by
  obtain ⟨⟨dx, h0⟩, ⟨_, hw, _⟩, ⟨_, hu, _⟩, ⟨_, hr, _⟩, ⟨ta, ⟨_, ht, _⟩, hl⟩, nd⟩ := h
  intro x hx
  simp [MAd.all] at hx
  rcases hx with rfl | rfl | rfl | rfl
  · exact ⟨ne_of hw h0 (by intro z; cases z), _, hw⟩
  · exact ⟨ne_of hu h0 (by intro z; cases z), _, hu⟩
  · exact ⟨ne_of hr h0 (by intro z; cases z), _, hr⟩
  · exact ⟨ne_of ht h0 (by intro z; cases z), _, ht⟩
theorem MAd.mem (a : MAd) : a.w ∈ a.all ∧ a.u ∈ a.all ∧ a.r ∈ a.all ∧ a.t ∈ a.all := by simp [MAd.all]
/-- one of the dicts is written -/
theorem MarksAt.lists {C : Addr} {Z : List Addr} {H H' : Hp} {a : MAd} {ta : Int → Option Addr} {tr : Int → Option (List Bool)} {d : Addr} (hl : ∀ i, (ta i = none ∧ tr i = none) ∨ ∃ l bs, ta i = some l ∧ tr i = some bs ∧ H l = some (.lst (bs.map V.bl)) ∧ l ∉ Z ∧ bs.length ≤ 6)
    (e : Frm [d] H H') {f : Int → Option V} (hd : DictM H d f) : ∀ i, (ta i = none ∧ tr i = none) ∨ ∃ l bs, ta i = some l ∧ tr i = some bs ∧ H' l = some (.lst (bs.map V.bl)) ∧ l ∉ Z ∧ bs.length ≤ 6 := fun i => by
  rcases hl i with q | ⟨l, bs, h1, h2, h3, h4⟩
  · exact .inl q
  · obtain ⟨kvs, h5, _⟩ := hd
    exact .inr ⟨l, bs, h1, h2, e _ _ h3 (by simp only [List.mem_singleton]; exact ne_of h3 h5 (by intro z; cases z)), h4⟩
theorem setA_map (f : Int → Option Int) (i v : Int) : (fun j => (setA f i v j).map V.int) = setA (fun j => (f j).map V.int) i (.int v) := by
  funext j
  unfold setA
  split <;> rfl
theorem MarksAt.obk {C : Addr} {Z : List Addr} {H H' : Hp} {a : MAd} {s : MkS} (h : MarksAt C Z H a s) {d : Addr} (hd : d ∈ a.all) (e : Frm [d] H H') : ∃ dx, H' a.m = some (.ins C dx (mkN.zip (mkV a))) := by
  have ho := (h.out d hd).1
  obtain ⟨⟨dx, h0⟩, _⟩ := h
  exact ⟨dx, e _ _ h0 (by simp only [List.mem_singleton]; exact Ne.symm ho)⟩
theorem Frm.sub {S : List Addr} {H H' : Hp} {d : Addr} (e : Frm [d] H H') (h : d ∈ S) : Frm S H H' := e.mono fun x hx => by simp at hx; subst hx; exact h
theorem MarksAt.put_w {C : Addr} {Z : List Addr} {H : Hp} {a : MAd} {s : MkS} (h : MarksAt C Z H a s) {i : Int} (h1 : 1 ≤ i) (h9 : i ≤ 9) (v : Int) : ∃ H', DPut H a.w (.int i) (.int v) H' ∧ MarksAt C Z H' a { s with wait := setA s.wait i v } ∧ Frm a.all H H' := by
  obtain ⟨H', h2, h3, h4⟩ := h.w.put h1 h9 (.int v)
  have ob := h.obk a.mem.1 h4
  obtain ⟨n1, n2, n3, n4, n5, n6⟩ := h.nd
  obtain ⟨ta, ht, hl⟩ := h.t
  refine ⟨H', h2, ⟨ob, by rw [setA_map]; exact h3, h.u.frm h4 (by simp [Ne.symm n1]), h.r.frm h4 (by simp [Ne.symm n2]), ⟨ta, ht.frm h4 (by simp [Ne.symm n3]), MarksAt.lists (C := C) (a := a) hl h4 h.w⟩, h.nd⟩, h4.sub a.mem.1⟩
theorem MarksAt.put_u {C : Addr} {Z : List Addr} {H : Hp} {a : MAd} {s : MkS} (h : MarksAt C Z H a s) {i : Int} (h1 : 1 ≤ i) (h9 : i ≤ 9) (v : Int) : ∃ H', DPut H a.u (.int i) (.int v) H' ∧ MarksAt C Z H' a { s with untl := setA s.untl i v } ∧ Frm a.all H H' := by
  obtain ⟨H', h2, h3, h4⟩ := h.u.put h1 h9 (.int v)
  have ob := h.obk a.mem.2.1 h4
  obtain ⟨n1, n2, n3, n4, n5, n6⟩ := h.nd
  obtain ⟨ta, ht, hl⟩ := h.t
  refine ⟨H', h2, ⟨ob, h.w.frm h4 (by simp [n1]), by rw [setA_map]; exact h3, h.r.frm h4 (by simp [Ne.symm n4]), ⟨ta, ht.frm h4 (by simp [Ne.symm n5]), MarksAt.lists (C := C) (a := a) hl h4 h.u⟩, h.nd⟩, h4.sub a.mem.2.1⟩
theorem MarksAt.put_r {C : Addr} {Z : List Addr} {H : Hp} {a : MAd} {s : MkS} (h : MarksAt C Z H a s) {i : Int} (h1 : 1 ≤ i) (h9 : i ≤ 9) (v : Int) : ∃ H', DPut H a.r (.int i) (.int v) H' ∧ MarksAt C Z H' a { s with run := setA s.run i v } ∧ Frm a.all H H' := by
  obtain ⟨H', h2, h3, h4⟩ := h.r.put h1 h9 (.int v)
  have ob := h.obk a.mem.2.2.1 h4
  obtain ⟨n1, n2, n3, n4, n5, n6⟩ := h.nd
  obtain ⟨ta, ht, hl⟩ := h.t
  refine ⟨H', h2, ⟨ob, h.w.frm h4 (by simp [n2]), h.u.frm h4 (by simp [n4]), by rw [setA_map]; exact h3, ⟨ta, ht.frm h4 (by simp [Ne.symm n6]), MarksAt.lists (C := C) (a := a) hl h4 h.r⟩, h.nd⟩, h4.sub a.mem.2.2.1⟩
/-- a list of tries, made since -/
theorem MarksAt.put_t {C : Addr} {Z : List Addr} {H : Hp} {a : MAd} {s : MkS} (h : MarksAt C Z H a s) {i : Int} (h1 : 1 ≤ i) (h9 : i ≤ 9) {l : Addr} {bs : List Bool} (hl : H l = some (.lst (bs.map V.bl))) (hz : l ∉ Z) (hb : bs.length ≤ 6) :
    ∃ H', DPut H a.t (.int i) (.ref l) H' ∧ MarksAt C Z H' a { s with tries := setA s.tries i bs } ∧ Frm a.all H H' ∧ H' l = some (.lst (bs.map V.bl)) := by
  obtain ⟨n1, n2, n3, n4, n5, n6⟩ := h.nd
  obtain ⟨ta, ht, hls⟩ := id h.t
  obtain ⟨H', h2, h3, h4⟩ := ht.put h1 h9 (.ref l)
  have ob := h.obk a.mem.2.2.2 h4
  have hl' : H' l = some (.lst (bs.map V.bl)) := h4 _ _ hl (by
    obtain ⟨kvs, h5, _⟩ := ht
    simp only [List.mem_singleton]
    exact ne_of hl h5 (by intro z; cases z))
  refine ⟨H', h2, ⟨ob, h.w.frm h4 (by simp [n3]), h.u.frm h4 (by simp [n5]), h.r.frm h4 (by simp [n6]), ⟨setA ta i l, ?_, fun j => ?_⟩, h.nd⟩, h4.sub a.mem.2.2.2, hl'⟩
  · have e : (fun j => (setA ta i l j).map V.ref) = setA (fun j => (ta j).map V.ref) i (.ref l) := by
      funext j
      unfold setA
      split <;> rfl
    rw [e]
    exact h3
  · show (setA ta i l j = none ∧ setA s.tries i bs j = none) ∨ ∃ l' bs', setA ta i l j = some l' ∧ setA s.tries i bs j = some bs' ∧ H' l' = some (.lst (bs'.map V.bl)) ∧ l' ∉ Z ∧ bs'.length ≤ 6
    by_cases q : j = i
    · have e1 : setA ta i l j = some l := if_pos q
      have e2 : setA s.tries i bs j = some bs := if_pos q
      rw [e1, e2]
      exact .inr ⟨l, bs, rfl, rfl, hl', hz, hb⟩
    · have e1 : setA ta i l j = ta j := if_neg q
      have e2 : setA s.tries i bs j = s.tries j := if_neg q
      rw [e1, e2]
      exact MarksAt.lists (C := C) (a := a) hls h4 ht j
theorem last6_len {α : Type} (l : List α) : (last6 l).length ≤ 6 := by
  unfold last6
  rw [List.length_drop]
  omega
theorem cut6 (xs : List V) : cutV xs (some (0 - 6)) none = last6 xs := by
  unfold cutV last6
  have e1 : HT.sIx xs.length 0 (some (0 - 6)) = xs.length - 6 := by
    show (if (0 - 6 : Int) < 0 then ((0 - 6 : Int) + (xs.length : Nat)).toNat else min (0 - 6 : Int).toNat xs.length) = _
    rw [if_pos (by decide)]
    omega
  rw [e1, HT.sIx_none]
  apply List.take_of_length_le
  rw [List.length_drop]
  omega
theorem last6_map {α β : Type} (f : α → β) (l : List α) : last6 (l.map f) = (last6 l).map f := by
  unfold last6
  rw [List.length_map, List.map_drop]
theorem count_bl (bs : List Bool) (b : Bool) : (bs.map V.bl).countP (fun z => eqV z (.bl b)) = bs.count b := by
  induction bs with
  | nil => rfl
  | cons a r ih =>
    rw [List.map_cons, List.countP_cons, ih, List.count_cons]
    rfl
theorem flat_bls (bs : List Bool) : (bs.map V.bl).all flatV = true := by
  rw [List.all_map, List.all_eq_true]
  intro _ _
  rfl
/-- the marked ones, rising -/
theorem until_keys {H : Hp} {a : Addr} {f : Int → Option Int} (h : DictM H a fun i => (f i).map V.int) : ∃ (kvs : List (Key × V)) (ks : List Int), H a = some (.dK kvs) ∧ kvs.map (·.1) = ks.map Sum.inl ∧ ks.length < 64 ∧
    ∀ ys : List Int, ys.Perm ks → ys.Pairwise (· ≤ ·) → ys = nine.filter fun i => (f i).isSome := by
  obtain ⟨kvs, e, nd, hk, hv⟩ := h
  obtain ⟨ks, ek, h19⟩ := keys_int hk
  have ndk := nodup_inl (by rw [← ek]; exact nd)
  refine ⟨kvs, ks, e, ek, by have := pig 9 ks ndk h19; omega, fun ys hp hs => ?_⟩
  have ndy := hp.nodup_iff.mpr ndk
  refine sorted_ext ?_ ?_ fun k => ?_
  · rw [List.nodup_iff_pairwise_ne] at ndy
    exact hs.imp₂ (fun _ _ h1 h2 => by omega) ndy
  · exact List.Pairwise.filter _ (by decide)
  · rw [hp.mem_iff, List.mem_filter]
    have h1 : k ∈ ks ↔ (f k).isSome = true := by
      have h2 : (Sum.inl k : Key) ∈ kvs.map (·.1) ↔ k ∈ ks := by
        rw [ek, List.mem_map]
        exact ⟨fun ⟨x, hx, q⟩ => by cases q; exact hx, fun hx => ⟨k, hx, rfl⟩⟩
      rw [← h2, ← mem_key, hv k]
      show ((f k).map V.int).isSome = true ↔ _
      cases f k <;> simp
    rw [h1]
    refine ⟨fun q => ⟨?_, q⟩, fun q => q.2⟩
    have := h19 k (h1.mpr q)
    have : k = 1 ∨ k = 2 ∨ k = 3 ∨ k = 4 ∨ k = 5 ∨ k = 6 ∨ k = 7 ∨ k = 8 ∨ k = 9 := by omega
    simp [nine, this]
end TL

namespace TL
open PySem PySem.Spec PyProof.Rows L2
/-! ### an end: the mirror -/
abbrev Mind := List Int × List Int
abbrev SlowL := Int × Mind × Int
abbrev FastL := Int × Option Int × Int
structure EndS where
  can : List Int
  mks : MkS
  over : Int
  ver : Int
  bad : List Int
  oth : Option Mind
  seen : Int
  known : Int
  ready : Bool
  now : Int
  joined : Bool
  wait : List Int
  count : Int
  got : List Int
  part : Int
def EndS.new (can : List Int) : EndS := ⟨can, .new, 0, 1, [], none, 0, 0, false, 0, false, [], 0, [], 0⟩
def refreshF (s : EndS) : EndS := if badF s.mks s.over = s.bad then s else { s with bad := badF s.mks s.over, ver := s.ver + 1 }
def takeF (s : EndS) : Int := match s.oth with
  | none => 0
  | some m => chosenF s.can m.1 (s.bad ++ m.2)
def slowOf (s : EndS) : SlowL := (s.ver, (s.can, s.bad), s.seen)
def fastOf (s : EndS) : FastL := (s.count, s.wait.head?, (s.got.length : Nat))
/-- what is told, ahead of the walk of the fast letter -/
def heardS (s : EndS) (l : Option SlowL) : EndS := match l with
  | none => { s with ready := false }
  | some l => { s with seen := l.1, oth := some l.2.1, known := l.2.2, ready := decide (l.2.2 = s.ver) }
def hearSlowF (s : EndS) (l : Option SlowL) : EndS := { heardS (refreshF s) l with now := takeF (heardS (refreshF s) l) }
def notedF (s : EndS) (j : Bool) : EndS := if 0 < s.now ∧ (j = true ∨ s.ready = true) then { s with joined := j, mks := noteF s.mks s.now j s.over } else { s with joined := j }
def gatherF (s : EndS) (number : Int) (item : Option Int) : EndS := match item with
  | none => s
  | some i => if number = (s.got.length : Nat) then { s with got := s.got ++ [i] } else s
def knowF (s : EndS) (came : Int) : EndS := if s.count < came then { s with count := came, wait := s.wait.tail } else s
def hearFastF (s : EndS) (l : Option FastL) : EndS := match l with
  | none => notedF s false
  | some l => knowF (gatherF (notedF s true) l.1 l.2.1) l.2.2
/-! ### letters as data -/
def canD (ms : List Int) : PyData := .tuple (ms.map .int)
def mindD (m : Mind) : PyData := .tuple [canD m.1, canD m.2]
def othD : Option Mind → PyData
  | none => .none
  | some m => mindD m
def slowD (l : SlowL) : PyData := .tuple [.int l.1, mindD l.2.1, .int l.2.2]
def optD : Option Int → PyData
  | none => .none
  | some i => .int i
def fastD (l : FastL) : PyData := .tuple [.int l.1, optD l.2.1, .int l.2.2]
def slowO : Option SlowL → PyData
  | none => .none
  | some l => slowD l
def fastO : Option FastL → PyData
  | none => .none
  | some l => fastD l
theorem lv_can {ms : List Int} (h : ms.length ≤ 60) (n : Nat) : lv (n + 1) (canD ms) := by
  unfold canD
  simp only [lv]
  exact ⟨by rw [List.length_map]; omega, fun d hd => by
    obtain ⟨i, _, rfl⟩ := List.mem_map.mp hd
    cases n <;> trivial⟩
theorem lv_mind {m : Mind} (h1 : m.1.length ≤ 60) (h2 : m.2.length ≤ 60) (n : Nat) : lv (n + 2) (mindD m) := by
  unfold mindD
  simp only [lv]
  refine ⟨by simp, fun d hd => ?_⟩
  rcases List.mem_cons.mp hd with rfl | hd
  · exact lv_can h1 n
  · rw [List.mem_singleton] at hd
    subst hd
    exact lv_can h2 n
theorem eqv_mind (m k : Mind) : PyData.eqv (mindD m) (mindD k) = decide (m = k) := by
  show (PyData.eqvAll (m.1.map .int) (k.1.map .int) && (PyData.eqvAll (m.2.map .int) (k.2.map .int) && true)) = _
  rw [eqvAll_ints, eqvAll_ints, Bool.and_true]
  obtain ⟨a, b⟩ := m
  obtain ⟨c, d⟩ := k
  by_cases h1 : a = c <;> by_cases h2 : b = d <;> simp [h1, h2]
/-! ### an end in the heap -/
structure EAd where
  e : Addr
  w : Addr
  g : Addr
  mks : MAd
/-- what an end's methods write -/
def EAd.all (a : EAd) : List Addr := [a.e, a.w, a.g, a.mks.w, a.mks.u, a.mks.r, a.mks.t]
def EAd.every (a : EAd) : List Addr := a.mks.m :: a.all
abbrev enN : List Str := ["can", "marks", "over", "version", "mind", "other", "seen", "known", "ready", "now", "joined", "waiting", "count", "gathered", "part"]
theorem enN_nd : enN.Nodup := by decide +kernel
def enV (a : EAd) (s : EndS) (cv mv ov : V) : List V := [cv, .ref a.mks.m, .int s.over, .int s.ver, mv, ov, .int s.seen, .int s.known, .bl s.ready, .int s.now, .bl s.joined, .ref a.w, .int s.count, .ref a.g, .int s.part]
structure EndAt (CE CM : Addr) (Z : List Addr) (H : Hp) (a : EAd) (s : EndS) : Prop where
  ob : ∃ dx cv mv ov, H a.e = some (.ins CE dx (enN.zip (enV a s cv mv ov))) ∧ Im H cv (canD s.can) ∧ Im H mv (mindD (s.can, s.bad)) ∧ Im H ov (othD s.oth)
  mks : MarksAt CM Z H a.mks s.mks
  wt : H a.w = some (.lst (s.wait.map V.int))
  gt : H a.g = some (.lst (s.got.map V.int))
  nd : a.every.Nodup
section
variable {CE CM : Addr} {Z S : List Addr} {H H' : Hp} {a : EAd} {s : EndS}
theorem EAd.mk_all (a : EAd) : ∀ x ∈ a.mks.all, x ∈ a.all := by
  intro x hx
  simp [MAd.all] at hx
  simp [EAd.all]
  rcases hx with h | h | h | h <;> simp [h]
theorem EAd.all_every (a : EAd) : ∀ x ∈ a.all, x ∈ a.every := fun x hx => List.mem_cons_of_mem _ hx
theorem EndAt.frm (h : EndAt CE CM Z H a s) (e : Frm S H H') (hS : ∀ x ∈ S, x ∈ Z) (hd : ∀ x ∈ a.every, x ∉ S) : EndAt CE CM Z H' a s := by
  obtain ⟨⟨dx, cv, mv, ov, h1, h2, h3, h4⟩, M, hw, hg, nd⟩ := h
  exact ⟨⟨dx, cv, mv, ov, e _ _ h1 (hd _ (by simp [EAd.every, EAd.all])), h2.frm e, h3.frm e, h4.frm e⟩,
    M.frm e hS (hd _ (by simp [EAd.every])) (fun x hx => hd x (a.all_every _ (a.mk_all x hx))), e _ _ hw (hd _ (by simp [EAd.every, EAd.all])), e _ _ hg (hd _ (by simp [EAd.every, EAd.all])), nd⟩
theorem EndAt.same (h : EndAt CE CM Z H a s) (e : Same H H') : EndAt CE CM Z H' a s := h.frm (S := []) (.of_same e) (by simp) (by simp)
theorem EndAt.more {Z' : List Addr} (h : EndAt CE CM Z H a s) (hz : ∀ x ∈ Z', x ∈ Z ∨ ∀ bs, H x ≠ some (.lst bs)) : EndAt CE CM Z' H a s :=
  ⟨h.ob, h.mks.more hz, h.wt, h.gt, h.nd⟩
theorem EndAt.there (h : EndAt CE CM Z H a s) : ∀ x ∈ a.every, ∃ o, H x = some o := by
  obtain ⟨⟨dx, cv, mv, ov, h1, h2, h3, h4⟩, M, hw, hg, nd⟩ := h
  intro x hx
  obtain ⟨⟨dm, hm⟩, _⟩ := id M
  simp [EAd.every, EAd.all] at hx
  rcases hx with rfl | rfl | rfl | rfl | hx | hx | hx | hx
  · exact ⟨_, hm⟩
  · exact ⟨_, h1⟩
  · exact ⟨_, hw⟩
  · exact ⟨_, hg⟩
  all_goals exact (M.out x (by subst hx; simp [MAd.all])).2
theorem EndAt.ne_new (h : EndAt CE CM Z H a s) {l : Addr} (n : H l = none) : l ∉ a.every := fun z => by
  obtain ⟨o, e⟩ := h.there l z
  rw [n] at e
  cases e
/-- one of a's places is written, none of the marks' -/
theorem EAd.mk_out {b : Addr} (nd : a.every.Nodup) (hb : b = a.e ∨ b = a.w ∨ b = a.g) : a.mks.m ≠ b ∧ ∀ x ∈ a.mks.all, x ≠ b := by
  simp only [EAd.every, EAd.all, List.nodup_cons, List.mem_cons, not_or, List.not_mem_nil, not_false_eq_true, List.nodup_nil, and_true] at nd
  obtain ⟨⟨m1, m2, m3, m4, m5, m6, m7⟩, ⟨e1, e2, e3, e4, e5, e6⟩, ⟨w1, w2, w3, w4, w5⟩, ⟨g1, g2, g3, g4⟩, _⟩ := nd
  refine ⟨?_, fun x hx => ?_⟩
  · rcases hb with rfl | rfl | rfl
    · exact m1
    · exact m2
    · exact m3
  · simp [MAd.all] at hx
    rcases hb with rfl | rfl | rfl <;> rcases hx with rfl | rfl | rfl | rfl <;> first | exact Ne.symm ‹_› | exact fun z => by simp_all
theorem EAd.ewg (nd : a.every.Nodup) : a.e ≠ a.w ∧ a.e ≠ a.g ∧ a.w ≠ a.g := by
  simp only [EAd.every, EAd.all, List.nodup_cons, List.mem_cons, not_or, List.not_mem_nil, not_false_eq_true, List.nodup_nil, and_true] at nd
  exact ⟨nd.2.1.1, nd.2.1.2.1, nd.2.2.1.1⟩
/-- an attribute is stored -/
theorem EndAt.sfld {K : PySem.W.Frag} {P : Hp → Prop} {f : Str} (h : EndAt CE CM Z H a s) (cl : Cls K CE) (no : NoAttr K CE f) (hZ : a.e ∈ Z) (i : Nat) (v : V) (s' : EndS) (hi : enN[i]? = some f) (hlt : i < 15)
    (hv : ∀ cv mv ov, Im H cv (canD s.can) → Im H mv (mindD (s.can, s.bad)) → Im H ov (othD s.oth) → ∃ cv' mv' ov', (enV a s cv mv ov).set i v = enV a s' cv' mv' ov' ∧ Im H cv' (canD s'.can) ∧ Im H mv' (mindD (s'.can, s'.bad)) ∧ Im H ov' (othD s'.oth))
    (e1 : s'.mks = s.mks) (e2 : s'.wait = s.wait) (e3 : s'.got = s.got)
    (k : ∀ H', EndAt CE CM Z H' a s' → Frm a.all H H' → P H') :
    ∃ (b C dx : Addr) (fs : List (Str × V)), V.ref a.e = .ref b ∧ H b = some (.ins C dx fs) ∧ Cls K C ∧ NoAttr K C f ∧ fs.length < 1000 ∧ P (upd H b (.ins C dx (putF f v fs))) := by
  obtain ⟨⟨dx, cv, mv, ov, h1, h2, h3, h4⟩, M, hw, hg, nd⟩ := h
  refine ⟨a.e, CE, dx, _, rfl, h1, cl, no, zip_small (by decide), ?_⟩
  rw [zip_put enN_nd hi (by show i < 15; exact hlt)]
  obtain ⟨cv', mv', ov', e, g2, g3, g4⟩ := hv cv mv ov h2 h3 h4
  rw [e]
  have f1 : Frm [a.e] H (upd H a.e (.ins CE dx (enN.zip (enV a s' cv' mv' ov')))) := Frm.updI h1
  obtain ⟨n1, n2⟩ := EAd.mk_out nd (b := a.e) (.inl rfl)
  obtain ⟨n3, n4, n5⟩ := EAd.ewg nd
  refine k _ ⟨⟨dx, cv', mv', ov', upd_same, g2.frm f1, g3.frm f1, g4.frm f1⟩, ?_, ?_, ?_, nd⟩ (f1.sub (by simp [EAd.all]))
  · rw [e1]
    exact M.frm f1 (fun x hx => by simp at hx; subst hx; exact hZ) (by simp only [List.mem_singleton]; exact n1) (fun x hx => by simp only [List.mem_singleton]; exact n2 x hx)
  · rw [e2, upd_ne (Ne.symm n3)]; exact hw
  · rw [e3, upd_ne (Ne.symm n4)]; exact hg
theorem EndAt.gfld {K : PySem.W.Frag} {Q : L2.St → Hp → Prop} {f : Str} {r : L2.St} (h : EndAt CE CM Z H a s) (cl : Cls K CE) (no : NoAttr K CE f) (hZ : a.e ∈ Z) (i : Nat) (v : V) (s' : EndS) (hi : enN[i]? = some f) (hlt : i < 15)
    (hv : ∀ cv mv ov, Im H cv (canD s.can) → Im H mv (mindD (s.can, s.bad)) → Im H ov (othD s.oth) → ∃ cv' mv' ov', (enV a s cv mv ov).set i v = enV a s' cv' mv' ov' ∧ Im H cv' (canD s'.can) ∧ Im H mv' (mindD (s'.can, s'.bad)) ∧ Im H ov' (othD s'.oth))
    (e1 : s'.mks = s.mks) (e2 : s'.wait = s.wait) (e3 : s'.got = s.got)
    (k : ∀ H', EndAt CE CM Z H' a s' → Frm a.all H H' → Q (some (.ref a.e) :: r) H') : gFld K (tVar 0) f v (some (.ref a.e) :: r) H Q :=
  ⟨_, rfl, h.sfld (P := Q (some (.ref a.e) :: r)) cl no hZ i v s' hi hlt hv e1 e2 e3 k⟩
/-- the waiting ones -/
theorem EndAt.setW (h : EndAt CE CM Z H a s) (hZ : a.w ∈ Z) (ws : List Int) : EndAt CE CM Z (upd H a.w (.lst (ws.map V.int))) a { s with wait := ws } ∧ Frm a.all H (upd H a.w (.lst (ws.map V.int))) := by
  obtain ⟨⟨dx, cv, mv, ov, h1, h2, h3, h4⟩, M, hw, hg, nd⟩ := h
  have f1 : Frm [a.w] H (upd H a.w (.lst (ws.map V.int))) := Frm.updL hw
  obtain ⟨n1, n2⟩ := EAd.mk_out nd (b := a.w) (.inr (.inl rfl))
  obtain ⟨n3, n4, n5⟩ := EAd.ewg nd
  refine ⟨⟨⟨dx, cv, mv, ov, by rw [upd_ne n3]; exact h1, h2.frm f1, h3.frm f1, h4.frm f1⟩, ?_, upd_same, by rw [upd_ne (Ne.symm n5)]; exact hg, nd⟩, f1.sub (by simp [EAd.all])⟩
  exact M.frm f1 (fun x hx => by simp at hx; subst hx; exact hZ) (by simp only [List.mem_singleton]; exact n1) (fun x hx => by simp only [List.mem_singleton]; exact n2 x hx)
theorem EndAt.setG (h : EndAt CE CM Z H a s) (hZ : a.g ∈ Z) (ws : List Int) : EndAt CE CM Z (upd H a.g (.lst (ws.map V.int))) a { s with got := ws } ∧ Frm a.all H (upd H a.g (.lst (ws.map V.int))) := by
  obtain ⟨⟨dx, cv, mv, ov, h1, h2, h3, h4⟩, M, hw, hg, nd⟩ := h
  have f1 : Frm [a.g] H (upd H a.g (.lst (ws.map V.int))) := Frm.updL hg
  obtain ⟨n1, n2⟩ := EAd.mk_out nd (b := a.g) (.inr (.inr rfl))
  obtain ⟨n3, n4, n5⟩ := EAd.ewg nd
  refine ⟨⟨⟨dx, cv, mv, ov, by rw [upd_ne n4]; exact h1, h2.frm f1, h3.frm f1, h4.frm f1⟩, ?_, by rw [upd_ne n5]; exact hw, upd_same, nd⟩, f1.sub (by simp [EAd.all])⟩
  exact M.frm f1 (fun x hx => by simp at hx; subst hx; exact hZ) (by simp only [List.mem_singleton]; exact n1) (fun x hx => by simp only [List.mem_singleton]; exact n2 x hx)
/-- the marks -/
theorem EndAt.setM (h : EndAt CE CM Z H a s) {m : MkS} (M' : MarksAt CM Z H' a.mks m) (f : Frm a.mks.all H H') : EndAt CE CM Z H' a { s with mks := m } ∧ Frm a.all H H' := by
  obtain ⟨⟨dx, cv, mv, ov, h1, h2, h3, h4⟩, M, hw, hg, nd⟩ := h
  have o : ∀ b, (b = a.e ∨ b = a.w ∨ b = a.g) → b ∉ a.mks.all := fun b hb z => (EAd.mk_out nd hb).2 b z rfl
  exact ⟨⟨⟨dx, cv, mv, ov, f _ _ h1 (o _ (.inl rfl)), h2.frm f, h3.frm f, h4.frm f⟩, M', f _ _ hw (o _ (.inr (.inl rfl))), f _ _ hg (o _ (.inr (.inr rfl))), nd⟩, f.mono a.mk_all⟩
end
/-! ### what an end keeps -/
structure EndOk (s : EndS) : Prop where
  can : Can s.can
  o0 : 0 ≤ s.over
  o1 : s.over ≤ 1000000
  bad : s.bad.length ≤ 9
  oth : ∀ m, s.oth = some m → Can m.1 ∧ m.2.length ≤ 9
  n0 : 0 ≤ s.now
  n9 : s.now ≤ 9
  wait : s.wait.length ≤ 20
  got : s.got.length < 900
theorem bad_len (s : MkS) (f : Int) : (badF s f).length ≤ 9 := List.length_filter_le _ _
theorem EndOk.new {ms : List Int} (h : Can ms) : EndOk (.new ms) where
  can := h
  o0 := Int.le_refl 0
  o1 := (by decide : (0 : Int) ≤ 1000000)
  bad := Nat.zero_le 9
  oth := fun m e => by cases e
  n0 := Int.le_refl 0
  n9 := (by decide : (0 : Int) ≤ 9)
  wait := Nat.zero_le 20
  got := (by decide : (0 : Nat) < 900)
theorem EndOk.refresh {s : EndS} (h : EndOk s) : EndOk (refreshF s) := by
  unfold refreshF
  split
  · exact h
  · exact ⟨h.can, h.o0, h.o1, bad_len _ _, h.oth, h.n0, h.n9, h.wait, h.got⟩
theorem refresh_same (s : EndS) : (refreshF s).can = s.can ∧ (refreshF s).mks = s.mks ∧ (refreshF s).over = s.over ∧ (refreshF s).oth = s.oth ∧ (refreshF s).seen = s.seen ∧ (refreshF s).known = s.known ∧ (refreshF s).ready = s.ready ∧ (refreshF s).now = s.now ∧ (refreshF s).joined = s.joined ∧ (refreshF s).wait = s.wait ∧ (refreshF s).count = s.count ∧ (refreshF s).got = s.got ∧ (refreshF s).part = s.part := by
  unfold refreshF
  split <;> simp
theorem refresh_bad (s : EndS) : (refreshF s).bad = badF s.mks s.over := by
  unfold refreshF
  split
  · rename_i h; exact h.symm
  · rfl
theorem refresh_twice (s : EndS) : refreshF (refreshF s) = refreshF s := by
  have h := refresh_bad s
  obtain ⟨_, h2, h3, _⟩ := refresh_same s
  have e : refreshF (refreshF s) = if badF (refreshF s).mks (refreshF s).over = (refreshF s).bad then refreshF s else { refreshF s with bad := badF (refreshF s).mks (refreshF s).over, ver := (refreshF s).ver + 1 } := rfl
  rw [e, h2, h3, h, if_pos rfl]
theorem chosen_bound {one other bad : List Int} (h : Can one) : 0 ≤ chosenF one other bad ∧ chosenF one other bad ≤ 9 := by
  obtain ⟨h1, h2, _⟩ := isChosen_F one other bad
  refine ⟨h2, ?_⟩
  rcases h1 with e | ⟨e, _⟩
  · omega
  · exact (h.1 _ e).2
/-! ### readings of letters -/
theorem ImAll.ints_inv {H : Hp} : ∀ {xs : List V} {ns : List Int}, ImAll H xs (ns.map .int) → xs = ns.map V.int
  | _, [], .nil => rfl
  | _, n :: r, .cons h t => by
    cases h
    rw [List.map_cons, ImAll.ints_inv t]
theorem im_tup_inv {H : Hp} {v : V} {ds : List PyData} (h : Im H v (.tuple ds)) : ∃ t xs, v = .ref t ∧ H t = some (.tup xs) ∧ ImAll H xs ds := by
  cases h with
  | tup h1 h2 => exact ⟨_, _, rfl, h1, h2⟩
theorem im_can_inv {H : Hp} {v : V} {ms : List Int} (h : Im H v (canD ms)) : ∃ t, v = .ref t ∧ H t = some (.tup (ms.map V.int)) := by
  obtain ⟨t, xs, rfl, h1, h2⟩ := im_tup_inv h
  rw [h2.ints_inv] at h1
  exact ⟨t, rfl, h1⟩
theorem im_two_inv {H : Hp} {v : V} {d e : PyData} (h : Im H v (.tuple [d, e])) : ∃ t x y, v = .ref t ∧ H t = some (.tup [x, y]) ∧ Im H x d ∧ Im H y e := by
  obtain ⟨t, xs, rfl, h1, h2⟩ := im_tup_inv h
  match xs, h2 with
  | [x, y], .cons g1 (.cons g2 .nil) => exact ⟨t, x, y, rfl, h1, g1, g2⟩
theorem im_three_inv {H : Hp} {v : V} {d e f : PyData} (h : Im H v (.tuple [d, e, f])) : ∃ t x y z, v = .ref t ∧ H t = some (.tup [x, y, z]) ∧ Im H x d ∧ Im H y e ∧ Im H z f := by
  obtain ⟨t, xs, rfl, h1, h2⟩ := im_tup_inv h
  match xs, h2 with
  | [x, y, z], .cons g1 (.cons g2 (.cons g3 .nil)) => exact ⟨t, x, y, z, rfl, h1, g1, g2, g3⟩
theorem im_int_inv {H : Hp} {v : V} {i : Int} (h : Im H v (.int i)) : v = .int i := by cases h; rfl
theorem catA {K : PySem.W.Frag} {H : Hp} {Q : VK} {a b : Addr} {xs ys : List V} (h1 : SqT K H a xs) (h2 : SqT K H b ys) (hl : xs.length + ys.length ≤ sizeLine) (k : ∀ u H', SqT K H' u (xs ++ ys) → Same H H' → Q (.ref u) H') : rCatA K (.ref a) (.ref b) H Q := by
  refine ⟨a, b, xs, ys, rfl, rfl, h1, h2, hl, fun z => ?_, fun _ z => ?_, fun _ _ u hu => ?_⟩
  · subst z
    exact k b H h2 (.refl _)
  · subst z
    exact k a H (by rw [List.append_nil]; exact h1) (.refl _)
  · exact k u _ (SqT.of upd_same) (Same.upd_new hu)
/-- an attribute is stored for the first time -/
theorem iniF {K : PySem.W.Frag} {P : Hp → Prop} {f : Str} {CE dx p : Addr} {H : Hp} {vs : List V} (v : V) (h : H p = some (.ins CE dx (enN.zip vs))) (cl : Cls K CE) (no : NoAttr K CE f) (hf : enN[vs.length]? = some f)
    (k : ∀ H', H' p = some (.ins CE dx (enN.zip (vs ++ [v]))) → Frm [p] H H' → P H') :
    ∃ (b C dx : Addr) (fs : List (Str × V)), V.ref p = .ref b ∧ H b = some (.ins C dx fs) ∧ Cls K C ∧ NoAttr K C f ∧ fs.length < 1000 ∧ P (upd H b (.ins C dx (putF f v fs))) := by
  refine ⟨p, CE, dx, _, rfl, h, cl, no, zip_small (by decide), ?_⟩
  rw [zip_add enN_nd hf]
  exact k _ upd_same (Frm.updI h)
theorem MarksAt.ini {CM : Addr} {H H' : Hp} {a : MAd} {s : MkS} {p : Addr} (h : ∀ Z, MarksAt CM Z H a s) (f : Frm [p] H H') (n : p ≠ a.m) (na : ∀ x ∈ a.all, x ≠ p) : ∀ Z, MarksAt CM Z H' a s := fun Z =>
  ((h (p :: Z)).frm f (fun x hx => by simp at hx; simp [hx]) (by simp [Ne.symm n]) (fun x hx => by simp [na x hx])).more fun x hx => .inl (by simp [hx])
end TL

namespace TL
open PySem PySem.Spec PyProof.Rows L2
/-! ### a law's line: the mirror -/
structure LnS where
  ca : List Int
  cb : List Int
  a : EndS
  b : EndS
  sa : List Int
  sb : List Int
  log : List Row
def LnS.new (ca cb : List Int) : LnS := ⟨ca, cb, .new ca, .new cb, [], [], []⟩
def hearF0 (s : EndS) (l : Option SlowL) : EndS := { hearSlowF s l with part := 1 }
def hearF1 (s : EndS) (l : Option FastL) : EndS := { hearFastF s l with part := 0, over := (hearFastF s l).over + 1 }
abbrev Pass := List Int × List Int
abbrev Lost := (Bool × Bool) × (Bool × Bool)
def when {α : Type} (b : Bool) (x : α) : Option α := if b = true then some x else none
def jo (na nb : Int) (m : List Int) (l : Bool) : Bool := decide (na = nb) && (decide (na ∈ m) && !l)
/-- behind the slow part; la, lb: whether the letter comes to a, to b -/
def halfG (la lb : Bool) (s : LnS) : LnS :=
  { s with a := hearF0 (refreshF s.a) (when la (slowOf (refreshF s.b))), b := hearF0 (refreshF s.b) (when lb (slowOf (refreshF s.a))) }
def fastG (ja jb : Bool) (s : LnS) : LnS := { s with a := hearF1 s.a (when ja (fastOf s.b)), b := hearF1 s.b (when jb (fastOf s.a)) }
def halfF (p : Pass) (l : Lost) (s : LnS) : LnS := halfG (jo 0 0 p.1 l.1.1) (jo 0 0 p.2 l.1.2) s
def rowF (p : Pass) (l : Lost) (s : LnS) : Row := (s.a.now, jo s.a.now s.b.now p.1 l.2.1, s.b.now, jo s.a.now s.b.now p.2 l.2.2)
def fastF (p : Pass) (l : Lost) (s : LnS) : LnS := { fastG (jo s.a.now s.b.now p.1 l.2.1) (jo s.a.now s.b.now p.2 l.2.2) s with log := s.log ++ [rowF p l s] }
def frameF (p : Pass) (l : Lost) (s : LnS) : LnS := fastF p l (halfF p l s)
/-! ### in the heap -/
structure LnAd where
  l : Addr
  c : Addr
  es : Addr
  se : Addr
  s0 : Addr
  s1 : Addr
  lg : Addr
  c0 : Addr
  c1 : Addr
  a : EAd
  b : EAd
def LnAd.base (x : LnAd) : List Addr := [x.l, x.c, x.es, x.se, x.s0, x.s1, x.lg]
def LnAd.every (x : LnAd) : List Addr := x.base ++ (x.a.every ++ x.b.every)
def LnAd.all (x : LnAd) : List Addr := [x.l, x.s0, x.s1, x.lg] ++ (x.a.all ++ x.b.all)
def lnD (x : LnAd) (r : Bool) : List (Key × V) := [(.inr "can", .ref x.c), (.inr "ends", .ref x.es), (.inr "sent", .ref x.se), (.inr "log", .ref x.lg), (.inr "right", .bl r)]
theorem lnD_put (x : LnAd) (r r' : Bool) : putK (lnD x r) (.inr "right") (.bl r') = lnD x r' := rfl
structure LineAt (CE CM : Addr) (Z : List Addr) (H : Hp) (x : LnAd) (s : LnS) : Prop where
  l : H x.l = some (.dK (lnD x true))
  c : H x.c = some (.lst [.ref x.c0, .ref x.c1])
  c0 : H x.c0 = some (.tup (s.ca.map V.int))
  c1 : H x.c1 = some (.tup (s.cb.map V.int))
  es : H x.es = some (.lst [.ref x.a.e, .ref x.b.e])
  se : H x.se = some (.lst [.ref x.s0, .ref x.s1])
  s0 : H x.s0 = some (.lst [])
  s1 : H x.s1 = some (.lst [])
  lg : ∃ xs, H x.lg = some (.lst xs) ∧ ImAll H xs (s.log.map rowD)
  ea : EndAt CE CM Z H x.a s.a
  eb : EndAt CE CM Z H x.b s.b
  nd : x.every.Nodup
section
variable {CE CM : Addr} {Z S : List Addr} {H H' : Hp} {x : LnAd} {s : LnS}
theorem LnAd.dis (nd : x.every.Nodup) : x.base.Nodup ∧ (∀ y ∈ x.base, y ∉ x.a.every ∧ y ∉ x.b.every) ∧ ∀ y ∈ x.a.every, y ∉ x.b.every := by
  unfold LnAd.every at nd
  rw [List.nodup_append, List.nodup_append] at nd
  obtain ⟨h1, ⟨h2, h3, h4⟩, h5⟩ := nd
  exact ⟨h1, fun y hy => ⟨fun z => h5 y hy y (by simp [z]) rfl, fun z => h5 y hy y (by simp [z]) rfl⟩, fun y hy z => h4 y hy y z rfl⟩
theorem LnAd.sub_all (x : LnAd) : ∀ y ∈ x.all, y ∈ x.every := by
  intro y hy
  simp only [LnAd.all, List.mem_append] at hy
  simp only [LnAd.every, List.mem_append]
  rcases hy with h | h | h
  · left
    simp [LnAd.base] at h ⊢
    rcases h with h | h | h | h <;> simp [h]
  · exact .inr (.inl (x.a.all_every _ h))
  · exact .inr (.inr (x.b.all_every _ h))
theorem LnAd.a_all (x : LnAd) : ∀ y ∈ x.a.all, y ∈ x.all := fun y hy => by simp [LnAd.all, hy]
theorem LnAd.b_all (x : LnAd) : ∀ y ∈ x.b.all, y ∈ x.all := fun y hy => by simp [LnAd.all, hy]
theorem LineAt.frm (h : LineAt CE CM Z H x s) (e : Frm S H H') (hS : ∀ y ∈ S, y ∈ Z) (hd : ∀ y ∈ x.every, y ∉ S) : LineAt CE CM Z H' x s := by
  have b : ∀ y ∈ x.base, y ∉ S := fun y hy => hd y (by simp [LnAd.every, hy])
  obtain ⟨xs, h1, h2⟩ := h.lg
  refine ⟨e _ _ h.l (b _ (by simp [LnAd.base])), e _ _ h.c (b _ (by simp [LnAd.base])), e.tups _ _ h.c0, e.tups _ _ h.c1, e _ _ h.es (b _ (by simp [LnAd.base])), e _ _ h.se (b _ (by simp [LnAd.base])), e _ _ h.s0 (b _ (by simp [LnAd.base])), e _ _ h.s1 (b _ (by simp [LnAd.base])),
    ⟨xs, e _ _ h1 (b _ (by simp [LnAd.base])), h2.frm e⟩, h.ea.frm e hS fun y hy => hd y (by simp [LnAd.every, hy]), h.eb.frm e hS fun y hy => hd y (by simp [LnAd.every, hy]), h.nd⟩
theorem LineAt.same (h : LineAt CE CM Z H x s) (e : Same H H') : LineAt CE CM Z H' x s := h.frm (S := []) (.of_same e) (by simp) (by simp)
theorem LineAt.more {Z' : List Addr} (h : LineAt CE CM Z H x s) (hz : ∀ y ∈ Z', y ∈ Z ∨ ∀ bs, H y ≠ some (.lst bs)) : LineAt CE CM Z' H x s :=
  ⟨h.l, h.c, h.c0, h.c1, h.es, h.se, h.s0, h.s1, h.lg, h.ea.more hz, h.eb.more hz, h.nd⟩
theorem LineAt.there (h : LineAt CE CM Z H x s) : ∀ y ∈ x.every, ∃ o, H y = some o := by
  intro y hy
  simp only [LnAd.every, List.mem_append] at hy
  rcases hy with hy | hy | hy
  · obtain ⟨xs, h1, h2⟩ := h.lg
    simp [LnAd.base] at hy
    rcases hy with rfl | rfl | rfl | rfl | rfl | rfl | rfl
    · exact ⟨_, h.l⟩
    · exact ⟨_, h.c⟩
    · exact ⟨_, h.es⟩
    · exact ⟨_, h.se⟩
    · exact ⟨_, h.s0⟩
    · exact ⟨_, h.s1⟩
    · exact ⟨_, h1⟩
  · exact h.ea.there y hy
  · exact h.eb.there y hy
theorem LineAt.ne_new (h : LineAt CE CM Z H x s) {l : Addr} (n : H l = none) : l ∉ x.every := fun z => by
  obtain ⟨o, e⟩ := h.there l z
  rw [n] at e
  cases e
/-- an end goes on -/
theorem LineAt.setA (h : LineAt CE CM Z H x s) {a' : EndS} (E : EndAt CE CM Z H' x.a a') (f : Frm x.a.all H H') (hZ : ∀ z ∈ x.all, z ∈ Z) : LineAt CE CM Z H' x { s with a := a' } ∧ Frm x.all H H' := by
  obtain ⟨d1, d2, d3⟩ := LnAd.dis h.nd
  have b : ∀ y ∈ x.base, y ∉ x.a.all := fun y hy z => (d2 y hy).1 (x.a.all_every y z)
  obtain ⟨xs, h1, h2⟩ := h.lg
  exact ⟨⟨f _ _ h.l (b _ (by simp [LnAd.base])), f _ _ h.c (b _ (by simp [LnAd.base])), f.tups _ _ h.c0, f.tups _ _ h.c1, f _ _ h.es (b _ (by simp [LnAd.base])), f _ _ h.se (b _ (by simp [LnAd.base])), f _ _ h.s0 (b _ (by simp [LnAd.base])), f _ _ h.s1 (b _ (by simp [LnAd.base])),
    ⟨xs, f _ _ h1 (b _ (by simp [LnAd.base])), h2.frm f⟩, E, h.eb.frm f (fun y hy => hZ y (x.a_all y hy)) fun y hy z => d3 y (x.a.all_every y z) hy, h.nd⟩, f.mono x.a_all⟩
theorem LineAt.setB (h : LineAt CE CM Z H x s) {b' : EndS} (E : EndAt CE CM Z H' x.b b') (f : Frm x.b.all H H') (hZ : ∀ z ∈ x.all, z ∈ Z) : LineAt CE CM Z H' x { s with b := b' } ∧ Frm x.all H H' := by
  obtain ⟨d1, d2, d3⟩ := LnAd.dis h.nd
  have b : ∀ y ∈ x.base, y ∉ x.b.all := fun y hy z => (d2 y hy).2 (x.b.all_every y z)
  obtain ⟨xs, h1, h2⟩ := h.lg
  exact ⟨⟨f _ _ h.l (b _ (by simp [LnAd.base])), f _ _ h.c (b _ (by simp [LnAd.base])), f.tups _ _ h.c0, f.tups _ _ h.c1, f _ _ h.es (b _ (by simp [LnAd.base])), f _ _ h.se (b _ (by simp [LnAd.base])), f _ _ h.s0 (b _ (by simp [LnAd.base])), f _ _ h.s1 (b _ (by simp [LnAd.base])),
    ⟨xs, f _ _ h1 (b _ (by simp [LnAd.base])), h2.frm f⟩, h.ea.frm f (fun y hy => hZ y (x.b_all y hy)) fun y hy z => d3 y hy (x.b.all_every y z), E, h.nd⟩, f.mono x.b_all⟩
/-- a place of the line's own is written -/
theorem LnAd.ownd (nd : x.every.Nodup) {d : Addr} (hd : d ∈ x.base) : (∀ y ∈ x.a.every, y ∉ [d]) ∧ (∀ y ∈ x.b.every, y ∉ [d]) := by
  obtain ⟨d1, d2, d3⟩ := LnAd.dis nd
  exact ⟨fun y hy z => (d2 d hd).1 (by simp at z; rw [← z]; exact hy), fun y hy z => (d2 d hd).2 (by simp at z; rw [← z]; exact hy)⟩
theorem LnAd.basen (nd : x.every.Nodup) : (x.l ≠ x.c ∧ x.l ≠ x.es ∧ x.l ≠ x.se ∧ x.l ≠ x.s0 ∧ x.l ≠ x.s1 ∧ x.l ≠ x.lg) ∧ (x.c ≠ x.es ∧ x.c ≠ x.se ∧ x.c ≠ x.s0 ∧ x.c ≠ x.s1 ∧ x.c ≠ x.lg) ∧ (x.es ≠ x.se ∧ x.es ≠ x.s0 ∧ x.es ≠ x.s1 ∧ x.es ≠ x.lg) ∧ (x.se ≠ x.s0 ∧ x.se ≠ x.s1 ∧ x.se ≠ x.lg) ∧ (x.s0 ≠ x.s1 ∧ x.s0 ≠ x.lg) ∧ x.s1 ≠ x.lg := by
  have d1 := (LnAd.dis nd).1
  simpa only [LnAd.base, List.nodup_cons, List.mem_cons, not_or, List.not_mem_nil, not_false_eq_true, List.nodup_nil, and_true] using d1
/-- "right" is stored again -/
theorem LineAt.setR (h : LineAt CE CM Z H x s) (hZ : x.l ∈ Z) : LineAt CE CM Z (upd H x.l (.dK (lnD x true))) x s ∧ Frm x.all H (upd H x.l (.dK (lnD x true))) := by
  obtain ⟨⟨n1, n2, n3, n4, n5, n6⟩, _⟩ := LnAd.basen h.nd
  obtain ⟨o1, o2⟩ := LnAd.ownd h.nd (d := x.l) (by simp [LnAd.base])
  have f : Frm [x.l] H (upd H x.l (.dK (lnD x true))) := Frm.updK h.l
  obtain ⟨xs, h1, h2⟩ := h.lg
  have k : ∀ {y o}, H y = some o → x.l ≠ y → (upd H x.l (.dK (lnD x true))) y = some o := fun e n => by rw [upd_ne (Ne.symm n)]; exact e
  exact ⟨⟨upd_same, k h.c n1, f.tups _ _ h.c0, f.tups _ _ h.c1, k h.es n2, k h.se n3, k h.s0 n4, k h.s1 n5, ⟨xs, k h1 n6, h2.frm f⟩, h.ea.frm f (fun y hy => by simp at hy; subst hy; exact hZ) o1, h.eb.frm f (fun y hy => by simp at hy; subst hy; exact hZ) o2, h.nd⟩, f.sub (by simp [LnAd.all])⟩
/-- a row more -/
theorem LineAt.setLog (h : LineAt CE CM Z H x s) (hZ : x.lg ∈ Z) {xs : List V} {rs : List Row} (hA : ImAll H xs (rs.map rowD)) : LineAt CE CM Z (upd H x.lg (.lst xs)) x { s with log := rs } ∧ Frm x.all H (upd H x.lg (.lst xs)) := by
  obtain ⟨⟨_, _, _, _, _, n1⟩, ⟨_, _, _, _, n2⟩, ⟨_, _, _, n3⟩, ⟨_, _, n4⟩, ⟨_, n5⟩, n6⟩ := LnAd.basen h.nd
  obtain ⟨o1, o2⟩ := LnAd.ownd h.nd (d := x.lg) (by simp [LnAd.base])
  obtain ⟨xs0, h1, h2⟩ := h.lg
  have f : Frm [x.lg] H (upd H x.lg (.lst xs)) := Frm.updL h1
  have k : ∀ {y o}, H y = some o → y ≠ x.lg → (upd H x.lg (.lst xs)) y = some o := fun e n => by rw [upd_ne n]; exact e
  exact ⟨⟨k h.l n1, k h.c n2, f.tups _ _ h.c0, f.tups _ _ h.c1, k h.es n3, k h.se n4, k h.s0 n5, k h.s1 n6, ⟨xs, upd_same, hA.frm f⟩, h.ea.frm f (fun y hy => by simp at hy; subst hy; exact hZ) o1, h.eb.frm f (fun y hy => by simp at hy; subst hy; exact hZ) o2, h.nd⟩, f.sub (by simp [LnAd.all])⟩
theorem LineAt.get (h : LineAt CE CM Z H x s) : DGet H x.l (.str "can") (some (.ref x.c)) ∧ DGet H x.l (.str "ends") (some (.ref x.es)) ∧ DGet H x.l (.str "sent") (some (.ref x.se)) ∧ DGet H x.l (.str "log") (some (.ref x.lg)) ∧ DGet H x.l (.str "right") (some (.bl true)) :=
  ⟨DGet.k (k := .inr "can") h.l, DGet.k (k := .inr "ends") h.l, DGet.k (k := .inr "sent") h.l, DGet.k (k := .inr "log") h.l, DGet.k (k := .inr "right") h.l⟩
end
theorem nd_snoc {L M : List Addr} {H : Hp} (a : L.Nodup) (al : Alloc L H) (b : M.Nodup) (n : ∀ y ∈ M, H y = none) : (L ++ M).Nodup := by
  rw [List.nodup_append]
  refine ⟨a, b, fun x hx y hy e => ?_⟩
  subst e
  obtain ⟨o, ho⟩ := al x hx
  rw [n x hy] at ho
  cases ho
theorem Alloc.app {L M : List Addr} {H : Hp} (a : Alloc L H) (b : Alloc M H) : Alloc (L ++ M) H := fun z hz => (List.mem_append.mp hz).elim (a z) (b z)
theorem EndAt.ini {CE CM : Addr} {H H' : Hp} {a : EAd} {s : EndS} {p : Addr} (h : ∀ Z, EndAt CE CM Z H a s) (f : Frm [p] H H') (n : p ∉ a.every) : ∀ Z, EndAt CE CM Z H' a s := fun Z =>
  ((h (p :: Z)).frm f (fun x hx => by simp at hx; simp [hx]) (fun x hx z => by simp at z; subst z; exact n hx)).more fun x hx => .inl (by simp [hx])
/-! ### what always holds -/
structure Del (e : EndS) (sent got : List Int) : Prop where
  n : ∃ n : Nat, e.count = n ∧ n ≤ got.length ∧ got.length ≤ n + 1 ∧ e.wait = sent.drop n
  pre : got = sent.take got.length
  len : got.length ≤ sent.length
structure LnOk (pt : Int) (s : LnS) : Prop where
  ea : EndOk s.a
  eb : EndOk s.b
  pa : s.a.part = pt
  pb : s.b.part = pt
  ov : s.a.over = s.b.over
  ka : s.a.can = s.ca
  kb : s.b.can = s.cb
  oa : ∀ m, s.a.oth = some m → m.1 = s.cb
  ob : ∀ m, s.b.oth = some m → m.1 = s.ca
  na : s.a.now ∈ s.ca ∧ s.a.now ∈ s.cb
  nb : s.b.now ∈ s.ca ∧ s.b.now ∈ s.cb
  da : Del s.a s.sa s.b.got
  db : Del s.b s.sb s.a.got
  la : s.sa.length < 900
  lb : s.sb.length < 900
theorem LnOk.new {ca cb : List Int} (ha : Can ca) (hb : Can cb) : LnOk 0 (.new ca cb) where
  ea := EndOk.new ha
  eb := EndOk.new hb
  pa := rfl
  pb := rfl
  ov := rfl
  ka := rfl
  kb := rfl
  oa := fun m e => by cases e
  ob := fun m e => by cases e
  na := ⟨ha.2.2.1, hb.2.2.1⟩
  nb := ⟨ha.2.2.1, hb.2.2.1⟩
  da := ⟨⟨0, rfl, Nat.zero_le _, Nat.zero_le _, rfl⟩, rfl, Nat.zero_le _⟩
  db := ⟨⟨0, rfl, Nat.zero_le _, Nat.zero_le _, rfl⟩, rfl, Nat.zero_le _⟩
  la := (by decide : (0 : Nat) < 900)
  lb := (by decide : (0 : Nat) < 900)
/-- what a slow part leaves -/
theorem slow_parts (s : EndS) (l : Option SlowL) : (hearF0 (refreshF s) l).can = s.can ∧ (hearF0 (refreshF s) l).mks = s.mks ∧ (hearF0 (refreshF s) l).over = s.over ∧ (hearF0 (refreshF s) l).bad = badF s.mks s.over ∧ (hearF0 (refreshF s) l).wait = s.wait ∧ (hearF0 (refreshF s) l).count = s.count ∧ (hearF0 (refreshF s) l).got = s.got ∧
    (hearF0 (refreshF s) l).oth = (match l with | none => s.oth | some l => some l.2.1) ∧ (hearF0 (refreshF s) l).joined = s.joined := by
  obtain ⟨h1, h2, h3, h4, h5, h6, h7, h8, h9, h10, h11, h12, h13⟩ := refresh_same s
  have h0 := refresh_bad s
  unfold hearF0 hearSlowF
  rw [refresh_twice]
  cases l with
  | none => exact ⟨h1, h2, h3, h0, h10, h11, h12, h4, h9⟩
  | some l => exact ⟨h1, h2, h3, h0, h10, h11, h12, rfl, h9⟩
theorem slow_now (s : EndS) (l : Option SlowL) : (hearF0 (refreshF s) l).now = match (hearF0 (refreshF s) l).oth with | none => 0 | some m => chosenF s.can m.1 (badF s.mks s.over ++ m.2) := by
  have hc := (slow_parts s l).1
  have hb := (slow_parts s l).2.2.2.1
  have e : (hearF0 (refreshF s) l).now = takeF (hearF0 (refreshF s) l) := by
    unfold hearF0 hearSlowF
    rw [refresh_twice]
    rfl
  rw [e]
  unfold takeF
  rw [hc, hb]
  all_goals cases (hearF0 (refreshF s) l).oth <;> rfl
theorem chosen_in {one other bad : List Int} (h1 : 0 ∈ one) (h2 : 0 ∈ other) : chosenF one other bad ∈ one ∧ chosenF one other bad ∈ other := by
  rcases (isChosen_F one other bad).1 with e | ⟨e1, e2, _⟩
  · rw [e]; exact ⟨h1, h2⟩
  · exact ⟨e1, e2⟩
theorem EndOk.slow {s : EndS} (h : EndOk s) {l : Option SlowL} (hl : ∀ m, l = some m → Can m.2.1.1 ∧ m.2.1.2.length ≤ 9) : EndOk (hearF0 (refreshF s) l) := by
  obtain ⟨h1, h2, h3, h4, h5, h6, h7, h8, h9⟩ := slow_parts s l
  have hn := slow_now s l
  have hb : 0 ≤ (hearF0 (refreshF s) l).now ∧ (hearF0 (refreshF s) l).now ≤ 9 := by
    rw [hn]
    split
    · decide
    · exact chosen_bound h.can
  refine ⟨by rw [h1]; exact h.can, by rw [h3]; exact h.o0, by rw [h3]; exact h.o1, by rw [h4]; exact bad_len _ _, fun m e => ?_, hb.1, hb.2, by rw [h5]; exact h.wait, by rw [h7]; exact h.got⟩
  rw [h8] at e
  cases l with
  | none => exact h.oth m e
  | some l =>
    have e' : l.2.1 = m := Option.some.inj e
    rw [← e']
    exact hl l rfl
theorem when_some {α : Type} {b : Bool} {x y : α} (h : when b x = some y) : b = true ∧ x = y := by
  unfold when at h
  split at h
  · exact ⟨‹_›, Option.some.inj h⟩
  · cases h
theorem LnOk.half {s : LnS} (h : LnOk 0 s) (la lb : Bool) : LnOk 1 (halfG la lb s) := by
  have mind : ∀ {e : EndS}, EndOk e → Can (slowOf (refreshF e)).2.1.1 ∧ (slowOf (refreshF e)).2.1.2.length ≤ 9 := fun {e} he => ⟨he.refresh.can, he.refresh.bad⟩
  have wa : ∀ m, when la (slowOf (refreshF s.b)) = some m → Can m.2.1.1 ∧ m.2.1.2.length ≤ 9 := fun m e => by rw [← (when_some e).2]; exact mind h.eb
  have wb : ∀ m, when lb (slowOf (refreshF s.a)) = some m → Can m.2.1.1 ∧ m.2.1.2.length ≤ 9 := fun m e => by rw [← (when_some e).2]; exact mind h.ea
  obtain ⟨a1, a2, a3, a4, a5, a6, a7, a8, a9⟩ := slow_parts s.a (when la (slowOf (refreshF s.b)))
  obtain ⟨b1, b2, b3, b4, b5, b6, b7, b8, b9⟩ := slow_parts s.b (when lb (slowOf (refreshF s.a)))
  have oa : ∀ m, (halfG la lb s).a.oth = some m → m.1 = s.cb := fun m e => by
    have e' : (match when la (slowOf (refreshF s.b)) with | none => s.a.oth | some l => some l.2.1) = some m := a8 ▸ e
    cases hw : when la (slowOf (refreshF s.b)) with
    | none => rw [hw] at e'; exact h.oa m e'
    | some l =>
      rw [hw] at e'
      have e1 : l.2.1 = m := Option.some.inj e'
      rw [← e1, ← (when_some hw).2]
      show (refreshF s.b).can = _
      rw [(refresh_same s.b).1, h.kb]
  have ob : ∀ m, (halfG la lb s).b.oth = some m → m.1 = s.ca := fun m e => by
    have e' : (match when lb (slowOf (refreshF s.a)) with | none => s.b.oth | some l => some l.2.1) = some m := b8 ▸ e
    cases hw : when lb (slowOf (refreshF s.a)) with
    | none => rw [hw] at e'; exact h.ob m e'
    | some l =>
      rw [hw] at e'
      have e1 : l.2.1 = m := Option.some.inj e'
      rw [← e1, ← (when_some hw).2]
      show (refreshF s.a).can = _
      rw [(refresh_same s.a).1, h.ka]
  have ca0 : 0 ∈ s.ca := by rw [← h.ka]; exact h.ea.can.2.2.1
  have cb0 : 0 ∈ s.cb := by rw [← h.kb]; exact h.eb.can.2.2.1
  have na : (halfG la lb s).a.now ∈ s.ca ∧ (halfG la lb s).a.now ∈ s.cb := by
    have hn : (halfG la lb s).a.now = _ := slow_now s.a (when la (slowOf (refreshF s.b)))
    rw [hn]
    split
    · exact ⟨ca0, cb0⟩
    · rename_i m hm
      have e := oa m hm
      rw [e, h.ka]
      exact chosen_in ca0 cb0
  have nb : (halfG la lb s).b.now ∈ s.ca ∧ (halfG la lb s).b.now ∈ s.cb := by
    have hn : (halfG la lb s).b.now = _ := slow_now s.b (when lb (slowOf (refreshF s.a)))
    rw [hn]
    split
    · exact ⟨ca0, cb0⟩
    · rename_i m hm
      have e := ob m hm
      rw [e, h.kb]
      exact (chosen_in cb0 ca0).symm
  have del : ∀ {e e' : EndS} {sent g g' : List Int}, Del e sent g → e'.count = e.count → e'.wait = e.wait → g' = g → Del e' sent g' := fun {e e' sent g g'} d q1 q2 q3 => by
    subst q3
    exact ⟨by rw [q1, q2]; exact d.n, d.pre, d.len⟩
  exact ⟨h.ea.slow wa, h.eb.slow wb, rfl, rfl, by show (hearF0 _ _).over = (hearF0 _ _).over; rw [a3, b3]; exact h.ov, a1.trans h.ka, b1.trans h.kb, oa, ob, na, nb, del h.da a6 a5 b7, del h.db b6 b5 a7, h.la, h.lb⟩
/-- what came, of the items -/
def gotF (got : List Int) : Option FastL → List Int
  | none => got
  | some l => match l.2.1 with
    | none => got
    | some i => if l.1 = (got.length : Nat) then got ++ [i] else got
def cwF (c : Int) (w : List Int) : Option FastL → Int × List Int
  | none => (c, w)
  | some l => if c < l.2.2 then (l.2.2, w.tail) else (c, w)
theorem noted_parts (s : EndS) (j : Bool) : (notedF s j).can = s.can ∧ (notedF s j).over = s.over ∧ (notedF s j).bad = s.bad ∧ (notedF s j).oth = s.oth ∧ (notedF s j).now = s.now ∧ (notedF s j).joined = j ∧ (notedF s j).wait = s.wait ∧ (notedF s j).count = s.count ∧ (notedF s j).got = s.got ∧ (notedF s j).ver = s.ver ∧ (notedF s j).seen = s.seen ∧ (notedF s j).known = s.known ∧ (notedF s j).ready = s.ready := by
  unfold notedF
  split <;> simp
theorem fast_parts (s : EndS) (l : Option FastL) : (hearF1 s l).can = s.can ∧ (hearF1 s l).over = s.over + 1 ∧ (hearF1 s l).bad = s.bad ∧ (hearF1 s l).oth = s.oth ∧ (hearF1 s l).now = s.now ∧ (hearF1 s l).joined = l.isSome ∧ (hearF1 s l).got = gotF s.got l ∧ (hearF1 s l).count = (cwF s.count s.wait l).1 ∧ (hearF1 s l).wait = (cwF s.count s.wait l).2 ∧
    (hearF1 s l).mks = (notedF s l.isSome).mks ∧ (hearF1 s l).ver = s.ver ∧ (hearF1 s l).seen = s.seen ∧ (hearF1 s l).known = s.known ∧ (hearF1 s l).ready = s.ready := by
  cases l with
  | none =>
    obtain ⟨h1, h2, h3, h4, h5, h6, h7, h8, h9, h10, h11, h12, h13⟩ := noted_parts s false
    exact ⟨h1, by show (notedF s false).over + 1 = _; rw [h2], h3, h4, h5, h6, h9, h8, h7, rfl, h10, h11, h12, h13⟩
  | some l =>
    obtain ⟨n, i, c⟩ := l
    obtain ⟨h1, h2, h3, h4, h5, h6, h7, h8, h9, h10, h11, h12, h13⟩ := noted_parts s true
    have g : ∀ e : EndS, (gatherF e n i).can = e.can ∧ (gatherF e n i).over = e.over ∧ (gatherF e n i).bad = e.bad ∧ (gatherF e n i).oth = e.oth ∧ (gatherF e n i).now = e.now ∧ (gatherF e n i).joined = e.joined ∧ (gatherF e n i).got = gotF e.got (some (n, i, c)) ∧ (gatherF e n i).count = e.count ∧ (gatherF e n i).wait = e.wait ∧ (gatherF e n i).mks = e.mks ∧ (gatherF e n i).ver = e.ver ∧ (gatherF e n i).seen = e.seen ∧ (gatherF e n i).known = e.known ∧ (gatherF e n i).ready = e.ready := fun e => by
      cases i with
      | none => simp [gatherF, gotF]
      | some i =>
        simp only [gatherF, gotF]
        split <;> simp
    obtain ⟨g1, g2, g3, g4, g5, g6, g7, g8, g9, g10, g11, g12, g13, g14⟩ := g (notedF s true)
    have e : hearFastF s (some (n, i, c)) = knowF (gatherF (notedF s true) n i) c := rfl
    have k : ∀ e : EndS, (knowF e c).can = e.can ∧ (knowF e c).over = e.over ∧ (knowF e c).bad = e.bad ∧ (knowF e c).oth = e.oth ∧ (knowF e c).now = e.now ∧ (knowF e c).joined = e.joined ∧ (knowF e c).got = e.got ∧ (knowF e c).count = (cwF e.count e.wait (some (n, i, c))).1 ∧ (knowF e c).wait = (cwF e.count e.wait (some (n, i, c))).2 ∧ (knowF e c).mks = e.mks ∧ (knowF e c).ver = e.ver ∧ (knowF e c).seen = e.seen ∧ (knowF e c).known = e.known ∧ (knowF e c).ready = e.ready := fun e => by
      simp only [knowF, cwF]
      split <;> simp
    obtain ⟨k1, k2, k3, k4, k5, k6, k7, k8, k9, k10, k11, k12, k13, k14⟩ := k (gatherF (notedF s true) n i)
    refine ⟨k1.trans (g1.trans h1), ?_, k3.trans (g3.trans h3), k4.trans (g4.trans h4), k5.trans (g5.trans h5), k6.trans (g6.trans h6), k7.trans (g7.trans (by rw [h9])), k8.trans (by rw [g8, g9, h7, h8]), k9.trans (by rw [g8, g9, h7, h8]), k10.trans g10, k11.trans (g11.trans h10), k12.trans (g12.trans h11), k13.trans (g13.trans h12), k14.trans (g14.trans h13)⟩
    show (hearFastF s (some (n, i, c))).over + 1 = _
    rw [e, k2, g2, h2]
theorem Del.fast {e e' : EndS} {sent g g' : List Int} (d : Del e sent g) (ja jb : Bool) (t : FastL) (u : FastL) (ht : t.2.2 = (g.length : Nat)) (hu1 : u.1 = e.count) (hu2 : u.2.1 = e.wait.head?)
    (h1 : e'.count = (cwF e.count e.wait (when ja t)).1) (h2 : e'.wait = (cwF e.count e.wait (when ja t)).2) (h3 : g' = gotF g (when jb u)) : Del e' sent g' := by
  obtain ⟨⟨n, q1, q2, q3, q4⟩, pre, len⟩ := d
  have gg : g' = g ∨ (n = g.length ∧ ∃ v, sent[n]? = some v ∧ g' = g ++ [v]) := by
    rw [h3]
    cases jb with
    | false => exact .inl rfl
    | true =>
      have e1 : gotF g (when true u) = match sent[n]? with
          | none => g
          | some i => if (n : Int) = (g.length : Nat) then g ++ [i] else g := by
        show gotF g (some u) = _
        unfold gotF
        simp only
        rw [hu2, hu1, q1, q4, List.head?_drop]
      rw [e1]
      cases hs : sent[n]? with
      | none => exact .inl rfl
      | some v =>
        by_cases hc : (n : Int) = (g.length : Nat)
        · exact .inr ⟨by omega, v, rfl, if_pos hc⟩
        · exact .inl (if_neg hc)
  have cc : (e'.count = n ∧ e'.wait = sent.drop n) ∨ (g.length = n + 1 ∧ e'.count = (n + 1 : Nat) ∧ e'.wait = sent.drop (n + 1)) := by
    rw [h1, h2]
    cases ja with
    | false => exact .inl ⟨q1, q4⟩
    | true =>
      show (cwF e.count e.wait (some t)).1 = _ ∧ _ ∨ _
      simp only [cwF, when, if_true, ht, q1]
      by_cases hlt : (n : Int) < (g.length : Nat)
      · rw [if_pos hlt]
        refine .inr ⟨by omega, by simp only; omega, ?_⟩
        simp only
        rw [q4, List.tail_drop]
      · rw [if_neg hlt]
        exact .inl ⟨rfl, q4⟩
  rcases gg with rfl | ⟨hn, v, hv, rfl⟩
  · rcases cc with ⟨c1, c2⟩ | ⟨c0, c1, c2⟩
    · exact ⟨⟨n, c1, q2, q3, c2⟩, pre, len⟩
    · exact ⟨⟨n + 1, c1, by omega, by omega, c2⟩, pre, len⟩
  · have hlt : n < sent.length := (List.getElem?_eq_some_iff.mp hv).1
    rcases cc with ⟨c1, c2⟩ | ⟨c0, c1, c2⟩
    · refine ⟨⟨n, c1, by simp; omega, by simp; omega, c2⟩, ?_, by simp; omega⟩
      rw [List.length_append, List.length_singleton, ← hn, take_more hv]
      congr 1
      rw [hn]
      exact pre
    · omega
theorem EndOk.fast {s : EndS} (h : EndOk s) (l : Option FastL) (ho : s.over < 1000000) (hw : (hearF1 s l).wait.length ≤ 20) (hg : (hearF1 s l).got.length < 900) : EndOk (hearF1 s l) := by
  obtain ⟨h1, h2, h3, h4, h5, h6, h7, h8, h9, h10, _⟩ := fast_parts s l
  have := h.o0
  exact ⟨by rw [h1]; exact h.can, by rw [h2]; omega, by rw [h2]; omega, by rw [h3]; exact h.bad, fun m e => h.oth m (h4 ▸ e), by rw [h5]; exact h.n0, by rw [h5]; exact h.n9, hw, hg⟩
theorem cw_len (c : Int) (w : List Int) (l : Option FastL) : (cwF c w l).2.length ≤ w.length := by
  cases l with
  | none => exact Nat.le_refl _
  | some l =>
    simp only [cwF]
    split
    · simp only [List.length_tail]; omega
    · exact Nat.le_refl _
theorem LnOk.fast {s : LnS} (h : LnOk 1 s) (ja jb : Bool) (ho : s.a.over < 1000000) : LnOk 0 (fastG ja jb s) := by
  obtain ⟨a1, a2, a3, a4, a5, a6, a7, a8, a9, a10, _⟩ := fast_parts s.a (when ja (fastOf s.b))
  obtain ⟨b1, b2, b3, b4, b5, b6, b7, b8, b9, b10, _⟩ := fast_parts s.b (when jb (fastOf s.a))
  have ov := h.ov
  have da : Del (fastG ja jb s).a s.sa (fastG ja jb s).b.got := h.da.fast ja jb (fastOf s.b) (fastOf s.a) rfl rfl rfl a8 a9 b7
  have db : Del (fastG ja jb s).b s.sb (fastG ja jb s).a.got := h.db.fast jb ja (fastOf s.a) (fastOf s.b) rfl rfl rfl b8 b9 a7
  have wa := h.ea.wait
  have wb := h.eb.wait
  have ca := cw_len s.a.count s.a.wait (when ja (fastOf s.b))
  have cb := cw_len s.b.count s.b.wait (when jb (fastOf s.a))
  have la := h.la
  have lb := h.lb
  exact ⟨h.ea.fast _ ho (by rw [a9]; omega) (Nat.lt_of_le_of_lt db.len h.lb), h.eb.fast _ (by omega) (by rw [b9]; omega) (Nat.lt_of_le_of_lt da.len h.la), rfl, rfl, by show (hearF1 _ _).over = (hearF1 _ _).over; rw [a2, b2, ov], a1.trans h.ka, b1.trans h.kb, fun m e => h.oa m (a4 ▸ e), fun m e => h.ob m (b4 ▸ e),
    by show (hearF1 _ _).now ∈ _ ∧ (hearF1 _ _).now ∈ _; rw [a5]; exact h.na, by show (hearF1 _ _).now ∈ _ ∧ (hearF1 _ _).now ∈ _; rw [b5]; exact h.nb, da, db, h.la, h.lb⟩
/-- a letter that tells more came, so something waits -/
theorem Del.waits {e : EndS} {sent g : List Int} (d : Del e sent g) (h : e.count < (g.length : Nat)) : e.wait ≠ [] := by
  obtain ⟨⟨n, q1, q2, q3, q4⟩, pre, len⟩ := d
  rw [q4]
  intro z
  rw [List.drop_eq_nil_iff] at z
  omega
theorem LnOk.log {pt : Int} {s : LnS} (h : LnOk pt s) (rs : List Row) : LnOk pt { s with log := rs } := ⟨h.ea, h.eb, h.pa, h.pb, h.ov, h.ka, h.kb, h.oa, h.ob, h.na, h.nb, h.da, h.db, h.la, h.lb⟩
theorem LnOk.frame {s : LnS} (h : LnOk 0 s) (p : Pass) (l : Lost) (ho : s.a.over < 1000000) : LnOk 0 (frameF p l s) :=
  ((h.half _ _).fast _ _ (by show (hearF0 _ _).over < _; rw [(slow_parts _ _).2.2.1]; exact ho)).log _
/-- an end sends something, if it may -/
def sendA (s : LnS) (i : Int) : LnS := { s with a := { s.a with wait := s.a.wait ++ [i] }, sa := s.sa ++ [i] }
def sendB (s : LnS) (i : Int) : LnS := { s with b := { s.b with wait := s.b.wait ++ [i] }, sb := s.sb ++ [i] }
def Sends (s : LnS) (n : Int) (s' : LnS) : Prop :=
  if n = 0 then (20 ≤ s.a.wait.length ∧ s' = s) ∨ (s.a.wait.length < 20 ∧ ∃ i, 0 ≤ i ∧ i ≤ 999 ∧ s' = sendA s i)
  else (20 ≤ s.b.wait.length ∧ s' = s) ∨ (s.b.wait.length < 20 ∧ ∃ i, 0 ≤ i ∧ i ≤ 999 ∧ s' = sendB s i)
theorem Del.send {e e' : EndS} {sent g : List Int} (d : Del e sent g) (i : Int) (h1 : e'.count = e.count) (h2 : e'.wait = e.wait ++ [i]) : Del e' (sent ++ [i]) g := by
  obtain ⟨⟨n, q1, q2, q3, q4⟩, pre, len⟩ := d
  refine ⟨⟨n, h1.trans q1, q2, q3, ?_⟩, ?_, by simp; omega⟩
  · rw [h2, q4, List.drop_append_of_le_length (by omega)]
  · rw [List.take_append_of_le_length len]
    exact pre
theorem LnOk.sends {s s' : LnS} {n : Int} {pt : Int} (h : LnOk pt s) (hs : Sends s n s') (la : s.sa.length < 899) (lb : s.sb.length < 899) : LnOk pt s' ∧ s'.sa.length ≤ s.sa.length + 1 ∧ s'.sb.length ≤ s.sb.length + 1 ∧ s'.a.over = s.a.over ∧ s'.log = s.log ∧ s'.ca = s.ca ∧ s'.cb = s.cb := by
  unfold Sends at hs
  split at hs
  · rcases hs with ⟨_, rfl⟩ | ⟨hw, i, _, _, rfl⟩
    · exact ⟨h, by omega, by omega, rfl, rfl, rfl, rfl⟩
    · refine ⟨⟨⟨h.ea.can, h.ea.o0, h.ea.o1, h.ea.bad, h.ea.oth, h.ea.n0, h.ea.n9, by show (s.a.wait ++ [i]).length ≤ 20; simp; omega, h.ea.got⟩, h.eb, h.pa, h.pb, h.ov, h.ka, h.kb, h.oa, h.ob, h.na, h.nb, h.da.send i rfl rfl, ⟨h.db.n, h.db.pre, h.db.len⟩, by show (s.sa ++ [i]).length < 900; simp; omega, h.lb⟩, by show (s.sa ++ [i]).length ≤ _; simp, by show s.sb.length ≤ _; omega, rfl, rfl, rfl, rfl⟩
  · rcases hs with ⟨_, rfl⟩ | ⟨hw, i, _, _, rfl⟩
    · exact ⟨h, by omega, by omega, rfl, rfl, rfl, rfl⟩
    · refine ⟨⟨h.ea, ⟨h.eb.can, h.eb.o0, h.eb.o1, h.eb.bad, h.eb.oth, h.eb.n0, h.eb.n9, by show (s.b.wait ++ [i]).length ≤ 20; simp; omega, h.eb.got⟩, h.pa, h.pb, h.ov, h.ka, h.kb, h.oa, h.ob, h.na, h.nb, ⟨h.da.n, h.da.pre, h.da.len⟩, h.db.send i rfl rfl, h.la, by show (s.sb ++ [i]).length < 900; simp; omega⟩, by show s.sa.length ≤ _; omega, by show (s.sb ++ [i]).length ≤ _; simp, rfl, rfl, rfl, rfl⟩
/-- a law's line and its dice -/
structure Lw (CE CM : Addr) (H : Hp) (d : Addr) (x : LnAd) (s : LnS) : Prop where
  D : DiceAt H d
  M : LineAt CE CM (d :: x.all) H x s
  nd : d ∉ x.every
section
variable {CE CM : Addr} {H H' : Hp} {d : Addr} {x : LnAd} {s s' : LnS}
theorem Lw.al (h : Lw CE CM H d x s) : Alloc (d :: x.all) H := fun z hz => by
  rcases List.mem_cons.mp hz with rfl | hz
  · obtain ⟨ns, e, _⟩ := h.D
    exact ⟨_, e⟩
  · exact h.M.there z (x.sub_all z hz)
theorem Lw.ndx (h : Lw CE CM H d x s) : d ∉ x.all := fun z => h.nd (x.sub_all _ z)
theorem Lw.sub (_ : Lw CE CM H d x s) : ∀ z ∈ x.all, z ∈ d :: x.all := fun z hz => List.mem_cons_of_mem _ hz
theorem Lw.same (h : Lw CE CM H d x s) (e : Same H H') : Lw CE CM H' d x s := ⟨h.D.same e, h.M.same e, h.nd⟩
theorem Lw.step (h : Lw CE CM H d x s) (M : LineAt CE CM (d :: x.all) H' x s') (f : Frm x.all H H') : Lw CE CM H' d x s' := ⟨h.D.frm f h.ndx, M, h.nd⟩
theorem Lw.dice (h : Lw CE CM H d x s) (D : DiceAt H' d) (f : Frm [d] H H') : Lw CE CM H' d x s := ⟨D, h.M.frm f (fun y hy => by simp at hy; simp [hy]) (fun y hy z => by simp at z; subst z; exact h.nd hy), h.nd⟩
theorem Lw.new (h : Lw CE CM H d x s) {l : Addr} (n : H l = none) : l ≠ d ∧ l ∉ x.every := ⟨h.D.ne_new n, h.M.ne_new n⟩
/-- something else that is new is written -/
theorem Lw.own (h : Lw CE CM H d x s) {l : Addr} {xs : List V} {o : HO} {H0 : Hp} {S : List Addr} (_ : H0 l = none) (h1 : Lw CE CM H' d x s') (e : H' l = some (.lst xs)) (hl : l ∉ d :: x.every) (f : Frm S H0 H') (hm : LineAt CE CM (l :: d :: x.all) H' x s') : Lw CE CM (upd H' l o) d x s' := by
  have hne : l ≠ d := fun z => hl (by simp [z])
  have hnx : l ∉ x.every := fun z => hl (by simp [z])
  exact ⟨h1.D.upd_ne (Ne.symm hne), (hm.frm (Frm.updL e) (fun y hy => by simp at hy; simp [hy]) (fun y hy z => by simp at z; subst z; exact hnx hy)).more fun y hy => .inl (List.mem_cons_of_mem _ hy), h1.nd⟩
end
theorem lv_slow {e : EndS} (h : EndOk e) : lv 4 (.tuple [.int 0, slowD (slowOf (refreshF e))]) := by
  have h' := h.refresh
  have hm : lv 2 (mindD ((refreshF e).can, (refreshF e).bad)) := lv_mind h'.can.2.2.2 (Nat.le_trans h'.bad (by decide)) 0
  refine ⟨by show 2 ≤ 100000; decide, fun d hd => ?_⟩
  rcases List.mem_cons.mp hd with rfl | hd
  · trivial
  · rw [List.mem_singleton] at hd
    subst hd
    refine ⟨by show 3 ≤ 100000; decide, fun d hd => ?_⟩
    rcases List.mem_cons.mp hd with rfl | hd
    · trivial
    · rcases List.mem_cons.mp hd with rfl | hd
      · exact hm
      · rw [List.mem_singleton] at hd
        subst hd
        trivial
theorem lv_fast (n : Int) (l : FastL) : lv 4 (.tuple [.int n, fastD l]) := by
  obtain ⟨a, o, b⟩ := l
  refine ⟨by show 2 ≤ 100000; decide, fun d hd => ?_⟩
  rcases List.mem_cons.mp hd with rfl | hd
  · trivial
  · rw [List.mem_singleton] at hd
    subst hd
    refine ⟨by show 3 ≤ 100000; decide, fun d hd => ?_⟩
    rcases List.mem_cons.mp hd with rfl | hd
    · trivial
    · rcases List.mem_cons.mp hd with rfl | hd
      · cases o <;> trivial
      · rw [List.mem_singleton] at hd
        subst hd
        trivial
theorem lv_two {n : Nat} {a b : PyData} (ha : lv n a) (hb : lv n b) : lv (n + 1) (.list [a, b]) := by
  refine ⟨by show 2 ≤ 100000; decide, fun d hd => ?_⟩
  rcases List.mem_cons.mp hd with rfl | hd
  · exact ha
  · rw [List.mem_singleton] at hd
    subst hd
    exact hb
/-! ### what passes, what is lost -/
def PassAt (S : List Addr) (H : Hp) (pl : Addr) (p : Pass) : Prop := ∃ a0 a1, H pl = some (.lst [.ref a0, .ref a1]) ∧ H a0 = some (.lst (p.1.map V.int)) ∧ H a1 = some (.lst (p.2.map V.int)) ∧ pl ∉ S ∧ a0 ∉ S ∧ a1 ∉ S
def LostAt (S : List Addr) (H : Hp) (L : Addr) (l : Lost) : Prop := ∃ c0 c1, H L = some (.lst [.ref c0, .ref c1]) ∧ H c0 = some (.lst [.bl l.1.1, .bl l.1.2]) ∧ H c1 = some (.lst [.bl l.2.1, .bl l.2.2]) ∧ L ∉ S ∧ c0 ∉ S ∧ c1 ∉ S
theorem PassAt.frm {S : List Addr} {H H' : Hp} {pl : Addr} {p : Pass} (h : PassAt S H pl p) (f : Frm S H H') : PassAt S H' pl p := by
  obtain ⟨a0, a1, h1, h2, h3, n1, n2, n3⟩ := h
  exact ⟨a0, a1, f _ _ h1 n1, f _ _ h2 n2, f _ _ h3 n3, n1, n2, n3⟩
theorem PassAt.sub {S S' : List Addr} {H : Hp} {pl : Addr} {p : Pass} (h : PassAt S H pl p) (hs : ∀ x ∈ S', x ∈ S) : PassAt S' H pl p := by
  obtain ⟨a0, a1, h1, h2, h3, n1, n2, n3⟩ := h
  exact ⟨a0, a1, h1, h2, h3, fun z => n1 (hs _ z), fun z => n2 (hs _ z), fun z => n3 (hs _ z)⟩
theorem LostAt.frm {S : List Addr} {H H' : Hp} {pl : Addr} {p : Lost} (h : LostAt S H pl p) (f : Frm S H H') : LostAt S H' pl p := by
  obtain ⟨a0, a1, h1, h2, h3, n1, n2, n3⟩ := h
  exact ⟨a0, a1, f _ _ h1 n1, f _ _ h2 n2, f _ _ h3 n3, n1, n2, n3⟩
theorem LostAt.sub {S S' : List Addr} {H : Hp} {pl : Addr} {p : Lost} (h : LostAt S H pl p) (hs : ∀ x ∈ S', x ∈ S) : LostAt S' H pl p := by
  obtain ⟨a0, a1, h1, h2, h3, n1, n2, n3⟩ := h
  exact ⟨a0, a1, h1, h2, h3, fun z => n1 (hs _ z), fun z => n2 (hs _ z), fun z => n3 (hs _ z)⟩
end TL

namespace TL
open PySem PySem.Spec PyProof.Rows L2
/-! ### what a frame adds to the log -/
theorem frame_over (p : Pass) (l : Lost) (s : LnS) : (frameF p l s).a.over = s.a.over + 1 := by
  show (hearF1 _ _).over = _
  rw [(fast_parts _ _).2.1]
  show (hearF0 _ _).over + 1 = _
  rw [(slow_parts _ _).2.2.1]
theorem frame_log (p : Pass) (l : Lost) (s : LnS) : (frameF p l s).log = s.log ++ [rowF p l (halfF p l s)] := rfl
theorem row_ok {s : LnS} (h : LnOk 0 s) (p : Pass) (l : Lost) : okRow (rowF p l (halfF p l s)) := by
  have h1 : LnOk 1 (halfF p l s) := h.half _ _
  exact ⟨⟨h1.ea.n0, h1.ea.n9⟩, h1.eb.n0, h1.eb.n9⟩
theorem row_good {s : LnS} (h : LnOk 0 s) (p : Pass) (l : Lost) : goodRow s.ca s.cb (rowF p l (halfF p l s)) = true := by
  have h1 : LnOk 1 (halfF p l s) := h.half _ _
  have na := h1.na
  have nb := h1.nb
  have ea : (rowF p l (halfF p l s)).1 = (halfF p l s).a.now := rfl
  have eb : (rowF p l (halfF p l s)).2.2.1 = (halfF p l s).b.now := rfl
  have e1 : unl s.ca s.cb (rowF p l (halfF p l s)).1 = false := by
    unfold unl
    rw [ea, decide_eq_true (show (halfF p l s).a.now ∈ s.ca from na.1), decide_eq_true (show (halfF p l s).a.now ∈ s.cb from na.2)]
    rfl
  have e2 : unl s.ca s.cb (rowF p l (halfF p l s)).2.2.1 = false := by
    unfold unl
    rw [eb, decide_eq_true (show (halfF p l s).b.now ∈ s.ca from nb.1), decide_eq_true (show (halfF p l s).b.now ∈ s.cb from nb.2)]
    rfl
  unfold goodRow
  rw [e1, e2, ea, eb]
  by_cases q : (halfF p l s).a.now = (halfF p l s).b.now
  · rw [decide_eq_true q]; simp
  · show (!false && (!false && !((jo _ _ _ _ || jo _ _ _ _) && _))) = true
    unfold jo
    rw [decide_eq_false q]
    rfl
def LogOk (s : LnS) : Prop := ∀ r ∈ s.log, okRow r ∧ goodRow s.ca s.cb r = true
theorem LogOk.frame {s : LnS} (h : LogOk s) (ok : LnOk 0 s) (p : Pass) (l : Lost) : LogOk (frameF p l s) := fun r hr => by
  rw [frame_log] at hr
  rcases List.mem_append.mp hr with q | q
  · exact h r q
  · rw [List.mem_singleton] at q
    subst q
    exact ⟨row_ok ok p l, row_good ok p l⟩
theorem LogOk.sends {s s' : LnS} {k : Int} (h : LogOk s) (hs : Sends s k s') : LogOk s' := by
  unfold Sends at hs
  split at hs
  · rcases hs with ⟨_, rfl⟩ | ⟨_, i, _, _, rfl⟩ <;> exact h
  · rcases hs with ⟨_, rfl⟩ | ⟨_, i, _, _, rfl⟩ <;> exact h
theorem at_last {H : Hp} {xs : List V} {rs : List Row} {r : Row} (hA : ImAll H xs ((rs ++ [r]).map rowD)) : ∃ t, atI xs (-1) = some (.ref t) ∧ H t = some (.tup (rowV r)) := by
  obtain ⟨t, ht, htr⟩ := rows_get (i := rs.length) (r := r) hA (by rw [List.getElem?_append_right (Nat.le_refl _), Nat.sub_self]; rfl)
  have hxl := rows_len hA
  rw [List.length_append, List.length_singleton] at hxl
  refine ⟨t, ?_, htr⟩
  unfold atI ixN
  rw [hxl, if_neg (by decide), if_pos (by omega)]
  show xs[((-1 : Int) + ((rs.length + 1 : Nat) : Int)).toNat]? = _
  rw [show ((-1 : Int) + ((rs.length + 1 : Nat) : Int)).toNat = rs.length by omega]
  exact ht
theorem cut300 (xs : List V) : cutV xs (some (-300)) none = xs.drop (xs.length - 300) := by
  unfold cutV
  have e1 : HT.sIx xs.length 0 (some (-300)) = xs.length - 300 := by
    show (if (-300 : Int) < 0 then ((-300 : Int) + (xs.length : Nat)).toNat else min (-300 : Int).toNat xs.length) = _
    rw [if_pos (by decide)]
    omega
  rw [e1, HT.sIx_none]
  apply List.take_of_length_le
  rw [List.length_drop]
  omega
theorem deafA {s : LnS} {p : Pass} {l : Lost} (h1 : l.1.1 = true) (h2 : l.2.1 = true) : (frameF p l s).a.got = s.a.got ∧ (frameF p l s).a.oth = s.a.oth ∧ (rowF p l (halfF p l s)).2.1 = false ∧ (s.a.oth = none → (rowF p l (halfF p l s)).1 = 0) := by
  have j : ∀ na nb m, jo na nb m true = false := fun na nb m => by simp [jo]
  have e1 : (halfF p l s).a = hearF0 (refreshF s.a) none := by
    show hearF0 (refreshF s.a) (when (jo 0 0 p.1 l.1.1) (slowOf (refreshF s.b))) = _
    rw [h1, j]
    rfl
  have e2 : (frameF p l s).a = hearF1 (halfF p l s).a none := by
    show hearF1 (halfF p l s).a (when (jo (halfF p l s).a.now (halfF p l s).b.now p.1 l.2.1) (fastOf (halfF p l s).b)) = _
    rw [h2, j]
    rfl
  obtain ⟨a1, a2, a3, a4, a5, a6, a7, a8, a9⟩ := slow_parts s.a none
  obtain ⟨b1, b2, b3, b4, b5, b6, b7, b8, b9, _⟩ := fast_parts (halfF p l s).a none
  refine ⟨?_, ?_, ?_, fun hn => ?_⟩
  · rw [e2, b7, e1]; exact a7
  · rw [e2, b4, e1]; exact a8
  · show jo _ _ p.1 l.2.1 = false
    rw [h2, j]
  · show (halfF p l s).a.now = 0
    rw [e1, slow_now, a8]
    show (match s.a.oth with | none => (0 : Int) | some m => _) = 0
    rw [hn]
theorem deafB {s : LnS} {p : Pass} {l : Lost} (h1 : l.1.2 = true) (h2 : l.2.2 = true) : (frameF p l s).b.got = s.b.got ∧ (frameF p l s).b.oth = s.b.oth ∧ (rowF p l (halfF p l s)).2.2.2 = false ∧ (s.b.oth = none → (rowF p l (halfF p l s)).2.2.1 = 0) := by
  have j : ∀ na nb m, jo na nb m true = false := fun na nb m => by simp [jo]
  have e1 : (halfF p l s).b = hearF0 (refreshF s.b) none := by
    show hearF0 (refreshF s.b) (when (jo 0 0 p.2 l.1.2) (slowOf (refreshF s.a))) = _
    rw [h1, j]
    rfl
  have e2 : (frameF p l s).b = hearF1 (halfF p l s).b none := by
    show hearF1 (halfF p l s).b (when (jo (halfF p l s).a.now (halfF p l s).b.now p.2 l.2.2) (fastOf (halfF p l s).a)) = _
    rw [h2, j]
    rfl
  obtain ⟨a1, a2, a3, a4, a5, a6, a7, a8, a9⟩ := slow_parts s.b none
  obtain ⟨b1, b2, b3, b4, b5, b6, b7, b8, b9, _⟩ := fast_parts (halfF p l s).b none
  refine ⟨?_, ?_, ?_, fun hn => ?_⟩
  · rw [e2, b7, e1]; exact a7
  · rw [e2, b4, e1]; exact a8
  · show jo _ _ p.2 l.2.2 = false
    rw [h2, j]
  · show (halfF p l s).b.now = 0
    rw [e1, slow_now, a8]
    show (match s.b.oth with | none => (0 : Int) | some m => _) = 0
    rw [hn]
theorem im_nb {H : Hp} {t : Addr} {n : Int} {b : Bool} (h : H t = some (.tup [.int n, .bl b])) : Im H (.ref t) (.tuple [.int n, .bool b]) := .tup h (.cons (.int _) (.cons (.bl _) .nil))
theorem lv_nb (n : Int) (b : Bool) : lv 1 (.tuple [.int n, .bool b]) := ⟨by show 2 ≤ 100000; decide, fun d hd => by
  rcases List.mem_cons.mp hd with rfl | hd
  · trivial
  · rw [List.mem_singleton] at hd
    subst hd
    trivial⟩
theorem frame_got (p : Pass) (l : Lost) (s : LnS) : s.a.got.length ≤ (frameF p l s).a.got.length ∧ s.b.got.length ≤ (frameF p l s).b.got.length := by
  have g : ∀ (c : List Int) (o : Option FastL), c.length ≤ (gotF c o).length := fun c o => by
    cases o with
    | none => exact Nat.le_refl _
    | some m =>
      unfold gotF
      simp only
      split
      · exact Nat.le_refl _
      · split
        · simp
        · exact Nat.le_refl _
  constructor
  · show _ ≤ (hearF1 _ _).got.length
    rw [(fast_parts _ _).2.2.2.2.2.2.1]
    refine Nat.le_trans ?_ (g _ _)
    show _ ≤ (hearF0 _ _).got.length
    rw [(slow_parts _ _).2.2.2.2.2.2.1]
    exact Nat.le_refl _
  · show _ ≤ (hearF1 _ _).got.length
    rw [(fast_parts _ _).2.2.2.2.2.2.1]
    refine Nat.le_trans ?_ (g _ _)
    show _ ≤ (hearF0 _ _).got.length
    rw [(slow_parts _ _).2.2.2.2.2.2.1]
    exact Nat.le_refl _
theorem sends_got {s s' : LnS} {k : Int} (hs : Sends s k s') : s'.a.got = s.a.got ∧ s'.b.got = s.b.got := by
  unfold Sends at hs
  split at hs
  · rcases hs with ⟨_, rfl⟩ | ⟨_, i, _, _, rfl⟩ <;> exact ⟨rfl, rfl⟩
  · rcases hs with ⟨_, rfl⟩ | ⟨_, i, _, _, rfl⟩ <;> exact ⟨rfl, rfl⟩
/-- a law's line, its dice, and lists E of the law's own, which it writes -/
structure Lz (CE CM : Addr) (E : List Addr) (H : Hp) (d : Addr) (x : LnAd) (s : LnS) : Prop where
  D : DiceAt H d
  M : LineAt CE CM (E ++ d :: x.all) H x s
  nd : d ∉ x.every
  ne : ∀ e ∈ E, e ≠ d ∧ e ∉ x.every
  ae : Alloc E H
section
variable {CE CM : Addr} {E : List Addr} {H H' : Hp} {d : Addr} {x : LnAd} {s s' : LnS}
theorem Lz.al (h : Lz CE CM E H d x s) : Alloc (E ++ d :: x.all) H := h.ae.app fun z hz => by
  rcases List.mem_cons.mp hz with rfl | hz
  · obtain ⟨ns, e, _⟩ := h.D
    exact ⟨_, e⟩
  · exact h.M.there z (x.sub_all z hz)
theorem Lz.sub (_ : Lz CE CM E H d x s) : ∀ z ∈ x.all, z ∈ E ++ d :: x.all := fun z hz => List.mem_append_right _ (List.mem_cons_of_mem _ hz)
theorem Lz.out (h : Lz CE CM E H d x s) {l : Addr} (n : H l = none) : l ∉ E ++ d :: x.all := h.al.not n
theorem Lz.ndx (h : Lz CE CM E H d x s) : d ∉ x.all := fun z => h.nd (x.sub_all _ z)
theorem Lz.same (h : Lz CE CM E H d x s) (e : Same H H') : Lz CE CM E H' d x s := ⟨h.D.same e, h.M.same e, h.nd, h.ne, h.ae.frm (Frm.of_same (S := []) e)⟩
theorem Lz.step (h : Lz CE CM E H d x s) (M : LineAt CE CM (E ++ d :: x.all) H' x s') (f : Frm x.all H H') : Lz CE CM E H' d x s' := ⟨h.D.frm f h.ndx, M, h.nd, h.ne, h.ae.frm f⟩
theorem Lz.dice (h : Lz CE CM E H d x s) (D : DiceAt H' d) (f : Frm [d] H H') : Lz CE CM E H' d x s :=
  ⟨D, h.M.frm f (fun y hy => by simp at hy; simp [hy]) (fun y hy z => by simp at z; subst z; exact h.nd hy), h.nd, h.ne, h.ae.frm f⟩
theorem Lz.own (h : Lz CE CM E H d x s) {e : Addr} (he : e ∈ E) (f : Frm [e] H H') : Lz CE CM E H' d x s :=
  ⟨h.D.frm f (by simpa using Ne.symm (h.ne e he).1), h.M.frm f (fun y hy => by simp at hy; simp [hy, he]) (fun y hy z => by simp at z; subst z; exact (h.ne _ he).2 hy), h.nd, h.ne, h.ae.frm f⟩
/-- a place that is new is the law's own, too -/
theorem Lz.new (h : Lz CE CM E H d x s) {l : Addr} (n : H l = none) (o : HO) : Lz CE CM (l :: E) (upd H l o) d x s := by
  have sm : Same H (upd H l o) := Same.upd_new n
  refine ⟨h.D.same sm, (h.M.more fun y hy => ?_).same sm, h.nd, fun e he => ?_, fun z hz => ?_⟩
  · rcases List.mem_cons.mp hy with rfl | hy
    · exact .inr fun bs z => by rw [n] at z; cases z
    · exact .inl hy
  · rcases List.mem_cons.mp he with rfl | he
    · exact ⟨h.D.ne_new n, h.M.ne_new n⟩
    · exact h.ne e he
  · rcases List.mem_cons.mp hz with rfl | hz
    · exact ⟨_, upd_same⟩
    · exact h.ae.frm (Frm.of_same (S := []) sm) z hz
theorem Lz.less {E' : List Addr} (h : Lz CE CM E H d x s) (hs : ∀ z ∈ E', z ∈ E) : Lz CE CM E' H d x s := ⟨h.D, h.M.more fun y hy => .inl (by
  rcases List.mem_append.mp hy with q | q
  · exact List.mem_append_left _ (hs y q)
  · exact List.mem_append_right _ q), h.nd, fun e he => h.ne e (hs e he), fun z hz => h.ae z (hs z hz)⟩
theorem Lw.z (h : Lw CE CM H d x s) : Lz CE CM [] H d x s := ⟨h.D, h.M, h.nd, by simp, fun z hz => by simp at hz⟩
theorem Lz.w (h : Lz CE CM [] H d x s) : Lw CE CM H d x s := ⟨h.D, h.M, h.nd⟩
theorem Lz.ow (h : Lz CE CM E H d x s) : Lw CE CM H d x s := (h.less (E' := []) (by simp)).w
theorem Lz.frmD (_ : Lz CE CM E H d x s) {H0 H1 : Hp} (f : Frm [d] H0 H1) : Frm (E ++ d :: x.all) H0 H1 := f.mono (by simp)
theorem Lz.frmX (_ : Lz CE CM E H d x s) {H0 H1 : Hp} (f : Frm x.all H0 H1) : Frm (E ++ d :: x.all) H0 H1 := f.mono fun y hy => by simp [hy]
end
theorem lv_ints {ns : List Int} (h : ns.length ≤ 100000) : lv 1 (.list (ns.map .int)) := ⟨by rw [List.length_map]; exact h, fun d hd => by
  obtain ⟨i, _, rfl⟩ := List.mem_map.mp hd
  trivial⟩
/-- what is known of the items of an end -/
theorem Del.facts {e : EndS} {sent g : List Int} (h : Del e sent g) (hw : e.wait.length ≤ 20) : g = sent.take g.length ∧ e.wait.length ≤ sent.length ∧ sent.length - e.wait.length ≤ g.length ∧ sent.length - e.wait.length + 20 ≥ sent.length := by
  obtain ⟨n, h1, h2, h3, h4⟩ := h.n
  have hl := h.len
  have e1 : e.wait.length = sent.length - n := by rw [h4, List.length_drop]
  exact ⟨h.pre, by omega, by omega, by omega⟩
theorem cutTo {ns : List Int} {g : Nat} (h : g ≤ ns.length) : cutV (ns.map V.int) none (some (g : Int)) = (ns.take g).map V.int := by
  unfold cutV
  rw [HT.sIx_none, HT.sIx_nat, List.length_map, Nat.min_eq_left h, List.drop_zero, Nat.sub_zero, List.map_take]
theorem sends_0 {s s' : LnS} (hs : Sends s 0 s') : s'.sb = s.sb := by
  unfold Sends at hs
  rw [if_pos rfl] at hs
  rcases hs with ⟨_, rfl⟩ | ⟨_, i, _, _, rfl⟩ <;> rfl
theorem sends_1 {s s' : LnS} (hs : Sends s 1 s') : s'.sa = s.sa := by
  unfold Sends at hs
  rw [if_neg (by decide)] at hs
  rcases hs with ⟨_, rfl⟩ | ⟨_, i, _, _, rfl⟩ <;> rfl
/-- a loop over a list of two -/
theorem for_twoL {K : PySem.W.Frag} {a : Addr} {v0 v1 : V} {g : TG} {tb : TS} {D : Ends} {σ : L2.St} {H : Hp} (P0 P1 P2 : L2.St → Hp → Prop) (h0 : P0 σ H) (l0 : ∀ σ H, P0 σ H → SqL K H a [v0, v1]) (l1 : ∀ σ H, P1 σ H → SqL K H a [v0, v1]) (l2 : ∀ σ H, P2 σ H → SqL K H a [v0, v1])
    (s0 : ∀ σ H, P0 σ H → g v0 σ H fun σ2 H2 => tb { D with nx := P1, ct := P1, bk := D.nx } σ2 H2)
    (s1 : ∀ σ H, P1 σ H → g v1 σ H fun σ2 H2 => tb { D with nx := P2, ct := P2, bk := D.nx } σ2 H2)
    (hd : ∀ σ H, P2 σ H → D.nx σ H) : ForW (Itl K a) g tb D σ H := by
  refine for_list (K := K) (a := a) (xs := [v0, v1]) (fun i σ H => match i with | 0 => P0 σ H | 1 => P1 σ H | _ => P2 σ H) h0 ?_ ?_ hd
  · intro i σ H hi p
    match i, p with
    | 0, p => exact l0 σ H p
    | 1, p => exact l1 σ H p
    | _ + 2, p => exact l2 σ H p
  · intro i x σ H hx p
    match i, hx, p with
    | 0, hx, p =>
      have e : v0 = x := Option.some.inj hx
      subst e
      exact s0 σ H p
    | 1, hx, p =>
      have e : v1 = x := Option.some.inj hx
      subst e
      exact s1 σ H p
    | n + 2, hx, p => simp at hx
/-- a loop over zip(a, b), lists of two -/
theorem for_zip2 {K : PySem.W.Frag} {a b : Addr} {x0 x1 y0 y1 : V} {g : TG} {tb : TS} {D : Ends} {σ : L2.St} {H : Hp} (P : L2.St → Hp → Prop) (h0 : P σ H) (hl : ∀ σ H, P σ H → SqL K H a [x0, x1] ∧ SqL K H b [y0, y1])
    (hs : ∀ σ H T x y, P σ H → H T = none → (x = x0 ∧ y = y0) ∨ (x = x1 ∧ y = y1) → g (.ref T) σ (upd H T (.tup [x, y])) fun σ2 H2 => tb { D with nx := P, ct := P, bk := D.nx } σ2 H2)
    (hd : ∀ σ H, P σ H → D.nx σ H) : ForW (Itz K a b) g tb D σ H := by
  refine ⟨fun i m σ H => m = 2 - i ∧ i ≤ 2 ∧ P σ H, ⟨2, rfl, by omega, h0⟩, fun i m σ H hw => ?_⟩
  obtain ⟨rfl, hi, p⟩ := hw
  obtain ⟨qa, qb⟩ := hl σ H p
  by_cases h2 : i = 2
  · subst h2
    exact .inl ⟨⟨_, _, qa, qb, .inl (Nat.le_refl 2)⟩, hd σ H p⟩
  · refine .inr ⟨?_, P, fun σ' H' p' => ⟨2 - (i + 1), by omega, rfl, by omega, p'⟩, fun v H' y => ?_⟩
    · have : i = 0 ∨ i = 1 := by omega
      rcases this with rfl | rfl
      · exact ⟨_, _, x0, y0, qa, qb, rfl, rfl⟩
      · exact ⟨_, _, x1, y1, qa, qb, rfl, rfl⟩
    · obtain ⟨T, x, y, rfl, hT, rfl, hx, hy⟩ := y
      refine hs σ H T x y p hT ?_
      have hx := hx _ qa
      have hy := hy _ qb
      have : i = 0 ∨ i = 1 := by omega
      rcases this with rfl | rfl
      · exact .inl ⟨(Option.some.inj hx).symm, (Option.some.inj hy).symm⟩
      · exact .inr ⟨(Option.some.inj hx).symm, (Option.some.inj hy).symm⟩
theorem at_last_int (ns : List Int) (i : Int) : atI ((ns ++ [i]).map V.int) (-1) = some (.int i) := by
  unfold atI ixN
  rw [List.length_map, List.length_append, List.length_singleton, if_neg (by decide), if_pos (by omega)]
  show ((ns ++ [i]).map V.int)[((-1 : Int) + ((ns.length + 1 : Nat) : Int)).toNat]? = _
  rw [show ((-1 : Int) + ((ns.length + 1 : Nat) : Int)).toNat = ns.length by omega]
  rw [List.map_append, List.getElem?_append_right (by rw [List.length_map]; exact Nat.le_refl _), List.length_map, Nat.sub_self]
  rfl
theorem LineAt.ini {CE CM : Addr} {H H' : Hp} {x : LnAd} {s : LnS} {p : Addr} (h : ∀ Z, LineAt CE CM Z H x s) (f : Frm [p] H H') (n : p ∉ x.every) : ∀ Z, LineAt CE CM Z H' x s := fun Z =>
  ((h (p :: Z)).frm f (fun x hx => by simp at hx; simp [hx]) (fun x hx z => by simp at z; subst z; exact n hx)).more fun x hx => .inl (by simp [hx])
theorem PassAt.fresh {Z : List Addr} {H H' : Hp} {pl a0 a1 : Addr} {p : Pass} (al : Alloc Z H) (hpn : H pl = none) (ha0n : H a0 = none) (ha1n : H a1 = none) (hpl : H' pl = some (.lst [.ref a0, .ref a1])) (ha0 : H' a0 = some (.lst (p.1.map V.int))) (ha1 : H' a1 = some (.lst (p.2.map V.int))) : PassAt Z H' pl p :=
  ⟨a0, a1, hpl, ha0, ha1, al.not hpn, al.not ha0n, al.not ha1n⟩
theorem LostAt.fresh {Z : List Addr} {H H' : Hp} {L c0 c1 : Addr} {l : Lost} (al : Alloc Z H) (hpn : H L = none) (ha0n : H c0 = none) (ha1n : H c1 = none) (e1 : H' L = some (.lst [.ref c0, .ref c1])) (e2 : H' c0 = some (.lst [.bl l.1.1, .bl l.1.2])) (e3 : H' c1 = some (.lst [.bl l.2.1, .bl l.2.2])) : LostAt Z H' L l :=
  ⟨c0, c1, e1, e2, e3, al.not hpn, al.not ha0n, al.not ha1n⟩
theorem PassAt.frmZ {Z S : List Addr} {H H' : Hp} {pl : Addr} {p : Pass} (h : PassAt Z H pl p) (f : Frm S H H') (hS : ∀ z ∈ S, z ∈ Z) : PassAt Z H' pl p := h.frm (f.mono hS)
theorem LostAt.frmZ {Z S : List Addr} {H H' : Hp} {pl : Addr} {p : Lost} (h : LostAt Z H pl p) (f : Frm S H H') (hS : ∀ z ∈ S, z ∈ Z) : LostAt Z H' pl p := h.frm (f.mono hS)
theorem nd_app {L M : List Addr} (h : (L ++ M).Nodup) : L.Nodup ∧ M.Nodup ∧ ∀ y ∈ L, y ∉ M := by
  rw [List.nodup_append] at h
  exact ⟨h.1, h.2.1, fun y hy z => h.2.2 y hy y z rfl⟩
theorem Lw.out {CE CM : Addr} {H : Hp} {d : Addr} {x : LnAd} {s : LnS} (W : Lw CE CM H d x s) {l : Addr} (h : H l = none) : l ∉ d :: x.all := fun z => by
  rcases List.mem_cons.mp z with rfl | z
  · exact (W.new h).1 rfl
  · exact (W.new h).2 (x.sub_all _ z)
end TL

namespace TL
open PySem PySem.Spec PyProof.Rows L2
/-! ### a line of the program: the mirror -/
structure PlS extends LnS where
  ps : Pass
  ls : Lost
def lno : Lost := ((false, false), (false, false))
def ten10 : List Int := [0, 1, 2, 3, 4, 5, 6, 7, 8, 9]
theorem can_ten : Can ten10 := by unfold Can; decide
def PlS.new (ca cb : List Int) : PlS := { LnS.new ca cb with ps := (ten10, ten10), ls := lno }
def halfP (s : PlS) : PlS := { s with toLnS := halfF s.ps s.ls s.toLnS }
def fastP (s : PlS) : PlS := { s with toLnS := fastG (jo s.a.now s.b.now s.ps.1 s.ls.2.1) (jo s.a.now s.b.now s.ps.2 s.ls.2.2) s.toLnS }
def frameP (s : PlS) : PlS := { s with toLnS := frameF s.ps s.ls s.toLnS, ls := lno }
/-- the letters that are lost, as a dict -/
def lkey (p e : Int) : List Key := [.inl p, .inl e]
def bitL (l : Lost) (p e : Int) : Bool := if p = 0 then (if e = 0 then l.1.1 else l.1.2) else (if e = 0 then l.2.1 else l.2.2)
def setL (l : Lost) (p e : Int) : Lost :=
  if p = 0 then (if e = 0 then ((true, l.1.2), l.2) else ((l.1.1, true), l.2)) else (if e = 0 then (l.1, (true, l.2.2)) else (l.1, (l.2.1, true)))
structure LostD (kvs : List (List Key × V)) (l : Lost) : Prop where
  b : ∀ p e : Int, (p = 0 ∨ p = 1) → (e = 0 ∨ e = 1) → (valV kvs (lkey p e)).isSome = bitL l p e
  n : kvs.length = l.1.1.toNat + l.1.2.toNat + l.2.1.toNat + l.2.2.toNat
theorem LostD.nil : LostD [] lno := ⟨fun p e hp he => by
  rcases hp with rfl | rfl <;> rcases he with rfl | rfl <;> rfl, rfl⟩
theorem LostD.small {kvs : List (List Key × V)} {l : Lost} (h : LostD kvs l) : kvs.length ≤ 4 := by
  obtain ⟨⟨a, b⟩, c, d⟩ := l
  rw [h.n]
  cases a <;> cases b <;> cases c <;> cases d <;> decide
theorem any_val : ∀ {kvs : List (List Key × V)} {k : List Key}, (kvs.any fun kv => decide (kv.1 = k)) = (valV kvs k).isSome
  | [], _ => rfl
  | kv :: r, k => by
    have ih := any_val (kvs := r) (k := k)
    unfold valV at ih ⊢
    rw [Option.isSome_map] at ih ⊢
    rw [List.any_cons, List.find?_cons, ih]
    cases decide (kv.1 = k) <;> rfl
theorem find_map {kvs : List (List Key × V)} {k k' : List Key} {v : V} : (((kvs.map fun kv => if kv.1 = k then (kv.1, v) else kv).find? fun kv => decide (kv.1 = k'))).isSome = (kvs.find? fun kv => decide (kv.1 = k')).isSome := by
  induction kvs with
  | nil => rfl
  | cons kv r ih =>
    rw [List.map_cons, List.find?_cons, List.find?_cons]
    have e : (if kv.1 = k then (kv.1, v) else kv).1 = kv.1 := by split <;> rfl
    rw [e]
    cases decide (kv.1 = k') with
    | true => rfl
    | false => exact ih
theorem put_isSome {kvs : List (List Key × V)} {k k' : List Key} {v : V} : (valV (putK kvs k v) k').isSome = ((valV kvs k').isSome || decide (k = k')) := by
  unfold putK
  by_cases h : (kvs.any fun kv => decide (kv.1 = k)) = true
  · rw [if_pos h]
    have e1 : (valV (kvs.map fun kv => if kv.1 = k then (kv.1, v) else kv) k').isSome = (valV kvs k').isSome := by
      unfold valV
      rw [Option.isSome_map, Option.isSome_map]
      exact find_map
    rw [e1]
    by_cases q : k = k'
    · subst q
      rw [← any_val, h]
      rfl
    · rw [decide_eq_false q, Bool.or_false]
  · rw [if_neg h]
    rw [← any_val, ← any_val, List.any_append]
    simp
theorem put_len {kvs : List (List Key × V)} {k : List Key} {v : V} : (putK kvs k v).length = if (valV kvs k).isSome = true then kvs.length else kvs.length + 1 := by
  unfold putK
  rw [any_val]
  split
  · rw [List.length_map]
  · rw [List.length_append]; rfl
theorem LostD.put {kvs : List (List Key × V)} {l : Lost} (h : LostD kvs l) {p e : Int} (hp : p = 0 ∨ p = 1) (he : e = 0 ∨ e = 1) {v : V} : LostD (putK kvs (lkey p e) v) (setL l p e) := by
  refine ⟨fun p' e' hp' he' => ?_, ?_⟩
  · rw [put_isSome, h.b p' e' hp' he']
    obtain ⟨⟨a, b⟩, c, d⟩ := l
    rcases hp with rfl | rfl <;> rcases he with rfl | rfl <;> rcases hp' with rfl | rfl <;> rcases he' with rfl | rfl <;> cases a <;> cases b <;> cases c <;> cases d <;> rfl
  · rw [put_len, h.b p e hp he, h.n]
    obtain ⟨⟨a, b⟩, c, d⟩ := l
    rcases hp with rfl | rfl <;> rcases he with rfl | rfl <;> cases a <;> cases b <;> cases c <;> cases d <;> rfl
/-! ### in the heap -/
structure LoAd where
  o : Addr
  es : Addr
  pg : Addr
  rw : Addr
  lo : Addr
  a : EAd
  b : EAd
def LoAd.base (x : LoAd) : List Addr := [x.o, x.es, x.pg, x.rw, x.lo]
def LoAd.every (x : LoAd) : List Addr := x.base ++ (x.a.every ++ x.b.every)
def LoAd.all (x : LoAd) : List Addr := [x.o, x.pg, x.rw, x.lo] ++ (x.a.all ++ x.b.all)
abbrev liN : List Str := ["ends", "passing", "lost", "rows"]
theorem liN_nd : liN.Nodup := by decide +kernel
def liV (x : LoAd) : List V := [.ref x.es, .ref x.pg, .ref x.lo, .ref x.rw]
structure LoAt (CL CE CM : Addr) (Z : List Addr) (H : Hp) (x : LoAd) (s : PlS) : Prop where
  ob : ∃ dx, H x.o = some (.ins CL dx (liN.zip (liV x)))
  es : H x.es = some (.lst [.ref x.a.e, .ref x.b.e])
  pg : ∃ p0 p1, H x.pg = some (.lst [.ref p0, .ref p1]) ∧ H p0 = some (.tup (s.ps.1.map V.int)) ∧ H p1 = some (.tup (s.ps.2.map V.int))
  lo : ∃ kvs, H x.lo = some (.dT kvs) ∧ LostD kvs s.ls
  rw : ∃ xs, H x.rw = some (.lst xs) ∧ ImAll H xs (s.log.map rowD)
  ea : EndAt CE CM Z H x.a s.a
  eb : EndAt CE CM Z H x.b s.b
  nd : x.every.Nodup
section
variable {CL CE CM : Addr} {Z S : List Addr} {H H' : Hp} {x : LoAd} {s : PlS}
theorem LoAd.dis (nd : x.every.Nodup) : x.base.Nodup ∧ (∀ y ∈ x.base, y ∉ x.a.every ∧ y ∉ x.b.every) ∧ ∀ y ∈ x.a.every, y ∉ x.b.every := by
  unfold LoAd.every at nd
  rw [List.nodup_append, List.nodup_append] at nd
  obtain ⟨h1, ⟨h2, h3, h4⟩, h5⟩ := nd
  exact ⟨h1, fun y hy => ⟨fun z => h5 y hy y (by simp [z]) rfl, fun z => h5 y hy y (by simp [z]) rfl⟩, fun y hy z => h4 y hy y z rfl⟩
theorem LoAd.sub_all (x : LoAd) : ∀ y ∈ x.all, y ∈ x.every := by
  intro y hy
  simp only [LoAd.all, List.mem_append] at hy
  simp only [LoAd.every, List.mem_append]
  rcases hy with h | h | h
  · left
    simp [LoAd.base] at h ⊢
    rcases h with h | h | h | h <;> simp [h]
  · exact .inr (.inl (x.a.all_every _ h))
  · exact .inr (.inr (x.b.all_every _ h))
theorem LoAd.a_all (x : LoAd) : ∀ y ∈ x.a.all, y ∈ x.all := fun y hy => by simp [LoAd.all, hy]
theorem LoAd.b_all (x : LoAd) : ∀ y ∈ x.b.all, y ∈ x.all := fun y hy => by simp [LoAd.all, hy]
theorem LoAt.frm (h : LoAt CL CE CM Z H x s) (e : Frm S H H') (hS : ∀ y ∈ S, y ∈ Z) (hd : ∀ y ∈ x.every, y ∉ S) : LoAt CL CE CM Z H' x s := by
  have b : ∀ y ∈ x.base, y ∉ S := fun y hy => hd y (by simp [LoAd.every, hy])
  obtain ⟨xs, h1, h2⟩ := h.rw
  obtain ⟨dx, h0⟩ := h.ob
  obtain ⟨p0, p1, h3, h4, h5⟩ := h.pg
  obtain ⟨kvs, h6, h7⟩ := h.lo
  exact ⟨⟨dx, e _ _ h0 (b _ (by simp [LoAd.base]))⟩, e _ _ h.es (b _ (by simp [LoAd.base])), ⟨p0, p1, e _ _ h3 (b _ (by simp [LoAd.base])), e.tups _ _ h4, e.tups _ _ h5⟩, ⟨kvs, e _ _ h6 (b _ (by simp [LoAd.base])), h7⟩, ⟨xs, e _ _ h1 (b _ (by simp [LoAd.base])), h2.frm e⟩,
    h.ea.frm e hS fun y hy => hd y (by simp [LoAd.every, hy]), h.eb.frm e hS fun y hy => hd y (by simp [LoAd.every, hy]), h.nd⟩
theorem LoAt.same (h : LoAt CL CE CM Z H x s) (e : Same H H') : LoAt CL CE CM Z H' x s := h.frm (S := []) (.of_same e) (by simp) (by simp)
theorem LoAt.more {Z' : List Addr} (h : LoAt CL CE CM Z H x s) (hz : ∀ y ∈ Z', y ∈ Z ∨ ∀ bs, H y ≠ some (.lst bs)) : LoAt CL CE CM Z' H x s :=
  ⟨h.ob, h.es, h.pg, h.lo, h.rw, h.ea.more hz, h.eb.more hz, h.nd⟩
theorem LoAt.there (h : LoAt CL CE CM Z H x s) : ∀ y ∈ x.every, ∃ o, H y = some o := by
  intro y hy
  simp only [LoAd.every, List.mem_append] at hy
  rcases hy with hy | hy | hy
  · obtain ⟨xs, h1, h2⟩ := h.rw
    obtain ⟨dx, h0⟩ := h.ob
    obtain ⟨p0, p1, h3, _⟩ := h.pg
    obtain ⟨kvs, h6, _⟩ := h.lo
    simp [LoAd.base] at hy
    rcases hy with rfl | rfl | rfl | rfl | rfl
    · exact ⟨_, h0⟩
    · exact ⟨_, h.es⟩
    · exact ⟨_, h3⟩
    · exact ⟨_, h1⟩
    · exact ⟨_, h6⟩
  · exact h.ea.there y hy
  · exact h.eb.there y hy
theorem LoAt.ne_new (h : LoAt CL CE CM Z H x s) {l : Addr} (n : H l = none) : l ∉ x.every := fun z => by
  obtain ⟨o, e⟩ := h.there l z
  rw [n] at e
  cases e
theorem LoAt.setA (h : LoAt CL CE CM Z H x s) {a' : EndS} (E : EndAt CE CM Z H' x.a a') (f : Frm x.a.all H H') (hZ : ∀ z ∈ x.all, z ∈ Z) : LoAt CL CE CM Z H' x { s with a := a' } ∧ Frm x.all H H' := by
  obtain ⟨d1, d2, d3⟩ := LoAd.dis h.nd
  have b : ∀ y ∈ x.base, y ∉ x.a.all := fun y hy z => (d2 y hy).1 (x.a.all_every y z)
  obtain ⟨xs, h1, h2⟩ := h.rw
  obtain ⟨dx, h0⟩ := h.ob
  obtain ⟨p0, p1, h3, h4, h5⟩ := h.pg
  obtain ⟨kvs, h6, h7⟩ := h.lo
  exact ⟨⟨⟨dx, f _ _ h0 (b _ (by simp [LoAd.base]))⟩, f _ _ h.es (b _ (by simp [LoAd.base])), ⟨p0, p1, f _ _ h3 (b _ (by simp [LoAd.base])), f.tups _ _ h4, f.tups _ _ h5⟩, ⟨kvs, f _ _ h6 (b _ (by simp [LoAd.base])), h7⟩, ⟨xs, f _ _ h1 (b _ (by simp [LoAd.base])), h2.frm f⟩,
    E, h.eb.frm f (fun y hy => hZ y (x.a_all y hy)) fun y hy z => d3 y (x.a.all_every y z) hy, h.nd⟩, f.mono x.a_all⟩
theorem LoAt.setB (h : LoAt CL CE CM Z H x s) {b' : EndS} (E : EndAt CE CM Z H' x.b b') (f : Frm x.b.all H H') (hZ : ∀ z ∈ x.all, z ∈ Z) : LoAt CL CE CM Z H' x { s with b := b' } ∧ Frm x.all H H' := by
  obtain ⟨d1, d2, d3⟩ := LoAd.dis h.nd
  have b : ∀ y ∈ x.base, y ∉ x.b.all := fun y hy z => (d2 y hy).2 (x.b.all_every y z)
  obtain ⟨xs, h1, h2⟩ := h.rw
  obtain ⟨dx, h0⟩ := h.ob
  obtain ⟨p0, p1, h3, h4, h5⟩ := h.pg
  obtain ⟨kvs, h6, h7⟩ := h.lo
  exact ⟨⟨⟨dx, f _ _ h0 (b _ (by simp [LoAd.base]))⟩, f _ _ h.es (b _ (by simp [LoAd.base])), ⟨p0, p1, f _ _ h3 (b _ (by simp [LoAd.base])), f.tups _ _ h4, f.tups _ _ h5⟩, ⟨kvs, f _ _ h6 (b _ (by simp [LoAd.base])), h7⟩, ⟨xs, f _ _ h1 (b _ (by simp [LoAd.base])), h2.frm f⟩,
    h.ea.frm f (fun y hy => hZ y (x.b_all y hy)) fun y hy z => d3 y hy (x.b.all_every y z), E, h.nd⟩, f.mono x.b_all⟩
theorem LoAd.ownd (nd : x.every.Nodup) {d : Addr} (hd : d ∈ x.base) : (∀ y ∈ x.a.every, y ∉ [d]) ∧ (∀ y ∈ x.b.every, y ∉ [d]) := by
  obtain ⟨d1, d2, d3⟩ := LoAd.dis nd
  exact ⟨fun y hy z => (d2 d hd).1 (by simp at z; rw [← z]; exact hy), fun y hy z => (d2 d hd).2 (by simp at z; rw [← z]; exact hy)⟩
theorem LoAd.basen (nd : x.every.Nodup) : (x.o ≠ x.es ∧ x.o ≠ x.pg ∧ x.o ≠ x.rw ∧ x.o ≠ x.lo) ∧ (x.es ≠ x.pg ∧ x.es ≠ x.rw ∧ x.es ≠ x.lo) ∧ (x.pg ≠ x.rw ∧ x.pg ≠ x.lo) ∧ x.rw ≠ x.lo := by
  have d1 := (LoAd.dis nd).1
  simpa only [LoAd.base, List.nodup_cons, List.mem_cons, not_or, List.not_mem_nil, not_false_eq_true, List.nodup_nil, and_true] using d1
/-- a row more -/
theorem LoAt.setRows (h : LoAt CL CE CM Z H x s) (hZ : x.rw ∈ Z) {xs : List V} {rs : List Row} (hA : ImAll H xs (rs.map rowD)) : LoAt CL CE CM Z (upd H x.rw (.lst xs)) x { s with log := rs } ∧ Frm x.all H (upd H x.rw (.lst xs)) := by
  obtain ⟨⟨_, _, n1, _⟩, ⟨_, n2, _⟩, ⟨n3, _⟩, n4⟩ := LoAd.basen h.nd
  obtain ⟨o1, o2⟩ := LoAd.ownd h.nd (d := x.rw) (by simp [LoAd.base])
  obtain ⟨xs0, h1, h2⟩ := h.rw
  obtain ⟨dx, h0⟩ := h.ob
  obtain ⟨p0, p1, h3, h4, h5⟩ := h.pg
  obtain ⟨kvs, h6, h7⟩ := h.lo
  have f : Frm [x.rw] H (upd H x.rw (.lst xs)) := Frm.updL h1
  have k : ∀ {y o}, H y = some o → y ≠ x.rw → (upd H x.rw (.lst xs)) y = some o := fun e n => by rw [upd_ne n]; exact e
  exact ⟨⟨⟨dx, k h0 n1⟩, k h.es n2, ⟨p0, p1, k h3 n3, f.tups _ _ h4, f.tups _ _ h5⟩, ⟨kvs, k h6 (Ne.symm n4), h7⟩, ⟨xs, upd_same, hA.frm f⟩, h.ea.frm f (fun y hy => by simp at hy; subst hy; exact hZ) o1, h.eb.frm f (fun y hy => by simp at hy; subst hy; exact hZ) o2, h.nd⟩, f.sub (by simp [LoAd.all])⟩
/-- what passes is another -/
theorem LoAt.setPass (h : LoAt CL CE CM Z H x s) (hZ : x.pg ∈ Z) {q0 q1 : Addr} {p : Pass} (e0 : H q0 = some (.tup (p.1.map V.int))) (e1 : H q1 = some (.tup (p.2.map V.int))) :
    LoAt CL CE CM Z (upd H x.pg (.lst [.ref q0, .ref q1])) x { s with ps := p } ∧ Frm x.all H (upd H x.pg (.lst [.ref q0, .ref q1])) := by
  obtain ⟨⟨_, n1, _, _⟩, ⟨n2, _, _⟩, ⟨n3, n4⟩, _⟩ := LoAd.basen h.nd
  obtain ⟨o1, o2⟩ := LoAd.ownd h.nd (d := x.pg) (by simp [LoAd.base])
  obtain ⟨xs0, h1, h2⟩ := h.rw
  obtain ⟨dx, h0⟩ := h.ob
  obtain ⟨p0, p1, h3, h4, h5⟩ := h.pg
  obtain ⟨kvs, h6, h7⟩ := h.lo
  have f : Frm [x.pg] H (upd H x.pg (.lst [.ref q0, .ref q1])) := Frm.updL h3
  have k : ∀ {y o}, H y = some o → y ≠ x.pg → (upd H x.pg (.lst [.ref q0, .ref q1])) y = some o := fun e n => by rw [upd_ne n]; exact e
  exact ⟨⟨⟨dx, k h0 n1⟩, k h.es n2, ⟨q0, q1, upd_same, f.tups _ _ e0, f.tups _ _ e1⟩, ⟨kvs, k h6 (Ne.symm n4), h7⟩, ⟨xs0, k h1 (Ne.symm n3), h2.frm f⟩, h.ea.frm f (fun y hy => by simp at hy; subst hy; exact hZ) o1, h.eb.frm f (fun y hy => by simp at hy; subst hy; exact hZ) o2, h.nd⟩, f.sub (by simp [LoAd.all])⟩
/-- a letter more is lost -/
theorem LoAt.setLost (h : LoAt CL CE CM Z H x s) (hZ : x.lo ∈ Z) {kvs : List (List Key × V)} {l : Lost} (hl : LostD kvs l) : LoAt CL CE CM Z (upd H x.lo (.dT kvs)) x { s with ls := l } ∧ Frm x.all H (upd H x.lo (.dT kvs)) := by
  obtain ⟨⟨_, _, _, n1⟩, ⟨_, _, n2⟩, ⟨_, n3⟩, n4⟩ := LoAd.basen h.nd
  obtain ⟨o1, o2⟩ := LoAd.ownd h.nd (d := x.lo) (by simp [LoAd.base])
  obtain ⟨xs0, h1, h2⟩ := h.rw
  obtain ⟨dx, h0⟩ := h.ob
  obtain ⟨p0, p1, h3, h4, h5⟩ := h.pg
  obtain ⟨kvs0, h6, h7⟩ := h.lo
  have f : Frm [x.lo] H (upd H x.lo (.dT kvs)) := Frm.updN fun ys z => by rw [h6] at z; cases z
  have k : ∀ {y o}, H y = some o → y ≠ x.lo → (upd H x.lo (.dT kvs)) y = some o := fun e n => by rw [upd_ne n]; exact e
  exact ⟨⟨⟨dx, k h0 n1⟩, k h.es n2, ⟨p0, p1, k h3 n3, f.tups _ _ h4, f.tups _ _ h5⟩, ⟨kvs, upd_same, hl⟩, ⟨xs0, k h1 n4, h2.frm f⟩, h.ea.frm f (fun y hy => by simp at hy; subst hy; exact hZ) o1, h.eb.frm f (fun y hy => by simp at hy; subst hy; exact hZ) o2, h.nd⟩, f.sub (by simp [LoAd.all])⟩
/-- a new dict of lost letters -/
theorem LoAt.newLost (h : LoAt CL CE CM Z H x s) (hZ : x.o ∈ Z) {l : Addr} (hl : H l = some (.dT [])) (nl : l ∉ x.every) (f0 : ∀ dx, H x.o = some (.ins CL dx (liN.zip (liV x))) → H' = upd H x.o (.ins CL dx (liN.zip (liV { x with lo := l })))) :
    LoAt CL CE CM (l :: Z) H' { x with lo := l } { s with ls := lno } ∧ Frm x.all H H' := by
  obtain ⟨⟨n1, n2, n3, n4⟩, ⟨_, _, n5⟩, ⟨_, n6⟩, n7⟩ := LoAd.basen h.nd
  obtain ⟨o1, o2⟩ := LoAd.ownd h.nd (d := x.o) (by simp [LoAd.base])
  obtain ⟨xs0, h1, h2⟩ := h.rw
  obtain ⟨dx, h0⟩ := h.ob
  obtain ⟨p0, p1, h3, h4, h5⟩ := h.pg
  obtain rfl := f0 dx h0
  have f : Frm [x.o] H (upd H x.o (.ins CL dx (liN.zip (liV { x with lo := l })))) := Frm.updI h0
  have k : ∀ {y o}, H y = some o → y ≠ x.o → (upd H x.o (.ins CL dx (liN.zip (liV { x with lo := l })))) y = some o := fun e n => by rw [upd_ne n]; exact e
  have nlo : l ≠ x.o := fun e => nl (by rw [e]; simp [LoAd.every, LoAd.base])
  have ndx : ({ x with lo := l } : LoAd).every.Nodup := by
    have q := h.nd
    simp only [LoAd.every, LoAd.base, List.cons_append, List.nil_append, List.nodup_cons, List.mem_cons, not_or] at q nl ⊢
    obtain ⟨⟨a1, a2, a3, a4, a5⟩, ⟨b1, b2, b3, b4⟩, ⟨c1, c2, c3⟩, ⟨d1, d2⟩, e1, e2⟩ := q
    obtain ⟨m1, m2, m3, m4, m5, m6⟩ := nl
    exact ⟨⟨a1, a2, a3, Ne.symm m1, a5⟩, ⟨b1, b2, Ne.symm m2, b4⟩, ⟨c1, Ne.symm m3, c3⟩, ⟨Ne.symm m4, d2⟩, m6, e2⟩
  have L : LoAt CL CE CM Z (upd H x.o (.ins CL dx (liN.zip (liV { x with lo := l })))) { x with lo := l } { s with ls := lno } :=
    ⟨⟨dx, upd_same⟩, k h.es (Ne.symm n1), ⟨p0, p1, k h3 (Ne.symm n2), f.tups _ _ h4, f.tups _ _ h5⟩, ⟨[], k hl nlo, .nil⟩, ⟨xs0, k h1 (Ne.symm n3), h2.frm f⟩, h.ea.frm f (fun y hy => by simp at hy; subst hy; exact hZ) o1, h.eb.frm f (fun y hy => by simp at hy; subst hy; exact hZ) o2, ndx⟩
  refine ⟨L.more fun y hy => (List.mem_cons.mp hy).elim (fun e => .inr fun bs z => ?_) .inl, f.sub (by simp [LoAd.all])⟩
  rw [e, k hl nlo] at z
  cases z
end
theorem LoAt.ghost {CL CE CM : Addr} {Z : List Addr} {H : Hp} {x : LoAd} {s : PlS} (h : LoAt CL CE CM Z H x s) {s' : PlS} (e : s'.a = s.a ∧ s'.b = s.b ∧ s'.log = s.log ∧ s'.ps = s.ps ∧ s'.ls = s.ls) : LoAt CL CE CM Z H x s' := by
  obtain ⟨e1, e2, e3, e4, e5⟩ := e
  exact ⟨h.ob, h.es, by rw [e4]; exact h.pg, by rw [e5]; exact h.lo, by rw [e3]; exact h.rw, by rw [e1]; exact h.ea, by rw [e2]; exact h.eb, h.nd⟩
end TL

namespace TL
open PySem PySem.Spec PyProof.Rows L2
def setP (p : Pass) (e : Int) (ms : List Int) : Pass := if e = 0 then (ms, p.2) else (p.1, ms)
def sendP (s : PlS) (e i : Int) : PlS := if e = 0 then { s with toLnS := sendA s.toLnS i } else { s with toLnS := sendB s.toLnS i }
/-! ### the steps of a play -/
inductive StepD where
  | frames (n : Int)
  | pass (e : Int) (ms : List Int)
  | lose (p e : Int)
  | send (e i : Int)
  | got (e : Int)
  | left (e : Int)
  | joined
def bit (e : Int) : Prop := e = 0 ∨ e = 1
def StepD.ok : StepD → Prop
  | .frames n => 1 ≤ n ∧ n ≤ 100
  | .pass e ms => bit e ∧ Can ms
  | .lose p e => bit p ∧ bit e
  | .send e i => bit e ∧ 0 ≤ i ∧ i ≤ 999
  | .got e => bit e
  | .left e => bit e
  | .joined => True
def stepD : StepD → PyData
  | .frames n => .tuple [.str "frames", .int n]
  | .pass e ms => .tuple [.str "pass", .int e, .tuple (ms.map .int)]
  | .lose p e => .tuple [.str "lose", .int p, .int e]
  | .send e i => .tuple [.str "send", .int e, .int i]
  | .got e => .tuple [.str "got", .int e]
  | .left e => .tuple [.str "left", .int e]
  | .joined => .tuple [.str "joined"]
/-- a step at its place -/
def StepAt (H : Hp) (a : Addr) : StepD → Prop
  | .frames n => H a = some (.tup [.str "frames", .int n])
  | .pass e ms => ∃ t, H a = some (.tup [.str "pass", .int e, .ref t]) ∧ H t = some (.tup (ms.map V.int))
  | .lose p e => H a = some (.tup [.str "lose", .int p, .int e])
  | .send e i => H a = some (.tup [.str "send", .int e, .int i])
  | .got e => H a = some (.tup [.str "got", .int e])
  | .left e => H a = some (.tup [.str "left", .int e])
  | .joined => H a = some (.tup [.str "joined"])
theorem StepAt.frm {S : List Addr} {H H' : Hp} {a : Addr} {st : StepD} (h : StepAt H a st) (f : Frm S H H') : StepAt H' a st := by
  cases st with
  | pass e ms => obtain ⟨t, h1, h2⟩ := h; exact ⟨t, f.tups _ _ h1, f.tups _ _ h2⟩
  | _ => exact f.tups _ _ h
theorem StepAt.same {H H' : Hp} {a : Addr} {st : StepD} (h : StepAt H a st) (f : Same H H') : StepAt H' a st := h.frm (S := []) (.of_same f)
theorem StepAt.im {H : Hp} {a : Addr} {st : StepD} (h : StepAt H a st) : Im H (.ref a) (stepD st) := by
  cases st with
  | frames n => exact .tup h (.cons (.str _) (.cons (.int _) .nil))
  | pass e ms => obtain ⟨t, h1, h2⟩ := h; exact .tup h1 (.cons (.str _) (.cons (.int _) (.cons (.tup h2 (im_ints _)) .nil)))
  | lose p e => exact .tup h (.cons (.str _) (.cons (.int _) (.cons (.int _) .nil)))
  | send e i => exact .tup h (.cons (.str _) (.cons (.int _) (.cons (.int _) .nil)))
  | got e => exact .tup h (.cons (.str _) (.cons (.int _) .nil))
  | left e => exact .tup h (.cons (.str _) (.cons (.int _) .nil))
  | joined => exact .tup h (.cons (.str _) .nil)
/-- the steps of a list -/
def StepsAt (H : Hp) (xs : List V) (sts : List StepD) : Prop := xs.length = sts.length ∧ ∀ (i : Nat) (v : V) (st : StepD), xs[i]? = some v → sts[i]? = some st → ∃ a, v = .ref a ∧ StepAt H a st
theorem StepsAt.frm {S : List Addr} {H H' : Hp} {xs : List V} {sts : List StepD} (h : StepsAt H xs sts) (f : Frm S H H') : StepsAt H' xs sts := ⟨h.1, fun i v st h1 h2 => let ⟨a, e, s⟩ := h.2 i v st h1 h2; ⟨a, e, s.frm f⟩⟩
theorem StepsAt.same {H H' : Hp} {xs : List V} {sts : List StepD} (h : StepsAt H xs sts) (f : Same H H') : StepsAt H' xs sts := h.frm (S := []) (.of_same f)
theorem StepsAt.get {H : Hp} {xs : List V} {sts : List StepD} {i : Nat} {v : V} (h : StepsAt H xs sts) (hi : xs[i]? = some v) : ∃ a st, sts[i]? = some st ∧ v = .ref a ∧ StepAt H a st := by
  have il : i < sts.length := by
    rw [← h.1]
    exact (List.getElem?_eq_some_iff.mp hi).1
  have q : sts[i]? = some sts[i] := List.getElem?_eq_getElem il
  obtain ⟨a, e, s⟩ := h.2 i v _ hi q
  exact ⟨a, _, q, e, s⟩
/-! ### what is told -/
def Told (B : Addr → Prop) (H : Hp) (v : V) (dd : PyData) : Prop :=
  Im H v dd ∨ ∃ q zs ds, v = .ref q ∧ dd = .list ds ∧ H q = some (.lst zs) ∧ ImAll H zs ds ∧ zs.length ≤ 1000 ∧ B q
section
variable {B B' : Addr → Prop} {S : List Addr} {H H' : Hp} {K : PySem.W.Frag}
theorem Told.frm {v : V} {d : PyData} (h : Told B H v d) (f : Frm S H H') (hb : ∀ q, B q → (∃ o, H q = some o) → B' q ∧ q ∉ S) : Told B' H' v d := by
  rcases h with h | ⟨q, zs, ds, e1, e2, h1, h2, h3, h4⟩
  · exact .inl (h.frm f)
  · exact .inr ⟨q, zs, ds, e1, e2, f _ _ h1 (hb q h4 ⟨_, h1⟩).2, h2.frm f, h3, (hb q h4 ⟨_, h1⟩).1⟩
theorem Told.dp {v : V} {d : PyData} (h : Told B H v d) : Dp K H v d := by
  rcases h with h | ⟨q, zs, ds, rfl, rfl, h1, h2, _⟩
  · exact h.dp
  · exact .lst (SqL.of h1) h2.dp
def ToldAll (B : Addr → Prop) (H : Hp) (vs : List V) (ds : List PyData) : Prop := vs.length = ds.length ∧ ∀ (i : Nat) (v : V) (d : PyData), vs[i]? = some v → ds[i]? = some d → Told B H v d
theorem ToldAll.frm {vs : List V} {ds : List PyData} (h : ToldAll B H vs ds) (f : Frm S H H') (hb : ∀ q, B q → (∃ o, H q = some o) → B' q ∧ q ∉ S) : ToldAll B' H' vs ds := ⟨h.1, fun i v d h1 h2 => (h.2 i v d h1 h2).frm f hb⟩
theorem ToldAll.nil : ToldAll B H [] [] := ⟨rfl, fun i v d h => by simp at h⟩
theorem ToldAll.snoc {vs : List V} {ds : List PyData} {v : V} {d : PyData} (h : ToldAll B H vs ds) (t : Told B H v d) : ToldAll B H (vs ++ [v]) (ds ++ [d]) := by
  refine ⟨by simp [h.1], fun i w e h1 h2 => ?_⟩
  rcases Nat.lt_or_ge i vs.length with q | q
  · rw [List.getElem?_append_left q] at h1
    rw [List.getElem?_append_left (by rw [← h.1]; exact q)] at h2
    exact h.2 i w e h1 h2
  · rw [List.getElem?_append_right q] at h1
    rw [List.getElem?_append_right (by rw [← h.1]; exact q)] at h2
    have : i - vs.length = 0 := by
      have := (List.getElem?_eq_some_iff.mp h1).1
      simp at this
      omega
    rw [this] at h1
    rw [← h.1, this] at h2
    rw [← Option.some.inj h1, ← Option.some.inj h2]
    exact t
theorem ToldAll.dp : ∀ {vs : List V} {ds : List PyData}, ToldAll B H vs ds → DpAll K H vs ds
  | [], [], _ => .nil
  | v :: vs, d :: ds, h => .cons (h.2 0 v d rfl rfl).dp (ToldAll.dp ⟨by simpa using h.1, fun i w e h1 h2 => h.2 (i + 1) w e (by simpa using h1) (by simpa using h2)⟩)
  | [], _ :: _, h => by simp [ToldAll] at h
  | _ :: _, [], h => by simp [ToldAll] at h
end
/-! ### what a step does -/
def endW (s : PlS) (e : Int) : List Int := if e = 0 then s.a.wait else s.b.wait
def framesP : Nat → PlS → PlS
  | 0, s => s
  | n + 1, s => frameP (framesP n s)
def lastRow (s : PlS) : Row := s.log.getLast?.getD (0, false, 0, false)
def last300 (l : List Row) : List Row := l.drop (l.length - 300)
def doneF (s : PlS) : StepD → PlS × PyData
  | .frames n => (framesP n.toNat s, rowD (lastRow (framesP n.toNat s)))
  | .pass e ms => ({ s with ps := setP s.ps e ms }, .bool true)
  | .lose p e => ({ s with ls := setL s.ls p e }, .bool true)
  | .send e i => if (endW s e).length = 20 then (s, .bool false) else (sendP s e i, .bool true)
  | .got e => (s, .list ((if e = 0 then s.a.got else s.b.got).map .int))
  | .left e => (s, .int ((endW s e).length : Nat))
  | .joined => (s, .list ((stTo ((last300 s.log).map mark) (last300 s.log).length).map strD))
theorem done_send (s : PlS) (e i : Int) : doneF s (.send e i) = if (endW s e).length = 20 then (s, .bool false) else (sendP s e i, .bool true) := rfl
def runP (s : PlS) : List StepD → PlS
  | [] => s
  | st :: r => runP (doneF s st).1 r
def ansP (s : PlS) : List StepD → List PyData
  | [] => []
  | st :: r => (doneF s st).2 :: ansP (doneF s st).1 r
theorem runP_app : ∀ (xs ys : List StepD) (s : PlS), runP s (xs ++ ys) = runP (runP s xs) ys
  | [], _, _ => rfl
  | _ :: r, ys, s => runP_app r ys _
theorem ansP_app : ∀ (xs ys : List StepD) (s : PlS), ansP s (xs ++ ys) = ansP s xs ++ ansP (runP s xs) ys
  | [], _, _ => rfl
  | x :: r, ys, s => by
    show (doneF s x).2 :: ansP _ (r ++ ys) = _
    rw [ansP_app r ys]
    rfl
theorem ansP_len : ∀ (xs : List StepD) (s : PlS), (ansP s xs).length = xs.length
  | [], _ => rfl
  | _ :: r, s => congrArg Nat.succ (ansP_len r _)
/-- what holds behind k steps -/
structure PlOk (k : Nat) (s : PlS) : Prop where
  ok : LnOk 0 s.toLnS
  ov : s.a.over ≤ 100 * (k : Nat)
  lg : s.log.length ≤ 100 * k
  la : s.sa.length ≤ k
  lb : s.sb.length ≤ k
  rs : ∀ r ∈ s.log, okRow r ∧ goodRow s.ca s.cb r = true
theorem PlOk.frame {k : Nat} {s : PlS} {n m : Nat} (ok : LnOk 0 s.toLnS) (rs : ∀ r ∈ s.log, okRow r ∧ goodRow s.ca s.cb r = true) (hov : s.a.over ≤ m) (hlg : s.log.length ≤ m) (hm : m + n ≤ 1000000) :
    LnOk 0 (framesP n s).toLnS ∧ (framesP n s).a.over = s.a.over + n ∧ (framesP n s).log.length = s.log.length + n ∧ (framesP n s).sa = s.sa ∧ (framesP n s).sb = s.sb ∧ (framesP n s).ca = s.ca ∧ (framesP n s).cb = s.cb ∧ (∀ r ∈ (framesP n s).log, okRow r ∧ goodRow s.ca s.cb r = true) := by
  induction n with
  | zero => exact ⟨ok, by show s.a.over = s.a.over + ((0 : Nat) : Int); omega, rfl, rfl, rfl, rfl, rfl, rs⟩
  | succ n ih =>
    obtain ⟨h1, h2, h3, h4, h5, h6, h7, h8⟩ := ih (by omega)
    have fo : (framesP (n + 1) s).a.over = (framesP n s).a.over + 1 := frame_over _ _ _
    have fl : (framesP (n + 1) s).log = (framesP n s).log ++ [rowF (framesP n s).ps (framesP n s).ls (halfF (framesP n s).ps (framesP n s).ls (framesP n s).toLnS)] := frame_log _ _ _
    refine ⟨h1.frame _ _ (by omega), by rw [fo, h2]; omega, by rw [fl, List.length_append, h3]; rfl, h4, h5, h6, h7, fun r hr => ?_⟩
    rw [fl] at hr
    rcases List.mem_append.mp hr with q | q
    · exact h8 r q
    · simp at q
      subst q
      have g := row_good h1 (framesP n s).ps (framesP n s).ls
      rw [h6, h7] at g
      exact ⟨row_ok h1 _ _, g⟩
theorem PlOk.done {k : Nat} {s : PlS} (h : PlOk k s) (hk : k < 200) {st : StepD} (hs : st.ok) : PlOk (k + 1) (doneF s st).1 ∧ (doneF s st).1.ca = s.ca ∧ (doneF s st).1.cb = s.cb := by
  have ho := h.ov
  have hl := h.lg
  have ha := h.la
  have hb := h.lb
  have base : PlOk (k + 1) s := ⟨h.ok, by omega, by omega, by omega, by omega, h.rs⟩
  cases st with
  | frames n =>
    obtain ⟨n1, n2⟩ := hs
    obtain ⟨h1, h2, h3, h4, h5, h6, h7, h8⟩ := PlOk.frame (k := k) (n := n.toNat) (m := 100 * k) h.ok h.rs (by omega) hl (by omega)
    refine ⟨⟨h1, ?_, ?_, ?_, ?_, ?_⟩, h6, h7⟩
    · show (framesP n.toNat s).a.over ≤ _
      rw [h2]
      omega
    · show (framesP n.toNat s).log.length ≤ _
      rw [h3]
      omega
    · show (framesP n.toNat s).sa.length ≤ _
      rw [h4]
      omega
    · show (framesP n.toNat s).sb.length ≤ _
      rw [h5]
      omega
    · show ∀ r ∈ (framesP n.toNat s).log, okRow r ∧ goodRow (framesP n.toNat s).ca (framesP n.toNat s).cb r = true
      rw [h6, h7]
      exact h8
  | pass e ms => exact ⟨⟨base.ok, base.ov, base.lg, base.la, base.lb, base.rs⟩, rfl, rfl⟩
  | lose p e => exact ⟨⟨base.ok, base.ov, base.lg, base.la, base.lb, base.rs⟩, rfl, rfl⟩
  | got e => exact ⟨base, rfl, rfl⟩
  | left e => exact ⟨base, rfl, rfl⟩
  | joined => exact ⟨base, rfl, rfl⟩
  | send e i =>
    obtain ⟨he, hi0, hi9⟩ := hs
    rw [done_send]
    by_cases hw : (endW s e).length = 20
    · rw [if_pos hw]
      exact ⟨base, rfl, rfl⟩
    · rw [if_neg hw]
      have w0 := h.ok.ea.wait
      have w1 := h.ok.eb.wait
      rcases he with rfl | rfl
      · have q : Sends s.toLnS 0 (sendA s.toLnS i) := by
          unfold Sends
          rw [if_pos rfl]
          have : s.a.wait.length ≠ 20 := hw
          exact .inr ⟨by omega, i, hi0, by omega, rfl⟩
        obtain ⟨g1, _⟩ := h.ok.sends q (by omega) (by omega)
        refine ⟨⟨g1, base.ov, base.lg, ?_, base.lb, base.rs⟩, rfl, rfl⟩
        show (s.sa ++ [i]).length ≤ _
        rw [List.length_append]
        show _ + 1 ≤ _
        omega
      · have q : Sends s.toLnS 1 (sendB s.toLnS i) := by
          unfold Sends
          rw [if_neg (by decide)]
          have : s.b.wait.length ≠ 20 := hw
          exact .inr ⟨by omega, i, hi0, by omega, rfl⟩
        obtain ⟨g1, _⟩ := h.ok.sends q (by omega) (by omega)
        refine ⟨⟨g1, base.ov, base.lg, base.la, ?_, base.rs⟩, rfl, rfl⟩
        show (s.sb ++ [i]).length ≤ _
        rw [List.length_append]
        show _ + 1 ≤ _
        omega
theorem PlOk.new {ca cb : List Int} (ha : Can ca) (hb : Can cb) : PlOk 0 (.new ca cb) := ⟨LnOk.new ha hb, Int.le_refl 0, Nat.le_refl 0, Nat.le_refl 0, Nat.le_refl 0, fun r hr => by cases hr⟩
theorem PlOk.run : ∀ {sts : List StepD} {k : Nat} {s : PlS}, PlOk k s → k + sts.length ≤ 200 → (∀ st ∈ sts, st.ok) → PlOk (k + sts.length) (runP s sts) ∧ (runP s sts).ca = s.ca ∧ (runP s sts).cb = s.cb
  | [], _, _, h, _, _ => ⟨h, rfl, rfl⟩
  | st :: r, k, s, h, hk, hs => by
    have hl : (st :: r).length = r.length + 1 := rfl
    rw [hl] at hk ⊢
    obtain ⟨h1, h2, h3⟩ := h.done (by omega) (hs st (by simp))
    obtain ⟨g1, g2, g3⟩ := PlOk.run (sts := r) h1 (by omega) fun x hx => hs x (by simp [hx])
    have e : k + (r.length + 1) = k + 1 + r.length := by omega
    rw [e]
    exact ⟨g1, g2.trans h2, g3.trans h3⟩
theorem lv_strs1 (s : Str3) : lv 1 (strD s) := by
  refine ⟨(by decide : 3 ≤ 100000), fun d hd => ?_⟩
  simp only [List.mem_cons, List.not_mem_nil, or_false] at hd
  rcases hd with rfl | rfl | rfl <;> trivial
theorem last300_len (l : List Row) : (last300 l).length ≤ 300 := by
  unfold last300
  rw [List.length_drop]
  omega
theorem lv_done {k : Nat} {s : PlS} (h : PlOk k s) (st : StepD) : lv 2 (doneF s st).2 := by
  have g0 := h.ok.ea.got
  have g1 := h.ok.eb.got
  cases st with
  | frames n => exact lv_mono (lv_row _)
  | pass e ms => trivial
  | lose p e => trivial
  | got e => exact lv_mono (lv_ints (by split <;> omega))
  | left e => trivial
  | joined =>
    have h3 := last300_len s.log
    refine ⟨?_, fun d hd => ?_⟩
    · rw [List.length_map]
      have := stTo_len ((last300 s.log).map mark) (last300 s.log).length
      omega
    · obtain ⟨x, _, rfl⟩ := List.mem_map.mp hd
      exact lv_strs1 x
  | send e i =>
    rw [done_send]
    split <;> trivial
theorem lv_ansP : ∀ {sts : List StepD} {k : Nat} {s : PlS}, PlOk k s → k + sts.length ≤ 200 → (∀ st ∈ sts, st.ok) → ∀ d ∈ ansP s sts, lv 2 d
  | [], _, _, _, _, _, d, hd => by cases hd
  | st :: r, k, s, h, hk, hs, d, hd => by
    have hl : (st :: r).length = r.length + 1 := rfl
    rw [hl] at hk
    rcases List.mem_cons.mp hd with rfl | q
    · exact lv_done h st
    · exact lv_ansP (h.done (by omega) (hs st (by simp))).1 (by omega) (fun x hx => hs x (by simp [hx])) d q
end TL

namespace TL
open PySem PySem.Spec PyProof.Rows L2
/-! ### the base class's __init__, called by its name -/
/-- what the written part says of the class at C, whose __init__ is ValueError's -/
structure BaseC (K : PySem.W.Frag) (C : Addr) : Prop where
  ga : PySem.W.specialIn K (.ref C) "__getattribute__" = some (some (.builtin "type.__getattribute__"))
  rd : PySem.W.readsIn K C (.type "type") = true
  fi : PySem.W.findCls K (.ref C) (.type "type") "__init__" = some (.val (.builtin "ValueError.__init__"))
  kp : PySem.W.keepIn K (.ref C) = true
theorem pe_basei {X : Cx} {x : Str} {C : Addr} {e : Expr} {es : List Expr} {ta : TA} {p1 p2 pos : Pos} {pl : Sem Bool} (hg : Gl X x) (hm : X.mg x = some (.ref C)) (B : BaseC X.K C) (ha : PA X (e :: es) ta) (hdb : (x == ("__debug__" : Str)) = false := by decide)
    (hc : eval (.Call (.Attribute (.Name x p1) "__init__" p2) (e :: es) [] pos) X.env = (do
      let ov ← eval (.Name x p1) X.env
      standAt p2.atName
      let (f, one) ← holding [ov] (getMethod ov "__init__" pl)
      callWith pos f one (backTo pos (starEach (e :: es) X.env)) (backToKw pos (keywordEach [] X.env))) := by rfl)
    (hst : starEach (e :: es) X.env = (false, eval e X.env) :: starEach es X.env := by rfl) (hno : (backTo pos (starEach es X.env)).any (·.1) = false := by rfl) :
    PE X (.Call (.Attribute (.Name x p1) "__init__" p2) (e :: es) [] pos) (tVeI X.K ta) := by
  constructor
  intro pins s σ H Q I h
  refine PySem.W.methodCall_KW (ld_glob I hg hm ?_ hdb) hc
  refine PySem.W.method_cls I.kIn B.ga (PySem.W.cls_value I.kIn B.rd B.fi rfl ?_)
  show wpAny _ _ (callWith pos (.builtin "ValueError.__init__") [] (backTo pos (starEach (e :: es) X.env)) []) _ _ _
  refine PyProof.Rows.callWith_method1 (thn (ha.run pos pins _ σ H _ (I.tok _) h) fun us s2 hh => ?_) hst hno
  obtain ⟨vs, H2, I2, rs, a, D, ws, rfl, hln, T, ea, q⟩ := hh
  cases rs with
  | cons ra rr =>
    rename_i u0 ur
    have e0 : u0 = Value.ref a := ra
    subst e0
    refine oinit_ok T I2 ea ?_ fun s' J => ⟨.non, H2, J, rfl, q⟩
    have := Paired.length rr
    rw [sizeLine_eq]
    omega
/-! ### what a suite asks of the exception that it holds -/
/-- isinstance(e, c), e the exception at a of the class cls, with the dict d -/
def rIsX (K : PySem.W.Frag) (cls : Value) (d : Option Addr) (a : Addr) : List V → Hp → VK → Prop := fun xs H Q =>
  ∃ (D : Addr) (c : V) (cv : Value) (b : Bool), xs = [.ref a, c] ∧ cls = .ref D ∧ (∀ u, RelV c u → u = cv) ∧ ExcC K D ∧ PySem.W.kitOne K (.ref D) cv = some b ∧ (d = none ∨ ∃ dd fs, d = some dd ∧ H dd = some (.xd fs)) ∧ Q (.bl b) H
theorem inst_xd {X : Cx} {pins : List (Addr × Obj)} {σ : L2.St} {H : Hp} {s : Shared} {a D : Addr} {oe : Obj} {cls : Value} {d : Option Addr} {vs : Array Value} (I : Inv X pins σ H s) (ha : s.heap.get? a = some oe) (hz : Zc cls d oe) (hv : oe.data = .fields vs) (hc : cls = .ref D)
    (hd : d = none ∨ ∃ dd fs, d = some dd ∧ H dd = some (.xd fs)) : ∃ od, PySem.W.InstAt s.heap a oe D od := by
  have no : PySem.W.notCls oe = true := by
    unfold PySem.W.notCls
    rw [hv] <;> rfl
  have hcl : oe.cls = .ref D := hz.1.trans hc
  have hdd : oe.dict = d := hz.2
  rcases hd with hd | ⟨dd, fs, hd, hx⟩
  · exact ⟨none, ha, hcl, no, by rw [hdd, hd]; trivial⟩
  · have hx' : ObjOk X.prog X.w H s.heap dd (.xd fs) := I.hok dd _ hx
    obtain ⟨mA, hns, _⟩ := hx'
    obtain ⟨od, ho, _⟩ := lookIn_ns hns
    exact ⟨some od, ha, hcl, no, by rw [hdd, hd]; exact ho⟩
theorem call_isX {X : Cx} {a : Addr} {oe : Obj} {cls : Value} {d : Option Addr} {pn : List (Addr × Obj)} (hz : Zc cls d oe) (hf : ∃ vs, oe.data = .fields vs) : CallR (X.suite a ((a, oe) :: pn)) (.builtin "isinstance") (rIsX X.K cls d a) := by
  intro pins s σ H xs us Q I rr h
  obtain ⟨D, c, cv, b, rfl, hcl, hcv, C, e, hd, q⟩ := h
  cases rr with
  | cons r0 rr =>
  cases rr with
  | cons r1 rr =>
  cases rr
  cases r0
  obtain rfl := hcv _ r1
  obtain ⟨hat, _⟩ := I.pin (a, oe) (List.mem_append_left _ (.head _))
  obtain ⟨vs, hv⟩ := hf
  obtain ⟨od, J⟩ := inst_xd I hat hz hv hcl hd
  have hcs : (PySem.W.clsIn X.K D).isSome = true := by
    obtain ⟨cd, hc, _⟩ := PySem.W.any_some C.hd
    rw [hc] <;> rfl
  exact PySem.W.kia_one (PySem.W.kitx_exc hcs C.hg C.hk C.hs C.ha C.hn C.ht C.hm) I.kIn J e (fun z => by cases z) fun tk => ⟨.bl b, H, I.kept (t' := tk) fun _ _ z => z, rfl, q⟩
/-- e.n -/
def tXg (K : PySem.W.Frag) (a : Addr) (cls : Value) (d : Option Addr) (n : Str) (te : TE) : TE := fun σ H Q => te σ H fun x H1 => x = .ref a ∧
  ∃ (C dd : Addr) (fs : List (Str × V)) (v : V), cls = .ref C ∧ XfC K C ∧ PySem.W.findIn K (.ref C) n = some none ∧ d = some dd ∧ H1 dd = some (.xd fs) ∧ fs.lookup n = some v ∧ Q v H1
theorem pe_xg {X : Cx} {a : Addr} {oe : Obj} {cls : Value} {d : Option Addr} {pn : List (Addr × Obj)} {e : Expr} {te : TE} {pos : Pos} {n : Str} (hz : Zc cls d oe) (hf : ∃ vs, oe.data = .fields vs) (he : PE (X.suite a ((a, oe) :: pn)) e te)
    (hb : attributeBase e n X.env (eval e X.env) = eval e X.env := by rfl) : PE (X.suite a ((a, oe) :: pn)) (.Attribute e n pos) (tXg X.K a cls d n te) := by
  constructor
  intro pins s σ H Q I h
  refine attr_of hb (thn (he.run pins s σ H _ I h) fun u s2 hh => ?_)
  obtain ⟨x, H2, I2, rx, rfl, C, dd, fs, v, hc, T, hno, rfl, hx, hl, q⟩ := hh
  have eu : u = Value.ref a := rx
  subst eu
  obtain ⟨hat, _⟩ := I2.pin (a, oe) (List.mem_append_left _ (.head _))
  obtain ⟨vs, hv⟩ := hf
  have hx' : ObjOk X.prog X.w H2 s2.heap dd (.xd fs) := I2.hok dd _ hx
  obtain ⟨mA, hns, hr⟩ := hx'
  obtain ⟨od, ho, hlk⟩ := lookIn_ns hns
  obtain ⟨w', hw, rw'⟩ := RelO.some_of (v := v) (o := mA n) (hl ▸ hr n)
  have no : PySem.W.notCls oe = true := by
    unfold PySem.W.notCls
    rw [hv] <;> rfl
  have J : PySem.W.InstAt s2.heap a oe C (some od) := ⟨hat, hz.1.trans hc, no, by rw [show oe.dict = some dd from hz.2]; exact ho⟩
  exact HandSPX.exc_get I2.kIn J T.ga T.gg T.exC (PySem.W.findObj_own T.hdC hno rfl (by rw [hlk, hw])) (handed_of rw') ⟨v, H2, I2.tok _, rw', q⟩
/-! ### a def whose code object is known -/
section
variable {P : Program} {w : World} {K : PySem.W.Frag} {mg : Str → Option Value} {base : Heap}
/-- the def at f: its code object stands at c -/
def FunC (K : PySem.W.Frag) (x qual : Str) (st : Stmt) (f : Addr) (fd : FuncData) (c : Addr) : Prop :=
  ∃ (oc : Value) (od : Option Addr) (kV doc pm : Value) (an : Option Addr) (ct : Value) (osl : Array (Option Value)), fd = PySem.W.fnOf x qual (defArgs st) (defBody st) (defScope st) .none kV doc pm an (.ref c) ct ∧ K.lookup f = some ⟨oc, od, .func fd, osl⟩ ∧ PySem.W.codeIn K (.ref c) qual = true
theorem FunC.ok {x qual : Str} {st : Stmt} {f c : Addr} {fd : FuncData} {N ps : List Str} {k : Nat} {sp : Sp} (F : FunC K x qual st f fd c) (S : FnScope N ps (defScope st)) (len : ∀ vs H Q E, sp vs H Q E → vs.length = ps.length)
    (body : ∀ (A : Around) (outer : List Env) (s : Shared) (H : Hp) (vs : List V) (Q : VK) (E : XK), Room k (A.deeper (envOfC qual (defScope st) s.heap.objs.size f (.ref c))) → sp vs H Q E →
      ∃ t, PSs (cxOf CX0 P w K mg base N qual (defScope st) f (.ref c) A outer s H E).nox (defBody st) t ∧ t { nx := fun _ H' => Q .non H', rt := Q } (start N vs) H) : FnOk P w K mg base CX0 (k + 1) f fd ps sp := by
  obtain ⟨oc, od, kV, doc, pm, an, ct, osl, rfl, lk, hcd⟩ := F
  exact fn_of lk hcd S len fun A outer s H vs Q E hr hsp => let ⟨t, h, q⟩ := body A outer s H vs Q E hr hsp; ⟨t, h.nox, q⟩
end
/-! ### a call within a lambda's body -/
theorem takes_lam {X : Cx} {A : Around} {outer : List Env} {s : Shared} {H : Hp} {E : XK} {scope : Scope} {f c' : Addr} : Takes (LamX.lamCx X A outer s H E scope f c') (fun cls d _ H => E cls d H) := takes_of rfl rfl rfl rfl
theorem pass_lam {X : Cx} {A : Around} {outer : List Env} {s : Shared} {H : Hp} {E : XK} {scope : Scope} {f c' : Addr} : Passes (L2.CX X.prog X.w) (LamX.lamCx X A outer s H E scope f c') E := passes_call takes_lam fun _ _ _ _ h => h
end TL
namespace TL
open PySem PySem.Spec PyProof.Rows L2
/-! ### a text, not at all or once -/
def rRepS : R2 := fun x y H Q => ∃ (z : Str) (k : Int), x = .str z ∧ y = .int k ∧ ((k = 0 ∧ Q (.str "") H) ∨ (k = 1 ∧ Q (.str z) H))
theorem op_repS {X : Cx} : OpR X (binaryOp .Mult) rRepS := by
  intro pins s σ H x y v u Q I rx ry h
  obtain ⟨z, k, rfl, rfl, h⟩ := h
  obtain ⟨t, rfl⟩ := rx
  obtain ⟨t2, rfl⟩ := ry
  rcases h with ⟨rfl, q⟩ | ⟨rfl, q⟩
  · exact PySem.P.mul_str_none (by decide) (by decide) ⟨.str "", H, I.tok _, ⟨_, rfl⟩, q⟩
  · refine PySem.P.mul_str (by decide) (fun _ z => absurd z (by simp)) (fun _ z => absurd z (by simp)) ?_
    rw [if_neg (by decide), if_pos (by simp)]
    exact ⟨.str z, H, I, ⟨_, rfl⟩, q⟩
/-! ### which of the kinds an exception is -/
/-- D: the class of the j-th kind -/
structure Kind (K : PySem.W.Frag) (CS : List Addr) (CL D : Addr) (j : Nat) : Prop where
  ec : ExcC K D
  ks : ∀ (i : Nat) (c : Addr), CS[i]? = some c → PySem.W.kitOne K (.ref D) (.ref c) = some (decide (i = j))
  iv : PySem.W.kitOne K (.ref D) (.type "ValueError") = some true
  xm : PySem.W.exmOne K (.ref D) (.ref CL) = some true
theorem kinds9 {K : PySem.W.Frag} {D : Addr} {j : Nat} {c0 c1 c2 c3 c4 c5 c6 c7 c8 : Addr} {b0 b1 b2 b3 b4 b5 b6 b7 b8 : Bool} (h0 : PySem.W.kitOne K (.ref D) (.ref c0) = some b0) (h1 : PySem.W.kitOne K (.ref D) (.ref c1) = some b1) (h2 : PySem.W.kitOne K (.ref D) (.ref c2) = some b2)
    (h3 : PySem.W.kitOne K (.ref D) (.ref c3) = some b3) (h4 : PySem.W.kitOne K (.ref D) (.ref c4) = some b4) (h5 : PySem.W.kitOne K (.ref D) (.ref c5) = some b5) (h6 : PySem.W.kitOne K (.ref D) (.ref c6) = some b6) (h7 : PySem.W.kitOne K (.ref D) (.ref c7) = some b7) (h8 : PySem.W.kitOne K (.ref D) (.ref c8) = some b8)
    (e : [b0, b1, b2, b3, b4, b5, b6, b7, b8] = (List.range 9).map fun i => decide (i = j)) : ∀ (i : Nat) (c : Addr), [c0, c1, c2, c3, c4, c5, c6, c7, c8][i]? = some c → PySem.W.kitOne K (.ref D) (.ref c) = some (decide (i = j)) := by
  intro i c hc
  have hl := (List.getElem?_eq_some_iff.mp hc).1
  have hl : i < 9 := hl
  have e' := congrArg (fun l : List Bool => l[i]?) e
  have er : (List.range 9)[i]? = some i := by rw [List.getElem?_eq_getElem (by simpa using hl), List.getElem_range]
  simp only [List.getElem?_map, er, Option.map_some] at e'
  have : i = 0 ∨ i = 1 ∨ i = 2 ∨ i = 3 ∨ i = 4 ∨ i = 5 ∨ i = 6 ∨ i = 7 ∨ i = 8 := by omega
  rcases this with rfl | rfl | rfl | rfl | rfl | rfl | rfl | rfl | rfl
  · cases hc; rw [h0]; exact e'
  · cases hc; rw [h1]; exact e'
  · cases hc; rw [h2]; exact e'
  · cases hc; rw [h3]; exact e'
  · cases hc; rw [h4]; exact e'
  · cases hc; rw [h5]; exact e'
  · cases hc; rw [h6]; exact e'
  · cases hc; rw [h7]; exact e'
  · cases hc; rw [h8]; exact e'
def wordN (j : Nat) : Str := (["manners", "count", "part", "item", "full", "log", "text", "end", "step"] : List Str).getD j ""
/-- what an exception's word and number are -/
def WordAt (K : PySem.W.Frag) (CS : List Addr) (CL : Addr) (cls : Value) (d : Option Addr) (H : Hp) (j : Nat) (num : Int) : Prop :=
  ∃ D, cls = .ref D ∧ j < 9 ∧ Kind K CS CL D j ∧ ((j ≠ 5 ∧ j ≠ 6 ∧ j ≠ 8 ∧ num = 0 ∧ d = none) ∨
    ∃ dd fs, d = some dd ∧ H dd = some (.xd fs) ∧ XfC K D ∧ (((j = 5 ∨ j = 6) ∧ PySem.W.findIn K (.ref D) "row" = some none ∧ fs.lookup ("row" : Str) = some (V.int num)) ∨ (j = 8 ∧ PySem.W.findIn K (.ref D) "at" = some none ∧ fs.lookup ("at" : Str) = some (V.int num))))
/-- of a work handed to _law_word: None, or the word and the number of what it raises -/
def TTw (K : PySem.W.Frag) (CS : List Addr) (CL : Addr) : (XK → Hp → VK → Prop) → Hp → VK → Prop := fun tl H Q => ∃ Ew : XK, tl Ew H (fun _ H' => Q .non H') ∧
  ∀ cls d H', Ew cls d H' → ∃ j num, WordAt K CS CL cls d H' j num ∧ ∀ t H2, Same H' H2 → H2 t = some (.tup [.str (wordN j), .int num]) → Q (.ref t) H2
end TL
namespace TL
open PySem PySem.Spec PyProof.Rows L2
/-- behind a made exception all else is as it was -/
theorem raised_same {H : Hp} {a dx : Addr} {fs : List (Str × V)} {o1 o2 o3 : HO} (ha : H a = none) (hd : H dx = none) : Same H (upd (del (upd (upd (upd H a o1) dx o2) a o3) a) dx (.xd fs)) := fun b o e => by
  have n1 : b ≠ dx := ne_of_none e hd
  have n2 : b ≠ a := ne_of_none e ha
  rw [upd_ne n1, del_ne n2, upd_ne n2, upd_ne n1, upd_ne n2]
  exact e
/-- a loop over a list of two -/
theorem for_pair {K : PySem.W.Frag} {a : Addr} {v0 v1 : V} {g : TG} {tb : TS} {D : Ends} {σ : L2.St} {H : Hp} (P0 P1 P2 : L2.St → Hp → Prop) (h0 : P0 σ H) (l0 : ∀ σ H, P0 σ H → SqL K H a [v0, v1]) (l1 : ∀ σ H, P1 σ H → SqL K H a [v0, v1]) (l2 : ∀ σ H, P2 σ H → SqL K H a [v0, v1])
    (s0 : ∀ σ H, P0 σ H → g v0 σ H fun σ2 H2 => tb { D with nx := P1, ct := P1, bk := D.nx } σ2 H2)
    (s1 : ∀ σ H, P1 σ H → g v1 σ H fun σ2 H2 => tb { D with nx := P2, ct := P2, bk := D.nx } σ2 H2)
    (hd : ∀ σ H, P2 σ H → D.nx σ H) : ForW (Itl K a) g tb D σ H := by
  refine for_list (K := K) (a := a) (xs := [v0, v1]) (fun i σ H => match i with | 0 => P0 σ H | 1 => P1 σ H | _ => P2 σ H) h0 ?_ ?_ hd
  · intro i σ H hi p
    match i, p with
    | 0, p => exact l0 σ H p
    | 1, p => exact l1 σ H p
    | _ + 2, p => exact l2 σ H p
  · intro i x σ H hx p
    match i, hx, p with
    | 0, hx, p =>
      have e : v0 = x := Option.some.inj hx
      subst e
      exact s0 σ H p
    | 1, hx, p =>
      have e : v1 = x := Option.some.inj hx
      subst e
      exact s1 σ H p
    | n + 2, hx, p => simp at hx
theorem log_small {i : Int} (h0 : 0 ≤ i) (h9 : i ≤ 9) : i.natAbs.log2 < 1920 := by
  have : i = 0 ∨ i = 1 ∨ i = 2 ∨ i = 3 ∨ i = 4 ∨ i = 5 ∨ i = 6 ∨ i = 7 ∨ i = 8 ∨ i = 9 := by omega
  rcases this with rfl | rfl | rfl | rfl | rfl | rfl | rfl | rfl | rfl | rfl <;> decide
end TL
namespace TL
open PySem PySem.Spec PyProof.Rows L2
/-! ### the table of the law's lambdas -/
def lamQ : Str := ("law" : Str) ++ ".<locals>." ++ "<lambda>"
theorem tab_frm {P R : Addr} {q : Str} {H H' : Hp} {xs : List V} (h : LamX.TabS H P q) (hR : H R = some (.lst xs)) (f : Frm [R] H H') : LamX.TabS H' P q := by
  obtain ⟨ps, h1, h2, h3⟩ := h
  have n1 : P ≠ R := fun e => by
    rw [e, hR] at h1
    cases h1
  refine ⟨ps, f _ _ h1 (by simp [n1]), h2, fun pos cv hc => ?_⟩
  obtain ⟨c, e1, e2⟩ := h3 pos cv hc
  have n2 : c ≠ R := fun e => by
    rw [e, hR] at e2
    unfold LamX.CodeO at e2
    cases e2
  exact ⟨c, e1, f _ _ e2 (by simp [n2])⟩
theorem tabs_frm {T : List (Addr × Str)} {R : Addr} {H H' : Hp} {xs : List V} (h : LamX.Tabs T H) (hR : H R = some (.lst xs)) (f : Frm [R] H H') : LamX.Tabs T H' := fun p hp => tab_frm (h p hp) hR f
theorem tabs_same {T : List (Addr × Str)} {H H' : Hp} (h : LamX.Tabs T H) (s : Same H H') : LamX.Tabs T H' := h.ext s
theorem tabs_dice {T : List (Addr × Str)} {d : Addr} {H H' : Hp} (h : LamX.Tabs T H) (D : DiceAt H d) (f : Frm [d] H H') : LamX.Tabs T H' := by
  obtain ⟨ns, h1, _⟩ := D
  exact tabs_frm h h1 f
theorem dice_ext {d : Addr} {H H' : Hp} (D : DiceAt H d) (e : LamX.ExtN H H') : DiceAt H' d := by
  obtain ⟨ns, h1, h2⟩ := D
  exact ⟨ns, e _ _ h1 (fun ps z => by cases z), h2⟩
theorem look1 {n : Str} {v : V} : List.lookup n [(n, v)] = some v := by simp [List.lookup]
theorem word6 : wordN 6 = "text" := rfl
theorem word5 : wordN 5 = "log" := rfl
theorem word8 : wordN 8 = "step" := rfl
theorem lv_word {z : Str} (hz : (PyData.str z).canLay0 = true) (n : Int) : lv 1 (.tuple [.str z, .int n]) := by
  refine ⟨(by show 2 ≤ 100000; decide), fun x hx => ?_⟩
  rcases List.mem_cons.mp hx with rfl | hx
  · simpa [lv] using hz
  · rcases List.mem_cons.mp hx with rfl | hx
    · simp [lv]
    · cases hx
theorem im_word {H : Hp} {u : Addr} {z : Str} {n : Int} (h : H u = some (.tup [.str z, .int n])) : Im H (.ref u) (.tuple [.str z, .int n]) := .tup h (.cons (.str _) (.cons (.int _) .nil))
end TL

namespace TL
open PySem PySem.Spec PyProof.Rows L2 LamX NdefX
/-! ### lambdas that are kept: what is known of a function object -/
/-- a lambda: its words, the cells that it captured, its code object, where its defaults stand -/
structure LF where
  qual : Str
  params : Arguments
  body : Expr
  scope : Scope
  cl : List (Str × Addr)
  c : Addr
  dv : Option Addr
def dvV : Option Addr → Value
  | none => .none
  | some t => .ref t
abbrev LF.fd (F : LF) (doc pm ctv : Value) : FuncData := PySem.W.kdv_fn "<lambda>" F.qual F.params (.expr F.body) F.scope F.cl (dvV F.dv) doc pm (.ref F.c) ctv
/-- its names, as a nested def's -/
abbrev LF.nf (F : LF) : NF := ⟨"<lambda>", F.qual, F.params, [], F.scope, F.cl, F.c⟩
/-- the object at f is the lambda F -/
def LamAt (f : Addr) (F : LF) : HO := .ext fun h => ∃ doc pm ctv : Value, h.get? f = some ({ cls := .type "function", data := .func (F.fd doc pm ctv) } : Obj)
theorem lamAt_ne {f : Addr} {F : LF} (ps : Array Value) : LamAt f F ≠ .tbl ps := fun z => by unfold LamAt at z; cases z
theorem lamAt_get {P : Program} {w : World} {H : Hp} {h : Heap} {f : Addr} {F : LF} (hok : HOk P w H h) (e : H f = some (LamAt f F)) : ∃ doc pm ctv : Value, h.get? f = some ({ cls := .type "function", data := .func (F.fd doc pm ctv) } : Obj) := (hok f _ e).1
theorem ne_P {H : Hp} {P c : Addr} {o o' : HO} (n : H c = none) (hP : H P = some o) : (upd H P o') c = none := by rw [upd_ne (fun e => by rw [e, hP] at n; cases n)]; exact n
section
variable {X : Cx} {pins : List (Addr × Obj)} {σ : L2.St} {H : Hp} {s : Shared}
theorem inv_lam {F : LF} {o : Obj} {tk : Nat} {doc pm ctv : Value} (J : Inv X pins σ H s) (ho : o = { cls := .type "function", data := .func (F.fd doc pm ctv) }) : Inv X pins σ (upd H s.heap.objs.size (LamAt s.heap.objs.size F)) { s with heap := s.heap.push o, toks := tk } := by
  subst ho
  have e := Heap.get?_push_size s.heap (o := { cls := .type "function", data := .func (F.fd doc pm ctv) }) rfl
  exact J.laid (fun b u z => Heap.get?_push_of_some _ z) (Nat.le_refl _) ⟨⟨doc, pm, ctv, e⟩, ⟨_, e⟩, fun h1 h2 ⟨x, y, z, q⟩ st => ⟨x, y, z, st _ q⟩⟩
/-- a lambda's object is made -/
theorem lam_new {T : List (Addr × Str)} {c P : Addr} {params : Arguments} {body : Expr} {scope : Scope} {pos : Pos} {dv : Option Addr} {q : Str} {E : Value → Shared → Prop} {Q : Value → Shared → Prop} (J : Inv X pins σ H s) (TB : TabB X.base X.mg c P) (hcode : X.env.code = .ref c)
    (hm : (P, q) ∈ T) (hu : ∀ p ∈ T, p.1 = P → p.2 = q) (hT : Tabs T H) (hfree : ∀ y ∈ scope.names, y.2 = .free → ∃ a, X.env.cells.lookup y.1 = some a)
    (go : ∀ (f c' : Addr) (H1 : Hp) (s1 : Shared), Inv X pins σ H1 s1 → ExtN H H1 → Tabs T H1 → Frm [P] H H1 → H f = none → H1 f = some (LamAt f ⟨q, params, body, scope, cloFrom X.env.cells scope.names [], c', dv⟩) → H1 c' = some (CodeO c' q) → Q (.ref f) s1) :
    wpAny (model X.prog X.w) X.A (makeTail "<lambda>" q params (.expr body) scope X.env (dvV dv) .none none pos pos.line) Q E s := by
  obtain ⟨ps, hP, trip, all⟩ := hT _ hm
  have bm := TB.bm.keeps J.bk
  have tab : s.heap.get? P = some { cls := .none, data := .fields ps } := J.hok P _ hP
  cases among : codeAmong pos ps.toList with
  | some cv =>
    obtain ⟨c', rfl, hco⟩ := all pos cv among
    refine PySem.W.kdv_makeTailHit (mg := X.mg) (c := c) (P := P) (ps := ps) (closure_ok hfree) J.ok.glob (J.mod.glob.keeps J.bk) hcode (TB.code.keeps J.bk) tab trip among bm fun ctv doc g tk keep big => ?_
    have J1 : Inv X pins σ H { s with heap := g, toks := tk } := J.kept keep
    have new : H g.objs.size = none := J1.hok.fresh (Nat.le_refl _)
    refine go g.objs.size c' _ _ (inv_lam (F := ⟨q, params, body, scope, cloFrom X.env.cells scope.names [], c', dv⟩) (tk := tk) J1 rfl) (fun b o z _ => ?_) (hT.ext fun b o z => ?_) (Frm.new new) new upd_same ?_
    · rw [upd_ne (ne_of_none z new)]; exact z
    · rw [upd_ne (ne_of_none z new)]; exact z
    · rw [upd_ne (ne_of_none hco new)]; exact hco
  | none =>
    refine PySem.W.kdv_makeTail (mg := X.mg) (c := c) (P := P) (ps := ps) (closure_ok hfree) J.ok.glob (J.mod.glob.keeps J.bk) hcode (TB.code.keeps J.bk) tab trip among TB.gP bm fun c' ctv doc g tk but ge lt rec_ tab' => ?_
    obtain ⟨c2, oc, vs, t, e2, h1, h2, h3⟩ := rec_
    cases e2
    have newC : H c' = none := J.hok.fresh ge
    have J1 := inv_table (t' := tk) (more := #[rawInt pos.line, rawInt pos.col, .ref c']) (h' := g) J hP (fun b o hb z => but b o hb z) tab' ge ⟨oc, vs, t, h1, h2, h3⟩
    have stay : ExtN H (upd (upd H P (.tbl (ps ++ #[rawInt pos.line, rawInt pos.col, .ref c']))) c' (CodeO c' q)) := fun b o z n => by
      have nP : b ≠ P := fun e => n ps (Option.some.inj (z.symm.trans (e ▸ hP)))
      rw [upd_ne (ne_of_none z newC), upd_ne nP]
      exact z
    have grown : Tabs T (upd (upd H P (.tbl (ps ++ #[rawInt pos.line, rawInt pos.col, .ref c']))) c' (CodeO c' q)) := fun p hp => by
      by_cases e : p.1 = P
      · rw [hu p hp e, e]
        have el : (ps ++ #[rawInt pos.line, rawInt pos.col, .ref c']).toList = ps.toList ++ [rawInt pos.line, rawInt pos.col, .ref c'] := by simp
        refine ⟨_, (upd_ne (ne_of_none hP newC)).trans upd_same, el ▸ PySem.TriplesOk_snoc _ _ _ _ trip, fun p2 cv hcv => ?_⟩
        rw [el] at hcv
        rcases among_app _ trip hcv with z | z
        · obtain ⟨c0, z1, z2⟩ := all p2 cv z
          exact ⟨c0, z1, stay _ _ z2 codeO_ne⟩
        · exact ⟨c', z, upd_same⟩
      · obtain ⟨ps2, z1, z2, z3⟩ := hT p hp
        refine ⟨ps2, by rw [upd_ne (ne_of_none z1 newC), upd_ne e]; exact z1, z2, fun p2 cv hcv => ?_⟩
        obtain ⟨c0, y1, y2⟩ := z3 p2 cv hcv
        exact ⟨c0, y1, stay _ _ y2 codeO_ne⟩
    have newF := J1.hok.fresh (Nat.le_refl _)
    refine go g.objs.size c' _ _ (inv_lam (F := ⟨q, params, body, scope, cloFrom X.env.cells scope.names [], c', dv⟩) (tk := tk) J1 rfl) (fun b o z n => ?_) (grown.ext fun b o z => ?_) (((Frm.updN fun ys z => by rw [hP] at z; cases z).trans (Frm.new (ne_P newC hP))).trans (Frm.new newF)) (J.hok.fresh (Nat.le_trans ge (Nat.le_of_lt lt))) upd_same ?_
    · have z1 := stay b o z n
      rw [upd_ne (ne_of_none z1 newF)]; exact z1
    · rw [upd_ne (ne_of_none z newF)]; exact z
    · rw [upd_ne (Nat.ne_of_lt lt)]; exact upd_same
end
/-- the reading of a lambda: f the new function -/
def tLamF (T : List (Addr × Str)) (P : Addr) (mk : Addr → LF) : TE := fun _ H Q => Tabs T H ∧ ∀ (f c' : Addr) (H1 : Hp), ExtN H H1 → Tabs T H1 → Frm [P] H H1 → H f = none → H1 f = some (LamAt f (mk c')) → H1 c' = some (CodeO c' (mk c').qual) → Q (.ref f) H1
/-- of one with a default of 0, at t -/
def tLamD (T : List (Addr × Str)) (P : Addr) (mk : Addr → Addr → LF) : TE := fun _ H Q => Tabs T H ∧ ∀ (t f c' : Addr) (H1 : Hp), ExtN H H1 → Tabs T H1 → Frm [P] H H1 → H f = none → H1 t = some (.tup [.int 0]) → H1 f = some (LamAt f (mk t c')) → H1 c' = some (CodeO c' (mk t c').qual) → Q (.ref f) H1
section
variable {X : Cx} {T : List (Addr × Str)} {c P : Addr} {params : Arguments} {body : Expr} {scope : Scope} {pos : Pos}
theorem pe_lamF (TB : TabB X.base X.mg c P) (hcode : X.env.code = .ref c) (hm : (P, X.env.qual ++ "<lambda>") ∈ T) (hu : ∀ p ∈ T, p.1 = P → p.2 = X.env.qual ++ "<lambda>") (L : ∀ y ∈ scope.names, y.2 = .free → X.env.scope.names.lookup y.1 = some .cell ∨ X.env.scope.names.lookup y.1 = some .free)
    (hdef : defaultsOf params X.env = ([], [])) : PE X (.Lambda params body scope pos) (tLamF T P fun c' => ⟨X.env.qual ++ "<lambda>", params, body, scope, cloFrom X.env.cells scope.names [], c', none⟩) := by
  constructor
  intro pins s σ H Q J h
  obtain ⟨hT, h⟩ := h
  refine PySem.W.kla_eval hdef ?_
  rw [makeFunction_eq]
  simp only [List.zip_nil_right, List.filterMap_nil, List.isEmpty_nil, if_true, pure_bind]
  exact lam_new (dv := none) J TB hcode hm hu hT (fun y hy e => (L y hy e).elim (fun z => J.ok.has _ (.inl z)) fun z => J.ok.has _ (.inr z)) fun f c' H1 s1 J1 eN T1 fP f0 f1 c1 => ⟨.ref f, H1, J1, rfl, h f c' H1 eN T1 fP f0 f1 c1⟩
theorem pe_lamD {k : Nat} {p0 : Pos} (TB : TabB X.base X.mg c P) (hcode : X.env.code = .ref c) (hm : (P, X.env.qual ++ "<lambda>") ∈ T) (hu : ∀ p ∈ T, p.1 = P → p.2 = X.env.qual ++ "<lambda>") (L : ∀ y ∈ scope.names, y.2 = .free → X.env.scope.names.lookup y.1 = some .cell ∨ X.env.scope.names.lookup y.1 = some .free)
    (hdf : params.defaults = [.Constant (.int 0) k p0]) (hkd : params.kw_defaults = []) : PE X (.Lambda params body scope pos) (tLamD T P fun t c' => ⟨X.env.qual ++ "<lambda>", params, body, scope, cloFrom X.env.cells scope.names [], c', some t⟩) := by
  constructor
  intro pins s σ H Q J h
  obtain ⟨hT, h⟩ := h
  refine PySem.W.kdv_lam (by rw [hdf]; rfl) hkd ?_
  rw [hdf]
  refine PySem.W.kdv_all1 (thn (pe_int.run pins s σ H (fun v H1 => v = .int 0 ∧ H1 = H) J ⟨rfl, rfl⟩) fun u s1 ⟨v, H1, J1, rv, e1, e2⟩ => PySem.W.kdv_all0 ?_)
  subst e1 e2
  rw [makeFunction_eq]
  simp only [List.zip_nil_right, List.filterMap_nil, List.isEmpty_nil, List.isEmpty_cons, if_true, if_false, pure_bind, Bool.false_eq_true]
  refine wpAny_bind (wpAny_newTextTuple ?_)
  have e := Heap.get?_push_size s1.heap (o := PySem.W.kdv_tup [u]) rfl
  have J2 : Inv X pins σ (upd H1 s1.heap.objs.size (.tup [.int 0])) { s1 with heap := s1.heap.push (PySem.W.kdv_tup [u]) } :=
    J1.laid (t' := s1.toks) (fun b o z => Heap.get?_push_of_some _ z) (Nat.le_refl _) ⟨by show 1 ≤ sizeLine; decide, [u], .cons rv .nil, _, e, rfl, 0, rfl⟩
  have n0 := J1.hok.fresh (Nat.le_refl s1.heap.objs.size)
  have keep : ∀ b o, H1 b = some o → upd H1 s1.heap.objs.size (.tup [.int 0]) b = some o := fun b o z => by
    rw [upd_ne (ne_of_none z n0)]; exact z
  refine lam_new (dv := some s1.heap.objs.size) J2 TB hcode hm hu (hT.ext keep) (fun y hy e => (L y hy e).elim (fun z => J2.ok.has _ (.inl z)) fun z => J2.ok.has _ (.inr z)) fun f c' H2 s2 J3 eN T1 fP f0 f1 c1 => ?_
  have ft : H1 f = none := by
    cases q : H1 f with
    | none => rfl
    | some o => rw [keep _ _ q] at f0; cases f0
  exact ⟨.ref f, H2, J3, rfl, h s1.heap.objs.size f c' H2 (fun b o z n => eN b o (keep b o z) n) T1 ((Frm.new n0).trans fP) ft (eN _ _ upd_same fun ps z => by cases z) f1 c1⟩
end
/-! ### a lambda is called -/
/-- what its captured cells hold stays, from frame to frame -/
theorem cells_stay {fs ex : List Addr} {H H' : Hp} {h h' : Heap} {cl : List (Str × Addr)} {fr : List Str} {ws : List (Option V)} (C : CellsAt cl fr ws h H) (u : Un fs ex H H' h h') (out : ∀ y c, cl.lookup y = some c → c ∉ ex) : CellsAt cl fr ws h' H' := by
  have same : ∀ y c, cl.lookup y = some c → ∀ v, h.IsCell c v → h'.IsCell c v := fun y c e v ⟨o, z, d⟩ => by
    obtain ⟨sl, q⟩ := u.any z (C.all y c e).1 (out y c e)
    exact ⟨_, q, d⟩
  refine ⟨C.len, fun y c e => ?_, C.inj, fun i y e => ?_⟩
  · obtain ⟨n, v, z⟩ := C.all y c e
    obtain ⟨o, z1, _⟩ := id z
    exact ⟨u.free c o z1 n (out y c e), v, same y c e v z⟩
  · obtain ⟨c, hc, hv⟩ := C.has i y e
    exact ⟨c, hc, fun v ev => let ⟨a, r, z⟩ := hv v ev; ⟨a, r, same y c hc _ z⟩⟩
section
variable {P : Program} {w : World} {K : PySem.W.Frag} {mg : Str → Option Value} {base : Heap}
/-- what a lambda does: fr the names that it captured, ws what they hold -/
def LOk (P : Program) (w : World) (K : PySem.W.Frag) (mg : Str → Option Value) (base : Heap) (k : Nat) (f : Addr) (F : LF) (fr : List Str) (tl : List (Option V) → XK → Hp → VK → Prop) : Prop :=
  ∀ (A : Around) (outer : List Env) (s : Shared) (H : Hp) (ws : List (Option V)) (Q : VK) (E : XK), Room k A → Env0 P w K mg base A outer s H → H f = some (LamAt f F) → H F.c = some (CodeO F.c F.qual) → (∀ t, F.dv = some t → H t = some (.tup [.int 0])) → CellsAt F.cl fr ws s.heap H → tl ws E H Q →
    codeAny (model P w) A (.call (.ref f) ⟨[], []⟩) (CR (L2.CX P w) outer P w H s Q E) s
theorem LOk.mono {j k : Nat} {f : Addr} {F : LF} {fr : List Str} {tl : List (Option V) → XK → Hp → VK → Prop} (o : LOk P w K mg base j f F fr tl) (h : j ≤ k) : LOk P w K mg base k f F fr tl := fun A outer s H ws Q E hr => o A outer s H ws Q E (hr.mono h)
/-- by its body; vs: its default's value, if it has one -/
theorem lok_of {k : Nat} {f : Addr} {F : LF} {N ps fr : List Str} {vs : List V} {tb : XK → TE} (S : NScope N ps fr F.scope) (hl : vs.length = ps.length) (bind : ∀ (s : Shared) (doc pm ctv : Value), (∀ t, F.dv = some t → ∃ u, IsTup s.heap t #[u] ∧ RelV (.int 0) u) → ∃ us, Vals vs us ∧ BindsTo s (F.fd doc pm ctv) ⟨[], []⟩ (ps.zip us))
    (body : ∀ (A : Around) (outer : List Env) (s : Shared) (H : Hp) (E : XK), Room k (A.deeper (envF F.nf f s.heap.objs.size)) → PE (ncx (L2.CX P w) P w K mg base N F.nf f A outer s H E) F.body (tb E)) : LOk P w K mg base (k + 1) f F fr fun ws E H Q => tb E (startF N vs ws) H Q := by
  intro A outer s H ws Q E hr e0 hf hc hd C hq
  have lim : s.heap.NoLimit := e0.mod.nolimit.keeps fun b o e => (e0.bs b o e).1
  obtain ⟨doc, pm, ctv, ho⟩ := lamAt_get e0.hok hf
  obtain ⟨us, rv, bt⟩ := bind s doc pm ctv fun t ht => by
    have z : ObjOk P w H s.heap t (.tup [.int 0]) := e0.hok t _ (hd t ht)
    obtain ⟨_, its, r, z⟩ := z
    cases r with
    | cons r0 rr =>
      cases rr
      exact ⟨_, z, r0⟩
  refine PySem.W.kla_callFunE hr.depth ho rfl S.co S.gen rfl (codeO_at e0.hok hc) ?_
  refine bt _ _ _ _ (wpAny_newFunctionEnv S.nocell (fun ⟨n, _⟩ hy => S.par n (List.of_mem_zip hy).1) (fun g ns sb => ⟨lim.fresh _ sb, ?_⟩) S.kind)
  have kp : ∀ b o, s.heap.get? b = some o → g.get? b = some o := fun b o e => sb.extBut b o (Nat.ne_of_lt (Heap.lt_size e)) (Heap.get?_push_of_some _ e)
  have J : Inv (ncx (L2.CX P w) P w K mg base N F.nf f A outer s H E) [] (startF N vs ws) H { s with heap := g, toks := s.toks + (ps.zip us).length } := inv_startN S hr.hd e0 hl rv C ns kp
  refine PySem.W.kla_codeExpr (wpAny_mono ((body A outer s H E (hr.deeper _)).run [] _ _ H Q J hq) (fun v s2 hv => ?_) fun _ _ z => z)
  obtain ⟨x, H2, J2, r, q⟩ := hv
  exact ⟨x, H2, J2.os, J2.bare, J2.base, J2.hok, r, q⟩
end
theorem takes_ncx {P : Program} {w : World} {K : PySem.W.Frag} {mg : Str → Option Value} {base : Heap} {N : List Str} {F : NF} {f : Addr} {A : Around} {outer : List Env} {s : Shared} {H : Hp} {E : XK} : Takes (ncx (L2.CX P w) P w K mg base N F f A outer s H E) (fun cls d _ H => E cls d H) := takes_of rfl rfl rfl rfl
theorem pass_ncx {P : Program} {w : World} {K : PySem.W.Frag} {mg : Str → Option Value} {base : Heap} {N : List Str} {F : NF} {f : Addr} {A : Around} {outer : List Env} {s : Shared} {H : Hp} {E : XK} : Passes (L2.CX P w) (ncx (L2.CX P w) P w K mg base N F f A outer s H E) E := passes_call takes_ncx fun _ _ _ _ h => h
/-- the reading of what a lambda at f does, its object at hand -/
def tlF (f : Addr) (F : LF) (tl : XK → Hp → VK → Prop) : XK → Hp → VK → Prop := fun E H Q => H f = some (LamAt f F) ∧ (∀ t, F.dv = some t → H t = some (.tup [.int 0])) ∧ tl E H Q
/-- x(), in the def that got the lambda at f, entered at s from the frames of X -/
theorem pe_actL {X : Cx} {H : Hp} {s : Shared} {k : Nat} {f : Addr} {F : LF} {fr : List Str} {ws : List (Option V)} {tl : List (Option V) → XK → Hp → VK → Prop} {CXg : CXT} {Eg : XK} {Ng : List Str} {qg : Str} {sg : Scope} {g : Addr} {cdg : Value} {a : Str} {pn : List (Addr × Obj)} {xe : Value → Shared → Prop}
    {W : WX} {E : XK} {p1 p2 : Pos} (L : LOk X.prog X.w X.K X.mg X.base k f F fr tl) (C : CellsAt F.cl fr ws s.heap H) (tk : Takes ((cxOf CXg X.prog X.w X.K X.mg X.base Ng qg sg g cdg X.A X.stack s H Eg).tr pn xe) W) (hW : ∀ cls d σ' H', E cls d H' → W cls d σ' H')
    (hr : Room k (X.A.deeper (envOfC qg sg s.heap.objs.size g cdg))) (hN : Ng[0]? = some a) (hv : Vis sg a) (hd : (a == ("__debug__" : Str)) = false := by decide) (hcd : (a == ("__classdict__" : Str)) = false := by decide) :
    PE ((cxOf CXg X.prog X.w X.K X.mg X.base Ng qg sg g cdg X.A X.stack s H Eg).tr pn xe) (.Call (.Name a p1) [] [] p2) (fun σZ HZ Q => σZ[0]? = some (some (.ref f)) ∧ HZ F.c = some (CodeO F.c F.qual) ∧ tlF f F (tl ws) E HZ Q) := by
  constructor
  intro pinsZ sZ σZ HZ Q JZ h
  obtain ⟨hs, hc, hf, hdv, ht⟩ := h
  refine wpAny_Call_Name_kw (thn ((pe_var (pos := p1) (i := 0) hN hv hd hcd).run pinsZ sZ σZ HZ (fun v H1 => v = .ref f ∧ H1 = HZ) JZ ⟨.ref f, hs, rfl, rfl⟩) fun u s1 ⟨v, H1, J1, r1, e1, e2⟩ => ?_)
  subst e1 e2
  cases r1
  obtain ⟨doc, pm, ctv, ho⟩ := lamAt_get J1.hok hf
  refine PySem.W.callWith_F0 ⟨_, _, _, _, ho⟩ ?_
  have un : Un (frs X.stack) [] H H1 s.heap s1.heap := J1.base
  have C1 := cells_stay C un fun _ _ _ => by simp
  refine wpAny_call (codeAny_mono (L _ _ s1 H1 ws Q E hr J1.env0 hf hc hdv C1 ht) fun r s2 hq => ?_)
  cases r with
  | error e => exact passes_call tk hW pinsZ σZ H1 s1 e s2 J1 hq
  | ok fl =>
    cases fl with
    | ret v => exact J1.after hq
    | next => exact hq.elim
    | brk => exact hq.elim
    | cont => exact hq.elim
/-- how a lambda lies to the names of the def that made it -/
structure CapF (N : List Str) (sc : Scope) (cells : List (Str × Addr)) (F : LF) (fr : List Str) (js : List Nat) : Prop where
  cl : F.cl = cloFrom cells F.scope.names []
  free : ∀ y ∈ F.scope.names, y.2 = .free → sc.names.lookup y.1 = some .cell ∨ sc.names.lookup y.1 = some .free
  inn : ∀ y ∈ fr, (y, NameKind.free) ∈ F.scope.names
  at_ : js.map (fun j => N[j]?) = fr.map some
theorem cells_cap {X : Cx} {pins : List (Addr × Obj)} {σ : L2.St} {H : Hp} {s : Shared} {F : LF} {fr : List Str} {js : List Nat} (J : Inv X pins σ H s) (c : CapF X.N X.env.scope X.env.cells F fr js) : CellsAt F.cl fr (js.map (slotAt σ)) s.heap H := by
  rw [c.cl]
  exact cells_of J (Caps.made J.ok c.free c.inn c.at_)
/-- a lambda, ready to be called; ws: what the names hold that it captured -/
def Ready (P : Program) (w : World) (K : PySem.W.Frag) (mg : Str → Option Value) (base : Heap) (k : Nat) (N : List Str) (sc : Scope) (cells : List (Str × Addr)) (σL : L2.St) (f : Addr) (H : Hp) (tl : XK → Hp → VK → Prop) : Prop :=
  ∃ (F : LF) (fr : List Str) (js : List Nat) (tc : List (Option V) → XK → Hp → VK → Prop), LOk P w K mg base k f F fr tc ∧ CapF N sc cells F fr js ∧ H f = some (LamAt f F) ∧ H F.c = some (CodeO F.c F.qual) ∧ (∀ t, F.dv = some t → H t = some (.tup [.int 0])) ∧ tl = tlF f F (tc (js.map (slotAt σL)))
/-- the reading of x(e), x a def that calls what it gets -/
def tWord (P : Program) (w : World) (K : PySem.W.Frag) (mg : Str → Option Value) (base : Heap) (k : Nat) (N : List Str) (sc : Scope) (cells : List (Str × Addr)) (sel : L2.St → L2.St) (TT : (XK → Hp → VK → Prop) → Hp → VK → Prop) (te : TE) : TE := fun σ H Q =>
  te σ H fun v H1 => ∃ (f : Addr) (tl : XK → Hp → VK → Prop), v = .ref f ∧ Ready P w K mg base k N sc cells (sel σ) f H1 tl ∧ TT tl H1 Q
theorem pe_word {X : Cx} {TT : (XK → Hp → VK → Prop) → Hp → VK → Prop} {N0 : List Str} {sc0 : Scope} {cells0 : List (Str × Addr)} {sel : L2.St → L2.St} {x a : Str} {g : Addr} {k : Nat} {pg : Arguments} {bg : List Stmt} {sg : Scope} {dV kV doc pm cdv ct oc : Value} {an od : Option Addr} {osl : Array (Option Value)} {Ng : List Str}
    {e : Expr} {te : TE} {p pos : Pos} (known : ∀ (pins : List (Addr × Obj)) (s : Shared) (σ : L2.St) (H : Hp), Inv X pins σ H s → ∀ (F : LF) (fr : List Str) (js : List Nat), CapF N0 sc0 cells0 F fr js → CellsAt F.cl fr (js.map (slotAt (sel σ))) s.heap H)
    (hg : Gl X x) (hm : X.mg x = some (.ref g)) (hk : PySem.W.keepIn X.K (.ref g) = true) (lk : X.K.lookup g = some ⟨oc, od, .func (PySem.W.fnOf x x pg bg sg dV kV doc pm an cdv ct), osl⟩) (hcg : PySem.W.codeIn X.K cdv x = true) (hb : L2.Binds X.K (PySem.W.fnOf x x pg bg sg dV kV doc pm an cdv ct) [a] []) (Sg : FnScope Ng [a] sg)
    (hNg : Ng[0]? = some a) (hva : Vis sg a) (hG : ∀ q, GivesTo X Ng x sg g cdv bg a q TT) (hr : Room (k + 1) X.A) (he : PE X e te) (hdb : (x == ("__debug__" : Str)) = false := by decide) (hd : (a == ("__debug__" : Str)) = false := by decide) (hcd : (a == ("__classdict__" : Str)) = false := by decide)
    (hst : starEach (e :: []) X.env = (false, eval e X.env) :: starEach [] X.env := by rfl) (hpl : (backTo pos (starEach [] X.env)).any (·.1) = false := by rfl) :
    PE X (.Call (.Name x p) [e] [] pos) (tWord X.prog X.w X.K X.mg X.base k N0 sc0 cells0 sel TT te) := by
  constructor
  intro pins s σ H Q J h
  refine wpAny_Call_Name_kw (ld_glob J hg hm ?_ hdb)
  refine PySem.W.callWith_K (h₀ := X.base) J.ok.mod.kin hk (thn ((pa_cons he pa_nil (hs := hst)).run pos pins s σ H (fun vs H1 => ∃ v, vs = [v] ∧ ∃ (f : Addr) (tl : XK → Hp → VK → Prop), v = .ref f ∧ Ready X.prog X.w X.K X.mg X.base k N0 sc0 cells0 (sel σ) f H1 tl ∧ TT tl H1 Q) J (by
      have h' : te σ H fun v H1 => ∃ (f : Addr) (tl : XK → Hp → VK → Prop), v = .ref f ∧ Ready X.prog X.w X.K X.mg X.base k N0 sc0 cells0 (sel σ) f H1 tl ∧ TT tl H1 Q := h
      show te σ H fun v H1 => tNil σ H1 fun vs H2 => ∃ w0, v :: vs = [w0] ∧ _
      exact cast (by congr 1; funext v H1; exact propext ⟨fun z => ⟨v, rfl, z⟩, fun ⟨w0, z1, z2⟩ => by cases z1; exact z2⟩) h')) fun us s1 hh => ?_) hst hpl
  obtain ⟨vs, H1, J1, rs, v, rfl, f, tl, rfl, ⟨F, fr, js, tc, L, cap, hf, hc, hdv, rfl⟩, ht⟩ := hh
  refine ⟨J1.kIn, ?_⟩
  cases rs with
  | cons r0 rr =>
  cases rr
  cases r0
  have C := known _ _ _ _ J1 F fr js cap
  have rc : codeAny (model X.prog X.w) X.A (.call (.ref g) ⟨[.ref f], []⟩) (CR C8.CX0 X.stack X.prog X.w H1 s1 Q C8.E0) s1 := by
    refine run_ofS (N := Ng) (ps := [a]) (us := [.ref f]) (vs := [.ref f]) lk hcg Sg hr J1.env0 (hb s1 [.ref f] J1.kIn rfl) (.cons rfl .nil) rfl fun hr2 => ?_
    obtain ⟨t2, d2, q2⟩ := hG F.qual f F.c s1 H1 Q _ (fun W pn xe E p1 p2 tk hW => pe_actL L C tk hW hr2 hNg hva hd hcd) hc ht
    exact ⟨t2, d2.nox, q2⟩
  refine wpAny_call (codeAny_mono rc fun r s2 hq => ?_)
  cases r with
  | error e => exact (show False from hq).elim
  | ok fl =>
    cases fl with
    | ret u => exact J1.after hq
    | next => exact hq.elim
    | brk => exact hq.elim
    | cont => exact hq.elim
end TL

namespace TL
open PySem PySem.Spec PyProof.Rows L2 LamX NdefX
/-! ### a list comprehension whose element (or test) wants to know what holds in the def around it -/
section
variable {X : Cx}
theorem lc_known {pins : List (Addr × Obj)} {s : Shared} {σ : L2.St} {H : Hp} {Q : VK} {elt tg iter : Expr} {ifs : List Expr} {scope : Scope} {own : List (Str × Nat)} {pos fpos : Pos} {wi : TI} {g : TG} {tt : TT} {te : TE} {use : Option (Value → Sem Unit)} {Qf : Value → Shared → Prop}
    (calm : X.calm = true) (nd : X.N.Nodup) (J : Inv X pins σ H s) (it_ : PI X tg iter wi) (bk : BlkOk X.N X.env.scope scope own)
    (gg : ∀ (s0 : Shared) (H0 : Hp) (C : Addr) (cl : List (Str × Addr)) (ob : List Addr), PG (X.blk s0 H0 scope (compEnvC scope cl C X.env) ob) tg g)
    (tests : ∀ (s0 : Shared) (H0 : Hp) (C : Addr) (cl : List (Str × Addr)) (ob : List Addr), Inv X pins σ H0 s0 → (∀ b ∈ ob, FpOk X pins H0 b) → PTs (X.blk s0 H0 scope (compEnvC scope cl C X.env) ob) ifs tt)
    (elem : ∀ (s0 : Shared) (H0 : Hp) (C : Addr) (cl : List (Str × Addr)) (ob : List Addr), Inv X pins σ H0 s0 → (∀ b ∈ ob, FpOk X pins H0 b) → PE (X.blk s0 H0 scope (compEnvC scope cl C X.env) ob) elt te)
    (fold : ∀ x, foldedSetIterable iter X.env x = pure x) (h : tLc wi g tt te (own.map (·.2)) σ H Q)
    (out : ∀ L C s2 m H2, Inv X pins σ H2 s2 → Q (.ref L) H2 → s2.heap.Ns C m → FpOk X pins H2 C → compPost (model X.prog X.w) X.A X.xe use Qf (.ref L) C (.ok .next) s2) :
    wpAny (model X.prog X.w) X.A (comprehension (.ListComp elt [⟨tg, iter, ifs, 0⟩] scope pos) scope X.env fpos (newList []) false (eval iter X.env) use) Qf X.xe s := by
  have caught : ∀ y ∈ scope.names, y.2 = .free → ∃ c, X.env.cells.lookup y.1 = some c := fun y hy e => (bk.free y hy e).elim (fun z => J.ok.has _ (.inl z)) fun z => J.ok.has _ (.inr z)
  refine wpAny_comprehension_free (use := use) rfl fold (closure_ok caught) bk.kind (fun y hy e => (bk.uniq y hy).trans (congrArg some e)) (thn (it_.run pins s σ H _ J h) fun xv sA hA => thn hA fun iv sB hB => ?_)
  obtain ⟨i0, ob, tn, It, HB, rfl, JB, Tn, hst, free, q⟩ := hB
  refine wpAny_newObj_type (newEnv_comp ?_) (by show 0 ≤ sizeLine; decide)
  -- the new list
  obtain ⟨L, eL⟩ : ∃ L, sB.heap.objs.size = L := ⟨_, rfl⟩
  have noL : HB L = none := JB.hok.fresh (Nat.le_of_eq eL)
  obtain ⟨Inn, ⟨m0, start⟩, turn⟩ := q L noL
  obtain ⟨sC, eC⟩ : ∃ sC : Shared, sC = { sB with heap := sB.heap.push { cls := .type "list", data := .seq ([] : List Value).toArray } } := ⟨_, rfl⟩
  have heapC : sC.heap = sB.heap.push { cls := .type "list", data := .seq ([] : List Value).toArray } := by rw [eC]
  have JC : Inv X pins σ (upd HB L (.lst [])) sC := by
    rw [eC]
    exact JB.laid (t' := sB.toks) (fun b o z => Heap.get?_push_of_some _ z) (Nat.le_of_eq eL) ⟨Nat.zero_le _, [], 0, .nil, by rw [← eL]; exact Heap.get?_push_size _ rfl⟩
  have size : ∀ b ∈ ob, b < sB.heap.objs.size := fun b hb => let ⟨_, z, _⟩ := Tn.obj _ _ hst b hb; Heap.lt_size z
  have clear : ∀ b ∈ ob, FpOk X pins (upd HB L (.lst [])) b ∧ b < sC.heap.objs.size := fun b hb =>
    ⟨⟨by rw [upd_ne (by rw [← eL]; exact Nat.ne_of_lt (size b hb))]; exact (free b hb).1, (free b hb).2⟩, by rw [heapC, Heap.size_push]; exact Nat.lt_succ_of_lt (size b hb)⟩
  have hstC : tn 0 sC.heap := Tn.keep _ _ _ hst fun b _ o z => by rw [heapC]; exact Heap.get?_push_of_some _ z
  have JD := block_start JC bk nd clear
  obtain ⟨cl, ecl⟩ : ∃ cl, cellsFrom (sC.heap.objs.size + 1) scope.names (cloFrom X.env.cells scope.names []) = cl := ⟨_, rfl⟩
  have gD := gg sC (upd HB L (.lst [])) sC.heap.objs.size cl ob
  have tD := tests sC (upd HB L (.lst [])) sC.heap.objs.size cl ob JC fun b hb => (clear b hb).1
  have eD := elem sC (upd HB L (.lst [])) sC.heap.objs.size cl ob JC fun b hb => (clear b hb).1
  rw [ecl] at JD
  have gone : ∀ b ∈ ob, (upd HB L (.lst [])) b = none := fun b hb => (clear b hb).1.1
  obtain ⟨ce, ece⟩ : ∃ ce, compEnvC scope cl sC.heap.objs.size X.env = ce := ⟨_, rfl⟩
  have loc : ce.locals = sC.heap.objs.size := by rw [← ece]; rfl
  rw [ece] at JD gD tD eD
  obtain ⟨HC, eHC⟩ : ∃ HC, upd HB L (.lst []) = HC := ⟨_, rfl⟩
  rw [eHC] at JC JD gD tD eD start gone clear
  obtain ⟨sD, esD⟩ : ∃ sD : Shared, sD = { sC with heap := pushCells (sC.heap.push { cls := .type "dict", data := .dict #[] }) scope.names } := ⟨_, rfl⟩
  rw [← esD] at JD
  have hstD : tn 0 sD.heap := Tn.keep _ _ _ hstC fun b _ o z => by rw [esD]; exact pushCells_keeps _ _ _ _ (Heap.get?_push_of_some _ z)
  have within : ∀ {σ1 : L2.St} {H1 : Hp} {s1 : Shared}, Inv (X.blk sC HC scope ce ob) [] σ1 H1 s1 → (∀ b ∈ ob, H1 b = none) → ∀ b ∈ ob, FpOk (X.blk sC HC scope ce ob) [] H1 b := fun {σ1 H1 s1} K1 z b hb =>
    ⟨z b hb, (K1.ok.exf b hb).1, K1.ok.exfs b hb, .inl hb, fun x c e => (K1.ok.exf b hb).2 x c e, fun p hp => by simp at hp⟩
  have all : codeAny (model X.prog X.w) X.A (.compLoop (.ListComp elt [⟨tg, iter, ifs, 0⟩] scope pos) 0 (.ref i0) (.ref L) ce) (compPost (model X.prog X.w) X.A X.xe use Qf (.ref L) sC.heap.objs.size) sD := by
    refine compLoop_any (fun n s1 => ∃ i H1, Inv (X.blk sC HC scope ce ob) [] (wipe σ (own.map (·.2))) H1 s1 ∧ tn i s1.heap ∧ (∀ b ∈ ob, H1 b = none) ∧ Inn i n H1) (fun n s1 hs1 => ?_) m0 ⟨0, HC, JD, hstD, gone, start⟩
    obtain ⟨i, H1, J1, t1, z1, in1⟩ := hs1
    rcases turn i n H1 in1 with ⟨fin, qq⟩ | ⟨going, Next, toNext, step⟩
    · refine thnF (Tn.done (X.blk sC HC scope ce ob) rfl rfl rfl calm i [] s1 _ H1 (fun _ _ => False) J1 (within J1 z1) t1 fin) fun r s2 ⟨er, J2⟩ => ?_
      cases er
      have home : Inv X pins σ H1 s2 := JC.call' (ch := ob) J2.os J2.base J2.hok J2.bare fun b hb => let z := (clear b hb).1.2; ⟨z.2.2.1, z.1, z.2.2.2.1, z.2.2.2.2⟩
      have noC : H1 sC.heap.objs.size = none := by
        rw [← loc]
        exact J2.free
      obtain ⟨m, ns, _⟩ := J2.loc
      refine out L sC.heap.objs.size s2 m H1 home qq ?_ (JC.fpOk (Nat.le_refl _) noC)
      rw [← loc]
      exact ns
    · refine thnF (Tn.item (X.blk sC HC scope ce ob) rfl rfl rfl calm i [] s1 _ H1 (fun _ _ => False) J1 (within J1 z1) t1 going) fun r s2 ⟨u, er, h2⟩ => ?_
      cases er
      refine thnF h2 fun _ s3 ⟨x, H3, J3, r3, y3, t3, z3⟩ => ?_
      have J3p := J3.pinned (within J3 z3) (Tn.obj _ _ t3)
      refine thnF (gD.run _ s3 _ H3 x u _ J3p r3 (step x H3 y3)) fun _ s4 ⟨σ4, H4, J4, w4, q4⟩ => ?_
      refine thnF (tD.run _ s4 σ4 H4 _ J4 q4) fun b s5 ⟨H5, J5, q5⟩ => ?_
      have again : ∀ {s6 : Shared} {H6 : Hp}, Inv (X.blk sC HC scope ce ob) ([] ++ pinsAt ob s3.heap) σ4 H6 s6 → Next H6 → ∃ m, m < n ∧ ∃ i H1, Inv (X.blk sC HC scope ce ob) [] (wipe σ (own.map (·.2))) H1 s6 ∧ tn i s6.heap ∧ (∀ b ∈ ob, H1 b = none) ∧ Inn i m H1 := fun {s6 H6} J6 nx => by
        obtain ⟨m, lt, in6⟩ := toNext H6 nx
        have stay : ∀ b ∈ ob, ∀ o, s3.heap.get? b = some o → s6.heap.get? b = some o ∧ H6 b = none := fun b hb o z =>
          let w := J6.pin (b, o) (List.mem_append_right _ (List.mem_append_right _ (mem_pinsAt hb z))); ⟨w.1, w.2.1⟩
        refine ⟨m, lt, i + 1, H6, (J6.unpinned (pins := [])).weak (by rw [← w4, wipe_length]) (fun j v z => ?_), Tn.keep _ _ _ t3 fun b hb o z => (stay b hb o z).1, fun b hb => ?_, in6⟩
        · rw [← w4] at z
          exact (wipe_some z).1
        · obtain ⟨o, z, _⟩ := Tn.obj _ _ t3 b hb
          exact (stay b hb o z).2
      cases b with
      | true =>
        rw [if_pos rfl] at q5 ⊢
        refine thnF (eD.run _ s5 σ4 H5 _ J5 q5) fun z s6 ⟨y, H6, J6, r6, acc, hL, hz, nx⟩ => ?_
        exact app_ok (X := X.blk sC HC scope ce ob) J6 hL hz r6 fun s7 J7 => again J7 nx
      | false =>
        rw [if_neg Bool.false_ne_true] at q5 ⊢
        exact again J5 q5
  have go := codeAny_compStart_list all (Tn.self X.A 0 _ _ _ hstD all)
  subst esD ece ecl eL eC
  exact go
/-- as a value -/
theorem pe_lcK {elt tg iter : Expr} {ifs : List Expr} {scope : Scope} {own : List (Str × Nat)} {pos : Pos} {wi : TI} {g : TG} {tt : L2.St → TT} {te : L2.St → TE} (calm : X.calm = true) (nd : X.N.Nodup) (it_ : PI X tg iter wi) (bk : BlkOk X.N X.env.scope scope own)
    (gg : ∀ (s0 : Shared) (H0 : Hp) (C : Addr) (cl : List (Str × Addr)) (ob : List Addr), PG (X.blk s0 H0 scope (compEnvC scope cl C X.env) ob) tg g)
    (tests : ∀ (pins : List (Addr × Obj)) (σ : L2.St) (s0 : Shared) (H0 : Hp) (C : Addr) (cl : List (Str × Addr)) (ob : List Addr), Inv X pins σ H0 s0 → (∀ b ∈ ob, FpOk X pins H0 b) → PTs (X.blk s0 H0 scope (compEnvC scope cl C X.env) ob) ifs (tt σ))
    (elem : ∀ (pins : List (Addr × Obj)) (σ : L2.St) (s0 : Shared) (H0 : Hp) (C : Addr) (cl : List (Str × Addr)) (ob : List Addr), Inv X pins σ H0 s0 → (∀ b ∈ ob, FpOk X pins H0 b) → PE (X.blk s0 H0 scope (compEnvC scope cl C X.env) ob) elt (te σ))
    (fold : ∀ x, foldedSetIterable iter X.env x = pure x := by intro _; rfl) : PE X (.ListComp elt [⟨tg, iter, ifs, 0⟩] scope pos) (fun σ H Q => tLc wi g (tt σ) (te σ) (own.map (·.2)) σ H Q) := by
  constructor
  intro pins s σ H Q J h
  rw [eval_ListComp]
  refine lc_known calm nd J it_ bk gg (tests pins σ) (elem pins σ) fold h fun L C s2 m H2 J2 q ns z => ⟨m, ns, fun h2 but => ?_⟩
  exact ⟨.ref L, H2, J2.turned (t' := s2.toks) (fun b o hb e => (but.2 b hb).trans e) z.1 z.2.1 z.2.2.2.1 z.2.2.2.2.1 z.2.2.2.2.2, rfl, q⟩
/-- in the def that made the lambdas -/
theorem known_def : ∀ (pins : List (Addr × Obj)) (s : Shared) (σ : L2.St) (H : Hp), Inv X pins σ H s → ∀ (F : LF) (fr : List Str) (js : List Nat), CapF X.N X.env.scope X.env.cells F fr js → CellsAt F.cl fr (js.map (slotAt (id σ))) s.heap H := fun _ _ _ _ J _ _ _ c => cells_cap J c
/-- in a comprehension there -/
theorem known_blk {pins : List (Addr × Obj)} {σ : L2.St} {s0 : Shared} {H0 : Hp} {scope : Scope} {cenv : Env} {ob : List Addr} (J : Inv X pins σ H0 s0) (z : ∀ b ∈ ob, FpOk X pins H0 b) :
    ∀ (pins2 : List (Addr × Obj)) (s : Shared) (σ2 : L2.St) (H : Hp), Inv (X.blk s0 H0 scope cenv ob) pins2 σ2 H s → ∀ (F : LF) (fr : List Str) (js : List Nat), CapF X.N X.env.scope X.env.cells F fr js → CellsAt F.cl fr (js.map (slotAt ((fun _ => σ) σ2))) s.heap H := by
  intro pins2 s σ2 H J2 F fr js c
  have u : Un (X.blk s0 H0 scope cenv ob).fs ob H0 H s0.heap s.heap := J2.base
  refine cells_stay (cells_cap J c) u fun y a e hb => ?_
  rw [c.cl] at e
  have e2 : X.env.cells.lookup y = some a := clo_cm (fun y hy k => (c.free y hy k).elim (fun q => J.ok.has _ (.inl q)) fun q => J.ok.has _ (.inr q)) e
  exact (z a hb).2.2.2.2.1 y a e2 rfl
/-- the reading of x(e) in such a comprehension -/
abbrev tWordX (X : Cx) (k : Nat) (sel : L2.St → L2.St) (TT : (XK → Hp → VK → Prop) → Hp → VK → Prop) (te : TE) : TE := tWord X.prog X.w X.K X.mg X.base k X.N X.env.scope X.env.cells sel TT te
theorem ready_of {P : Program} {w : World} {K : PySem.W.Frag} {mg : Str → Option Value} {base : Heap} {k : Nat} {N : List Str} {sc : Scope} {cells : List (Str × Addr)} {σL : L2.St} {f : Addr} {H : Hp} {F : LF} {fr : List Str} {js : List Nat} {tc : List (Option V) → XK → Hp → VK → Prop}
    (hf : H f = some (LamAt f F)) (hc : H F.c = some (CodeO F.c F.qual)) (hd : ∀ t, F.dv = some t → H t = some (.tup [.int 0])) (L : LOk P w K mg base k f F fr tc) (c : CapF N sc cells F fr js) : Ready P w K mg base k N sc cells σL f H (tlF f F (tc (js.map (slotAt σL)))) := ⟨F, fr, js, tc, L, c, hf, hc, hd, rfl⟩
end
end TL

namespace TL
open PySem PySem.Spec PyProof.Rows L2
/-! ### tuples cut and put together: what comes out, be it new or not -/
theorem slA {K : PySem.W.Frag} {H : Hp} {a : Addr} {xs : List V} {lo hi : Option Int} {Q : VK} (ha : H a = some (.tup xs)) (k : ∀ p H', Same H H' → H' p = some (.tup (cutV xs lo hi)) → Q (.ref p) H') : rSlA K (.ref a) lo hi H Q :=
  ⟨a, xs, rfl, SqT.of ha, fun z => k a H (.refl _) (by
    have e : cutV xs lo hi = xs := by
      unfold cutV
      rw [z.1, z.2, List.drop_zero, Nat.sub_zero, List.take_length]
    rw [e]
    exact ha), fun _ p hp => k p _ (Same.upd_new hp) upd_same⟩
theorem catTT {K : PySem.W.Frag} {H : Hp} {a b : Addr} {xs ys : List V} {Q : VK} (ha : H a = some (.tup xs)) (hb : H b = some (.tup ys)) (hl : xs.length + ys.length ≤ 1000) (k : ∀ p H', Same H H' → H' p = some (.tup (xs ++ ys)) → Q (.ref p) H') : rCatA K (.ref a) (.ref b) H Q :=
  ⟨a, b, xs, ys, rfl, rfl, SqT.of ha, SqT.of hb, Nat.le_of_lt (small1000 hl), fun z => k b H (.refl _) (by rw [z]; exact hb), fun _ z => k a H (.refl _) (by rw [z, List.append_nil]; exact ha), fun _ _ p hp => k p _ (Same.upd_new hp) upd_same⟩
abbrev rAddI : R2 := rI0 fun i j => .int (i + j)
section
variable {K : PySem.W.Frag} {σ : L2.St} {H : Hp} {t : Addr} {xs : List V} {n : Nat}
theorem cutT_to (hl : n ≤ xs.length) : cutV xs none (some (n : Int)) = xs.take n := by
  unfold cutV
  have e1 : HT.sIx xs.length xs.length (some (n : Int)) = n := by
    show (if (n : Int) < 0 then ((n : Int) + (xs.length : Nat)).toNat else min (n : Int).toNat xs.length) = _
    rw [if_neg (by omega)]
    omega
  have e2 : HT.sIx xs.length 0 none = 0 := rfl
  rw [e1, e2]
  rfl
theorem cutT_from (hl : n + 1 ≤ xs.length) : cutV xs (some ((n : Int) + 1)) none = xs.drop (n + 1) := by
  unfold cutV
  have e1 : HT.sIx xs.length 0 (some ((n : Int) + 1)) = n + 1 := by
    show (if (n : Int) + 1 < 0 then ((n : Int) + 1 + (xs.length : Nat)).toNat else min ((n : Int) + 1).toNat xs.length) = _
    rw [if_neg (by omega)]
    omega
  have e2 : HT.sIx xs.length xs.length none = xs.length := rfl
  rw [e1, e2, List.take_of_length_le (by rw [List.length_drop]; exact Nat.le_refl _)]
theorem cutG_to (n : Nat) : cutV xs none (some (n : Int)) = xs.take n := by
  unfold cutV
  rw [HT.sIx_none, List.drop_zero, Nat.sub_zero, HT.sIx_nat]
  apply List.take_eq_take_iff.mpr
  omega
theorem cutG_from (n : Nat) : cutV xs (some (n : Int)) none = xs.drop n := by
  unfold cutV
  rw [HT.sIx_none, HT.sIx_nat, List.take_of_length_le (by rw [List.length_drop]; exact Nat.le_refl _)]
  rcases Nat.le_total n xs.length with q | q
  · rw [Nat.min_eq_left q]
  · rw [Nat.min_eq_right q, List.drop_eq_nil_of_le (Nat.le_refl _), List.drop_eq_nil_of_le q]
theorem cutG_from1 (n : Nat) : cutV xs (some ((n : Int) + 1)) none = xs.drop (n + 1) := cutG_from (n + 1)
/-- a tuple without its n-th -/
theorem cut_out {i j : Nat} (hi : σ[i]? = some (some (.ref t))) (hj : σ[j]? = some (some (.int (n : Int)))) (ht : H t = some (.tup xs)) (hl : n + 1 ≤ xs.length) (hx : xs.length ≤ 100) :
    tOp (rCatA K) (tSl (rSlA K) (tVar i) tNoPart (tPart (tVar j))) (tSl (rSlA K) (tVar i) (tPart (tOp rAddI (tVar j) (tC (.int 1)))) tNoPart) σ H (fun v H' => ∃ p, v = .ref p ∧ H' p = some (.tup (xs.take n ++ xs.drop (n + 1))) ∧ Same H H') := by
  refine ⟨_, hi, _, hj, _, rfl, slA ht fun p H1 s1 hp => ?_⟩
  rw [cutT_to (by omega)] at hp
  have fin : ∀ q H2, Same H1 H2 → H2 q = some (.tup (xs.drop (n + 1))) → rCatA K (.ref p) (.ref q) H2 (fun v H' => ∃ p, v = .ref p ∧ H' p = some (.tup (xs.take n ++ xs.drop (n + 1))) ∧ Same H H') := fun q H2 s2 hq =>
    catTT (s2 _ _ hp) hq (by rw [List.length_take, List.length_drop]; omega) fun u H3 s3 hu => ⟨u, rfl, hu, (s1.trans s2).trans s3⟩
  refine ⟨_, hi, _, hj, _, _, rfl, rfl, _, rfl, t, xs, rfl, SqT.of (s1 _ _ ht), fun z => ?_, fun _ q hq => ?_⟩
  · have e0 : cutV xs (some ((n : Int) + 1)) none = xs := by
      unfold cutV
      rw [z.1, z.2, List.drop_zero, Nat.sub_zero, List.take_length]
    refine fin t H1 (.refl _) ?_
    rw [← cutT_from hl, e0]
    exact s1 _ _ ht
  · refine fin q _ (Same.upd_new hq) ?_
    rw [← cutT_from hl]
    exact upd_same
/-- a tuple, another thing in its n-th's place -/
theorem cut_put {i j k : Nat} {x : V} (hi : σ[i]? = some (some (.ref t))) (hj : σ[j]? = some (some (.int (n : Int)))) (hk : σ[k]? = some (some x)) (ht : H t = some (.tup xs)) (hl : n + 1 ≤ xs.length) (hx : xs.length ≤ 100) :
    tOp (rCatA K) (tOp (rCatA K) (tSl (rSlA K) (tVar i) tNoPart (tPart (tVar j))) (tTup (tCons (tVar k) tNil))) (tSl (rSlA K) (tVar i) (tPart (tOp rAddI (tVar j) (tC (.int 1)))) tNoPart) σ H (fun v H' => ∃ p, v = .ref p ∧ H' p = some (.tup (xs.take n ++ [x] ++ xs.drop (n + 1))) ∧ Same H H') := by
  refine ⟨_, hi, _, hj, _, rfl, slA ht fun p H1 s1 hp => ?_⟩
  rw [cutT_to (by omega)] at hp
  refine ⟨_, hk, (by show 1 ≤ sizeLine; decide), fun o ho => ?_⟩
  have s2 := Same.upd_new (o := .tup [x]) ho
  refine catTT (s2 _ _ hp) upd_same (by rw [List.length_take]; show _ + 1 ≤ _; omega) fun c H3 s3 hc => ?_
  have s13 := (s1.trans s2).trans s3
  have fin : ∀ q H4, Same H3 H4 → H4 q = some (.tup (xs.drop (n + 1))) → rCatA K (.ref c) (.ref q) H4 (fun v H' => ∃ p, v = .ref p ∧ H' p = some (.tup (xs.take n ++ [x] ++ xs.drop (n + 1))) ∧ Same H H') := fun q H4 s4 hq =>
    catTT (s4 _ _ hc) hq (by rw [List.length_append, List.length_take, List.length_drop]; show _ + 1 + _ ≤ _; omega) fun u H5 s5 hu => ⟨u, rfl, hu, (s13.trans s4).trans s5⟩
  refine ⟨_, hi, _, hj, _, _, rfl, rfl, _, rfl, t, xs, rfl, SqT.of (s13 _ _ ht), fun z => ?_, fun _ q hq => ?_⟩
  · have e0 : cutV xs (some ((n : Int) + 1)) none = xs := by
      unfold cutV
      rw [z.1, z.2, List.drop_zero, Nat.sub_zero, List.take_length]
    refine fin t H3 (.refl _) ?_
    rw [← cutT_from hl, e0]
    exact s13 _ _ ht
  · refine fin q _ (Same.upd_new hq) ?_
    rw [← cutT_from hl]
    exact upd_same
end
/-- an item at a place that is drawn -/
theorem at_get {α : Type} {l : List α} {r : Int} (h0 : 0 ≤ r) (h1 : r < l.length) : ∃ x, x ∈ l ∧ atI l r = some x := by
  obtain ⟨n, rfl⟩ : ∃ n : Nat, r = n := ⟨r.toNat, by omega⟩
  have hn : n < l.length := by omega
  exact ⟨l[n], List.getElem_mem hn, atI_nat (List.getElem?_eq_getElem hn)⟩
/-! ### data that stay where tuples stay -/
mutual
theorem Im.tups {H H' : Hp} (e : ∀ b ys, H b = some (.tup ys) → H' b = some (.tup ys)) : ∀ {x : V} {d : PyData}, Im H x d → Im H' x d
  | _, _, .non => .non
  | _, _, .bl b => .bl b
  | _, _, .int i => .int i
  | _, _, .str z => .str z
  | _, _, .tup h a => .tup (e _ _ h) (ImAll.tups e a)
theorem ImAll.tups {H H' : Hp} (e : ∀ b ys, H b = some (.tup ys) → H' b = some (.tup ys)) : ∀ {xs : List V} {ds : List PyData}, ImAll H xs ds → ImAll H' xs ds
  | _, _, .nil => .nil
  | _, _, .cons h t => .cons (Im.tups e h) (ImAll.tups e t)
end
theorem ext_tups {H H' : Hp} (e : LamX.ExtN H H') : ∀ b ys, H b = some (.tup ys) → H' b = some (.tup ys) := fun b _ z => e b _ z fun _ z => by cases z
theorem Im.ext {H H' : Hp} {x : V} {d : PyData} (h : Im H x d) (e : LamX.ExtN H H') : Im H' x d := h.tups (ext_tups e)
theorem ImAll.ext {H H' : Hp} {xs : List V} {ds : List PyData} (h : ImAll H xs ds) (e : LamX.ExtN H H') : ImAll H' xs ds := h.tups (ext_tups e)
theorem flat_rep {α : Type} (x : α) : ∀ n : Nat, (List.replicate n [x]).flatten = List.replicate n x
  | 0 => rfl
  | n + 1 => by rw [List.replicate_succ, List.flatten_cons, flat_rep x n]; rfl
theorem lst_ne {xs : List V} (ps : Array Value) : HO.lst xs ≠ .tbl ps := fun z => by cases z
theorem tup_ne {xs : List V} (ps : Array Value) : HO.tup xs ≠ .tbl ps := fun z => by cases z
end TL

namespace TL
open PySem PySem.Spec PyProof.Rows L2
/-! ### several defs that make lambdas: their tables are empty at the law's call -/
def OwnTabs (K : PySem.W.Frag) (mg : Str → Option Value) (names : List Str) (h : Heap) : Prop := ∀ (y : Str) (b : Addr), y ∈ names → mg y = some (.ref b) → LamX.OwnTab K b h
theorem walk_tabs {l : PySem.W.OpenLaw} {n k : Nat} {q : Program} {loose : List Str} {XP : (Str → Option Value) → Heap → Prop} {YP : World → Heap → Prop} {d : DefRec} {K : Params → PySem.W.Frag} {CX : World → CXT} {x : Str} {names : List Str}
    (hn : l.most = some n) (hs : n ≤ sizeLine) (hdf : d.params.defaults = []) (hr : Room k callerA) (hrec : ∀ y ∈ names, ((recsOf q).any fun e => e.name == y) = true) (hY : ∀ (w : World) (h : Heap), YP w h → (K w.params).In h)
    (F : ∀ (w : World) (mg : Str → Option Value) (fa : Addr) (h : Heap), YP w h → (K w.params).In h → h.Ns mainGlobals mg → mg d.name = some (.ref fa) → OwnTabs (K w.params) mg names h → LamX.LawAtS l w (K w.params) (CX w) k n x mg fa h)
    (hC : ∀ (w : World) (H : Hp) (s : Shared) (e : Value) (t : Shared), CX w [] H s (fun _ _ _ => False) e t → False) : PySem.W.WalkO q loose XP YP l.row.toRowW d [] (fun f vs => PySem.call f vs) := by
  refine Att.attach_callB hn hdf fun w _ s₁ mg _ fa _ _ _ _ a _ ns G Y _ _ _ gm go gi gl gb gg => ?_
  have kx := hY w _ Y
  have own : OwnTabs (K w.params) mg names s₁.heap := fun y b hy gy c P o1 fd1 e dd vs1 sl k1 k2 k3 k4 k5 => by
    obtain ⟨dL, hm, hd⟩ := List.any_eq_true.mp (hrec y hy)
    obtain ⟨b', o', fd', c', P', h1, h2, h3, h4, h5, h6⟩ := G.T.tab dL hm
    have gn : dL.name = y := beq_iff_eq.mp hd
    rw [gn, gy] at h1; cases h1
    rw [kx _ _ k1] at h2; cases h2
    rw [k2] at h3; cases h3
    rw [k3] at h4; cases h4
    obtain ⟨⟨oc, vc, e1, _, e3, e4⟩, hP⟩ := h6
    rw [kx _ _ k4] at e1; cases e1
    cases e3
    rw [k5] at e4; cases e4
    exact hP
  obtain ⟨fd, cs, sp, z1, z2, z3, z4, z5, z6⟩ := F w mg fa _ Y kx G.T.g gm own
  exact LamX.law_callTs kx G.T.g G.T.b G.T.builtins G.T.nolimit gg z1 z2 z3 G.T.bmain go gi (Nat.le_trans gl hs) hr z6 z4 (fun H hH hS => z5 H a ns gl gb hH hS) fun H e t => hC w H s₁ e t
/-! ### what stands beside tables and code objects -/
def plainO (o : HO) : Prop := (∀ ps, o ≠ .tbl ps) ∧ ∀ f, o ≠ .ext f
def NoX (H : Hp) (S : List Addr) : Prop := ∀ x ∈ S, ∃ o, H x = some o ∧ plainO o
theorem tabs_S {TT : List (Addr × Str)} {S : List Addr} {H H' : Hp} (h : LamX.Tabs TT H) (n : NoX H S) (f : Frm S H H') : LamX.Tabs TT H' := fun p hp => by
  obtain ⟨ps, h1, h2, h3⟩ := h p hp
  have n1 : p.1 ∉ S := fun z => by
    obtain ⟨o, e, q, _⟩ := n _ z
    rw [e] at h1
    exact q ps (Option.some.inj h1)
  refine ⟨ps, f _ _ h1 n1, h2, fun pos cv hc => ?_⟩
  obtain ⟨c, e1, e2⟩ := h3 pos cv hc
  refine ⟨c, e1, f _ _ e2 fun z => ?_⟩
  obtain ⟨o, e, _, q⟩ := n _ z
  rw [e] at e2
  have e2 := Option.some.inj e2
  unfold LamX.CodeO at e2
  exact q _ e2
theorem lst_plain {xs : List V} : plainO (.lst xs) := ⟨(fun _ z => by cases z), (fun _ z => by cases z)⟩
theorem dK_plain {xs : List (Key × V)} : plainO (.dK xs) := ⟨(fun _ z => by cases z), (fun _ z => by cases z)⟩
theorem dT_plain {xs : List (List Key × V)} : plainO (.dT xs) := ⟨(fun _ z => by cases z), (fun _ z => by cases z)⟩
theorem ins_plain {C dx : Addr} {fs : List (Str × V)} : plainO (.ins C dx fs) := ⟨(fun _ z => by cases z), (fun _ z => by cases z)⟩
theorem DictM.nox {H : Hp} {a : Addr} {f : Int → Option V} (h : DictM H a f) : ∃ o, H a = some o ∧ plainO o := let ⟨_, e, _⟩ := h; ⟨_, e, dK_plain⟩
theorem MarksAt.nox {C : Addr} {Z : List Addr} {H : Hp} {a : MAd} {s : MkS} (h : MarksAt C Z H a s) : NoX H a.all := by
  intro x hx
  obtain ⟨ta, ht, _⟩ := h.t
  simp [MAd.all] at hx
  rcases hx with rfl | rfl | rfl | rfl
  · exact h.w.nox
  · exact h.u.nox
  · exact h.r.nox
  · exact ht.nox
theorem EndAt.nox {CE CM : Addr} {Z : List Addr} {H : Hp} {a : EAd} {s : EndS} (h : EndAt CE CM Z H a s) : NoX H a.all := by
  intro x hx
  obtain ⟨dx, cv, mv, ov, h1, _⟩ := h.ob
  simp [EAd.all] at hx
  have m := h.mks.nox
  rcases hx with rfl | rfl | rfl | rfl | rfl | rfl | rfl
  · exact ⟨_, h1, ins_plain⟩
  · exact ⟨_, h.wt, lst_plain⟩
  · exact ⟨_, h.gt, lst_plain⟩
  · exact m _ (by simp [MAd.all])
  · exact m _ (by simp [MAd.all])
  · exact m _ (by simp [MAd.all])
  · exact m _ (by simp [MAd.all])
theorem Frm.ownS {S L : List Addr} {H H1 H2 : Hp} (a : Frm S H H1) (hl : ∀ l ∈ L, H l = none) (b : Frm L H1 H2) : Frm S H H2 := ⟨fun c o e h => b.keep c o (a.keep c o e h) (fun z => by
  rw [hl c z] at e
  cases e), fun c o e => b.tups c o (a.tups c o e), fun c o e => let ⟨o', e'⟩ := a.there c o e; b.there c o' e'⟩
/-! ### marks in the first few frames -/
def mkSmall (s : MkS) : Prop := (∀ i u, s.untl i = some u → u ≤ 1000) ∧ ∀ i u, s.wait i = some u → u ≤ 256
theorem mkSmall.new : mkSmall .new := ⟨(fun i u e => by cases e), (fun i u e => by cases e)⟩
theorem mkSmall.note {s : MkS} (h : mkSmall s) (m : Int) (p : Bool) {f : Int} (hf : f ≤ 100) : mkSmall (noteF s m p f) := by
  have hw : ∀ i u, waitsOf s m p i = some u → u ≤ 256 := fun i u e => by
    unfold waitsOf at e
    split at e
    · unfold setA at e
      split at e
      · have : (16 : Int) = u := Option.some.inj e
        omega
      · exact h.2 i u e
    · exact h.2 i u e
  have g0 : (waitsOf s m p m).getD 16 ≤ 256 := by
    cases e : waitsOf s m p m with
    | none => show (16 : Int) ≤ 256; decide
    | some u => exact hw m u e
  have g1 : (s.untl m).getD 0 ≤ 1000 := by
    cases e : s.untl m with
    | none => show (0 : Int) ≤ 1000; decide
    | some u => exact h.1 m u e
  unfold noteF
  split
  · refine ⟨fun i u e => ?_, fun i u e => ?_⟩
    · simp only [setA] at e
      split at e
      · have := Option.some.inj e
        omega
      · exact h.1 i u e
    · simp only [setA] at e
      split at e
      · have := Option.some.inj e
        omega
      · exact hw i u e
  · exact ⟨h.1, hw⟩
theorem mkSmall.bad {s : MkS} (h : mkSmall s) {f : Int} (hf : 1000 < f) : badF s f = [] := by
  unfold badF
  rw [List.filter_eq_nil_iff]
  intro i _
  cases e : s.untl i with
  | none => simp
  | some u =>
    have := h.1 i u e
    simp only [decide_eq_true_eq]
    omega
/-- a word without a number -/
theorem word_plain {K : PySem.W.Frag} {CS : List Addr} {CL D : Addr} {H : Hp} {j : Nat} (hk : Kind K CS CL D j) (hj : j < 9) (h5 : j ≠ 5) (h6 : j ≠ 6) (h8 : j ≠ 8) : WordAt K CS CL (.ref D) none H j 0 := ⟨D, rfl, hj, hk, .inl ⟨h5, h6, h8, rfl, rfl⟩⟩
theorem word0 : wordN 0 = "manners" := rfl
theorem word1 : wordN 1 = "count" := rfl
theorem word2 : wordN 2 = "part" := rfl
theorem word3 : wordN 3 = "item" := rfl
theorem word4 : wordN 4 = "full" := rfl
theorem word7 : wordN 7 = "end" := rfl
/-- the word that is due -/
theorem ne_word {K : PySem.W.Frag} {H : Hp} {u t : Addr} {z : Str} {n : Int} {Q : VK} (ht : H t = none) (hu : H u = some (.tup [.str z, .int n])) (hz : (PyData.str z).canLay0 = true) (k : ∀ H', Same H H' → Q (.bl false) H') : rNeD K (.ref u) (.ref t) (upd H t (.tup [.str z, .int n])) Q := by
  have s := Same.upd_new (o := .tup [.str z, .int n]) ht
  have w := lv_word hz n
  refine ⟨_, _, (im_word (s _ _ hu)).dp, (im_word (upd_same (H := H) (a := t) (o := .tup [.str z, .int n]))).dp, shaped_lv w (by decide), shaped_lv w (by decide), ?_⟩
  rw [eqv_refl w]
  exact k _ s
end TL

namespace TL
open PySem PySem.Spec PyProof.Rows L2
/-! ### several lines beside one another: each place has the number of whom it belongs to -/
def setR (ρ : Addr → Nat) (l : Addr) (n : Nat) : Addr → Nat := fun z => if z = l then n else ρ z
theorem setR_same {ρ : Addr → Nat} {l : Addr} {n : Nat} : setR ρ l n l = n := if_pos rfl
theorem setR_ne {ρ : Addr → Nat} {l z : Addr} {n : Nat} (h : z ≠ l) : setR ρ l n z = ρ z := if_neg h
def Reg (ρ : Addr → Nat) (n : Nat) (S : List Addr) : Prop := ∀ z ∈ S, ρ z = n
theorem Reg.set {ρ : Addr → Nat} {n m : Nat} {S : List Addr} {l : Addr} (h : Reg ρ n S) (hl : l ∉ S) : Reg (setR ρ l m) n S := fun z hz => (setR_ne fun e => hl (by rw [← e]; exact hz)).trans (h z hz)
theorem Reg.away {ρ : Addr → Nat} {n m : Nat} {S S' : List Addr} (h : Reg ρ n S) (h' : Reg ρ m S') (ne : n ≠ m) : ∀ y ∈ S, y ∉ S' := fun y hy z => ne ((h y hy).symm.trans (h' y z))
theorem LoAt.nox {CL CE CM : Addr} {Z : List Addr} {H : Hp} {x : LoAd} {s : PlS} (h : LoAt CL CE CM Z H x s) : NoX H x.all := by
  intro z hz
  obtain ⟨dx, h0⟩ := h.ob
  obtain ⟨p0, p1, h1, _⟩ := h.pg
  obtain ⟨xs, h2, _⟩ := h.rw
  obtain ⟨kvs, h3, _⟩ := h.lo
  simp only [LoAd.all, List.mem_append, List.mem_cons, List.not_mem_nil, or_false] at hz
  rcases hz with (rfl | rfl | rfl | rfl) | hz | hz
  · exact ⟨_, h0, ins_plain⟩
  · exact ⟨_, h1, lst_plain⟩
  · exact ⟨_, h2, lst_plain⟩
  · exact ⟨_, h3, dT_plain⟩
  · exact h.ea.nox z hz
  · exact h.eb.nox z hz
theorem LineAt.nox {CE CM : Addr} {Z : List Addr} {H : Hp} {x : LnAd} {s : LnS} (h : LineAt CE CM Z H x s) : NoX H x.all := by
  intro z hz
  obtain ⟨xs, h1, _⟩ := h.lg
  simp only [LnAd.all, List.mem_append, List.mem_cons, List.not_mem_nil, or_false] at hz
  rcases hz with (rfl | rfl | rfl | rfl) | hz | hz
  · exact ⟨_, h.l, dK_plain⟩
  · exact ⟨_, h.s0, lst_plain⟩
  · exact ⟨_, h.s1, lst_plain⟩
  · exact ⟨_, h1, lst_plain⟩
  · exact h.ea.nox z hz
  · exact h.eb.nox z hz
/-- dice and tables -/
structure Wd (TL : List (Addr × Str)) (Z : List Addr) (ρ : Addr → Nat) (H : Hp) (d : Addr) : Prop where
  D : DiceAt H d
  tb : LamX.Tabs TL H
  hZ : ∀ z, ρ z ≠ 0 → z ∈ Z
  rd : ρ d = 4
  rP : ∀ p ∈ TL, ρ p.1 = 5
section
variable {TL : List (Addr × Str)} {Z : List Addr} {ρ : Addr → Nat} {H H' : Hp} {d : Addr} {CL CE CM : Addr}
theorem Wd.same (h : Wd TL Z ρ H d) (s : Same H H') : Wd TL Z ρ H' d := ⟨h.D.same s, tabs_same h.tb s, h.hZ, h.rd, h.rP⟩
theorem Wd.dice (h : Wd TL Z ρ H d) (D : DiceAt H' d) (f : Frm [d] H H') : Wd TL Z ρ H' d := ⟨D, tabs_dice h.tb h.D f, h.hZ, h.rd, h.rP⟩
theorem Wd.rone (h : Wd TL Z ρ H d) : Reg ρ 4 [d] := fun z hz => by rw [List.mem_singleton.mp hz]; exact h.rd
theorem Wd.tone (h : Wd TL Z ρ H d) {p : Addr × Str} (hp : p ∈ TL) : Reg ρ 5 [p.1] := fun z hz => by rw [List.mem_singleton.mp hz]; exact h.rP p hp
theorem Wd.lam (h : Wd TL Z ρ H d) {p : Addr × Str} (hp : p ∈ TL) (tb : LamX.Tabs TL H') (f : Frm [p.1] H H') : Wd TL Z ρ H' d := ⟨h.D.frm f (fun z => (by decide : (4 : Nat) ≠ 5) (h.rd.symm.trans (h.tone hp d z))), tb, h.hZ, h.rd, h.rP⟩
theorem Wd.step (h : Wd TL Z ρ H d) {S : List Addr} {m : Nat} (n : NoX H S) (rs : Reg ρ m S) (m4 : m ≠ 4) (f : Frm S H H') : Wd TL Z ρ H' d := ⟨h.D.frm f (fun z => m4 ((rs d z).symm.trans h.rd)), tabs_S h.tb n f, h.hZ, h.rd, h.rP⟩
theorem Wd.grow (h : Wd TL Z ρ H d) {l : Addr} (hl : H l = none) (n : Nat) : Wd TL (l :: Z) (setR ρ l n) H d := by
  refine ⟨h.D, h.tb, fun z hz => ?_, ?_, fun p hp => ?_⟩
  · by_cases e : z = l
    · rw [e]; exact .head _
    · rw [setR_ne e] at hz
      exact List.mem_cons_of_mem _ (h.hZ z hz)
  · rw [setR_ne (fun e => h.D.ne_new hl e.symm)]
    exact h.rd
  · obtain ⟨ps, q, _⟩ := h.tb p hp
    rw [setR_ne (fun e => by rw [e, hl] at q; cases q)]
    exact h.rP p hp
/-- a line under a write elsewhere -/
theorem LoAt.by {x : LoAd} {s : PlS} (X : LoAt CL CE CM Z H x s) {n m : Nat} (rx : Reg ρ n x.every) (hZ : ∀ z, ρ z ≠ 0 → z ∈ Z) {S : List Addr} (f : Frm S H H') (rs : Reg ρ m S) (m0 : m ≠ 0) (nm : n ≠ m) : LoAt CL CE CM Z H' x s :=
  X.frm f (fun z hz => hZ z (by rw [rs z hz]; exact m0)) (rx.away rs nm)
theorem LineAt.by {x : LnAd} {s : LnS} (X : LineAt CE CM Z H x s) {n m : Nat} (rx : Reg ρ n x.every) (hZ : ∀ z, ρ z ≠ 0 → z ∈ Z) {S : List Addr} (f : Frm S H H') (rs : Reg ρ m S) (m0 : m ≠ 0) (nm : n ≠ m) : LineAt CE CM Z H' x s :=
  X.frm f (fun z hz => hZ z (by rw [rs z hz]; exact m0)) (rx.away rs nm)
theorem cell_by {z : Addr} {o : HO} {n m : Nat} (e : H z = some o) (hz : ρ z = n) {S : List Addr} (f : Frm S H H') (rs : Reg ρ m S) (nm : n ≠ m) : H' z = some o := f _ _ e fun q => nm (hz.symm.trans (rs z q))
theorem LoAt.grow {x : LoAd} {s : PlS} (X : LoAt CL CE CM Z H x s) {l : Addr} (hl : H l = none) : LoAt CL CE CM (l :: Z) H x s := X.more fun y hy => (List.mem_cons.mp hy).elim (fun e => .inr fun bs z => by rw [e, hl] at z; cases z) .inl
theorem LineAt.grow {x : LnAd} {s : LnS} (X : LineAt CE CM Z H x s) {l : Addr} (hl : H l = none) : LineAt CE CM (l :: Z) H x s := X.more fun y hy => (List.mem_cons.mp hy).elim (fun e => .inr fun bs z => by rw [e, hl] at z; cases z) .inl
/-- its own lists of what was sent aren't written: what the mirror tells of them doesn't matter -/
theorem LineAt.ghost {x : LnAd} {s s' : LnS} (h : LineAt CE CM Z H x s) (e : s'.ca = s.ca ∧ s'.cb = s.cb ∧ s'.a = s.a ∧ s'.b = s.b ∧ s'.log = s.log) : LineAt CE CM Z H x s' := by
  obtain ⟨e1, e2, e3, e4, e5⟩ := e
  exact ⟨h.l, h.c, by rw [e1]; exact h.c0, by rw [e2]; exact h.c1, h.es, h.se, h.s0, h.s1, by rw [e5]; exact h.lg, by rw [e3]; exact h.ea, by rw [e4]; exact h.eb, h.nd⟩
end
/-! ### a line, a line of the law's own, a line beside -/
structure Ad16 where
  d : Addr
  x : LoAd
  y : LnAd
  w : LoAd
  pl : Addr
  a0 : Addr
  a1 : Addr
  L : Addr
  c0 : Addr
  c1 : Addr
structure St16 where
  x : PlS
  y : LnS
  w : PlS
  p : Pass
  l : Lost
structure A16 (TL : List (Addr × Str)) (CL CE CM : Addr) (Z : List Addr) (ρ : Addr → Nat) (H : Hp) (a : Ad16) (s : St16) : Prop where
  W : Wd TL Z ρ H a.d
  X : LoAt CL CE CM Z H a.x s.x
  Y : LineAt CE CM Z H a.y s.y
  U : LoAt CL CE CM Z H a.w s.w
  rx : Reg ρ 1 a.x.every
  ry : Reg ρ 2 a.y.every
  rw : Reg ρ 3 a.w.every
  P : H a.pl = some (.lst [.ref a.a0, .ref a.a1])
  P0 : H a.a0 = some (.lst (s.p.1.map V.int))
  P1 : H a.a1 = some (.lst (s.p.2.map V.int))
  rP : ρ a.pl = 6
  rP0 : ρ a.a0 = 7
  rP1 : ρ a.a1 = 7
  L : H a.L = some (.lst [.ref a.c0, .ref a.c1])
  L0 : H a.c0 = some (.lst [.bl s.l.1.1, .bl s.l.1.2])
  L1 : H a.c1 = some (.lst [.bl s.l.2.1, .bl s.l.2.2])
  rL : ρ a.L = 8
  rL0 : ρ a.c0 = 9
  rL1 : ρ a.c1 = 10
section
variable {TL : List (Addr × Str)} {CL CE CM : Addr} {Z : List Addr} {ρ : Addr → Nat} {H H' : Hp} {a : Ad16} {s : St16}
theorem A16.keep (h : A16 TL CL CE CM Z ρ H a s) {S : List Addr} {m : Nat} (f : Frm S H H') (rs : Reg ρ m S) (m0 : m ≠ 0) :
    (1 ≠ m → LoAt CL CE CM Z H' a.x s.x) ∧ (2 ≠ m → LineAt CE CM Z H' a.y s.y) ∧ (3 ≠ m → LoAt CL CE CM Z H' a.w s.w) ∧ (6 ≠ m → H' a.pl = some (.lst [.ref a.a0, .ref a.a1])) ∧ (7 ≠ m → H' a.a0 = some (.lst (s.p.1.map V.int)) ∧ H' a.a1 = some (.lst (s.p.2.map V.int))) ∧
    (8 ≠ m → H' a.L = some (.lst [.ref a.c0, .ref a.c1])) ∧ (9 ≠ m → H' a.c0 = some (.lst [.bl s.l.1.1, .bl s.l.1.2])) ∧ (10 ≠ m → H' a.c1 = some (.lst [.bl s.l.2.1, .bl s.l.2.2])) :=
  ⟨fun n => h.X.by h.rx h.W.hZ f rs m0 n, fun n => h.Y.by h.ry h.W.hZ f rs m0 n, fun n => h.U.by h.rw h.W.hZ f rs m0 n, fun n => cell_by h.P h.rP f rs n, fun n => ⟨cell_by h.P0 h.rP0 f rs n, cell_by h.P1 h.rP1 f rs n⟩, fun n => cell_by h.L h.rL f rs n, fun n => cell_by h.L0 h.rL0 f rs n, fun n => cell_by h.L1 h.rL1 f rs n⟩
theorem A16.same (h : A16 TL CL CE CM Z ρ H a s) (e : Same H H') : A16 TL CL CE CM Z ρ H' a s :=
  ⟨h.W.same e, h.X.same e, h.Y.same e, h.U.same e, h.rx, h.ry, h.rw, e _ _ h.P, e _ _ h.P0, e _ _ h.P1, h.rP, h.rP0, h.rP1, e _ _ h.L, e _ _ h.L0, e _ _ h.L1, h.rL, h.rL0, h.rL1⟩
theorem A16.dice (h : A16 TL CL CE CM Z ρ H a s) (D : DiceAt H' a.d) (f : Frm [a.d] H H') : A16 TL CL CE CM Z ρ H' a s := by
  obtain ⟨k1, k2, k3, k6, k7, k8, k9, k10⟩ := h.keep f h.W.rone (by decide)
  exact ⟨h.W.dice D f, k1 (by decide), k2 (by decide), k3 (by decide), h.rx, h.ry, h.rw, k6 (by decide), (k7 (by decide)).1, (k7 (by decide)).2, h.rP, h.rP0, h.rP1, k8 (by decide), k9 (by decide), k10 (by decide), h.rL, h.rL0, h.rL1⟩
theorem A16.lam (h : A16 TL CL CE CM Z ρ H a s) {p : Addr × Str} (hp : p ∈ TL) (tb : LamX.Tabs TL H') (f : Frm [p.1] H H') : A16 TL CL CE CM Z ρ H' a s := by
  obtain ⟨k1, k2, k3, k6, k7, k8, k9, k10⟩ := h.keep f (h.W.tone hp) (by decide)
  exact ⟨h.W.lam hp tb f, k1 (by decide), k2 (by decide), k3 (by decide), h.rx, h.ry, h.rw, k6 (by decide), (k7 (by decide)).1, (k7 (by decide)).2, h.rP, h.rP0, h.rP1, k8 (by decide), k9 (by decide), k10 (by decide), h.rL, h.rL0, h.rL1⟩
theorem A16.stepX (h : A16 TL CL CE CM Z ρ H a s) {s' : PlS} (X : LoAt CL CE CM Z H' a.x s') (f : Frm a.x.all H H') : A16 TL CL CE CM Z ρ H' a { s with x := s' } := by
  have rs : Reg ρ 1 a.x.all := fun z hz => h.rx z (a.x.sub_all z hz)
  obtain ⟨k1, k2, k3, k6, k7, k8, k9, k10⟩ := h.keep f rs (by decide)
  exact ⟨h.W.step h.X.nox rs (by decide) f, X, k2 (by decide), k3 (by decide), h.rx, h.ry, h.rw, k6 (by decide), (k7 (by decide)).1, (k7 (by decide)).2, h.rP, h.rP0, h.rP1, k8 (by decide), k9 (by decide), k10 (by decide), h.rL, h.rL0, h.rL1⟩
theorem A16.stepY (h : A16 TL CL CE CM Z ρ H a s) {s' : LnS} (Y : LineAt CE CM Z H' a.y s') (f : Frm a.y.all H H') : A16 TL CL CE CM Z ρ H' a { s with y := s' } := by
  have rs : Reg ρ 2 a.y.all := fun z hz => h.ry z (a.y.sub_all z hz)
  obtain ⟨k1, k2, k3, k6, k7, k8, k9, k10⟩ := h.keep f rs (by decide)
  exact ⟨h.W.step h.Y.nox rs (by decide) f, k1 (by decide), Y, k3 (by decide), h.rx, h.ry, h.rw, k6 (by decide), (k7 (by decide)).1, (k7 (by decide)).2, h.rP, h.rP0, h.rP1, k8 (by decide), k9 (by decide), k10 (by decide), h.rL, h.rL0, h.rL1⟩
theorem A16.grow (h : A16 TL CL CE CM Z ρ H a s) {l : Addr} (hl : H l = none) (n : Nat) : A16 TL CL CE CM (l :: Z) (setR ρ l n) H a s := by
  have c : ∀ {z : Addr} {o : HO} {m : Nat}, H z = some o → ρ z = m → setR ρ l n z = m := fun e q => (setR_ne fun z => by rw [z, hl] at e; cases e).trans q
  exact ⟨h.W.grow hl n, h.X.grow hl, h.Y.grow hl, h.U.grow hl, h.rx.set (h.X.ne_new hl), h.ry.set (h.Y.ne_new hl), h.rw.set (h.U.ne_new hl), h.P, h.P0, h.P1, c h.P h.rP, c h.P0 h.rP0, c h.P1 h.rP1, h.L, h.L0, h.L1, c h.L h.rL, c h.L0 h.rL0, c h.L1 h.rL1⟩
theorem lo_every {x : LoAd} {lo : Addr} : ∀ z ∈ ({ x with lo := lo } : LoAd).every, z = lo ∨ z ∈ x.every := by
  intro z hz
  simp only [LoAd.every, LoAd.base, List.mem_append, List.mem_cons, List.not_mem_nil, or_false] at hz ⊢
  rcases hz with (h | h | h | h | h) | h
  · exact .inr (.inl (.inl h))
  · exact .inr (.inl (.inr (.inl h)))
  · exact .inr (.inl (.inr (.inr (.inl h))))
  · exact .inr (.inl (.inr (.inr (.inr (.inl h)))))
  · exact .inl h
  · exact .inr (.inr h)
theorem A16.frameX (h : A16 TL CL CE CM Z ρ H a s) {lo : Addr} (hlo : H lo = none) {s' : PlS} (X : LoAt CL CE CM (lo :: Z) H' { a.x with lo := lo } s') (f : Frm a.x.all H H') : A16 TL CL CE CM (lo :: Z) (setR ρ lo 1) H' { a with x := { a.x with lo := lo } } { s with x := s' } := by
  have g := h.grow hlo 1
  have rs : Reg (setR ρ lo 1) 1 a.x.all := fun z hz => g.rx z (a.x.sub_all z hz)
  obtain ⟨k1, k2, k3, k6, k7, k8, k9, k10⟩ := g.keep f rs (by decide)
  exact ⟨g.W.step g.X.nox rs (by decide) f, X, k2 (by decide), k3 (by decide), fun z hz => (lo_every z hz).elim (fun e => by rw [e]; exact setR_same) (g.rx z), g.ry, g.rw, k6 (by decide), (k7 (by decide)).1, (k7 (by decide)).2, g.rP, g.rP0, g.rP1, k8 (by decide), k9 (by decide), k10 (by decide), g.rL, g.rL0, g.rL1⟩
theorem A16.frameW (h : A16 TL CL CE CM Z ρ H a s) {lo : Addr} (hlo : H lo = none) {s' : PlS} (V : LoAt CL CE CM (lo :: Z) H' { a.w with lo := lo } s') (f : Frm a.w.all H H') : A16 TL CL CE CM (lo :: Z) (setR ρ lo 3) H' { a with w := { a.w with lo := lo } } { s with w := s' } := by
  have g := h.grow hlo 3
  have rs : Reg (setR ρ lo 3) 3 a.w.all := fun z hz => g.rw z (a.w.sub_all z hz)
  obtain ⟨k1, k2, k3, k6, k7, k8, k9, k10⟩ := g.keep f rs (by decide)
  exact ⟨g.W.step g.U.nox rs (by decide) f, k1 (by decide), k2 (by decide), V, g.rx, g.ry, fun z hz => (lo_every z hz).elim (fun e => by rw [e]; exact setR_same) (g.rw z), k6 (by decide), (k7 (by decide)).1, (k7 (by decide)).2, g.rP, g.rP0, g.rP1, k8 (by decide), k9 (by decide), k10 (by decide), g.rL, g.rL0, g.rL1⟩
/-- what passes is another, the list of it new -/
theorem A16.setPass (h : A16 TL CL CE CM Z ρ H a s) {q0 q1 : Addr} {p : Pass} {u : Addr} (hu : H u = none) {us : List V} (e0 : (upd H u (.lst us)) q0 = some (.lst (p.1.map V.int))) (e1 : (upd H u (.lst us)) q1 = some (.lst (p.2.map V.int))) (r0 : q0 = u ∨ ρ q0 = 7) (r1 : q1 = u ∨ ρ q1 = 7) :
    A16 TL CL CE CM (u :: Z) (setR ρ u 7) (upd (upd H u (.lst us)) a.pl (.lst [.ref q0, .ref q1])) { a with a0 := q0, a1 := q1 } { s with p := p } ∧ Frm [a.pl] (upd H u (.lst us)) (upd (upd H u (.lst us)) a.pl (.lst [.ref q0, .ref q1])) := by
  have g := (h.grow hu 7).same (Same.upd_new (o := .lst us) hu)
  generalize upd H u (.lst us) = H1 at g e0 e1 ⊢
  have f : Frm [a.pl] H1 (upd H1 a.pl (.lst [.ref q0, .ref q1])) := Frm.updL g.P
  have rs : Reg (setR ρ u 7) 6 [a.pl] := fun z hz => by rw [List.mem_singleton.mp hz]; exact g.rP
  obtain ⟨k1, k2, k3, k6, k7, k8, k9, k10⟩ := g.keep f rs (by decide)
  have rr : ∀ {q : Addr}, (q = u ∨ ρ q = 7) → setR ρ u 7 q = 7 := fun {q} hq => by
    by_cases e : q = u
    · rw [e]; exact setR_same
    · rw [setR_ne e]; exact hq.resolve_left e
  have c : ∀ {q : Addr} {o : HO}, H1 q = some o → (q = u ∨ ρ q = 7) → (upd H1 a.pl (.lst [.ref q0, .ref q1])) q = some o := fun e hq => cell_by e (rr hq) f rs (by decide)
  exact ⟨⟨g.W.step (fun z hz => by rw [List.mem_singleton.mp hz]; exact ⟨_, g.P, lst_plain⟩) rs (by decide) f, k1 (by decide), k2 (by decide), k3 (by decide), g.rx, g.ry, g.rw, upd_same, c e0 r0, c e1 r1, g.rP, rr r0, rr r1, k8 (by decide), k9 (by decide), k10 (by decide), g.rL, g.rL0, g.rL1⟩, f⟩
/-- a letter is lost -/
theorem A16.set0 (h : A16 TL CL CE CM Z ρ H a s) (b0 b1 : Bool) : A16 TL CL CE CM Z ρ (upd H a.c0 (.lst [.bl b0, .bl b1])) a { s with l := ((b0, b1), s.l.2) } ∧ Frm [a.c0] H (upd H a.c0 (.lst [.bl b0, .bl b1])) := by
  have f : Frm [a.c0] H (upd H a.c0 (.lst [.bl b0, .bl b1])) := Frm.updL h.L0
  have rs : Reg ρ 9 [a.c0] := fun z hz => by rw [List.mem_singleton.mp hz]; exact h.rL0
  obtain ⟨k1, k2, k3, k6, k7, k8, k9, k10⟩ := h.keep f rs (by decide)
  exact ⟨⟨h.W.step (fun z hz => by rw [List.mem_singleton.mp hz]; exact ⟨_, h.L0, lst_plain⟩) rs (by decide) f, k1 (by decide), k2 (by decide), k3 (by decide), h.rx, h.ry, h.rw, k6 (by decide), (k7 (by decide)).1, (k7 (by decide)).2, h.rP, h.rP0, h.rP1, k8 (by decide), upd_same, k10 (by decide), h.rL, h.rL0, h.rL1⟩, f⟩
theorem A16.set1 (h : A16 TL CL CE CM Z ρ H a s) (b0 b1 : Bool) : A16 TL CL CE CM Z ρ (upd H a.c1 (.lst [.bl b0, .bl b1])) a { s with l := (s.l.1, (b0, b1)) } ∧ Frm [a.c1] H (upd H a.c1 (.lst [.bl b0, .bl b1])) := by
  have f : Frm [a.c1] H (upd H a.c1 (.lst [.bl b0, .bl b1])) := Frm.updL h.L1
  have rs : Reg ρ 10 [a.c1] := fun z hz => by rw [List.mem_singleton.mp hz]; exact h.rL1
  obtain ⟨k1, k2, k3, k6, k7, k8, k9, k10⟩ := h.keep f rs (by decide)
  exact ⟨⟨h.W.step (fun z hz => by rw [List.mem_singleton.mp hz]; exact ⟨_, h.L1, lst_plain⟩) rs (by decide) f, k1 (by decide), k2 (by decide), k3 (by decide), h.rx, h.ry, h.rw, k6 (by decide), (k7 (by decide)).1, (k7 (by decide)).2, h.rP, h.rP0, h.rP1, k8 (by decide), k9 (by decide), upd_same, h.rL, h.rL0, h.rL1⟩, f⟩
/-- nothing is lost: new lists -/
theorem A16.newLost (h : A16 TL CL CE CM Z ρ H a s) {L c0 c1 : Addr} (hL : H L = none) (h0 : H c0 = none) (h1 : H c1 = none) (n0 : L ≠ c0) (n1 : L ≠ c1) (n2 : c0 ≠ c1) (e : H' L = some (.lst [.ref c0, .ref c1])) (e0 : H' c0 = some (.lst [.bl false, .bl false])) (e1 : H' c1 = some (.lst [.bl false, .bl false])) (sm : Same H H') :
    A16 TL CL CE CM (L :: c0 :: c1 :: Z) (setR (setR (setR ρ c1 10) c0 9) L 8) H' { a with L := L, c0 := c0, c1 := c1 } { s with l := lno } := by
  have g := (((h.grow h1 10).grow h0 9).grow hL 8).same sm
  exact ⟨g.W, g.X, g.Y, g.U, g.rx, g.ry, g.rw, g.P, g.P0, g.P1, g.rP, g.rP0, g.rP1, e, e0, e1, setR_same, (setR_ne (Ne.symm n0)).trans setR_same, ((setR_ne (Ne.symm n1)).trans (setR_ne (Ne.symm n2))).trans setR_same⟩
theorem A16.pass (h : A16 TL CL CE CM Z ρ H a s) : PassAt a.y.all H a.pl s.p := by
  have c : ∀ {z : Addr} {n : Nat}, ρ z = n → n ≠ 2 → z ∉ a.y.all := fun e n z => n (e.symm.trans (h.ry _ (a.y.sub_all _ z)))
  exact ⟨a.a0, a.a1, h.P, h.P0, h.P1, c h.rP (by decide), c h.rP0 (by decide), c h.rP1 (by decide)⟩
theorem A16.lost (h : A16 TL CL CE CM Z ρ H a s) : LostAt a.y.all H a.L s.l := by
  have c : ∀ {z : Addr} {n : Nat}, ρ z = n → n ≠ 2 → z ∉ a.y.all := fun e n z => n (e.symm.trans (h.ry _ (a.y.sub_all _ z)))
  exact ⟨a.c0, a.c1, h.L, h.L0, h.L1, c h.rL (by decide), c h.rL0 (by decide), c h.rL1 (by decide)⟩
theorem A16.inZ (h : A16 TL CL CE CM Z ρ H a s) : (∀ z ∈ a.x.all, z ∈ Z) ∧ (∀ z ∈ a.y.all, z ∈ Z) ∧ (∀ z ∈ a.w.all, z ∈ Z) :=
  ⟨fun z hz => h.W.hZ z (by rw [h.rx z (a.x.sub_all z hz)]; decide), fun z hz => h.W.hZ z (by rw [h.ry z (a.y.sub_all z hz)]; decide), fun z hz => h.W.hZ z (by rw [h.rw z (a.w.sub_all z hz)]; decide)⟩
theorem A16.ghostY (h : A16 TL CL CE CM Z ρ H a s) {y' : LnS} (e : y'.ca = s.y.ca ∧ y'.cb = s.y.cb ∧ y'.a = s.y.a ∧ y'.b = s.y.b ∧ y'.log = s.y.log) : A16 TL CL CE CM Z ρ H a { s with y := y' } :=
  ⟨h.W, h.X, h.Y.ghost e, h.U, h.rx, h.ry, h.rw, h.P, h.P0, h.P1, h.rP, h.rP0, h.rP1, h.L, h.L0, h.L1, h.rL, h.rL0, h.rL1⟩
end
theorem alloc_cons {Z : List Addr} {H : Hp} {l : Addr} (al : Alloc Z H) (h : ∃ o, H l = some o) : Alloc (l :: Z) H := fun z hz => (List.mem_cons.mp hz).elim (fun e => by rw [e]; exact h) (al z)
end TL

namespace TL
open PySem PySem.Spec PyProof.Rows L2
def top (i : Nat) : Stmt := PySem.Challenge.pw_trainline_k16_lines_frame_by_frame.main.body.getD i (.Pass ⟨0, 0, 0, 0⟩)
abbrev s_is_between : Stmt := top 13
abbrev N_is_between : List Str := ["part", "low", "high"]
abbrev P_is_between : List Str := ["part", "low", "high"]
theorem sc_is_between : FnScope N_is_between P_is_between (defScope s_is_between) := ⟨rfl, rfl, rfl, by decide +kernel, rfl, by decide +kernel, by decide +kernel⟩
abbrev s_are_manners : Stmt := top 14
abbrev N_are_manners : List Str := ["some", "one"]
abbrev P_are_manners : List Str := ["some"]
theorem sc_are_manners : FnScope N_are_manners P_are_manners (defScope s_are_manners) := ⟨rfl, rfl, rfl, by decide +kernel, rfl, by decide +kernel, by decide +kernel⟩
abbrev s_need_manners : Stmt := top 15
abbrev N_need_manners : List Str := ["some"]
abbrev P_need_manners : List Str := ["some"]
theorem sc_need_manners : FnScope N_need_manners P_need_manners (defScope s_need_manners) := ⟨rfl, rfl, rfl, by decide +kernel, rfl, by decide +kernel, by decide +kernel⟩
abbrev s_chosen : Stmt := top 16
abbrev N_chosen : List Str := ["one", "other", "bad", "manner"]
abbrev P_chosen : List Str := ["one", "other", "bad"]
theorem sc_chosen : FnScope N_chosen P_chosen (defScope s_chosen) := ⟨rfl, rfl, rfl, by decide +kernel, rfl, by decide +kernel, by decide +kernel⟩
abbrev s_need_manner : Stmt := top 24
abbrev N_need_manner : List Str := ["manner"]
abbrev P_need_manner : List Str := ["manner"]
theorem sc_need_manner : FnScope N_need_manner P_need_manner (defScope s_need_manner) := ⟨rfl, rfl, rfl, by decide +kernel, rfl, by decide +kernel, by decide +kernel⟩
abbrev s_need_end : Stmt := top 33
abbrev N_need_end : List Str := ["end"]
abbrev P_need_end : List Str := ["end"]
theorem sc_need_end : FnScope N_need_end P_need_end (defScope s_need_end) := ⟨rfl, rfl, rfl, by decide +kernel, rfl, by decide +kernel, by decide +kernel⟩
abbrev s__law_dice : Stmt := top 36
abbrev N__law_dice : List Str := ["_law_script", "_law_k", "_law_found", "_law_cell"]
abbrev P__law_dice : List Str := ["_law_script", "_law_k"]
theorem sc__law_dice : FnScope N__law_dice P__law_dice (defScope s__law_dice) := ⟨rfl, rfl, rfl, by decide +kernel, rfl, by decide +kernel, by decide +kernel⟩
abbrev s__law_off : Stmt := top 37
abbrev N__law_off : List Str := ["_law_d", "_law_most", "_law_found"]
abbrev P__law_off : List Str := ["_law_d", "_law_most"]
theorem sc__law_off : FnScope N__law_off P__law_off (defScope s__law_off) := ⟨rfl, rfl, rfl, by decide +kernel, rfl, by decide +kernel, by decide +kernel⟩
abbrev s__law_alike : Stmt := top 38
abbrev N__law_alike : List Str := ["_law_found", "_law_due", "_law_k"]
abbrev P__law_alike : List Str := ["_law_found", "_law_due"]
theorem sc__law_alike : FnScope N__law_alike P__law_alike (defScope s__law_alike) := ⟨rfl, rfl, rfl, by decide +kernel, rfl, by decide +kernel, by decide +kernel⟩
abbrev s__law_word : Stmt := top 39
abbrev N__law_word : List Str := ["_law_work", "_law_e", "_law_kinds", "_law_word_here"]
abbrev P__law_word : List Str := ["_law_work"]
theorem sc__law_word : FnScope N__law_word P__law_word (defScope s__law_word) := ⟨rfl, rfl, rfl, by decide +kernel, rfl, by decide +kernel, by decide +kernel⟩
abbrev s__law_can : Stmt := top 40
abbrev N__law_can : List Str := ["_law_d", "_law_often", "_law_manner"]
abbrev P__law_can : List Str := ["_law_d"]
theorem sc__law_can : FnScope N__law_can P__law_can (defScope s__law_can) := ⟨rfl, rfl, rfl, by decide +kernel, rfl, by decide +kernel, by decide +kernel⟩
abbrev s__law_line : Stmt := top 41
abbrev N__law_line : List Str := ["_law_one", "_law_other"]
abbrev P__law_line : List Str := ["_law_one", "_law_other"]
theorem sc__law_line : FnScope N__law_line P__law_line (defScope s__law_line) := ⟨rfl, rfl, rfl, by decide +kernel, rfl, by decide +kernel, by decide +kernel⟩
abbrev s__law_frame : Stmt := top 42
abbrev N__law_frame : List Str := ["_law_line_here", "_law_passes", "_law_lost", "_law_ends", "_law_joined", "_law_manners", "_law_part", "_law_said", "_law_end", "_law_alike_here", "_law_k", "_law_letter", "_law_both", "_law_stood"]
abbrev P__law_frame : List Str := ["_law_line_here", "_law_passes", "_law_lost"]
theorem sc__law_frame : FnScope N__law_frame P__law_frame (defScope s__law_frame) := ⟨rfl, rfl, rfl, by decide +kernel, rfl, by decide +kernel, by decide +kernel⟩
abbrev s__law_none_lost : Stmt := top 43
abbrev N__law_none_lost : List Str := []
abbrev P__law_none_lost : List Str := []
theorem sc__law_none_lost : FnScope N__law_none_lost P__law_none_lost (defScope s__law_none_lost) := ⟨rfl, rfl, rfl, by decide +kernel, rfl, by decide +kernel, by decide +kernel⟩
abbrev s__law_are_refused : Stmt := top 44
abbrev N__law_are_refused : List Str := ["_law_d", "_law_line_here", "_law_far", "_law_odd", "_law_bad", "_law_ahead", "_law_works", "_law_work"]
abbrev P__law_are_refused : List Str := ["_law_d", "_law_line_here"]
theorem sc__law_are_refused : FnScope N__law_are_refused P__law_are_refused (defScope s__law_are_refused) := ⟨rfl, rfl, rfl, by decide +kernel, rfl, by decide +kernel, by decide +kernel⟩
abbrev s__law_goes_on : Stmt := top 45
abbrev N__law_goes_on : List Str := ["_law_line_here", "_law_own", "_law_passes", "_law_lost", "_law_frame_here"]
abbrev P__law_goes_on : List Str := ["_law_line_here", "_law_own", "_law_passes", "_law_lost"]
theorem sc__law_goes_on : FnScope N__law_goes_on P__law_goes_on (defScope s__law_goes_on) := ⟨rfl, rfl, rfl, by decide +kernel, rfl, by decide +kernel, by decide +kernel⟩
abbrev s_law : Stmt := top 46
abbrev N_law : List Str := ["_law_script", "_law_d", "_law_can_here", "_law_line_here", "_law_own", "_law_other", "_law_passes", "_law_lost", "_law_turn", "_law_kind", "_law_k", "_law_some", "_law_part", "_law_again", "_law_is_full", "_law_found"]
abbrev P_law : List Str := ["_law_script"]
theorem sc_law : FnScope N_law P_law (defScope s_law) := ⟨rfl, rfl, rfl, by decide +kernel, rfl, by decide +kernel, by decide +kernel⟩
abbrev s_Marks_init : Stmt := inClass (top 25) 0
abbrev N_Marks_init : List Str := ["self"]
abbrev P_Marks_init : List Str := ["self"]
theorem sc_Marks_init : FnScope N_Marks_init P_Marks_init (defScope s_Marks_init) := ⟨rfl, rfl, rfl, by decide +kernel, rfl, by decide +kernel, by decide +kernel⟩
abbrev s_Marks_note : Stmt := inClass (top 25) 1
abbrev N_Marks_note : List Str := ["self", "manner", "passed", "frame", "wait"]
abbrev P_Marks_note : List Str := ["self", "manner", "passed", "frame"]
theorem sc_Marks_note : FnScope N_Marks_note P_Marks_note (defScope s_Marks_note) := ⟨rfl, rfl, rfl, by decide +kernel, rfl, by decide +kernel, by decide +kernel⟩
abbrev s_Marks_bad : Stmt := inClass (top 25) 2
abbrev N_Marks_bad : List Str := ["self", "frame", "manner"]
abbrev P_Marks_bad : List Str := ["self", "frame"]
theorem sc_Marks_bad : FnScope N_Marks_bad P_Marks_bad (defScope s_Marks_bad) := ⟨rfl, rfl, rfl, by decide +kernel, rfl, by decide +kernel, by decide +kernel⟩
abbrev s_End_init : Stmt := inClass (top 31) 0
abbrev N_End_init : List Str := ["self", "can"]
abbrev P_End_init : List Str := ["self", "can"]
theorem sc_End_init : FnScope N_End_init P_End_init (defScope s_End_init) := ⟨rfl, rfl, rfl, by decide +kernel, rfl, by decide +kernel, by decide +kernel⟩
abbrev s_End_need_part : Stmt := inClass (top 31) 1
abbrev N_End_need_part : List Str := ["self", "part"]
abbrev P_End_need_part : List Str := ["self", "part"]
theorem sc_End_need_part : FnScope N_End_need_part P_End_need_part (defScope s_End_need_part) := ⟨rfl, rfl, rfl, by decide +kernel, rfl, by decide +kernel, by decide +kernel⟩
abbrev s_End_refresh : Stmt := inClass (top 31) 2
abbrev N_End_refresh : List Str := ["self", "mind"]
abbrev P_End_refresh : List Str := ["self"]
theorem sc_End_refresh : FnScope N_End_refresh P_End_refresh (defScope s_End_refresh) := ⟨rfl, rfl, rfl, by decide +kernel, rfl, by decide +kernel, by decide +kernel⟩
abbrev s_End_take : Stmt := inClass (top 31) 3
abbrev N_End_take : List Str := ["self"]
abbrev P_End_take : List Str := ["self"]
theorem sc_End_take : FnScope N_End_take P_End_take (defScope s_End_take) := ⟨rfl, rfl, rfl, by decide +kernel, rfl, by decide +kernel, by decide +kernel⟩
abbrev s_End_say : Stmt := inClass (top 31) 4
abbrev N_End_say : List Str := ["self", "part", "item"]
abbrev P_End_say : List Str := ["self", "part"]
theorem sc_End_say : FnScope N_End_say P_End_say (defScope s_End_say) := ⟨rfl, rfl, rfl, by decide +kernel, rfl, by decide +kernel, by decide +kernel⟩
abbrev s_End_hear : Stmt := inClass (top 31) 5
abbrev N_End_hear : List Str := ["self", "part", "letter"]
abbrev P_End_hear : List Str := ["self", "part", "letter"]
theorem sc_End_hear : FnScope N_End_hear P_End_hear (defScope s_End_hear) := ⟨rfl, rfl, rfl, by decide +kernel, rfl, by decide +kernel, by decide +kernel⟩
abbrev s_End_hear_slow : Stmt := inClass (top 31) 6
abbrev N_End_hear_slow : List Str := ["self", "letter"]
abbrev P_End_hear_slow : List Str := ["self", "letter"]
theorem sc_End_hear_slow : FnScope N_End_hear_slow P_End_hear_slow (defScope s_End_hear_slow) := ⟨rfl, rfl, rfl, by decide +kernel, rfl, by decide +kernel, by decide +kernel⟩
abbrev s_End_hear_fast : Stmt := inClass (top 31) 7
abbrev N_End_hear_fast : List Str := ["self", "letter", "number", "item", "came"]
abbrev P_End_hear_fast : List Str := ["self", "letter"]
theorem sc_End_hear_fast : FnScope N_End_hear_fast P_End_hear_fast (defScope s_End_hear_fast) := ⟨rfl, rfl, rfl, by decide +kernel, rfl, by decide +kernel, by decide +kernel⟩
abbrev s_End_send : Stmt := inClass (top 31) 8
abbrev N_End_send : List Str := ["self", "item"]
abbrev P_End_send : List Str := ["self", "item"]
theorem sc_End_send : FnScope N_End_send P_End_send (defScope s_End_send) := ⟨rfl, rfl, rfl, by decide +kernel, rfl, by decide +kernel, by decide +kernel⟩
abbrev s_End_got : Stmt := inClass (top 31) 9
abbrev N_End_got : List Str := ["self"]
abbrev P_End_got : List Str := ["self"]
theorem sc_End_got : FnScope N_End_got P_End_got (defScope s_End_got) := ⟨rfl, rfl, rfl, by decide +kernel, rfl, by decide +kernel, by decide +kernel⟩
abbrev s_End_left : Stmt := inClass (top 31) 10
abbrev N_End_left : List Str := ["self"]
abbrev P_End_left : List Str := ["self"]
theorem sc_End_left : FnScope N_End_left P_End_left (defScope s_End_left) := ⟨rfl, rfl, rfl, by decide +kernel, rfl, by decide +kernel, by decide +kernel⟩
abbrev s_End_stands : Stmt := inClass (top 31) 11
abbrev N_End_stands : List Str := ["self"]
abbrev P_End_stands : List Str := ["self"]
theorem sc_End_stands : FnScope N_End_stands P_End_stands (defScope s_End_stands) := ⟨rfl, rfl, rfl, by decide +kernel, rfl, by decide +kernel, by decide +kernel⟩
abbrev s_Line_init : Stmt := inClass (top 34) 0
abbrev N_Line_init : List Str := ["self", "one", "other"]
abbrev P_Line_init : List Str := ["self", "one", "other"]
theorem sc_Line_init : FnScope N_Line_init P_Line_init (defScope s_Line_init) := ⟨rfl, rfl, rfl, by decide +kernel, rfl, by decide +kernel, by decide +kernel⟩
abbrev s_Line_let_pass : Stmt := inClass (top 34) 1
abbrev N_Line_let_pass : List Str := ["self", "end", "manners"]
abbrev P_Line_let_pass : List Str := ["self", "end", "manners"]
theorem sc_Line_let_pass : FnScope N_Line_let_pass P_Line_let_pass (defScope s_Line_let_pass) := ⟨rfl, rfl, rfl, by decide +kernel, rfl, by decide +kernel, by decide +kernel⟩
abbrev s_Line_lose : Stmt := inClass (top 34) 2
abbrev N_Line_lose : List Str := ["self", "part", "end"]
abbrev P_Line_lose : List Str := ["self", "part", "end"]
theorem sc_Line_lose : FnScope N_Line_lose P_Line_lose (defScope s_Line_lose) := ⟨rfl, rfl, rfl, by decide +kernel, rfl, by decide +kernel, by decide +kernel⟩
abbrev s_Line_send : Stmt := inClass (top 34) 3
abbrev N_Line_send : List Str := ["self", "end", "item"]
abbrev P_Line_send : List Str := ["self", "end", "item"]
theorem sc_Line_send : FnScope N_Line_send P_Line_send (defScope s_Line_send) := ⟨rfl, rfl, rfl, by decide +kernel, rfl, by decide +kernel, by decide +kernel⟩
abbrev s_Line_carry : Stmt := inClass (top 34) 4
abbrev N_Line_carry : List Str := ["self", "part", "said", "end", "number", "comes"]
abbrev P_Line_carry : List Str := ["self", "part"]
theorem sc_Line_carry : FnScope N_Line_carry P_Line_carry (defScope s_Line_carry) := ⟨rfl, rfl, rfl, by decide +kernel, rfl, by decide +kernel, by decide +kernel⟩
abbrev s_Line_frame : Stmt := inClass (top 34) 5
abbrev N_Line_frame : List Str := ["self"]
abbrev P_Line_frame : List Str := ["self"]
theorem sc_Line_frame : FnScope N_Line_frame P_Line_frame (defScope s_Line_frame) := ⟨rfl, rfl, rfl, by decide +kernel, rfl, by decide +kernel, by decide +kernel⟩
abbrev s_Line_log : Stmt := inClass (top 34) 6
abbrev N_Line_log : List Str := ["self"]
abbrev P_Line_log : List Str := ["self"]
theorem sc_Line_log : FnScope N_Line_log P_Line_log (defScope s_Line_log) := ⟨rfl, rfl, rfl, by decide +kernel, rfl, by decide +kernel, by decide +kernel⟩
abbrev s_Line_got : Stmt := inClass (top 34) 7
abbrev N_Line_got : List Str := ["self", "end"]
abbrev P_Line_got : List Str := ["self", "end"]
theorem sc_Line_got : FnScope N_Line_got P_Line_got (defScope s_Line_got) := ⟨rfl, rfl, rfl, by decide +kernel, rfl, by decide +kernel, by decide +kernel⟩
abbrev s_Line_left : Stmt := inClass (top 34) 8
abbrev N_Line_left : List Str := ["self", "end"]
abbrev P_Line_left : List Str := ["self", "end"]
theorem sc_Line_left : FnScope N_Line_left P_Line_left (defScope s_Line_left) := ⟨rfl, rfl, rfl, by decide +kernel, rfl, by decide +kernel, by decide +kernel⟩
/-- what the top has written -/
structure Txt (K : PySem.W.Frag) (mg : Str → Option Value) where
  a_is_between : Addr
  fd_is_between : FuncData
  F_is_between : Fun K "is_between" "is_between" s_is_between a_is_between fd_is_between
  g_is_between : mg "is_between" = some (.ref a_is_between)
  b_is_between : Binds K fd_is_between P_is_between []
  a_are_manners : Addr
  fd_are_manners : FuncData
  F_are_manners : Fun K "are_manners" "are_manners" s_are_manners a_are_manners fd_are_manners
  g_are_manners : mg "are_manners" = some (.ref a_are_manners)
  b_are_manners : Binds K fd_are_manners P_are_manners []
  a_need_manners : Addr
  fd_need_manners : FuncData
  F_need_manners : Fun K "need_manners" "need_manners" s_need_manners a_need_manners fd_need_manners
  g_need_manners : mg "need_manners" = some (.ref a_need_manners)
  b_need_manners : Binds K fd_need_manners P_need_manners []
  a_chosen : Addr
  fd_chosen : FuncData
  F_chosen : Fun K "chosen" "chosen" s_chosen a_chosen fd_chosen
  g_chosen : mg "chosen" = some (.ref a_chosen)
  b_chosen : Binds K fd_chosen P_chosen []
  a_need_manner : Addr
  fd_need_manner : FuncData
  F_need_manner : Fun K "need_manner" "need_manner" s_need_manner a_need_manner fd_need_manner
  g_need_manner : mg "need_manner" = some (.ref a_need_manner)
  b_need_manner : Binds K fd_need_manner P_need_manner []
  a_need_end : Addr
  fd_need_end : FuncData
  F_need_end : Fun K "need_end" "need_end" s_need_end a_need_end fd_need_end
  g_need_end : mg "need_end" = some (.ref a_need_end)
  b_need_end : Binds K fd_need_end P_need_end []
  a__law_dice : Addr
  fd__law_dice : FuncData
  F__law_dice : Fun K "_law_dice" "_law_dice" s__law_dice a__law_dice fd__law_dice
  g__law_dice : mg "_law_dice" = some (.ref a__law_dice)
  b__law_dice : Binds K fd__law_dice P__law_dice []
  a__law_off : Addr
  fd__law_off : FuncData
  F__law_off : Fun K "_law_off" "_law_off" s__law_off a__law_off fd__law_off
  g__law_off : mg "_law_off" = some (.ref a__law_off)
  b__law_off : Binds K fd__law_off P__law_off []
  a__law_alike : Addr
  fd__law_alike : FuncData
  F__law_alike : Fun K "_law_alike" "_law_alike" s__law_alike a__law_alike fd__law_alike
  g__law_alike : mg "_law_alike" = some (.ref a__law_alike)
  b__law_alike : Binds K fd__law_alike P__law_alike []
  a__law_word : Addr
  fd__law_word : FuncData
  F__law_word : Fun K "_law_word" "_law_word" s__law_word a__law_word fd__law_word
  g__law_word : mg "_law_word" = some (.ref a__law_word)
  b__law_word : Binds K fd__law_word P__law_word []
  a__law_can : Addr
  fd__law_can : FuncData
  F__law_can : Fun K "_law_can" "_law_can" s__law_can a__law_can fd__law_can
  g__law_can : mg "_law_can" = some (.ref a__law_can)
  b__law_can : Binds K fd__law_can P__law_can []
  a__law_line : Addr
  fd__law_line : FuncData
  F__law_line : Fun K "_law_line" "_law_line" s__law_line a__law_line fd__law_line
  g__law_line : mg "_law_line" = some (.ref a__law_line)
  b__law_line : Binds K fd__law_line P__law_line []
  a__law_frame : Addr
  fd__law_frame : FuncData
  F__law_frame : Fun K "_law_frame" "_law_frame" s__law_frame a__law_frame fd__law_frame
  g__law_frame : mg "_law_frame" = some (.ref a__law_frame)
  b__law_frame : Binds K fd__law_frame P__law_frame []
  a__law_none_lost : Addr
  fd__law_none_lost : FuncData
  F__law_none_lost : Fun K "_law_none_lost" "_law_none_lost" s__law_none_lost a__law_none_lost fd__law_none_lost
  g__law_none_lost : mg "_law_none_lost" = some (.ref a__law_none_lost)
  b__law_none_lost : Binds K fd__law_none_lost P__law_none_lost []
  a__law_are_refused : Addr
  fd__law_are_refused : FuncData
  F__law_are_refused : Fun K "_law_are_refused" "_law_are_refused" s__law_are_refused a__law_are_refused fd__law_are_refused
  g__law_are_refused : mg "_law_are_refused" = some (.ref a__law_are_refused)
  b__law_are_refused : Binds K fd__law_are_refused P__law_are_refused []
  a__law_goes_on : Addr
  fd__law_goes_on : FuncData
  F__law_goes_on : Fun K "_law_goes_on" "_law_goes_on" s__law_goes_on a__law_goes_on fd__law_goes_on
  g__law_goes_on : mg "_law_goes_on" = some (.ref a__law_goes_on)
  b__law_goes_on : Binds K fd__law_goes_on P__law_goes_on []
  a_law : Addr
  fd_law : FuncData
  F_law : Fun K "law" "law" s_law a_law fd_law
  g_law : mg "law" = some (.ref a_law)
  b_law : Binds K fd_law P_law []
  a_Marks_init : Addr
  fd_Marks_init : FuncData
  F_Marks_init : Fun K "__init__" "Marks.__init__" s_Marks_init a_Marks_init fd_Marks_init
  b_Marks_init : Binds K fd_Marks_init P_Marks_init []
  a_Marks_note : Addr
  fd_Marks_note : FuncData
  F_Marks_note : Fun K "note" "Marks.note" s_Marks_note a_Marks_note fd_Marks_note
  b_Marks_note : Binds K fd_Marks_note P_Marks_note []
  a_Marks_bad : Addr
  fd_Marks_bad : FuncData
  F_Marks_bad : Fun K "bad" "Marks.bad" s_Marks_bad a_Marks_bad fd_Marks_bad
  b_Marks_bad : Binds K fd_Marks_bad P_Marks_bad []
  a_End_init : Addr
  fd_End_init : FuncData
  F_End_init : Fun K "__init__" "End.__init__" s_End_init a_End_init fd_End_init
  b_End_init : Binds K fd_End_init P_End_init []
  a_End_need_part : Addr
  fd_End_need_part : FuncData
  F_End_need_part : Fun K "need_part" "End.need_part" s_End_need_part a_End_need_part fd_End_need_part
  b_End_need_part : Binds K fd_End_need_part P_End_need_part []
  a_End_refresh : Addr
  fd_End_refresh : FuncData
  F_End_refresh : Fun K "refresh" "End.refresh" s_End_refresh a_End_refresh fd_End_refresh
  b_End_refresh : Binds K fd_End_refresh P_End_refresh []
  a_End_take : Addr
  fd_End_take : FuncData
  F_End_take : Fun K "take" "End.take" s_End_take a_End_take fd_End_take
  b_End_take : Binds K fd_End_take P_End_take []
  a_End_say : Addr
  fd_End_say : FuncData
  F_End_say : Fun K "say" "End.say" s_End_say a_End_say fd_End_say
  b_End_say : Binds K fd_End_say P_End_say []
  a_End_hear : Addr
  fd_End_hear : FuncData
  F_End_hear : Fun K "hear" "End.hear" s_End_hear a_End_hear fd_End_hear
  b_End_hear : Binds K fd_End_hear P_End_hear []
  a_End_hear_slow : Addr
  fd_End_hear_slow : FuncData
  F_End_hear_slow : Fun K "hear_slow" "End.hear_slow" s_End_hear_slow a_End_hear_slow fd_End_hear_slow
  b_End_hear_slow : Binds K fd_End_hear_slow P_End_hear_slow []
  a_End_hear_fast : Addr
  fd_End_hear_fast : FuncData
  F_End_hear_fast : Fun K "hear_fast" "End.hear_fast" s_End_hear_fast a_End_hear_fast fd_End_hear_fast
  b_End_hear_fast : Binds K fd_End_hear_fast P_End_hear_fast []
  a_End_send : Addr
  fd_End_send : FuncData
  F_End_send : Fun K "send" "End.send" s_End_send a_End_send fd_End_send
  b_End_send : Binds K fd_End_send P_End_send []
  a_End_got : Addr
  fd_End_got : FuncData
  F_End_got : Fun K "got" "End.got" s_End_got a_End_got fd_End_got
  b_End_got : Binds K fd_End_got P_End_got []
  a_End_left : Addr
  fd_End_left : FuncData
  F_End_left : Fun K "left" "End.left" s_End_left a_End_left fd_End_left
  b_End_left : Binds K fd_End_left P_End_left []
  a_End_stands : Addr
  fd_End_stands : FuncData
  F_End_stands : Fun K "stands" "End.stands" s_End_stands a_End_stands fd_End_stands
  b_End_stands : Binds K fd_End_stands P_End_stands []
  a_Line_init : Addr
  fd_Line_init : FuncData
  F_Line_init : Fun K "__init__" "Line.__init__" s_Line_init a_Line_init fd_Line_init
  b_Line_init : Binds K fd_Line_init P_Line_init []
  a_Line_let_pass : Addr
  fd_Line_let_pass : FuncData
  F_Line_let_pass : Fun K "let_pass" "Line.let_pass" s_Line_let_pass a_Line_let_pass fd_Line_let_pass
  b_Line_let_pass : Binds K fd_Line_let_pass P_Line_let_pass []
  a_Line_lose : Addr
  fd_Line_lose : FuncData
  F_Line_lose : Fun K "lose" "Line.lose" s_Line_lose a_Line_lose fd_Line_lose
  b_Line_lose : Binds K fd_Line_lose P_Line_lose []
  a_Line_send : Addr
  fd_Line_send : FuncData
  F_Line_send : Fun K "send" "Line.send" s_Line_send a_Line_send fd_Line_send
  b_Line_send : Binds K fd_Line_send P_Line_send []
  a_Line_carry : Addr
  fd_Line_carry : FuncData
  F_Line_carry : Fun K "carry" "Line.carry" s_Line_carry a_Line_carry fd_Line_carry
  b_Line_carry : Binds K fd_Line_carry P_Line_carry []
  a_Line_frame : Addr
  fd_Line_frame : FuncData
  F_Line_frame : Fun K "frame" "Line.frame" s_Line_frame a_Line_frame fd_Line_frame
  b_Line_frame : Binds K fd_Line_frame P_Line_frame []
  a_Line_log : Addr
  fd_Line_log : FuncData
  F_Line_log : Fun K "log" "Line.log" s_Line_log a_Line_log fd_Line_log
  b_Line_log : Binds K fd_Line_log P_Line_log []
  a_Line_got : Addr
  fd_Line_got : FuncData
  F_Line_got : Fun K "got" "Line.got" s_Line_got a_Line_got fd_Line_got
  b_Line_got : Binds K fd_Line_got P_Line_got []
  a_Line_left : Addr
  fd_Line_left : FuncData
  F_Line_left : Fun K "left" "Line.left" s_Line_left a_Line_left fd_Line_left
  b_Line_left : Binds K fd_Line_left P_Line_left []
  C_Marks : Addr
  c_Marks : mg "Marks" = some (.ref C_Marks)
  cl_Marks : Cls K C_Marks
  no_Marks_waits : NoAttr K C_Marks "waits"
  no_Marks_until : NoAttr K C_Marks "until"
  no_Marks_runs : NoAttr K C_Marks "runs"
  no_Marks_tries : NoAttr K C_Marks "tries"
  M_Marks : Mk K C_Marks a_Marks_init
  m_Marks_note : Meth K C_Marks "note" a_Marks_note
  m_Marks_bad : Meth K C_Marks "bad" a_Marks_bad
  C_End : Addr
  c_End : mg "End" = some (.ref C_End)
  cl_End : Cls K C_End
  no_End_can : NoAttr K C_End "can"
  no_End_marks : NoAttr K C_End "marks"
  no_End_over : NoAttr K C_End "over"
  no_End_version : NoAttr K C_End "version"
  no_End_mind : NoAttr K C_End "mind"
  no_End_other : NoAttr K C_End "other"
  no_End_seen : NoAttr K C_End "seen"
  no_End_known : NoAttr K C_End "known"
  no_End_ready : NoAttr K C_End "ready"
  no_End_now : NoAttr K C_End "now"
  no_End_joined : NoAttr K C_End "joined"
  no_End_waiting : NoAttr K C_End "waiting"
  no_End_count : NoAttr K C_End "count"
  no_End_gathered : NoAttr K C_End "gathered"
  no_End_part : NoAttr K C_End "part"
  M_End : Mk K C_End a_End_init
  m_End_need_part : Meth K C_End "need_part" a_End_need_part
  m_End_refresh : Meth K C_End "refresh" a_End_refresh
  m_End_take : Meth K C_End "take" a_End_take
  m_End_say : Meth K C_End "say" a_End_say
  m_End_hear : Meth K C_End "hear" a_End_hear
  m_End_hear_slow : Meth K C_End "hear_slow" a_End_hear_slow
  m_End_hear_fast : Meth K C_End "hear_fast" a_End_hear_fast
  m_End_send : Meth K C_End "send" a_End_send
  m_End_got : Meth K C_End "got" a_End_got
  m_End_left : Meth K C_End "left" a_End_left
  m_End_stands : Meth K C_End "stands" a_End_stands
  C_Line : Addr
  c_Line : mg "Line" = some (.ref C_Line)
  cl_Line : Cls K C_Line
  no_Line_ends : NoAttr K C_Line "ends"
  no_Line_passing : NoAttr K C_Line "passing"
  no_Line_lost : NoAttr K C_Line "lost"
  no_Line_rows : NoAttr K C_Line "rows"
  M_Line : Mk K C_Line a_Line_init
  m_Line_let_pass : Meth K C_Line "let_pass" a_Line_let_pass
  m_Line_lose : Meth K C_Line "lose" a_Line_lose
  m_Line_send : Meth K C_Line "send" a_Line_send
  m_Line_carry : Meth K C_Line "carry" a_Line_carry
  m_Line_frame : Meth K C_Line "frame" a_Line_frame
  m_Line_log : Meth K C_Line "log" a_Line_log
  m_Line_got : Meth K C_Line "got" a_Line_got
  m_Line_left : Meth K C_Line "left" a_Line_left
  C_LineError : Addr
  c_LineError : mg "LineError" = some (.ref C_LineError)
  x_LineError : PySem.W.excIn K C_LineError [.type "ValueError", .type "Exception", .type "BaseException", .type "object"] "ValueError.__new__" = true
  k_LineError : PySem.W.keepIn K (.ref C_LineError) = true
  s_LineError : PySem.W.subIn K (.ref C_LineError) (.type "BaseException") = some true
  t_LineError : PySem.W.typeIn K (.ref C_LineError) = some (.type "type")
  C_BadManners : Addr
  c_BadManners : mg "BadManners" = some (.ref C_BadManners)
  x_BadManners : PySem.W.excIn K C_BadManners [.type "ValueError", .type "Exception", .type "BaseException", .type "object"] "ValueError.__new__" = true
  k_BadManners : PySem.W.keepIn K (.ref C_BadManners) = true
  s_BadManners : PySem.W.subIn K (.ref C_BadManners) (.type "BaseException") = some true
  t_BadManners : PySem.W.typeIn K (.ref C_BadManners) = some (.type "type")
  C_BadItem : Addr
  c_BadItem : mg "BadItem" = some (.ref C_BadItem)
  x_BadItem : PySem.W.excIn K C_BadItem [.type "ValueError", .type "Exception", .type "BaseException", .type "object"] "ValueError.__new__" = true
  k_BadItem : PySem.W.keepIn K (.ref C_BadItem) = true
  s_BadItem : PySem.W.subIn K (.ref C_BadItem) (.type "BaseException") = some true
  t_BadItem : PySem.W.typeIn K (.ref C_BadItem) = some (.type "type")
  C_Full : Addr
  c_Full : mg "Full" = some (.ref C_Full)
  x_Full : PySem.W.excIn K C_Full [.type "ValueError", .type "Exception", .type "BaseException", .type "object"] "ValueError.__new__" = true
  k_Full : PySem.W.keepIn K (.ref C_Full) = true
  s_Full : PySem.W.subIn K (.ref C_Full) (.type "BaseException") = some true
  t_Full : PySem.W.typeIn K (.ref C_Full) = some (.type "type")
  C_BadPart : Addr
  c_BadPart : mg "BadPart" = some (.ref C_BadPart)
  x_BadPart : PySem.W.excIn K C_BadPart [.type "ValueError", .type "Exception", .type "BaseException", .type "object"] "ValueError.__new__" = true
  k_BadPart : PySem.W.keepIn K (.ref C_BadPart) = true
  s_BadPart : PySem.W.subIn K (.ref C_BadPart) (.type "BaseException") = some true
  t_BadPart : PySem.W.typeIn K (.ref C_BadPart) = some (.type "type")
  C_BadCount : Addr
  c_BadCount : mg "BadCount" = some (.ref C_BadCount)
  x_BadCount : PySem.W.excIn K C_BadCount [.type "ValueError", .type "Exception", .type "BaseException", .type "object"] "ValueError.__new__" = true
  k_BadCount : PySem.W.keepIn K (.ref C_BadCount) = true
  s_BadCount : PySem.W.subIn K (.ref C_BadCount) (.type "BaseException") = some true
  t_BadCount : PySem.W.typeIn K (.ref C_BadCount) = some (.type "type")
  C_BadEnd : Addr
  c_BadEnd : mg "BadEnd" = some (.ref C_BadEnd)
  x_BadEnd : PySem.W.excIn K C_BadEnd [.type "ValueError", .type "Exception", .type "BaseException", .type "object"] "ValueError.__new__" = true
  k_BadEnd : PySem.W.keepIn K (.ref C_BadEnd) = true
  s_BadEnd : PySem.W.subIn K (.ref C_BadEnd) (.type "BaseException") = some true
  t_BadEnd : PySem.W.typeIn K (.ref C_BadEnd) = some (.type "type")
  C_BadStep : Addr
  c_BadStep : mg "BadStep" = some (.ref C_BadStep)
  k_BadStep : PySem.W.keepIn K (.ref C_BadStep) = true
  s_BadStep : PySem.W.subIn K (.ref C_BadStep) (.type "BaseException") = some true
  t_BadStep : PySem.W.typeIn K (.ref C_BadStep) = some (.type "type")
  C_BadLog : Addr
  c_BadLog : mg "BadLog" = some (.ref C_BadLog)
  k_BadLog : PySem.W.keepIn K (.ref C_BadLog) = true
  s_BadLog : PySem.W.subIn K (.ref C_BadLog) (.type "BaseException") = some true
  t_BadLog : PySem.W.typeIn K (.ref C_BadLog) = some (.type "type")
  C_BadText : Addr
  c_BadText : mg "BadText" = some (.ref C_BadText)
  k_BadText : PySem.W.keepIn K (.ref C_BadText) = true
  s_BadText : PySem.W.subIn K (.ref C_BadText) (.type "BaseException") = some true
  t_BadText : PySem.W.typeIn K (.ref C_BadText) = some (.type "type")
  bc_LineError : BaseC K C_LineError
  wk_BadManners : Kind K [C_BadManners, C_BadCount, C_BadPart, C_BadItem, C_Full, C_BadLog, C_BadText, C_BadEnd, C_BadStep] C_LineError C_BadManners 0
  wk_BadItem : Kind K [C_BadManners, C_BadCount, C_BadPart, C_BadItem, C_Full, C_BadLog, C_BadText, C_BadEnd, C_BadStep] C_LineError C_BadItem 3
  wk_Full : Kind K [C_BadManners, C_BadCount, C_BadPart, C_BadItem, C_Full, C_BadLog, C_BadText, C_BadEnd, C_BadStep] C_LineError C_Full 4
  wk_BadPart : Kind K [C_BadManners, C_BadCount, C_BadPart, C_BadItem, C_Full, C_BadLog, C_BadText, C_BadEnd, C_BadStep] C_LineError C_BadPart 2
  wk_BadEnd : Kind K [C_BadManners, C_BadCount, C_BadPart, C_BadItem, C_Full, C_BadLog, C_BadText, C_BadEnd, C_BadStep] C_LineError C_BadEnd 7
  lC : Addr
  lP : Addr
  fl : FunC K "law" "law" s_law a_law fd_law lC
  lC__law_are_refused : Addr
  lP__law_are_refused : Addr
  fl__law_are_refused : FunC K "_law_are_refused" "_law_are_refused" s__law_are_refused a__law_are_refused fd__law_are_refused lC__law_are_refused
  nP__law_are_refused : lP ≠ lP__law_are_refused
  tk_MOST : Tok
  v_MOST : mg "MOST" = some (.int 9 tk_MOST)
  tk_FIRST : Tok
  v_FIRST : mg "FIRST" = some (.int 16 tk_FIRST)
  tk_LONGEST : Tok
  v_LONGEST : mg "LONGEST" = some (.int 256 tk_LONGEST)
  tk_STAYS : Tok
  v_STAYS : mg "STAYS" = some (.int 32 tk_STAYS)
  tk_LOST : Tok
  v_LOST : mg "LOST" = some (.int 3 tk_LOST)
  tk_LAST : Tok
  v_LAST : mg "LAST" = some (.int 6 tk_LAST)
  tk_MOST_FRAME : Tok
  v_MOST_FRAME : mg "MOST_FRAME" = some (.int 1000000 tk_MOST_FRAME)
  tk_SLOW : Tok
  v_SLOW : mg "SLOW" = some (.int 0 tk_SLOW)
  tk_FAST : Tok
  v_FAST : mg "FAST" = some (.int 1 tk_FAST)
  tk_MOST_ITEMS : Tok
  v_MOST_ITEMS : mg "MOST_ITEMS" = some (.int 20 tk_MOST_ITEMS)
  tk_MOST_ITEM : Tok
  v_MOST_ITEM : mg "MOST_ITEM" = some (.int 999 tk_MOST_ITEM)
  n_ValueError : mg "ValueError" = none
  n_abs : mg "abs" = none
  n_all : mg "all" = none
  n_bool : mg "bool" = none
  n_enumerate : mg "enumerate" = none
  n_int : mg "int" = none
  n_isinstance : mg "isinstance" = none
  n_len : mg "len" = none
  n_list : mg "list" = none
  n_max : mg "max" = none
  n_min : mg "min" = none
  n_range : mg "range" = none
  n_set : mg "set" = none
  n_sorted : mg "sorted" = none
  n_str : mg "str" = none
  n_tuple : mg "tuple" = none
def lamQ__law_are_refused : Str := ("_law_are_refused" : Str) ++ ".<locals>." ++ "<lambda>"
section
variable {K : PySem.W.Frag} {mg : Str → Option Value}
abbrev Txt.tl (T : Txt K mg) : List (Addr × Str) := [(T.lP, lamQ), (T.lP__law_are_refused, lamQ__law_are_refused)]
abbrev Txt.ps (T : Txt K mg) : List Addr := [T.lP, T.lP__law_are_refused]
theorem Txt.tm (T : Txt K mg) : (T.lP, lamQ) ∈ T.tl := .head _
theorem Txt.tu (T : Txt K mg) : ∀ p ∈ T.tl, p.1 = T.lP → p.2 = lamQ := by
  intro p hp e
  simp only [List.mem_cons, List.not_mem_nil, or_false] at hp
  rcases hp with rfl | rfl
  · rfl
  · exact absurd e.symm T.nP__law_are_refused
theorem Txt.tm__law_are_refused (T : Txt K mg) : (T.lP__law_are_refused, lamQ__law_are_refused) ∈ T.tl := .tail _ (.head _)
theorem Txt.tu__law_are_refused (T : Txt K mg) : ∀ p ∈ T.tl, p.1 = T.lP__law_are_refused → p.2 = lamQ__law_are_refused := by
  intro p hp e
  simp only [List.mem_cons, List.not_mem_nil, or_false] at hp
  rcases hp with rfl | rfl
  · exact absurd e T.nP__law_are_refused
  · rfl
end
end TL

namespace TL
open PySem PySem.Spec PyProof.Rows L2
section
variable {P : Program} {w : World} {K : PySem.W.Frag} {mg : Str → Option Value} {base : Heap}
def sp_is_between (T : Txt K mg) : Sp := fun vs H Q _ => ∃ (x : V) (d : PyData) (lo hi : Int), vs = [x, .int lo, .int hi] ∧ Dp K H x d ∧ (∀ ds, d ≠ .list ds) ∧ Q (.bl (between d lo hi)) H
theorem ok_is_between (T : Txt K mg) : FnOk P w K mg base CX0 1 T.a_is_between T.fd_is_between P_is_between (sp_is_between T) := by
  skip
  refine T.F_is_between.ok sc_is_between (fun vs H Q E h => ?_) (fun cdv A outer s H vs Q E hr h => ?_)
  · obtain ⟨x, d, lo, hi, rfl, _⟩ := h
    rfl
  · obtain ⟨x, d, lo, hi, rfl, hd, nl, k⟩ := h
    refine ⟨_, (pss_one (ps_ret (pe_and (pe_callB call_isi (by rfl) T.n_isinstance (by decide +kernel) (pa_cons (pv 0) (pa_cons (pe_bltn (v := .ty "int") (u := .type "int") (by rfl) T.n_int (by decide +kernel) rfl) pa_nil))) (pe_and (pe_not (pe_callB call_isi (by rfl) T.n_isinstance (by decide +kernel) (pa_cons (pv 0) (pa_cons (pe_bltn (v := .ty "bool") (u := .type "bool") (by rfl) T.n_bool (by decide +kernel) rfl) pa_nil)))) (pe_one (pe_chain op_le op_le (pv 1) (pv 0) (pv 2))))))), ?_⟩
    have k0 : ∀ {b : Bool}, between d lo hi = b → Q (.bl b) H := fun e => by rw [← e]; exact k
    cases d with
    | int i =>
      cases hd
      refine ⟨_, rfl, _, _, _, _, _, rfl, .ty _, tyx_D (.int i), kit_ty kb_ii, _, rfl, iteT ?_⟩
      refine ⟨_, rfl, _, _, _, _, _, rfl, .ty _, tyx_D (.int i), kit_ty kb_ib, _, rfl, _, rfl, iteT ?_⟩
      refine ⟨_, rfl, _, rfl, _, _, rfl, rfl, _, rfl, ?_⟩
      refine iteD (fun h1 => ⟨_, rfl, _, _, rfl, rfl, k0 ?_⟩) (fun h1 => k0 ?_)
      · simp [between, h1]
      · simp [between, h1]
    | bool b =>
      cases hd
      refine ⟨_, rfl, _, _, _, _, _, rfl, .ty _, tyx_D (.bl b), kit_ty kb_bi, _, rfl, iteT ?_⟩
      refine ⟨_, rfl, _, _, _, _, _, rfl, .ty _, tyx_D (.bl b), kit_ty kb_bb, _, rfl, _, rfl, iteF ?_⟩
      exact k0 rfl
    | none =>
      cases hd
      refine ⟨_, rfl, _, _, _, _, _, rfl, .ty _, tyx_D .non, kit_ty kb_ni, _, rfl, iteF ?_⟩
      exact k0 rfl
    | str z =>
      cases hd
      refine ⟨_, rfl, _, _, _, _, _, rfl, .ty _, tyx_D (.str z), kit_ty kb_si, _, rfl, iteF ?_⟩
      exact k0 rfl
    | tuple ds =>
      refine ⟨_, rfl, _, _, _, _, _, rfl, .ty _, tyx_D hd, kit_ty kb_ti, _, rfl, iteF ?_⟩
      exact k0 rfl
    | list ds => exact (nl ds rfl).elim
    | dict _ => cases hd

end
end TL

namespace TL
open PySem PySem.Spec PyProof.Rows L2
section
variable {P : Program} {w : World} {K : PySem.W.Frag} {mg : Str → Option Value} {base : Heap}
def sp_are_manners (T : Txt K mg) : Sp := fun vs H Q _ => ∃ (x : V) (d : PyData), vs = [x] ∧ Dp K H x d ∧ mdat d ∧ ∀ H', Same H H' → Q (.bl (isMan d)) H'
theorem ok_are_manners (T : Txt K mg) : FnOk P w K mg base CX0 2 T.a_are_manners T.fd_are_manners P_are_manners (sp_are_manners T) := by
  have G_is_between := ok_is_between (P := P) (w := w) (base := base) T
  refine T.F_are_manners.ok sc_are_manners (fun vs H Q E h => ?_) (fun cdv A outer s H vs Q E hr h => ?_)
  · obtain ⟨x, d, rfl, _⟩ := h
    rfl
  · obtain ⟨x, d, rfl, hd, hm, k⟩ := h
    have hu64 := hr.units
    refine ⟨_, (pss_cons (ps_if (PW.pt (pw_or (pt_not (pt_val (pe_callB call_isi (by rfl) T.n_isinstance (by decide +kernel) (pa_cons (pv 0) (pa_cons (pe_bltn (v := .ty "tuple") (u := .type "tuple") (by rfl) T.n_tuple (by decide +kernel) rfl) pa_nil))))) (pw_or1 (pt_cmpR (op_neD hu64) (pe_lc (own := [("one", 1)]) (g := (gName 1)) (tt := (tNot (tB (tCall _ [] E0 (tCons (tVar 1) (tCons (tC (.int 0)) (tCons (tC (.int 9)) tNil))))))) (te := (tVar 1)) rfl sc_are_manners.nd (pi_tup (pv 0)) (blkOk_by (own := [("one", 1)]) (N := N_are_manners) (sc := defScope s_are_manners) (by decide +kernel)) (fun _ _ _ _ _ => (pg_name (i := 1) sc_are_manners.nd rfl (by first | exact Or.inl rfl | exact Or.inr rfl))) (fun _ _ _ _ _ => (pts_one (pt_not (pt_val (pe_call G_is_between (hr.mono (by decide)) rfl T.g_is_between T.F_is_between.kp T.b_is_between .nil pass0 (pa_cons (pv 1) (pa_cons pe_int (pa_cons (pe_glob (v := .int 9) rfl T.v_MOST ⟨_, rfl⟩) pa_nil)))))))) (fun _ _ _ _ _ => (pv 1))) (pe_lst pa_nil) (nomark _)))))
      (pss_one (ps_ret pe_bl))
      pss_nil)
    (pss_one (ps_ret (pe_and (pe_cmpR (op_eqD hu64) (pe_callTy call_list_of (by rfl) T.n_list (by decide +kernel) (pa_cons (pv 0) pa_nil)) (pe_callB (cr_sortedSet rfl) (by rfl) T.n_sorted (by decide +kernel) (pa_cons (pe_callTy (cr_setT rfl) (by rfl) T.n_set (by decide +kernel) (pa_cons (pv 0) pa_nil)) pa_nil)) (nomark _)) (pe_one (pe_cmpR op_in_seq pe_int (pv 0) (by rfl))))))), ?_⟩
    have no : ∀ {c : String} {b : Bool}, kty d = c → kitB c "tuple" = some b → rIsi K [x, .ty "tuple"] H (fun v _ => v = .bl b) := fun e z => ⟨_, _, _, _, _, rfl, .ty _, tyx_D hd, kit_ty (by rw [e]; exact z), rfl⟩
    have k0 : ∀ {b : Bool} {H'}, isMan d = b → Same H H' → Q (.bl b) H' := fun e s => by rw [← e]; exact k _ s
    cases d with
    | none => cases hd; exact ⟨_, rfl, _, _, _, _, _, rfl, .ty _, tyx_D .non, kit_ty kb_nt, _, rfl, iteT (iteT (k0 rfl (.refl _)))⟩
    | bool b => cases hd; exact ⟨_, rfl, _, _, _, _, _, rfl, .ty _, tyx_D (.bl b), kit_ty kb_bt, _, rfl, iteT (iteT (k0 rfl (.refl _)))⟩
    | int i => cases hd; exact ⟨_, rfl, _, _, _, _, _, rfl, .ty _, tyx_D (.int i), kit_ty kb_it, _, rfl, iteT (iteT (k0 rfl (.refl _)))⟩
    | str z => cases hd; exact ⟨_, rfl, _, _, _, _, _, rfl, .ty _, tyx_D (.str z), kit_ty kb_st, _, rfl, iteT (iteT (k0 rfl (.refl _)))⟩
    | list ds => exact hm.elim
    | dict _ => cases hd
    | tuple ds =>
      obtain ⟨hlen, hel⟩ := hm
      have hd' := hd
      cases hd' with
      | tup hT hA =>
        rename_i a xs
        have hxl := hA.length
        refine ⟨_, rfl, _, _, _, _, _, rfl, .ty _, tyx_D hd, kit_ty kb_tt, _, rfl, iteF ?_⟩
        -- the ones that are no manners
        refine ⟨_, rfl, a, rfl, ⟨_, hT⟩, fun D hD => ?_⟩
        refine lc_tup (K := K) (a := a) (xs := xs) (fun i H2 => Same H H2 ∧ ∃ ys : List V, H2 D = some (.lst ys) ∧ DpAll K H ys ((ds.take i).filter fun e => !between e 0 9) ∧ ys.length ≤ i)
          ⟨Same.upd_new hD, [], upd_same, .nil, Nat.le_refl _⟩ (fun i H2 _ ⟨s2, _⟩ => SqT_same s2 hT) ?_ ?_
        · rintro i y H2 hi ⟨s2, ys, hys, hyd, hyl⟩
          obtain ⟨e, he, hde⟩ := hA.get' hi
          have hem : e ∈ ds := List.mem_of_getElem? he
          have htk : ds.take (i + 1) = ds.take i ++ [e] := take_more he
          have hil : i < ds.length := (List.getElem?_eq_some_iff.mp he).1
          refine ⟨rfl, _, rfl, y, e, 0, 9, rfl, hde.same s2, (hel e hem).1, _, rfl, ?_⟩
          refine iteB (fun hb => ?_) (fun hb => ?_)
          · refine ⟨_, rfl, ys, hys, small1000 (by omega), ?_⟩
            have nD : ∀ b o, H b = some o → b ≠ D := fun b o z q => by rw [q, hD] at z; cases z
            have s3 : Same H (upd H2 D (.lst (ys ++ [y]))) := fun b o z => by rw [upd_ne (nD b o z)]; exact s2 b o z
            refine ⟨s3, ys ++ [y], upd_same, ?_, by rw [List.length_append]; simp; omega⟩
            rw [htk, List.filter_append]
            have hf : [e].filter (fun e => !between e 0 9) = [e] := by simp [List.filter, hb]
            rw [hf]
            exact DpAll.append hyd (.cons hde .nil)
          · refine ⟨s2, ys, hys, ?_, by omega⟩
            rw [htk, List.filter_append]
            have hf : [e].filter (fun e => !between e 0 9) = [] := by simp [List.filter, hb]
            rw [hf, List.append_nil]
            exact hyd
        · rintro H2 ⟨s2, ys, hys, hyd, hyl⟩
          rw [hxl, List.take_length] at hyd
          refine ⟨(by show 0 ≤ sizeLine; decide), fun p hp => ?_⟩
          have s3 : Same H2 (upd H2 p (.lst [])) := Same.upd_new hp
          have hlv : lv 2 (.list (ds.filter fun e => !between e 0 9)) := ⟨by have := List.length_filter_le (fun e => !between e 0 9) ds; omega, fun e he => (hel e (List.mem_filter.mp he).1).2⟩
          refine ⟨.list (ds.filter fun e => !between e 0 9), .list [], .lst (SqL.of (s3 _ _ hys)) (hyd.same (s2.trans s3)), .lst (SqL.of upd_same) .nil, shaped_lv hlv (by decide), rfl, _, rfl, ?_⟩
          by_cases hall : ds.all (fun e => between e 0 9) = true
          · have hf0 : (ds.filter fun e => !between e 0 9) = [] := by
              rw [List.filter_eq_nil_iff]
              intro e he
              simp [List.all_eq_true.mp hall e he]
            rw [hf0]
            refine iteF ?_
            -- list(some) == sorted(set(some)) and 0 in some
            have hds := ints_of_between hall
            have hbt := between_of hall
            generalize hns : ds.map intOf = ns at hds hbt
            subst hds
            have hxs := hA.ints_inv
            subst hxs
            have hnl : ns.length ≤ 60 := by rw [List.length_map] at hlen; exact hlen
            have s13 : Same H (upd H2 p (.lst [])) := s2.trans s3
            refine ⟨_, rfl, a, _, rfl, .inr (SqT_same s13 hT), fun l hl => ?_⟩
            have s4 : Same (upd H2 p (.lst [])) (upd (upd H2 p (.lst [])) l (.lst (ns.map V.int))) := Same.upd_new hl
            refine ⟨_, rfl, a, ns, rfl, SqT_same (s13.trans s4) hT, by omega, fun q c hq hc => ?_⟩
            refine ⟨q, _, c, rfl, upd_same, by omega, fun ns' r hs' hm' hl' hr' => ?_⟩
            have s5 := Same.upd_new (o := SetO w q (fun j => decide (j ∈ ns)) c) hq
            have s6 := Same.upd_new (o := .lst (ns'.map V.int)) hr'
            refine ⟨.list (ns.map .int), .list (ns'.map .int), .lst (SqL.of (s6 _ _ (s5 _ _ upd_same))) (dp_ints ns), .lst (SqL.of upd_same) (dp_ints ns'), shaped_ints _, shaped_ints _, _, rfl, ?_⟩
            have s17 := ((s13.trans s4).trans s5).trans s6
            have e1 : PyData.eqv (.list (ns.map .int)) (.list (ns'.map .int)) = decide (ns.Pairwise (· < ·)) := by
              show PyData.eqvAll _ _ = _
              rw [eqvAll_ints]
              by_cases hp : ns.Pairwise (· < ·)
              · rw [decide_eq_true hp, decide_eq_true (sorted_ext hp hs' fun j => by rw [hm']; simp)]
              · rw [decide_eq_false hp, decide_eq_false fun z => hp (by rw [z]; exact hs')]
            have e2 : isMan (.tuple (ns.map .int)) = (decide (ns.Pairwise (· < ·)) && decide (0 ∈ ns)) := by
              have e3 : (ns.map PyData.int).map intOf = ns := hns
              simp only [isMan]
              rw [hall, e3]
              simp
            rw [e1]
            refine iteB (fun hb => ?_) (fun hb => k0 (by rw [e2, hb]; rfl) s17)
            refine ⟨_, rfl, a, _, rfl, .inr (SqT_same s17 hT), rfl, flat_ints ns, ?_⟩
            refine k0 ?_ s17
            rw [e2, hb]
            show (true && decide (0 ∈ ns)) = inV (.int 0) (ns.map V.int)
            rw [inV_int, Bool.true_and]
          · have hne : (ds.filter fun e => !between e 0 9) ≠ [] := by
              intro z
              apply hall
              rw [List.all_eq_true]
              intro e he
              have := List.filter_eq_nil_iff.mp z e he
              simpa using this
            obtain ⟨e, r, her⟩ := List.exists_cons_of_ne_nil hne
            rw [her]
            refine iteT ?_
            have hf : ds.all (fun e => between e 0 9) = false := by simpa using hall
            exact k0 (by simp only [isMan]; rw [hf]; rfl) (s2.trans s3)

end
end TL

namespace TL
open PySem PySem.Spec PyProof.Rows L2
section
variable {P : Program} {w : World} {K : PySem.W.Frag} {mg : Str → Option Value} {base : Heap}
def sp_need_manners (T : Txt K mg) : Sp := fun vs H Q E => ∃ (x : V) (d : PyData), vs = [x] ∧ Dp K H x d ∧ mdat d ∧ (isMan d = true → ∀ H', Same H H' → Q .non H') ∧ (isMan d = false → ∀ H', Same H H' → E (.ref T.C_BadManners) none H')
theorem ok_need_manners (T : Txt K mg) : FnOk P w K mg base (L2.CX P w) 3 T.a_need_manners T.fd_need_manners P_need_manners (sp_need_manners T) := by
  have G_are_manners := ok_are_manners (P := P) (w := w) (base := base) T
  refine T.F_need_manners.okX sc_need_manners (fun vs H Q E h => ?_) (fun cdv A outer s H vs Q E hr h => ?_)
  · obtain ⟨x, d, rfl, _⟩ := h
    rfl
  · obtain ⟨x, d, rfl, hd, hm, k1, k2⟩ := h
    refine ⟨_, (pss_one (ps_if (pt_not (pt_val (pe_call G_are_manners (hr.mono (by decide)) rfl T.g_are_manners T.F_are_manners.kp T.b_are_manners .nil pass0 (pa_cons (pv 0) pa_nil))))
      (pss_one (ps_raise rfl (takes_of rfl rfl rfl rfl) (pmk_own PySem.F.excBase_ValueError T.x_BadManners T.c_BadManners T.k_BadManners (raises_own T.s_BadManners T.t_BadManners) rfl)))
      pss_nil)), ?_⟩
    refine ⟨_, rfl, x, d, rfl, hd, hm, fun H' s' => ⟨_, rfl, ?_⟩⟩
    refine iteB (fun hb => ?_) (fun hb => ?_)
    · exact k2 (by simpa using hb) H' s'
    · exact k1 (by simpa using hb) H' s'

end
end TL

namespace TL
open PySem PySem.Spec PyProof.Rows L2
section
variable {P : Program} {w : World} {K : PySem.W.Frag} {mg : Str → Option Value} {base : Heap}
/-- what is handed in third: a tuple or a list of numbers -/
def sp_chosen (T : Txt K mg) : Sp := fun vs H Q E => ∃ (x y z : V) (dx dy : PyData), vs = [x, y, z] ∧ Dp K H x dx ∧ mdat dx ∧ Dp K H y dy ∧ mdat dy ∧
  (isMan dx = false → ∀ H', Same H H' → E (.ref T.C_BadManners) none H') ∧
  (isMan dx = true → isMan dy = false → ∀ H', Same H H' → E (.ref T.C_BadManners) none H') ∧
  (isMan dx = true → isMan dy = true → ∀ one other, dx = .tuple (one.map .int) → dy = .tuple (other.map .int) → ∃ (b : Addr) (bs : List Int), z = .ref b ∧ (SqL K H b (bs.map V.int) ∨ SqT K H b (bs.map V.int)) ∧ ∀ H', Same H H' → Q (.int (chosenF one other bs)) H')
theorem ok_chosen (T : Txt K mg) : FnOk P w K mg base (L2.CX P w) 4 T.a_chosen T.fd_chosen P_chosen (sp_chosen T) := by
  have G_need_manners := ok_need_manners (P := P) (w := w) (base := base) T
  refine T.F_chosen.okX sc_chosen (fun vs H Q E h => ?_) (fun cdv A outer s H vs Q E hr h => ?_)
  · obtain ⟨x, y, z, dx, dy, rfl, _⟩ := h
    rfl
  · obtain ⟨x, y, z, dx, dy, rfl, hx, mx, hy, my, k1, k2, k3⟩ := h
    refine ⟨_, (pss_cons (ps_expr (pe_call G_need_manners (hr.mono (by decide)) rfl T.g_need_manners T.F_need_manners.kp T.b_need_manners .nil (passes_call (takes_of rfl rfl rfl rfl) (fun _ _ _ _ h => h)) (pa_cons (pv 0) pa_nil)))
    (pss_cons (ps_expr (pe_call G_need_manners (hr.mono (by decide)) rfl T.g_need_manners T.F_need_manners.kp T.b_need_manners .nil (passes_call (takes_of rfl rfl rfl rfl) (fun _ _ _ _ h => h)) (pa_cons (pv 1) pa_nil)))
    (pss_one (ps_ret (pe_callB (cr_max rfl) (by rfl) T.n_max (by decide +kernel) (pa_cons (pe_op op_cat (pe_lst (pa_cons pe_int pa_nil)) (pe_lc (own := [("manner", 3)]) (g := (gName 3)) (tt := (tAnd (tTest (tOp (rIn K false) (tVar 3) (tVar 1))) (tTest (tOp (rIn K true) (tVar 3) (tVar 2))))) (te := (tVar 3)) rfl sc_chosen.nd (pi_tup (pv 0)) (blkOk_by (own := [("manner", 3)]) (N := N_chosen) (sc := defScope s_chosen) (by decide +kernel)) (fun _ _ _ _ _ => (pg_name (i := 3) sc_chosen.nd rfl (by first | exact Or.inl rfl | exact Or.inr rfl))) (fun _ _ _ _ _ => (pts_one (PW.pt (pw_and (pt_cmpR op_in_seq (pv 3) (pv 1) (by rfl)) (pw_and1 (pt_cmpR op_notIn_seq (pv 3) (pv 2) (by rfl))))))) (fun _ _ _ _ _ => (pv 3)))) pa_nil)))))), ?_⟩
    refine ⟨_, rfl, x, dx, rfl, hx, mx, fun gx H1 s1 => ?_, fun gx H1 s1 => k1 gx H1 s1⟩
    refine ⟨_, rfl, y, dy, rfl, hy.same s1, my, fun gy H2 s2 => ?_, fun gy H2 s2 => k2 gx gy H2 (s1.trans s2)⟩
    obtain ⟨one, rfl, ho⟩ := man_tuple gx
    obtain ⟨other, rfl, hoo⟩ := man_tuple gy
    obtain ⟨b, bs, rfl, hb, k⟩ := k3 gx gy one other rfl rfl
    have s12 := s1.trans s2
    have hl1 : one.length ≤ 60 := by have := mx.1; rw [List.length_map] at this; exact this
    cases hx with
    | tup hTx hAx =>
      rename_i ax xx
      cases hy with
      | tup hTy hAy =>
        rename_i ay yy
        have ex := hAx.ints_inv
        have ey := hAy.ints_inv
        subst ex ey
        refine ⟨(by show 1 ≤ sizeLine; decide), fun p hp => ?_⟩
        have s3 : Same H2 (upd H2 p (.lst [.int 0])) := Same.upd_new hp
        have s13 := s12.trans s3
        refine ⟨_, rfl, ax, rfl, ⟨_, SqT_same s13 hTx⟩, fun D hD => ?_⟩
        have nD : ∀ c o, (upd H2 p (.lst [.int 0])) c = some o → c ≠ D := fun c o e q => by rw [q, hD] at e; cases e
        refine lc_tup (K := K) (a := ax) (xs := one.map V.int) (fun i H3 => Same (upd H2 p (.lst [.int 0])) H3 ∧ H3 D = some (.lst (((one.take i).filter fun m => decide (m ∈ other) && !decide (m ∈ bs)).map V.int)))
          ⟨Same.upd_new hD, upd_same⟩ (fun i H3 _ ⟨s4, _⟩ => SqT_same (s13.trans s4) hTx) ?_ ?_
        · rintro i v H3 hi ⟨s4, hys⟩
          obtain ⟨m, hm, rfl⟩ := getmap hi
          have htk : one.take (i + 1) = one.take i ++ [m] := take_more hm
          have hil : i < one.length := (List.getElem?_eq_some_iff.mp hm).1
          have s14 := s13.trans s4
          have hf : ∀ g : Int → Bool, (one.take (i + 1)).filter g = (one.take i).filter g ++ (if g m = true then [m] else []) := fun g => by
            rw [htk, List.filter_append]
            by_cases q : g m = true
            · simp [List.filter, q]
            · simp [List.filter, q]
          have hb3 : SqL K H3 b (bs.map V.int) ∨ SqT K H3 b (bs.map V.int) := hb.imp (fun z => s14.seq z) (fun z => SqT_same s14 z)
          refine ⟨rfl, _, rfl, _, rfl, ay, _, rfl, .inr (SqT_same s14 hTy), rfl, flat_ints _, _, rfl, ?_⟩
          rw [hf]
          have e1 : inV (.int m) (other.map V.int) = decide (m ∈ other) := inV_int m other
          have e2 : inV (.int m) (bs.map V.int) = decide (m ∈ bs) := inV_int m bs
          show if inV (.int m) (other.map V.int) = true then _ else _
          rw [e1]
          refine iteB (fun q1 => ?_) (fun q1 => ?_)
          · refine ⟨_, rfl, _, rfl, b, _, rfl, hb3, rfl, flat_ints _, _, rfl, ?_⟩
            show if (!inV (.int m) (bs.map V.int)) = true then _ else _
            rw [e2, q1]
            refine iteB (fun q2 => ?_) (fun q2 => ?_)
            · rw [q2]
              refine ⟨_, rfl, _, hys, ?_, fun c o e => ?_, ?_⟩
              · rw [List.length_map]
                have := List.length_filter_le (fun m => decide (m ∈ other) && !decide (m ∈ bs)) (one.take i)
                have := List.length_take_le i one
                exact small1000 (by omega)
              · rw [upd_ne (nD c o e)]
                exact s4 c o e
              · rw [upd_same, List.map_append]
                rfl
            · rw [q2]
              refine ⟨s4, ?_⟩
              rw [hys]
              simp
          · rw [q1]
            refine iteF ⟨s4, ?_⟩
            rw [hys]
            simp
        · rintro H3 ⟨s4, hys⟩
          rw [List.length_map, List.take_length] at hys
          have hpl : H3 p = some (.lst [.int 0]) := s4 _ _ upd_same
          refine ⟨p, D, _, _, rfl, rfl, hpl, hys, ?_, fun q hq => ?_⟩
          · rw [List.length_map]
            have := List.length_filter_le (fun m => decide (m ∈ other) && !decide (m ∈ bs)) one
            exact Nat.le_of_lt (small1000 (by simp only [List.length_cons, List.length_nil]; omega))
          · refine ⟨q, 0 :: (one.filter fun m => decide (m ∈ other) && !decide (m ∈ bs)), rfl, SqL.of (by rw [upd_same]; rfl), by simp, fun m hm hle => ?_⟩
            have e : IsChosen one other bs m := by
              refine ⟨?_, hle 0 (by simp), fun y h1 h2 h3 => hle y ?_⟩
              · rcases List.mem_cons.mp hm with e | e
                · exact .inl e
                · right
                  have := List.mem_filter.mp e
                  simp only [Bool.and_eq_true, decide_eq_true_eq, Bool.not_eq_true', decide_eq_false_iff_not] at this
                  exact this
              · apply List.mem_cons_of_mem
                rw [List.mem_filter]
                simp [h1, h2, h3]
            rw [e.eq]
            exact k _ ((s13.trans s4).trans (Same.upd_new hq))

end
end TL

namespace TL
open PySem PySem.Spec PyProof.Rows L2
section
variable {P : Program} {w : World} {K : PySem.W.Frag} {mg : Str → Option Value} {base : Heap}
def sp_need_manner (T : Txt K mg) : Sp := fun vs H Q E => ∃ (x : V) (d : PyData), vs = [x] ∧ Dp K H x d ∧ (∀ ds, d ≠ .list ds) ∧ (between d 1 9 = true → Q .non H) ∧ (between d 1 9 = false → E (.ref T.C_BadManners) none H)
theorem ok_need_manner (T : Txt K mg) : FnOk P w K mg base (L2.CX P w) 2 T.a_need_manner T.fd_need_manner P_need_manner (sp_need_manner T) := by
  have G_is_between := ok_is_between (P := P) (w := w) (base := base) T
  refine T.F_need_manner.okX sc_need_manner (fun vs H Q E h => ?_) (fun cdv A outer s H vs Q E hr h => ?_)
  · obtain ⟨x, d, rfl, _⟩ := h
    rfl
  · obtain ⟨x, d, rfl, hd, nl, k1, k2⟩ := h
    refine ⟨_, (pss_one (ps_if (pt_not (pt_val (pe_call G_is_between (hr.mono (by decide)) rfl T.g_is_between T.F_is_between.kp T.b_is_between .nil pass0 (pa_cons (pv 0) (pa_cons pe_int (pa_cons (pe_glob (v := .int 9) rfl T.v_MOST ⟨_, rfl⟩) pa_nil))))))
      (pss_one (ps_raise rfl (takes_of rfl rfl rfl rfl) (pmk_own PySem.F.excBase_ValueError T.x_BadManners T.c_BadManners T.k_BadManners (raises_own T.s_BadManners T.t_BadManners) rfl)))
      pss_nil)), ?_⟩
    refine ⟨_, rfl, x, d, 1, 9, rfl, hd, nl, _, rfl, ?_⟩
    refine iteB (fun hb => k2 (by simpa using hb)) (fun hb => k1 (by simpa using hb))

end
end TL

namespace TL
open PySem PySem.Spec PyProof.Rows L2
section
variable {P : Program} {w : World} {K : PySem.W.Frag} {mg : Str → Option Value} {base : Heap}
def sp_need_end (T : Txt K mg) : Sp := fun vs H Q E => ∃ (x : V) (d : PyData), vs = [x] ∧ Dp K H x d ∧ (∀ ds, d ≠ .list ds) ∧ (between d 0 1 = true → Q .non H) ∧ (between d 0 1 = false → E (.ref T.C_BadEnd) none H)
theorem between01 {d : PyData} (h : between d 0 1 = true) : ∃ e, d = .int e ∧ (e = 0 ∨ e = 1) := by
  cases d with
  | int e =>
    simp [between] at h
    exact ⟨e, rfl, by omega⟩
  | _ => simp [between] at h
theorem ok_need_end (T : Txt K mg) : FnOk P w K mg base (L2.CX P w) 2 T.a_need_end T.fd_need_end P_need_end (sp_need_end T) := by
  have G_is_between := ok_is_between (P := P) (w := w) (base := base) T
  refine T.F_need_end.okX sc_need_end (fun vs H Q E h => ?_) (fun cdv A outer s H vs Q E hr h => ?_)
  · obtain ⟨x, d, rfl, _⟩ := h
    rfl
  · obtain ⟨x, d, rfl, hd, nl, k1, k2⟩ := h
    refine ⟨_, (pss_one (ps_if (pt_not (pt_val (pe_call G_is_between (hr.mono (by decide)) rfl T.g_is_between T.F_is_between.kp T.b_is_between .nil pass0 (pa_cons (pv 0) (pa_cons pe_int (pa_cons pe_int pa_nil))))))
      (pss_one (ps_raise rfl (takes_of rfl rfl rfl rfl) (pmk_own PySem.F.excBase_ValueError T.x_BadEnd T.c_BadEnd T.k_BadEnd (raises_own T.s_BadEnd T.t_BadEnd) rfl)))
      pss_nil)), ?_⟩
    refine ⟨_, rfl, x, d, 0, 1, rfl, hd, nl, _, rfl, ?_⟩
    refine iteB (fun hb => k2 (by simpa using hb)) (fun hb => k1 (by simpa using hb))

end
end TL

namespace TL
open PySem PySem.Spec PyProof.Rows L2
section
variable {P : Program} {w : World} {K : PySem.W.Frag} {mg : Str → Option Value} {base : Heap}
def sp__law_dice (T : Txt K mg) : Sp := fun vs H Q _ => ∃ (a : Addr) (ns : List Int) (k : Int), vs = [.ref a, .int k] ∧ SqL K H a (ns.map V.int) ∧ ns.length ≤ 63 ∧
  ∀ (p : Addr) (H' : Hp), H p = none → DiceAt H' p → Same H H' → Q (.ref p) H'
theorem ok__law_dice (T : Txt K mg) : FnOk P w K mg base CX0 1 T.a__law_dice T.fd__law_dice P__law_dice (sp__law_dice T) := by
  skip
  refine T.F__law_dice.ok sc__law_dice (fun vs H Q E h => ?_) (fun cdv A outer s H vs Q E hr h => ?_)
  · obtain ⟨a, ns, k, rfl, _⟩ := h
    rfl
  · obtain ⟨a, ns, kz, rfl, hS, hl, k⟩ := h
    refine ⟨_, (pss_cons (ps_set (i := 2) sc__law_dice.nd rfl (by first | exact Or.inl rfl | exact Or.inr rfl) (pv 1))
    (pss_cons (ps_for PassesOwn.never rfl (pi_list (pv 0)) (pg_name (i := 3) sc__law_dice.nd rfl (by first | exact Or.inl rfl | exact Or.inr rfl))
      (pss_one (ps_set (i := 2) sc__law_dice.nd rfl (by first | exact Or.inl rfl | exact Or.inr rfl) (pe_op op_mod (pe_op op_add (pe_op op_mul (pv 2) pe_int) (pe_callB call_abs (by rfl) T.n_abs (by decide +kernel) (pa_cons (pv 3) pa_nil))) pe_int))))
    (pss_one (ps_ret (pe_op op_cat (pe_lst (pa_cons (pv 2) (pa_cons pe_int pa_nil))) (pe_lc (own := [("_law_cell", 3)]) (g := (gName 3)) (tt := (tTest (tOp (rI0 fun i j => .bl (decide (j ≤ i))) (tVar 3) (tOp (rI CPow fun i j => .int (i ^ j.toNat)) (tC (.int 10)) (tC (.int 18)))))) (te := (tVar 3)) rfl sc__law_dice.nd (pi_list (pv 0)) (blkOk_by (own := [("_law_cell", 3)]) (N := N__law_dice) (sc := defScope s__law_dice) (by decide +kernel)) (fun _ _ _ _ _ => (pg_name (i := 3) sc__law_dice.nd rfl (by first | exact Or.inl rfl | exact Or.inr rfl))) (fun _ _ _ _ _ => (pts_one (pt_cmpR op_ge (pv 3) (pe_op op_pow pe_int pe_int) (nomark _)))) (fun _ _ _ _ _ => (pv 3)))))))), ?_⟩
    refine ⟨_, rfl, ?_⟩
    refine ⟨_, rfl, a, rfl, ⟨_, hS⟩, for_list (K := K) (a := a) (xs := ns.map V.int) (fun i σ H2 => H2 = H ∧ ∃ (f : Int) (v : Option V), σ = [some (.ref a), some (.int kz), some (.int f), v])
      ⟨rfl, _, _, rfl⟩ (fun i σ H2 _ ⟨e, _⟩ => by rw [e]; exact hS) ?_ ?_⟩
    · rintro i y σ H2 hi ⟨rfl, f, v, rfl⟩
      obtain ⟨z, hz, rfl⟩ := getmap hi
      exact ⟨_, rfl, _, _, rfl, rfl, .inr (by decide), _, rfl, _, rfl, _, _, rfl, rfl, _, _, rfl, rfl, (by show (0 : Int) < 2147483647; decide), rfl, _, _, rfl⟩
    · rintro σ H2 ⟨rfl, f, v, rfl⟩
      refine ⟨_, rfl, (by show 2 ≤ sizeLine; decide), fun l hlz => ?_⟩
      have s1 : Same H2 (upd H2 l (.lst [.int f, .int 0])) := Same.upd_new hlz
      refine ⟨_, rfl, a, rfl, ⟨_, s1.seq hS⟩, fun D hD => ?_⟩
      refine lc_list (K := K) (a := a) (xs := ns.map V.int) (fun i H3 => ∃ ms : List Int, H3 D = some (.lst (ms.map V.int)) ∧ ms.length ≤ i ∧ Same (upd H2 l (.lst [.int f, .int 0])) H3)
        ⟨[], upd_same, Nat.le_refl _, Same.upd_new hD⟩ (fun i H3 _ ⟨_, _, _, s3⟩ => s3.seq (s1.seq hS)) ?_ ?_
      · rintro i y H3 hi ⟨ms, hm, hml, s3⟩
        obtain ⟨z, hz, rfl⟩ := getmap hi
        have hil : i < ns.length := (List.getElem?_eq_some_iff.mp hz).1
        refine ⟨rfl, _, rfl, _, _, rfl, rfl, ⟨by decide, by decide, by decide⟩, _, _, rfl, rfl, _, rfl, ?_⟩
        refine iteD (fun h0 => ?_) (fun h0 => ⟨ms, hm, Nat.le_succ_of_le hml, s3⟩)
        refine ⟨_, rfl, _, hm, by rw [List.length_map]; exact small1000 (by omega), ms ++ [z], by rw [upd_same, List.map_append]; rfl, by simp; omega, fun b o e => ?_⟩
        rw [upd_ne (fun q => ?_)]
        · exact s3 b o e
        · subst q
          rw [hD] at e
          cases e
      · rintro H3 ⟨ms, hm, hml, s3⟩
        rw [List.length_map] at hml
        have hlH : H3 l = some (.lst [.int f, .int 0]) := s3 _ _ upd_same
        refine ⟨l, D, _, _, rfl, rfl, hlH, hm, by rw [List.length_map]; exact Nat.le_of_lt (small1000 (by simp; omega)), fun p hp => ?_⟩
        refine k p _ ((s1.trans s3).free hp) ⟨f :: 0 :: ms, by rw [upd_same]; rfl, by simp, by simp; omega⟩ ((s1.trans s3).trans (Same.upd_new hp))

end
end TL

namespace TL
open PySem PySem.Spec PyProof.Rows L2
section
variable {P : Program} {w : World} {K : PySem.W.Frag} {mg : Str → Option Value} {base : Heap}
def sp__law_off (T : Txt K mg) : Sp := fun vs H Q _ => ∃ (d : Addr) (m : Int), vs = [.ref d, .int m] ∧ DiceAt H d ∧ 0 < m ∧ m < 1073741824 ∧
  ∀ (r : Int) (H' : Hp), 0 ≤ r → r < m → DiceAt H' d → Frm [d] H H' → Q (.int r) H'
theorem ok__law_off (T : Txt K mg) : FnOk P w K mg base CX0 1 T.a__law_off T.fd__law_off P__law_off (sp__law_off T) := by
  skip
  refine T.F__law_off.ok sc__law_off (fun vs H Q E h => ?_) (fun cdv A outer s H vs Q E hr h => ?_)
  · obtain ⟨d, m, rfl, _⟩ := h
    rfl
  · obtain ⟨d, m, rfl, ⟨ns, hd, hl, hl2⟩, hm0, hm1, k⟩ := h
    obtain ⟨a, b, r, rfl⟩ : ∃ a b r, ns = a :: b :: r := by
      match ns, hl with
      | a :: b :: r, _ => exact ⟨a, b, r, rfl⟩
    refine ⟨_, (pss_cons (ps_if (PW.pt (pw_and (pt_cmpR op_eq (pe_ix ix_list (pv 0) pe_int (fun _ _ => rfl)) pe_int (nomark _)) (pw_and1 (pt_cmpR op_gt (pe_callB call_len_seq (by rfl) T.n_len (by decide +kernel) (pa_cons (pv 0) pa_nil)) pe_int (nomark _)))))
      (pss_one (ps_asg (pe_bm PySem.F.plainAttrs_list PySem.F.slot_list_pop PySem.F.type_list_pop mt_popAt (pv 0) (pa_cons pe_int pa_nil)) (pg_sub (pv 0) pe_int set_list)))
      pss_nil)
    (pss_cons (ps_if (pt_cmpR op_gt (pe_ix ix_list (pv 0) pe_int (fun _ _ => rfl)) pe_int (nomark _))
      (pss_cons (ps_set (i := 2) sc__law_off.nd rfl (by first | exact Or.inl rfl | exact Or.inr rfl) (pe_op op_mod (pe_ix ix_list (pv 0) pe_int (fun _ _ => rfl)) (pv 1)))
      (pss_cons (ps_asg (pe_op op_fdiv (pe_ix ix_list (pv 0) pe_int (fun _ _ => rfl)) (pv 1)) (pg_sub (pv 0) pe_int set_list))
      (pss_one (ps_ret (pv 2)))))
      pss_nil)
    (pss_cons (ps_asg (pe_op op_mod (pe_op op_add (pe_op op_mul (pe_ix ix_list (pv 0) pe_int (fun _ _ => rfl)) pe_int) pe_int) pe_int) (pg_sub (pv 0) pe_int set_list))
    (pss_one (ps_ret (pe_op op_mod (pe_op op_fdiv (pe_ix ix_list (pv 0) pe_int (fun _ _ => rfl)) pe_int) (pv 1))))))), ?_⟩
    have key : ∀ (H1 : Hp) (a b : Int) (r : List Int), H1 d = some (.lst ((a :: b :: r).map V.int)) → (a :: b :: r).length ≤ 65 → Frm [d] H H1 → tSeq (tIfS (tTest (tOp (rI0 fun i j => .bl (decide (j < i))) (tOp (rIxL K) (tVar 0) (tC (.int 1))) (tC (.int 0)))) (tSeq (tAsg (tOp (rI (fun _ j => 0 < j) fun i j => .int (i % j)) (tOp (rIxL K) (tVar 0) (tC (.int 1))) (tVar 1)) (gName 2)) (tSeq (tAsg (tOp (rI CDiv fun i j => .int (i / j)) (tOp (rIxL K) (tVar 0) (tC (.int 1))) (tVar 1)) (gSub (tVar 0) (tC (.int 1)) rSetL)) (tRet (tVar 2)))) tNext)
        (tSeq (tAsg (tOp (rI (fun _ j => 0 < j) fun i j => .int (i % j)) (tOp (rI0 fun i j => .int (i + j)) (tOp (rI CMul fun i j => .int (i * j)) (tOp (rIxL K) (tVar 0) (tC (.int 0))) (tC (.int 48271))) (tC (.int 11))) (tC (.int 2147483647))) (gSub (tVar 0) (tC (.int 0)) rSetL))
          (tRet (tOp (rI (fun _ j => 0 < j) fun i j => .int (i % j)) (tOp (rI CDiv fun i j => .int (i / j)) (tOp (rIxL K) (tVar 0) (tC (.int 0))) (tC (.int 64))) (tVar 1))))
        { nx := fun _ H' => Q .non H', rt := Q } [some (.ref d), some (.int m), none] H1 := by
      intro H1 a b r h1 hl e1
      have dz : (ixN ((a :: b :: r).map V.int).length 1) = some 1 := by
        unfold ixN
        simp only [List.length_map, List.length_cons]
        rw [if_pos (by omega), if_pos (by omega)]
        rfl
      have dz0 : (ixN ((a :: b :: r).map V.int).length 0) = some 0 := by
        unfold ixN
        simp only [List.length_map, List.length_cons]
        rw [if_pos (by omega), if_pos (by omega)]
        rfl
      refine ⟨_, rfl, d, _, _, .int b, rfl, rfl, SqL.of h1, atI_nat (j := 1) rfl, _, _, rfl, rfl, _, rfl, ?_⟩
      refine iteD (fun h0 => ?_) (fun h0 => ?_)
      · refine ⟨_, rfl, d, _, _, .int b, rfl, rfl, SqL.of h1, atI_nat (j := 1) rfl, _, rfl, _, _, rfl, rfl, hm0, ?_⟩
        refine ⟨_, rfl, d, _, _, .int b, rfl, rfl, SqL.of h1, atI_nat (j := 1) rfl, _, rfl, _, _, rfl, rfl, ⟨hm0, hm1⟩, ?_⟩
        refine ⟨_, rfl, d, _, _, 1, rfl, rfl, h1, dz, _, rfl, ?_⟩
        refine k _ _ (Int.emod_nonneg _ (by omega)) (Int.emod_lt_of_pos _ hm0) ⟨a :: (b / m) :: r, upd_same, by simp, hl⟩ (e1.trans (Frm.updL h1))
      · refine ⟨_, rfl, d, _, _, .int a, rfl, rfl, SqL.of h1, atI_nat (j := 0) rfl, _, _, rfl, rfl, .inr (by decide), _, _, rfl, rfl, _, _, rfl, rfl, (by show (0 : Int) < 2147483647; decide), ?_⟩
        refine ⟨_, rfl, d, _, _, 0, rfl, rfl, h1, dz0, ?_⟩
        refine ⟨_, rfl, d, _, _, .int ((a * 48271 + 11) % 2147483647), rfl, rfl, SqL.of upd_same, atI_nat (j := 0) rfl, _, _, rfl, rfl, ⟨by decide, by decide⟩, _, rfl, _, _, rfl, rfl, hm0, ?_⟩
        exact k _ _ (Int.emod_nonneg _ (by omega)) (Int.emod_lt_of_pos _ hm0) ⟨((a * 48271 + 11) % 2147483647) :: b :: r, upd_same, by simp, hl⟩ (e1.trans (Frm.updL h1))
    -- d[1] == 0 and len(d) > 2
    refine ⟨_, rfl, d, _, _, .int b, rfl, rfl, SqL.of hd, atI_nat (j := 1) rfl, rfl, _, rfl, ?_⟩
    refine iteD (fun h0 => ?_) (fun h0 => iteF (key H a b r hd hl2 (.refl _ _)))
    refine ⟨_, rfl, d, _, rfl, .inl (SqL.of hd), _, _, rfl, rfl, _, rfl, ?_⟩
    refine iteD (fun h1 => ?_) (fun h1 => key H a b r hd hl2 (.refl _ _))
    obtain ⟨c, r', rfl⟩ : ∃ c r', r = c :: r' := by
      match r, h1 with
      | c :: r', _ => exact ⟨c, r', rfl⟩
      | [], h1 => exact absurd h1 (by simp)
    have s2 : seqIndex? 2 ((a :: b :: c :: r').map V.int).length = some 2 := by
      have e : ixN ((a :: b :: c :: r').map V.int).length 2 = some 2 := by
        unfold ixN
        simp only [List.length_map, List.length_cons]
        rw [if_pos (by omega), if_pos (by omega)]
        rfl
      exact (ixN_seq e).1
    refine ⟨_, rfl, .inl ⟨rfl, _, SqL.of hd⟩, d, _, _, 2, .int c, rfl, rfl, hd, by decide, by decide, s2, rfl, ?_⟩
    have dz : (ixN (((a :: b :: c :: r').map V.int).eraseIdx 2).length 1) = some 1 := by
      unfold ixN
      show (if (0 : Int) ≤ 1 then (if (1 : Int) < ((V.int a :: V.int b :: r'.map V.int).length : Nat) then _ else _) else _) = _
      simp only [List.length_cons]
      rw [if_pos (by omega), if_pos (by omega)]
      rfl
    refine ⟨_, rfl, d, _, _, 1, rfl, rfl, upd_same, dz, ?_⟩
    refine key _ a c r' (by rw [upd_same]; rfl) (by simp only [List.length_cons] at hl2 ⊢; omega) ((Frm.updL hd).trans (Frm.updL upd_same))

end
end TL

namespace TL
open PySem PySem.Spec PyProof.Rows L2
section
variable {P : Program} {w : World} {K : PySem.W.Frag} {mg : Str → Option Value} {base : Heap}
/-- of two things that are the same data True is told; n: how deep they may be, and one more -/
def sp__law_alike (T : Txt K mg) : Nat → Sp
  | 0 => fun _ _ _ _ => False
  | n + 1 => fun vs H Q _ => ∃ (x y : V) (d : PyData), vs = [x, y] ∧ Dp K H x d ∧ Dp K H y d ∧ lv n d ∧ ∀ H', Same H H' → Q (.bl true) H'
theorem rix_of {H : Hp} {p : Addr} {xs : List V} {i : Int} {v : V} {Q : VK} (h : SqL K H p xs ∨ SqT K H p xs) (e : atI xs i = some v) (q : Q v H) : rIx K (.ref p) (.int i) H Q := by
  rcases h with h | h
  · exact .inl ⟨p, xs, i, v, rfl, rfl, h, e, q⟩
  · exact .inr (.inl ⟨p, xs, i, v, rfl, rfl, h, e, q⟩)
theorem ok__law_alike_step (T : Txt K mg) (n : Nat) (G__law_alike : FnOk P w K mg base CX0 n T.a__law_alike T.fd__law_alike P__law_alike (sp__law_alike T n)) : FnOk P w K mg base CX0 (n + 1) T.a__law_alike T.fd__law_alike P__law_alike (sp__law_alike T (n + 1)) := by
  refine T.F__law_alike.ok sc__law_alike (fun vs H Q E h => ?_) (fun cdv A outer s H vs Q E hr h => ?_)
  · obtain ⟨x, y, d, rfl, _⟩ := h
    rfl
  · obtain ⟨x, y, d, rfl, hx, hy, hl, k⟩ := h
    have hrS := hr
    refine ⟨_, (pss_cons (ps_if (pt_cmpR op_isN1 (pv 1) pe_non (nomark _))
      (pss_one (ps_ret (pe_cmpR op_isN1 (pv 0) pe_non (nomark _))))
      pss_nil)
    (pss_cons (ps_if (pt_val (pe_callB call_isi (by rfl) T.n_isinstance (by decide +kernel) (pa_cons (pv 1) (pa_cons (pe_bltn (v := .ty "bool") (u := .type "bool") (by rfl) T.n_bool (by decide +kernel) rfl) pa_nil))))
      (pss_one (ps_ret (pe_and (pe_callB call_isi (by rfl) T.n_isinstance (by decide +kernel) (pa_cons (pv 0) (pa_cons (pe_bltn (v := .ty "bool") (u := .type "bool") (by rfl) T.n_bool (by decide +kernel) rfl) pa_nil))) (pe_one (pe_cmpR op_eq (pv 0) (pv 1) (nomark _))))))
      pss_nil)
    (pss_cons (ps_if (pt_val (pe_callB call_isi (by rfl) T.n_isinstance (by decide +kernel) (pa_cons (pv 1) (pa_cons (pe_bltn (v := .ty "int") (u := .type "int") (by rfl) T.n_int (by decide +kernel) rfl) pa_nil))))
      (pss_one (ps_ret (pe_and (pe_callB call_isi (by rfl) T.n_isinstance (by decide +kernel) (pa_cons (pv 0) (pa_cons (pe_bltn (v := .ty "int") (u := .type "int") (by rfl) T.n_int (by decide +kernel) rfl) pa_nil))) (pe_and (pe_not (pe_callB call_isi (by rfl) T.n_isinstance (by decide +kernel) (pa_cons (pv 0) (pa_cons (pe_bltn (v := .ty "bool") (u := .type "bool") (by rfl) T.n_bool (by decide +kernel) rfl) pa_nil)))) (pe_one (pe_cmpR op_eq (pv 0) (pv 1) (nomark _)))))))
      pss_nil)
    (pss_cons (ps_if (pt_val (pe_callB call_isi (by rfl) T.n_isinstance (by decide +kernel) (pa_cons (pv 1) (pa_cons (pe_bltn (v := .ty "str") (u := .type "str") (by rfl) T.n_str (by decide +kernel) rfl) pa_nil))))
      (pss_one (ps_ret (pe_and (pe_callB call_isi (by rfl) T.n_isinstance (by decide +kernel) (pa_cons (pv 0) (pa_cons (pe_bltn (v := .ty "str") (u := .type "str") (by rfl) T.n_str (by decide +kernel) rfl) pa_nil))) (pe_one (pe_cmpR op_eq (pv 0) (pv 1) (nomark _))))))
      pss_nil)
    (pss_cons (ps_if (PW.pt (pw_or (pt_cmpR op_ne (pe_callB call_isi (by rfl) T.n_isinstance (by decide +kernel) (pa_cons (pv 1) (pa_cons (pe_bltn (v := .ty "tuple") (u := .type "tuple") (by rfl) T.n_tuple (by decide +kernel) rfl) pa_nil))) (pe_callB call_isi (by rfl) T.n_isinstance (by decide +kernel) (pa_cons (pv 0) (pa_cons (pe_bltn (v := .ty "tuple") (u := .type "tuple") (by rfl) T.n_tuple (by decide +kernel) rfl) pa_nil))) (nomark _)) (pw_or1 (pt_cmpR op_ne (pe_callB call_isi (by rfl) T.n_isinstance (by decide +kernel) (pa_cons (pv 1) (pa_cons (pe_bltn (v := .ty "list") (u := .type "list") (by rfl) T.n_list (by decide +kernel) rfl) pa_nil))) (pe_callB call_isi (by rfl) T.n_isinstance (by decide +kernel) (pa_cons (pv 0) (pa_cons (pe_bltn (v := .ty "list") (u := .type "list") (by rfl) T.n_list (by decide +kernel) rfl) pa_nil))) (nomark _)))))
      (pss_one (ps_ret pe_bl))
      pss_nil)
    (pss_cons (ps_if (pt_cmpR op_ne (pe_callB call_len_seq (by rfl) T.n_len (by decide +kernel) (pa_cons (pv 0) pa_nil)) (pe_callB call_len_seq (by rfl) T.n_len (by decide +kernel) (pa_cons (pv 1) pa_nil)) (nomark _))
      (pss_one (ps_ret pe_bl))
      pss_nil)
    (pss_one (ps_ret (pe_callB (cr_all rfl) (by rfl) T.n_all (by decide +kernel) (pa_cons (pe_lc (own := [("_law_k", 2)]) (g := (gName 2)) (tt := tYes) (te := (tCall _ [] E0 (tCons (tOp (rIx K) (tVar 0) (tVar 2)) (tCons (tOp (rIx K) (tVar 1) (tVar 2)) tNil)))) rfl sc__law_alike.nd (pi_range1 rfl T.n_range (pa_cons (pe_callB call_len_seq (by rfl) T.n_len (by decide +kernel) (pa_cons (pv 1) pa_nil)) pa_nil)) (blkOk_by (own := [("_law_k", 2)]) (N := N__law_alike) (sc := defScope s__law_alike) (by decide +kernel)) (fun _ _ _ _ _ => (pg_name (i := 2) sc__law_alike.nd rfl (by first | exact Or.inl rfl | exact Or.inr rfl))) (fun _ _ _ _ _ => pts_nil) (fun _ _ _ _ _ => (pe_call G__law_alike hrS rfl T.g__law_alike T.F__law_alike.kp T.b__law_alike .nil pass0 (pa_cons (pe_ix ix_seq (pv 0) (pv 2) (fun _ _ => rfl)) (pa_cons (pe_ix ix_seq (pv 1) (pv 2) (fun _ _ => rfl)) pa_nil))))) pa_nil)))))))))), ?_⟩
    have kk : ∀ {p : Prop} [Decidable p], p → Q (.bl (decide p)) H := fun hp => by rw [decide_eq_true hp]; exact k _ (.refl _)
    cases d with
    | none =>
      cases hx; cases hy
      exact ⟨_, rfl, rfl, _, rfl, iteT ⟨_, rfl, rfl, k _ (.refl _)⟩⟩
    | bool b =>
      cases hx; cases hy
      refine ⟨_, rfl, rfl, _, rfl, iteF ?_⟩
      refine ⟨_, rfl, _, _, _, _, _, rfl, .ty _, tyx_D (.bl b), kit_ty kb_bb, _, rfl, iteT ?_⟩
      exact ⟨_, rfl, _, _, _, _, _, rfl, .ty _, tyx_D (.bl b), kit_ty kb_bb, _, rfl, iteT ⟨_, rfl, _, rfl, rfl, kk rfl⟩⟩
    | int i =>
      cases hx; cases hy
      refine ⟨_, rfl, rfl, _, rfl, iteF ?_⟩
      refine ⟨_, rfl, _, _, _, _, _, rfl, .ty _, tyx_D (.int i), kit_ty kb_ib, _, rfl, iteF ?_⟩
      refine ⟨_, rfl, _, _, _, _, _, rfl, .ty _, tyx_D (.int i), kit_ty kb_ii, _, rfl, iteT ?_⟩
      refine ⟨_, rfl, _, _, _, _, _, rfl, .ty _, tyx_D (.int i), kit_ty kb_ii, _, rfl, iteT ?_⟩
      exact ⟨_, rfl, _, _, _, _, _, rfl, .ty _, tyx_D (.int i), kit_ty kb_ib, _, rfl, _, rfl, iteT ⟨_, rfl, _, rfl, rfl, kk rfl⟩⟩
    | str z =>
      cases hx; cases hy
      refine ⟨_, rfl, rfl, _, rfl, iteF ?_⟩
      refine ⟨_, rfl, _, _, _, _, _, rfl, .ty _, tyx_D (.str z), kit_ty kb_sb, _, rfl, iteF ?_⟩
      refine ⟨_, rfl, _, _, _, _, _, rfl, .ty _, tyx_D (.str z), kit_ty kb_si, _, rfl, iteF ?_⟩
      refine ⟨_, rfl, _, _, _, _, _, rfl, .ty _, tyx_D (.str z), kit_ty kb_ss, _, rfl, iteT ?_⟩
      exact ⟨_, rfl, _, _, _, _, _, rfl, .ty _, tyx_D (.str z), kit_ty kb_ss, _, rfl, iteT ⟨_, rfl, _, rfl, rfl, kk rfl⟩⟩
    | dict _ => cases hx
    | list ds =>
      have hx' := hx
      have hy' := hy
      cases hx' with
      | lst hLx hAx =>
      rename_i a xs
      cases hy' with
      | lst hLy hAy =>
      rename_i b ys
      refine ⟨_, rfl, rfl, _, rfl, iteF ?_⟩
      refine ⟨_, rfl, _, _, _, _, _, rfl, .ty _, tyx_D hy, kit_ty kb_lb, _, rfl, iteF ?_⟩
      refine ⟨_, rfl, _, _, _, _, _, rfl, .ty _, tyx_D hy, kit_ty kb_li, _, rfl, iteF ?_⟩
      refine ⟨_, rfl, _, _, _, _, _, rfl, .ty _, tyx_D hy, kit_ty kb_ls, _, rfl, iteF ?_⟩
      refine ⟨_, rfl, _, _, _, _, _, rfl, .ty _, tyx_D hy, kit_ty kb_lt, _, rfl, _, _, _, _, _, rfl, .ty _, tyx_D hx, kit_ty kb_lt, rfl, _, rfl, iteF ?_⟩
      refine ⟨_, rfl, _, _, _, _, _, rfl, .ty _, tyx_D hy, kit_ty kb_ll, _, rfl, _, _, _, _, _, rfl, .ty _, tyx_D hx, kit_ty kb_ll, rfl, _, rfl, iteF ?_⟩
      obtain ⟨m, rfl⟩ : ∃ m, n = m + 1 := by
        cases n with
        | zero => simp [lv] at hl
        | succ m => exact ⟨m, rfl⟩
      simp only [lv] at hl
      have hLx : SqL K H a xs ∨ SqT K H a xs := .inl hLx
      have hLy : SqL K H b ys ∨ SqT K H b ys := .inl hLy
      have lx := hAx.length
      have ly := hAy.length
      have sq : ∀ {H' : Hp} {c : Addr} {zs : List V}, Same H H' → (SqL K H c zs ∨ SqT K H c zs) → (SqL K H' c zs ∨ SqT K H' c zs) := fun s z => z.imp (fun q => s.seq q) fun q => SqT_same s q
      refine ⟨_, rfl, a, _, rfl, hLx, _, rfl, b, _, rfl, hLy, rfl, _, rfl, iteNS (by rw [lx, ly]) ?_⟩
      refine ⟨_, rfl, b, _, rfl, hLy, _, rfl, by omega, by omega, fun D hD => ?_⟩
      have hn : ((ys.length : Nat) : Int).toNat = ds.length := by omega
      rw [hn]
      refine lc_range (lo := 0) (n := ds.length) (fun i H2 => Same H H2 ∧ H2 D = some (.lst ((List.replicate i true).map V.bl)))
        ⟨Same.upd_new hD, upd_same⟩ ?_ ?_
      · rintro i H2 hi ⟨s2, h2⟩
        obtain ⟨u, hu, hdu⟩ := hAx.get (i := i) (d := ds[i]) (List.getElem?_eq_getElem hi)
        obtain ⟨v, hv, hdv⟩ := hAy.get (i := i) (d := ds[i]) (List.getElem?_eq_getElem hi)
        have e0 : (0 : Int) + (i : Int) = (i : Int) := by omega
        refine ⟨rfl, ?_⟩
        refine ⟨_, rfl, _, rfl, rix_of (sq s2 hLx) (at_of e0 hu) ?_⟩
        refine ⟨_, rfl, _, rfl, rix_of (sq s2 hLy) (at_of e0 hv) ?_⟩
        refine ⟨_, _, ds[i], rfl, hdu.same s2, hdv.same s2, hl.2 _ (List.getElem_mem hi), fun H3 s3 => ?_⟩
        refine ⟨_, s3 _ _ h2, by simp only [List.length_map, List.length_replicate]; exact Nat.lt_of_lt_of_le (Nat.lt_of_lt_of_le hi hl.1) (by decide), fun c o e => ?_, ?_⟩
        · rw [upd_ne (fun q => by rw [q, hD] at e; cases e)]
          exact s3 _ _ (s2 c o e)
        · rw [upd_same, List.replicate_succ', List.map_append]
          rfl
      · rintro H2 ⟨s2, h2⟩
        refine ⟨D, List.replicate ds.length true, rfl, SqL.of h2, ?_⟩
        have : (List.replicate ds.length true).all id = true := by simp
        rw [this]
        exact k _ s2
    | tuple ds =>
      have hx' := hx
      have hy' := hy
      cases hx' with
      | tup hLx hAx =>
      rename_i a xs
      cases hy' with
      | tup hLy hAy =>
      rename_i b ys
      refine ⟨_, rfl, rfl, _, rfl, iteF ?_⟩
      refine ⟨_, rfl, _, _, _, _, _, rfl, .ty _, tyx_D hy, kit_ty kb_tb, _, rfl, iteF ?_⟩
      refine ⟨_, rfl, _, _, _, _, _, rfl, .ty _, tyx_D hy, kit_ty kb_ti, _, rfl, iteF ?_⟩
      refine ⟨_, rfl, _, _, _, _, _, rfl, .ty _, tyx_D hy, kit_ty kb_ts, _, rfl, iteF ?_⟩
      refine ⟨_, rfl, _, _, _, _, _, rfl, .ty _, tyx_D hy, kit_ty kb_tt, _, rfl, _, _, _, _, _, rfl, .ty _, tyx_D hx, kit_ty kb_tt, rfl, _, rfl, iteF ?_⟩
      refine ⟨_, rfl, _, _, _, _, _, rfl, .ty _, tyx_D hy, kit_ty kb_tl, _, rfl, _, _, _, _, _, rfl, .ty _, tyx_D hx, kit_ty kb_tl, rfl, _, rfl, iteF ?_⟩
      obtain ⟨m, rfl⟩ : ∃ m, n = m + 1 := by
        cases n with
        | zero => simp [lv] at hl
        | succ m => exact ⟨m, rfl⟩
      simp only [lv] at hl
      have hLx : SqL K H a xs ∨ SqT K H a xs := .inr hLx
      have hLy : SqL K H b ys ∨ SqT K H b ys := .inr hLy
      have lx := hAx.length
      have ly := hAy.length
      have sq : ∀ {H' : Hp} {c : Addr} {zs : List V}, Same H H' → (SqL K H c zs ∨ SqT K H c zs) → (SqL K H' c zs ∨ SqT K H' c zs) := fun s z => z.imp (fun q => s.seq q) fun q => SqT_same s q
      refine ⟨_, rfl, a, _, rfl, hLx, _, rfl, b, _, rfl, hLy, rfl, _, rfl, iteNS (by rw [lx, ly]) ?_⟩
      refine ⟨_, rfl, b, _, rfl, hLy, _, rfl, by omega, by omega, fun D hD => ?_⟩
      have hn : ((ys.length : Nat) : Int).toNat = ds.length := by omega
      rw [hn]
      refine lc_range (lo := 0) (n := ds.length) (fun i H2 => Same H H2 ∧ H2 D = some (.lst ((List.replicate i true).map V.bl)))
        ⟨Same.upd_new hD, upd_same⟩ ?_ ?_
      · rintro i H2 hi ⟨s2, h2⟩
        obtain ⟨u, hu, hdu⟩ := hAx.get (i := i) (d := ds[i]) (List.getElem?_eq_getElem hi)
        obtain ⟨v, hv, hdv⟩ := hAy.get (i := i) (d := ds[i]) (List.getElem?_eq_getElem hi)
        have e0 : (0 : Int) + (i : Int) = (i : Int) := by omega
        refine ⟨rfl, ?_⟩
        refine ⟨_, rfl, _, rfl, rix_of (sq s2 hLx) (at_of e0 hu) ?_⟩
        refine ⟨_, rfl, _, rfl, rix_of (sq s2 hLy) (at_of e0 hv) ?_⟩
        refine ⟨_, _, ds[i], rfl, hdu.same s2, hdv.same s2, hl.2 _ (List.getElem_mem hi), fun H3 s3 => ?_⟩
        refine ⟨_, s3 _ _ h2, by simp only [List.length_map, List.length_replicate]; exact Nat.lt_of_lt_of_le (Nat.lt_of_lt_of_le hi hl.1) (by decide), fun c o e => ?_, ?_⟩
        · rw [upd_ne (fun q => by rw [q, hD] at e; cases e)]
          exact s3 _ _ (s2 c o e)
        · rw [upd_same, List.replicate_succ', List.map_append]
          rfl
      · rintro H2 ⟨s2, h2⟩
        refine ⟨D, List.replicate ds.length true, rfl, SqL.of h2, ?_⟩
        have : (List.replicate ds.length true).all id = true := by simp
        rw [this]
        exact k _ s2
theorem ok__law_alike (T : Txt K mg) : ∀ n, FnOk P w K mg base CX0 n T.a__law_alike T.fd__law_alike P__law_alike (sp__law_alike T n)
  | 0 => ⟨fun _ _ _ _ h => h.elim, fun _ _ _ _ _ _ _ _ _ _ _ _ _ h => h.elim⟩
  | n + 1 => ok__law_alike_step T n (ok__law_alike T n)

end
end TL

namespace TL
open PySem PySem.Spec PyProof.Rows L2
section
variable {P : Program} {w : World} {K : PySem.W.Frag} {mg : Str → Option Value} {base : Heap}
def ts__law_word (T : Txt K mg) (a : Addr) (cls : Value) (d : Option Addr) : TS :=
  (tSeq (tAsg (tLst (tCons (tCB (rIsX K cls d a) (tCons (tVar 1) (tCons (tC (.ref T.C_BadManners)) tNil))) (tCons (tCB (rIsX K cls d a) (tCons (tVar 1) (tCons (tC (.ref T.C_BadCount)) tNil))) (tCons (tCB (rIsX K cls d a) (tCons (tVar 1) (tCons (tC (.ref T.C_BadPart)) tNil))) (tCons (tCB (rIsX K cls d a) (tCons (tVar 1) (tCons (tC (.ref T.C_BadItem)) tNil))) tNil))))) (gName 2))
    (tSeq (tAsg (tOp rCat (tVar 2) (tLst (tCons (tCB (rIsX K cls d a) (tCons (tVar 1) (tCons (tC (.ref T.C_Full)) tNil))) (tCons (tCB (rIsX K cls d a) (tCons (tVar 1) (tCons (tC (.ref T.C_BadLog)) tNil))) (tCons (tCB (rIsX K cls d a) (tCons (tVar 1) (tCons (tC (.ref T.C_BadText)) tNil))) (tCons (tCB (rIsX K cls d a) (tCons (tVar 1) (tCons (tC (.ref T.C_BadEnd)) tNil))) tNil)))))) (gName 2))
    (tSeq (tDrop (tBM K "list" rAppend (tVar 2) (tCons (tCB (rIsX K cls d a) (tCons (tVar 1) (tCons (tC (.ref T.C_BadStep)) tNil))) tNil)))
    (tSeq (tIfS (tOr (tTest (tOp rNe (tBM K "list" (rCountF K) (tVar 2) (tCons (tC (.bl true)) tNil)) (tC (.int 1)))) (tNot (tB (tCB (rIsX K cls d a) (tCons (tVar 1) (tCons (tC (.ty "ValueError")) tNil)))))) (tRet (tTup (tCons (tC (.str "other")) (tCons (tC (.int 0)) tNil)))) tNext)
    (tSeq (tAsg (tOp (rIxL K) (tLst (tCons (tC (.str "manners")) (tCons (tC (.str "count")) (tCons (tC (.str "part")) (tCons (tC (.str "item")) (tCons (tC (.str "full")) (tCons (tC (.str "log")) (tCons (tC (.str "text")) (tCons (tC (.str "end")) (tCons (tC (.str "step")) tNil)))))))))) (tBM K "list" (rIndex K) (tVar 2) (tCons (tC (.bl true)) tNil))) (gName 3))
    (tRet (tTup (tCons (tVar 3) (tCons (tIf (tTest (tOp (rIn K false) (tVar 3) (tTup (tCons (tC (.str "log")) (tCons (tC (.str "text")) tNil))))) (tXg K a cls d "row" (tVar 1)) (tIf (tTest (tOp rEq (tVar 3) (tC (.str "step")))) (tXg K a cls d "at" (tVar 1)) (tC (.int 0)))) tNil)))))))))
/-- what is told of a work handed to it -/
abbrev tW (T : Txt K mg) := TTw K [T.C_BadManners, T.C_BadCount, T.C_BadPart, T.C_BadItem, T.C_Full, T.C_BadLog, T.C_BadText, T.C_BadEnd, T.C_BadStep] T.C_LineError
/-- the kinds' list behind i of them -/
theorem gives__law_word (T : Txt K mg) {X : Cx} (h1 : P = X.prog) (h2 : w = X.w) (h3 : K = X.K) (h4 : mg = X.mg) (h5 : base = X.base) (q : Str) {g : Addr} {cdg : Value} :
    LamX.GivesTo X N__law_word "_law_word" (defScope s__law_word) g cdg (defBody s__law_word) "_law_work" q (TTw K [T.C_BadManners, T.C_BadCount, T.C_BadPart, T.C_BadItem, T.C_Full, T.C_BadLog, T.C_BadText, T.C_BadEnd, T.C_BadStep] T.C_LineError) := by
  obtain ⟨P', w', K', mg', base', A1, N1, s1, H1, env1, outer1, st1, ex1, fn1, calm1, pn1, xe1⟩ := X
  dsimp only at h1 h2 h3 h4 h5
  subst h1 h2 h3 h4 h5
  intro f c' s H Q tl act hc h
  refine ⟨_, pss_cons (ps_try_as (i := 1) (x := "LineError") (n := "_law_e") (X := (cxOf CX0 P w K mg base N__law_word "_law_word" (defScope s__law_word) g cdg A1 st1 s H E0).nox) (c := .ref T.C_LineError) (ts := ts__law_word T)
      (tb := fun W D σ H => ∃ Ech : XK, (∀ cls d σ' H', Ech cls d H' → σ'.length = 4 → W cls d σ' H') ∧ σ[0]? = some (some (.ref f)) ∧ H c' = some (LamX.CodeO c' q) ∧ tl Ech H (fun _ H' => D.nx σ H'))
      rfl rfl sc__law_word.nd rfl rfl ⟨rfl, by decide, .inl T.c_LineError⟩ takes0 (fun W pn xe tk _ => ⟨fun pins s' σ H D I hh => ?bo⟩) (fun a oe cls d pn hz hf => ?su)) (pss_one (ps_ret pe_non)), ?right⟩
  case su =>
    have ci := call_isX (X := (cxOf CX0 P w K mg base N__law_word "_law_word" (defScope s__law_word) g cdg A1 st1 s H E0).nox) (a := a) (pn := pn) hz hf
    exact (pss_cons (ps_set (i := 2) sc__law_word.nd rfl (by first | exact Or.inl rfl | exact Or.inr rfl) (pe_lst (pa_cons (pe_callB ci (by rfl) T.n_isinstance (by decide +kernel) (pa_cons (pv 1) (pa_cons (pe_glob (v := .ref T.C_BadManners) rfl T.c_BadManners rfl) pa_nil))) (pa_cons (pe_callB ci (by rfl) T.n_isinstance (by decide +kernel) (pa_cons (pv 1) (pa_cons (pe_glob (v := .ref T.C_BadCount) rfl T.c_BadCount rfl) pa_nil))) (pa_cons (pe_callB ci (by rfl) T.n_isinstance (by decide +kernel) (pa_cons (pv 1) (pa_cons (pe_glob (v := .ref T.C_BadPart) rfl T.c_BadPart rfl) pa_nil))) (pa_cons (pe_callB ci (by rfl) T.n_isinstance (by decide +kernel) (pa_cons (pv 1) (pa_cons (pe_glob (v := .ref T.C_BadItem) rfl T.c_BadItem rfl) pa_nil))) pa_nil))))))
        (pss_cons (ps_set (i := 2) sc__law_word.nd rfl (by first | exact Or.inl rfl | exact Or.inr rfl) (pe_op op_cat (pv 2) (pe_lst (pa_cons (pe_callB ci (by rfl) T.n_isinstance (by decide +kernel) (pa_cons (pv 1) (pa_cons (pe_glob (v := .ref T.C_Full) rfl T.c_Full rfl) pa_nil))) (pa_cons (pe_callB ci (by rfl) T.n_isinstance (by decide +kernel) (pa_cons (pv 1) (pa_cons (pe_glob (v := .ref T.C_BadLog) rfl T.c_BadLog rfl) pa_nil))) (pa_cons (pe_callB ci (by rfl) T.n_isinstance (by decide +kernel) (pa_cons (pv 1) (pa_cons (pe_glob (v := .ref T.C_BadText) rfl T.c_BadText rfl) pa_nil))) (pa_cons (pe_callB ci (by rfl) T.n_isinstance (by decide +kernel) (pa_cons (pv 1) (pa_cons (pe_glob (v := .ref T.C_BadEnd) rfl T.c_BadEnd rfl) pa_nil))) pa_nil)))))))
        (pss_cons (ps_expr (pe_bm PySem.F.plainAttrs_list PySem.F.slot_list_append PySem.F.type_list_append mt_append (pv 2) (pa_cons (pe_callB ci (by rfl) T.n_isinstance (by decide +kernel) (pa_cons (pv 1) (pa_cons (pe_glob (v := .ref T.C_BadStep) rfl T.c_BadStep rfl) pa_nil))) pa_nil)))
        (pss_cons (ps_if (PW.pt (pw_or (pt_cmpR op_ne (pe_bm PySem.F.plainAttrs_list PySem.F.slot_list_count PySem.F.type_list_count mt_countF (pv 2) (pa_cons pe_bl pa_nil)) pe_int (nomark _)) (pw_or1 (pt_not (pt_val (pe_callB ci (by rfl) T.n_isinstance (by decide +kernel) (pa_cons (pv 1) (pa_cons (pe_bltn (v := .ty "ValueError") (u := .type "ValueError") (by rfl) T.n_ValueError (by decide +kernel) rfl) pa_nil))))))))
          (pss_one (ps_ret (pe_tup (pa_cons pe_str (pa_cons pe_int pa_nil)))))
          pss_nil)
        (pss_cons (ps_set (i := 3) sc__law_word.nd rfl (by first | exact Or.inl rfl | exact Or.inr rfl) (pe_ix ix_list (pe_lst (pa_cons pe_str (pa_cons pe_str (pa_cons pe_str (pa_cons pe_str (pa_cons pe_str (pa_cons pe_str (pa_cons pe_str (pa_cons pe_str (pa_cons pe_str pa_nil)))))))))) (pe_bm PySem.F.plainAttrs_list PySem.F.slot_list_index PySem.F.type_list_index mt_index (pv 2) (pa_cons pe_bl pa_nil)) (fun _ _ => rfl)))
        (pss_one (ps_ret (pe_tup (pa_cons (pv 3) (pa_cons (pe_ifExp (pt_cmpR op_in_seq (pv 3) (pe_tup (pa_cons pe_str (pa_cons pe_str pa_nil))) (by rfl)) (pe_xg hz hf (pv 1)) (pe_ifExp (pt_cmpR op_eq (pv 3) pe_str (nomark _)) (pe_xg hz hf (pv 1)) pe_int)) pa_nil))))))))))
  case bo =>
    obtain ⟨Ech, hW, h1, h2, h3⟩ := hh
    have tk2 : Takes ((cxOf CX0 P w K mg base N__law_word "_law_word" (defScope s__law_word) g cdg A1 st1 s _ E0).nox.tr pn xe) (fun cls d σ' H' => σ'.length = 4 → W cls d σ' H') := fun u s2 ⟨a, B, sI, pins, σ, H, cls, d, e, I, nb, up, sky, na, os, ag, w⟩ => tk u s2 ⟨a, B, sI, pins, σ, H, cls, d, e, I, nb, up, sky, na, os, ag, w I.len⟩
    exact (pss_one (ps_expr (act _ pn xe Ech _ _ tk2 fun cls d σ' H' z => hW cls d σ' H' z))).run pins s' σ H D I ⟨h1, h2, h3⟩
  case right =>
    obtain ⟨Ew, hn, hE⟩ := h
    refine ⟨Ew, fun cls d σ' H' z hl => ?_, rfl, hc, hn⟩
    obtain ⟨j, num, ⟨D, rfl, hj, kd, hnum⟩, k⟩ := hE cls d H' z
    refine ⟨true, kd.xm, fun _ a na => ?_, fun z => by cases z⟩
    obtain ⟨x0, x1, x2, x3, rfl⟩ : ∃ x0 x1 x2 x3, σ' = [x0, x1, x2, x3] := by
      match σ', hl with
      | [x0, x1, x2, x3], _ => exact ⟨x0, x1, x2, x3, rfl⟩
    have dc : ∀ {H2}, Same H' H2 → (d = none ∨ ∃ dd fs, d = some dd ∧ H2 dd = some (.xd fs)) := fun {H2} s => by
      rcases hnum with ⟨_, _, _, _, e⟩ | ⟨dd, fs, e, h2, _⟩
      · exact .inl e
      · exact .inr ⟨dd, fs, e, s _ _ h2⟩
    have s0 := Same.refl H'
    refine ⟨_, rfl, D, _, _, _, rfl, rfl, (fun u r => r), kd.ec, kd.ks 0 _ rfl, dc s0, _, rfl, D, _, _, _, rfl, rfl, (fun u r => r), kd.ec, kd.ks 1 _ rfl, dc s0, _, rfl, D, _, _, _, rfl, rfl, (fun u r => r), kd.ec, kd.ks 2 _ rfl, dc s0, _, rfl, D, _, _, _, rfl, rfl, (fun u r => r), kd.ec, kd.ks 3 _ rfl, dc s0, (by show 4 ≤ sizeLine; decide), fun l1 h1 => ?_⟩
    have s1 := Same.upd_new (o := .lst [.bl (decide (0 = j)), .bl (decide (1 = j)), .bl (decide (2 = j)), .bl (decide (3 = j))]) h1
    have q1 := upd_same (H := H') (a := l1) (o := .lst [.bl (decide (0 = j)), .bl (decide (1 = j)), .bl (decide (2 = j)), .bl (decide (3 = j))])
    generalize upd H' l1 (.lst [.bl (decide (0 = j)), .bl (decide (1 = j)), .bl (decide (2 = j)), .bl (decide (3 = j))]) = H1 at s1 q1 ⊢
    refine ⟨_, rfl, _, rfl, D, _, _, _, rfl, rfl, (fun u r => r), kd.ec, kd.ks 4 _ rfl, dc s1, _, rfl, D, _, _, _, rfl, rfl, (fun u r => r), kd.ec, kd.ks 5 _ rfl, dc s1, _, rfl, D, _, _, _, rfl, rfl, (fun u r => r), kd.ec, kd.ks 6 _ rfl, dc s1, _, rfl, D, _, _, _, rfl, rfl, (fun u r => r), kd.ec, kd.ks 7 _ rfl, dc s1, (by show 4 ≤ sizeLine; decide), fun l2 h2 => ?_⟩
    have s2 := Same.upd_new (o := .lst [.bl (decide (4 = j)), .bl (decide (5 = j)), .bl (decide (6 = j)), .bl (decide (7 = j))]) h2
    have q2 := upd_same (H := H1) (a := l2) (o := .lst [.bl (decide (4 = j)), .bl (decide (5 = j)), .bl (decide (6 = j)), .bl (decide (7 = j))])
    generalize upd H1 l2 (.lst [.bl (decide (4 = j)), .bl (decide (5 = j)), .bl (decide (6 = j)), .bl (decide (7 = j))]) = H2 at s2 q2 ⊢
    refine ⟨l1, l2, _, _, rfl, rfl, s2 _ _ q1, q2, (by show 4 + 4 ≤ sizeLine; decide), fun l3 h3 => ?_⟩
    have s3 := Same.upd_new (o := .lst ([.bl (decide (0 = j)), .bl (decide (1 = j)), .bl (decide (2 = j)), .bl (decide (3 = j))] ++ [.bl (decide (4 = j)), .bl (decide (5 = j)), .bl (decide (6 = j)), .bl (decide (7 = j))])) h3
    have q3 := upd_same (H := H2) (a := l3) (o := .lst ([.bl (decide (0 = j)), .bl (decide (1 = j)), .bl (decide (2 = j)), .bl (decide (3 = j))] ++ [.bl (decide (4 = j)), .bl (decide (5 = j)), .bl (decide (6 = j)), .bl (decide (7 = j))]))
    have n3 : ∀ b o, H' b = some o → b ≠ l3 := fun b o e => ne_of_none (s2 _ _ (s1 _ _ e)) h3
    generalize upd H2 l3 (.lst ([.bl (decide (0 = j)), .bl (decide (1 = j)), .bl (decide (2 = j)), .bl (decide (3 = j))] ++ [.bl (decide (4 = j)), .bl (decide (5 = j)), .bl (decide (6 = j)), .bl (decide (7 = j))])) = H3 at s3 q3 ⊢
    have s03 := (s1.trans s2).trans s3
    refine ⟨_, rfl, .inl ⟨rfl, _, SqL.of q3⟩, _, rfl, D, _, _, _, rfl, rfl, (fun u r => r), kd.ec, kd.ks 8 _ rfl, dc s03, l3, _, _, rfl, rfl, q3, (by show 8 < sizeLine; decide), ?_⟩
    have s4 : Same H' (upd H3 l3 (.lst ([.bl (decide (0 = j)), .bl (decide (1 = j)), .bl (decide (2 = j)), .bl (decide (3 = j))] ++ [.bl (decide (4 = j)), .bl (decide (5 = j)), .bl (decide (6 = j)), .bl (decide (7 = j))] ++ [.bl (decide (8 = j))]))) := fun b o e => by
      rw [upd_ne (n3 b o e)]
      exact s03 _ _ e
    have q4 := upd_same (H := H3) (a := l3) (o := .lst ((List.range 9).map fun i => V.bl (decide (i = j))))
    have e9 : ([.bl (decide (0 = j)), .bl (decide (1 = j)), .bl (decide (2 = j)), .bl (decide (3 = j))] ++ [.bl (decide (4 = j)), .bl (decide (5 = j)), .bl (decide (6 = j)), .bl (decide (7 = j))] ++ [.bl (decide (8 = j))] : List V) = (List.range 9).map fun i => V.bl (decide (i = j)) := rfl
    rw [e9] at s4 ⊢
    generalize upd H3 l3 (.lst ((List.range 9).map fun i => V.bl (decide (i = j)))) = H4 at s4 q4 ⊢
    have hfl : ((List.range 9).map fun i => V.bl (decide (i = j))).all flatV = true := by
      rw [List.all_map]
      exact List.all_eq_true.mpr fun x _ => rfl
    have hcn : ((List.range 9).map fun i => V.bl (decide (i = j))).countP (fun z => eqV z (.bl true)) = 1 := (by decide +kernel : ∀ j < 9, ((List.range 9).map fun i => V.bl (decide (i = j))).countP (fun z => eqV z (.bl true)) = 1) j hj
    refine ⟨_, rfl, .inl ⟨rfl, _, SqL.of q4⟩, l3, _, .bl true, rfl, rfl, SqL.of q4, rfl, hfl, ?_⟩
    rw [hcn]
    refine ⟨rfl, false, rfl, iteF ?_⟩
    refine ⟨_, rfl, D, _, _, _, rfl, rfl, (fun u r => r), kd.ec, kd.iv, dc s4, true, rfl, iteF ?_⟩
    refine ⟨(by show 9 ≤ sizeLine; decide), fun l5 h5 => ?_⟩
    have s5 := Same.upd_new (o := .lst [.str "manners", .str "count", .str "part", .str "item", .str "full", .str "log", .str "text", .str "end", .str "step"]) h5
    have q5 := upd_same (H := H4) (a := l5) (o := .lst [.str "manners", .str "count", .str "part", .str "item", .str "full", .str "log", .str "text", .str "end", .str "step"])
    generalize upd H4 l5 (.lst [.str "manners", .str "count", .str "part", .str "item", .str "full", .str "log", .str "text", .str "end", .str "step"]) = H5 at s5 q5 ⊢
    have s05 := s4.trans s5
    have hix : ∀ m : Nat, m < 9 → ((List.range 9).map fun i => V.bl (decide (i = j)))[m]? = some (V.bl (decide (m = j))) := fun m hm => by
      rw [List.getElem?_map, List.getElem?_eq_getElem (by simpa using hm), List.getElem_range]
      rfl
    refine ⟨_, rfl, .inl ⟨rfl, _, SqL.of (s5 _ _ q4)⟩, l3, _, .bl true, j, .bl true, rfl, rfl, SqL.of (s5 _ _ q4), rfl, hfl, (hix j hj).trans (by rw [decide_eq_true rfl]), rfl, fun m z' hm hz => ?_, ?_⟩
    · rw [hix m (by omega), decide_eq_false (by omega)] at hz
      rw [← Option.some.inj hz]
      rfl
    have hw : atI [V.str "manners", .str "count", .str "part", .str "item", .str "full", .str "log", .str "text", .str "end", .str "step"] (j : Int) = some (.str (wordN j)) := (by decide +kernel : ∀ j : Nat, j < 9 → atI [V.str "manners", .str "count", .str "part", .str "item", .str "full", .str "log", .str "text", .str "end", .str "step"] (j : Int) = some (.str (wordN j))) j hj
    refine ⟨l5, _, j, _, rfl, rfl, SqL.of q5, hw, ?_⟩
    refine ⟨_, rfl, _, rfl, (by show 2 ≤ sizeLine; decide), fun u hu => ?_⟩
    have s6 := Same.upd_new (o := .tup [.str "log", .str "text"]) hu
    have q6 := upd_same (H := H5) (a := u) (o := .tup [.str "log", .str "text"])
    generalize upd H5 u (.tup [.str "log", .str "text"]) = H6 at s6 q6 ⊢
    have s06 := s05.trans s6
    have hin : inV (.str (wordN j)) [.str "log", .str "text"] = decide (j = 5 ∨ j = 6) := (by decide +kernel : ∀ j < 9, inV (.str (wordN j)) [.str "log", .str "text"] = decide (j = 5 ∨ j = 6)) j hj
    have hst : decide (V.str (wordN j) = V.str "step") = decide (j = 8) := (by decide +kernel : ∀ j < 9, decide (V.str (wordN j) = V.str "step") = decide (j = 8)) j hj
    have e1 : (if false = true then !inV (.str (wordN j)) [.str "log", .str "text"] else inV (.str (wordN j)) [.str "log", .str "text"]) = decide (j = 5 ∨ j = 6) := (if_neg Bool.false_ne_true).trans hin
    have fin : ∀ (H7 : Hp), Same H6 H7 → (2 ≤ sizeLine ∧ ∀ t, H7 t = none → Q (.ref t) (upd H7 t (.tup [.str (wordN j), .int num]))) := fun H7 s7 =>
      ⟨by decide, fun t ht => k t _ ((s06.trans s7).trans (Same.upd_new ht)) upd_same⟩
    rcases hnum with ⟨n5, n6, n8, rfl, _⟩ | ⟨dd, fs, rfl, hx, xf, ⟨hj56, hno, hl⟩ | ⟨hj8, hno, hl⟩⟩
    · refine ⟨u, _, rfl, .inr (SqT.of q6), rfl, rfl, false, congrArg V.bl (e1.trans (decide_eq_false (by omega))), iteF ?_⟩
      exact ⟨_, rfl, rfl, false, congrArg V.bl (hst.trans (decide_eq_false (by omega))), iteF (fin _ (.refl _))⟩
    · refine ⟨u, _, rfl, .inr (SqT.of q6), rfl, rfl, true, congrArg V.bl (e1.trans (decide_eq_true hj56)), iteT ?_⟩
      exact ⟨_, rfl, rfl, D, dd, fs, .int num, rfl, xf, hno, rfl, s06 _ _ hx, hl, fin _ (.refl _)⟩
    · refine ⟨u, _, rfl, .inr (SqT.of q6), rfl, rfl, false, congrArg V.bl (e1.trans (decide_eq_false (by omega))), iteF ?_⟩
      refine ⟨_, rfl, rfl, true, congrArg V.bl (hst.trans (decide_eq_true hj8)), iteT ?_⟩
      exact ⟨_, rfl, rfl, D, dd, fs, .int num, rfl, xf, hno, rfl, s06 _ _ hx, hl, fin _ (.refl _)⟩

end
end TL

namespace TL
open PySem PySem.Spec PyProof.Rows L2
section
variable {P : Program} {w : World} {K : PySem.W.Frag} {mg : Str → Option Value} {base : Heap}
def sp__law_can (T : Txt K mg) : Sp := fun vs H Q _ => ∃ d : Addr, vs = [.ref d] ∧ DiceAt H d ∧
  ∀ (t : Addr) (ms : List Int) (H' : Hp), Can ms → H' t = some (.tup (ms.map V.int)) → DiceAt H' d → Frm [d] H H' → Q (.ref t) H'
theorem ok__law_can (T : Txt K mg) : FnOk P w K mg base CX0 2 T.a__law_can T.fd__law_can P__law_can (sp__law_can T) := by
  have G__law_off := ok__law_off (P := P) (w := w) (base := base) T
  refine T.F__law_can.ok sc__law_can (fun vs H Q E h => ?_) (fun cdv A outer s H vs Q E hr h => ?_)
  · obtain ⟨d, rfl, _⟩ := h
    rfl
  · obtain ⟨d, rfl, hD, k⟩ := h
    refine ⟨_, (pss_cons (ps_set (i := 1) sc__law_can.nd rfl (by first | exact Or.inl rfl | exact Or.inr rfl) (pe_ix ix_list (pe_lst (pa_cons pe_int (pa_cons pe_int (pa_cons pe_int (pa_cons pe_int pa_nil))))) (pe_call G__law_off (hr.mono (by decide)) rfl T.g__law_off T.F__law_off.kp T.b__law_off .nil pass0 (pa_cons (pv 0) (pa_cons pe_int pa_nil))) (fun _ _ => rfl)))
    (pss_one (ps_ret (pe_op op_catA (pe_tup (pa_cons pe_int pa_nil)) (pe_callTy call_tuple_of (by rfl) T.n_tuple (by decide +kernel) (pa_cons (pe_lc (own := [("_law_manner", 2)]) (g := (gName 2)) (tt := (tTest (tOp rEq (tCall _ [] E0 (tCons (tVar 0) (tCons (tVar 1) tNil))) (tC (.int 0))))) (te := (tVar 2)) rfl sc__law_can.nd (pi_range2 rfl T.n_range (pa_cons pe_int (pa_cons pe_int pa_nil))) (blkOk_by (own := [("_law_manner", 2)]) (N := N__law_can) (sc := defScope s__law_can) (by decide +kernel)) (fun _ _ _ _ _ => (pg_name (i := 2) sc__law_can.nd rfl (by first | exact Or.inl rfl | exact Or.inr rfl))) (fun _ _ _ _ _ => (pts_one (pt_cmpR op_eq (pe_call G__law_off (hr.mono (by decide)) rfl T.g__law_off T.F__law_off.kp T.b__law_off .nil pass0 (pa_cons (pv 0) (pa_cons (pv 1) pa_nil))) pe_int (nomark _)))) (fun _ _ _ _ _ => (pv 2))) pa_nil)))))), ?_⟩
    have hD0 : ∃ o, H d = some o := let ⟨ns, e, _⟩ := hD; ⟨_, e⟩
    obtain ⟨od, hod⟩ := hD0
    refine ⟨(by show 4 ≤ sizeLine; decide), fun l hl => ?_⟩
    have nld : d ≠ l := ne_of_none hod hl
    have f1 : Frm [d] H (upd H l (.lst [.int 1, .int 2, .int 2, .int 4])) := Frm.new hl
    refine ⟨_, rfl, d, 4, rfl, hD.frm (Frm.new (S := []) hl) (by simp), (by decide), (by decide), fun r H1 r0 r4 hD1 g1 => ?_⟩
    have hl1 : H1 l = some (.lst [.int 1, .int 2, .int 2, .int 4]) := g1 _ _ upd_same (by simp [Ne.symm nld])
    obtain ⟨m, hm, hm0, hm4⟩ : ∃ m : Int, atI [V.int 1, V.int 2, V.int 2, V.int 4] r = some (.int m) ∧ 0 < m ∧ m ≤ 4 := by
      have : r = 0 ∨ r = 1 ∨ r = 2 ∨ r = 3 := by omega
      rcases this with rfl | rfl | rfl | rfl
      · exact ⟨1, rfl, by decide, by decide⟩
      · exact ⟨2, rfl, by decide, by decide⟩
      · exact ⟨2, rfl, by decide, by decide⟩
      · exact ⟨4, rfl, by decide, by decide⟩
    refine ⟨l, _, r, _, rfl, rfl, SqL.of hl1, hm, ?_⟩
    have f2 := f1.trans g1
    -- (0,) + tuple([..])
    refine ⟨(by show 1 ≤ sizeLine; decide), fun p hp => ?_⟩
    have f3 : Frm [d] H1 (upd H1 p (.tup [.int 0])) := Frm.new hp
    obtain ⟨od1, hod1⟩ : ∃ o, H1 d = some o := let ⟨ns, e, _⟩ := hD1; ⟨_, e⟩
    have npd : d ≠ p := ne_of_none hod1 hp
    have hD2 : DiceAt (upd H1 p (.tup [.int 0])) d := hD1.frm (Frm.new (S := []) hp) (by simp)
    refine ⟨1, 10, rfl, ⟨by decide, by decide, by decide, by decide⟩, fun D hDn => ?_⟩
    have nDd : D ≠ d := fun e => by
      obtain ⟨ns, z, _⟩ := hD2
      rw [← e, hDn] at z
      cases z
    have nDp : D ≠ p := fun e => by rw [e, upd_same] at hDn; cases hDn
    refine lc_range (lo := 1) (n := 9) (fun i H2 => DiceAt H2 d ∧ Frm [d] H H2 ∧ H2 p = some (.tup [.int 0]) ∧ ∃ ms : List Int, H2 D = some (.lst (ms.map V.int)) ∧ ms.Pairwise (· < ·) ∧ (∀ x ∈ ms, 1 ≤ x ∧ x < 1 + i) ∧ ms.length ≤ i)
      ⟨hD2.frm (Frm.new (S := []) hDn) (by simp), (f2.trans f3).trans (Frm.new hDn), by rw [upd_ne (Ne.symm nDp), upd_same], [], upd_same, List.Pairwise.nil, by simp, Nat.le_refl _⟩ ?_ ?_
    · rintro i H2 hi ⟨d2, f, hp2, ms, hms, hpw, hb, hln⟩
      have hS : (wipe [some (V.ref d), some (V.int m), none] [2]).set 2 (some (.int (1 + i))) = [some (V.ref d), some (V.int m), some (.int (1 + i))] := rfl
      refine ⟨rfl, _, rfl, _, rfl, d, m, rfl, d2, hm0, by omega, fun r H3 r0 rm d3 g3 => ?_⟩
      have e3 : H3 D = some (.lst (ms.map V.int)) := g3 _ _ hms (by simp [nDd])
      have p3 : H3 p = some (.tup [.int 0]) := g3 _ _ hp2 (by simp [Ne.symm npd])
      refine ⟨rfl, _, rfl, ?_⟩
      refine iteD (fun _ => ?_) (fun _ => ?_)
      · refine ⟨_, rfl, _, e3, by rw [List.length_map]; exact small1000 (by omega), ?_⟩
        refine ⟨d3.upd_ne (Ne.symm nDd), (f.trans g3).own ((f2.trans f3).free hDn) (Frm.updL e3), by rw [upd_ne (Ne.symm nDp)]; exact p3, ms ++ [1 + (i : Int)], by rw [upd_same, List.map_append]; rfl, ?_, ?_, by simp; omega⟩
        · rw [List.pairwise_append]
          refine ⟨hpw, by simp, fun x hx y hy => ?_⟩
          simp at hy
          have := hb x hx
          omega
        · intro x hx
          rcases List.mem_append.mp hx with h1 | h1
          · have := hb x h1
            omega
          · simp at h1
            omega
      · exact ⟨d3, f.trans g3, p3, ms, e3, hpw, fun x hx => by have := hb x hx; omega, by omega⟩
    · rintro H2 ⟨d2, f, hp2, ms, hms, hpw, hb, hln⟩
      have hcan : Can (0 :: ms) := by
        refine ⟨fun i hi => ?_, ?_, by simp, by simp; omega⟩
        · rcases List.mem_cons.mp hi with e | e
          · omega
          · have := hb i e
            omega
        · rw [List.pairwise_cons]
          exact ⟨fun x hx => by have := hb x hx; omega, hpw⟩
      refine ⟨D, _, rfl, .inl ⟨SqL.of hms, fun q hq => ?_⟩⟩
      have p3 : (upd H2 q (.tup (ms.map V.int))) p = some (.tup [.int 0]) := by rw [upd_ne (ne_of_none hp2 hq)]; exact hp2
      have fq : Frm [d] H2 (upd H2 q (.tup (ms.map V.int))) := Frm.new hq
      have dq : DiceAt (upd H2 q (.tup (ms.map V.int))) d := d2.frm (Frm.new (S := []) hq) (by simp)
      refine ⟨p, q, _, _, rfl, rfl, SqT.of p3, SqT.of upd_same, ?_, (fun z => by cases z), fun _ z => ?_, fun _ _ u hu => ?_⟩
      · rw [List.length_map]
        exact Nat.le_of_lt (small1000 (by simp; omega))
      · have e0 : ms = [] := by simpa using z
        subst e0
        exact k p [0] _ hcan p3 dq (f.trans fq)
      · exact k u (0 :: ms) _ hcan (by rw [upd_same]; rfl) (dq.frm (Frm.new (S := []) hu) (by simp)) ((f.trans fq).trans (Frm.new hu))

end
end TL

namespace TL
open PySem PySem.Spec PyProof.Rows L2
section
variable {P : Program} {w : World} {K : PySem.W.Frag} {mg : Str → Option Value} {base : Heap}
def sp_Marks_init (T : Txt K mg) : Sp := fun vs H Q _ => ∃ (p dx : Addr), vs = [.ref p] ∧ H p = some (.ins T.C_Marks dx []) ∧
  ∀ (ad : MAd) (H' : Hp), ad.m = p → (∀ Z, MarksAt T.C_Marks Z H' ad .new) → (∀ x ∈ ad.all, H x = none) → Frm [p] H H' → Q .non H'
theorem ok_Marks_init (T : Txt K mg) : FnOk P w K mg base CX0 1 T.a_Marks_init T.fd_Marks_init P_Marks_init (sp_Marks_init T) := by
  skip
  refine T.F_Marks_init.ok sc_Marks_init (fun vs H Q E h => ?_) (fun cdv A outer s H vs Q E hr h => ?_)
  · obtain ⟨p, dx, rfl, _⟩ := h
    rfl
  · obtain ⟨p, dx, rfl, hp, k⟩ := h
    refine ⟨_, (pss_cons (ps_fld (pv 0) pe_dnewK rfl)
    (pss_cons (ps_fld (pv 0) pe_dnewK rfl)
    (pss_cons (ps_fld (pv 0) pe_dnewK rfl)
    (pss_one (ps_fld (pv 0) pe_dnewK rfl))))), ?_⟩
    intro w hw
    have npw := ne_of_none hp hw
    have p1 : (upd H w (.dK [])) p = some (.ins T.C_Marks dx (mkN.zip [])) := by rw [upd_ne npw]; exact hp
    refine ⟨_, rfl, p, _, dx, _, rfl, p1, T.cl_Marks, T.no_Marks_waits, (by decide), ?_⟩
    rw [zip_add mkN_nd rfl]
    intro u hu
    have npu : p ≠ u := ne_of_none upd_same hu
    refine ⟨_, rfl, p, _, dx, _, rfl, (by rw [upd_ne npu]; exact upd_same), T.cl_Marks, T.no_Marks_until, zip_small (by decide), ?_⟩
    rw [zip_add mkN_nd rfl]
    intro r hr
    have npr : p ≠ r := ne_of_none upd_same hr
    refine ⟨_, rfl, p, _, dx, _, rfl, (by rw [upd_ne npr]; exact upd_same), T.cl_Marks, T.no_Marks_runs, zip_small (by decide), ?_⟩
    rw [zip_add mkN_nd rfl]
    intro t ht
    have npt : p ≠ t := ne_of_none upd_same ht
    refine ⟨_, rfl, p, _, dx, _, rfl, (by rw [upd_ne npt]; exact upd_same), T.cl_Marks, T.no_Marks_tries, zip_small (by decide), ?_⟩
    rw [zip_add mkN_nd rfl]
    -- what stands now
    have f1 : Frm [p] H (upd H w (.dK [])) := Frm.new hw
    have f2 := f1.trans (Frm.updI (o := .ins T.C_Marks dx (mkN.zip [.ref w])) p1)
    have f3 := f2.trans (Frm.new (o := .dK []) hu)
    have p3 : (upd (upd (upd H w (.dK [])) p (.ins T.C_Marks dx (mkN.zip [.ref w]))) u (.dK [])) p = some (.ins T.C_Marks dx (mkN.zip [.ref w])) := by rw [upd_ne npu]; exact upd_same
    have f4 := f3.trans (Frm.updI (o := .ins T.C_Marks dx (mkN.zip [.ref w, .ref u])) p3)
    have f5 := f4.trans (Frm.new (o := .dK []) hr)
    have p5 : (upd (upd (upd (upd (upd H w (.dK [])) p (.ins T.C_Marks dx (mkN.zip [.ref w]))) u (.dK [])) p (.ins T.C_Marks dx (mkN.zip [.ref w, .ref u]))) r (.dK [])) p = some (.ins T.C_Marks dx (mkN.zip [.ref w, .ref u])) := by rw [upd_ne npr]; exact upd_same
    have f6 := f5.trans (Frm.updI (o := .ins T.C_Marks dx (mkN.zip [.ref w, .ref u, .ref r])) p5)
    have f7 := f6.trans (Frm.new (o := .dK []) ht)
    have p7 : (upd (upd (upd (upd (upd (upd (upd H w (.dK [])) p (.ins T.C_Marks dx (mkN.zip [.ref w]))) u (.dK [])) p (.ins T.C_Marks dx (mkN.zip [.ref w, .ref u]))) r (.dK [])) p (.ins T.C_Marks dx (mkN.zip [.ref w, .ref u, .ref r]))) t (.dK [])) p = some (.ins T.C_Marks dx (mkN.zip [.ref w, .ref u, .ref r])) := by rw [upd_ne npt]; exact upd_same
    have f8 := f7.trans (Frm.updI (o := .ins T.C_Marks dx (mkN.zip [.ref w, .ref u, .ref r, .ref t])) p7)
    -- the four are different
    have huw : (upd (upd H w (.dK [])) p (.ins T.C_Marks dx (mkN.zip [.ref w]))) w = some (.dK []) := by rw [upd_ne (Ne.symm npw)]; exact upd_same
    have nwu : w ≠ u := ne_of_none huw hu
    have g3w : (upd (upd (upd (upd H w (.dK [])) p (.ins T.C_Marks dx (mkN.zip [.ref w]))) u (.dK [])) p (.ins T.C_Marks dx (mkN.zip [.ref w, .ref u]))) w = some (.dK []) := by rw [upd_ne (Ne.symm npw), upd_ne nwu]; exact huw
    have g3u : (upd (upd (upd (upd H w (.dK [])) p (.ins T.C_Marks dx (mkN.zip [.ref w]))) u (.dK [])) p (.ins T.C_Marks dx (mkN.zip [.ref w, .ref u]))) u = some (.dK []) := by rw [upd_ne (Ne.symm npu)]; exact upd_same
    have nwr : w ≠ r := ne_of_none g3w hr
    have nur : u ≠ r := ne_of_none g3u hr
    have g5w : (upd (upd (upd (upd (upd (upd H w (.dK [])) p (.ins T.C_Marks dx (mkN.zip [.ref w]))) u (.dK [])) p (.ins T.C_Marks dx (mkN.zip [.ref w, .ref u]))) r (.dK [])) p (.ins T.C_Marks dx (mkN.zip [.ref w, .ref u, .ref r]))) w = some (.dK []) := by rw [upd_ne (Ne.symm npw), upd_ne nwr]; exact g3w
    have g5u : (upd (upd (upd (upd (upd (upd H w (.dK [])) p (.ins T.C_Marks dx (mkN.zip [.ref w]))) u (.dK [])) p (.ins T.C_Marks dx (mkN.zip [.ref w, .ref u]))) r (.dK [])) p (.ins T.C_Marks dx (mkN.zip [.ref w, .ref u, .ref r]))) u = some (.dK []) := by rw [upd_ne (Ne.symm npu), upd_ne nur]; exact g3u
    have g5r : (upd (upd (upd (upd (upd (upd H w (.dK [])) p (.ins T.C_Marks dx (mkN.zip [.ref w]))) u (.dK [])) p (.ins T.C_Marks dx (mkN.zip [.ref w, .ref u]))) r (.dK [])) p (.ins T.C_Marks dx (mkN.zip [.ref w, .ref u, .ref r]))) r = some (.dK []) := by rw [upd_ne (Ne.symm npr)]; exact upd_same
    have nwt := ne_of_none g5w ht
    have nut := ne_of_none g5u ht
    have nrt := ne_of_none g5r ht
    refine k ⟨p, w, u, r, t⟩ _ rfl (fun Z => ⟨⟨dx, upd_same⟩, DictM.new ?_, DictM.new ?_, DictM.new ?_, ⟨fun _ => none, DictM.new ?_, fun _ => .inl ⟨rfl, rfl⟩⟩, nwu, nwr, nwt, nur, nut, nrt⟩) ?_ f8
    · show upd _ p _ w = _
      rw [upd_ne (Ne.symm npw), upd_ne nwt]; exact g5w
    · show upd _ p _ u = _
      rw [upd_ne (Ne.symm npu), upd_ne nut]; exact g5u
    · show upd _ p _ r = _
      rw [upd_ne (Ne.symm npr), upd_ne nrt]; exact g5r
    · show upd _ p _ t = _
      rw [upd_ne (Ne.symm npt)]; exact upd_same
    · intro x hx
      simp [MAd.all] at hx
      rcases hx with rfl | rfl | rfl | rfl
      · exact hw
      · exact f2.free hu
      · exact f4.free hr
      · exact f6.free ht

end
end TL

namespace TL
open PySem PySem.Spec PyProof.Rows L2
section
variable {P : Program} {w : World} {K : PySem.W.Frag} {mg : Str → Option Value} {base : Heap}
def sp_End_init (T : Txt K mg) : Sp := fun vs H Q E => ∃ (p dx : Addr) (x : V) (d : PyData), vs = [.ref p, x] ∧ H p = some (.ins T.C_End dx []) ∧ Dp K H x d ∧ mdat d ∧
  (isMan d = false → ∀ H', Same H H' → E (.ref T.C_BadManners) none H') ∧
  (isMan d = true → ∀ ms : List Int, d = .tuple (ms.map .int) → Im H x (canD ms) ∧ ∀ (ad : EAd) (H' : Hp), ad.e = p → (∀ Z, EndAt T.C_End T.C_Marks Z H' ad (.new ms)) → (∀ x ∈ ad.every, x = p ∨ H x = none) → Frm [p] H H' → Q .non H')
theorem ok_End_init (T : Txt K mg) : FnOk P w K mg base (L2.CX P w) 4 T.a_End_init T.fd_End_init P_End_init (sp_End_init T) := by
  have G_need_manners := ok_need_manners (P := P) (w := w) (base := base) T
  have G_Marks_init := ok_Marks_init (P := P) (w := w) (base := base) T
  refine T.F_End_init.okX sc_End_init (fun vs H Q E h => ?_) (fun cdv A outer s H vs Q E hr h => ?_)
  · obtain ⟨p, dx, x, d, rfl, _⟩ := h
    rfl
  · obtain ⟨p, dx, x, d, rfl, hp, hx, mx, k1, k2⟩ := h
    refine ⟨_, (pss_cons (ps_expr (pe_call G_need_manners (hr.mono (by decide)) rfl T.g_need_manners T.F_need_manners.kp T.b_need_manners .nil (passes_call (takes_of rfl rfl rfl rfl) (fun _ _ _ _ h => h)) (pa_cons (pv 1) pa_nil)))
    (pss_cons (ps_fld (pv 0) (pv 1) rfl)
    (pss_cons (ps_fld (pv 0) (pe_make0 T.M_Marks G_Marks_init (hr.mono (by decide)) rfl T.c_Marks T.b_Marks_init .nil pass0) rfl)
    (pss_cons (ps_fld (pv 0) pe_int rfl)
    (pss_cons (ps_fld (pv 0) pe_int rfl)
    (pss_cons (ps_fld (pv 0) (pe_tup (pa_cons (pv 1) (pa_cons (pe_tup pa_nil) pa_nil))) rfl)
    (pss_cons (ps_fld (pv 0) pe_non rfl)
    (pss_cons (ps_fld (pv 0) pe_int rfl)
    (pss_cons (ps_fld (pv 0) pe_int rfl)
    (pss_cons (ps_fld (pv 0) pe_bl rfl)
    (pss_cons (ps_fld (pv 0) pe_int rfl)
    (pss_cons (ps_fld (pv 0) pe_bl rfl)
    (pss_cons (ps_fld (pv 0) (pe_lst pa_nil) rfl)
    (pss_cons (ps_fld (pv 0) pe_int rfl)
    (pss_cons (ps_fld (pv 0) (pe_lst pa_nil) rfl)
    (pss_one (ps_fld (pv 0) (pe_glob (v := .int 0) rfl T.v_SLOW ⟨_, rfl⟩) rfl))))))))))))))))), ?_⟩
    refine ⟨_, rfl, x, d, rfl, hx, mx, fun gx H1 s1 => ?_, fun gx H1 s1 => k1 gx H1 s1⟩
    obtain ⟨ms, rfl, _⟩ := man_tuple gx
    obtain ⟨im, k⟩ := k2 gx ms rfl
    have p1 : H1 p = some (.ins T.C_End dx (enN.zip [])) := s1 _ _ hp
    refine ⟨_, rfl, _, rfl, iniF x p1 T.cl_End T.no_End_can rfl fun H2 p2 f2 => ?_⟩
    -- marks
    intro m dm hm hdm ndm
    have npm : p ≠ m := ne_of_none p2 hm
    have npd : p ≠ dm := ne_of_none p2 hdm
    have sa : Same H2 (upd (upd H2 dm (.own m)) m (.ins T.C_Marks dm [])) := (Same.upd_new hdm).trans (Same.upd_new (by rw [upd_ne (Ne.symm ndm)]; exact hm))
    refine ⟨m, dm, rfl, upd_same, fun am H3 ham Mm hfr f3 => ⟨rfl, ?_⟩⟩
    subst ham
    have p3 := f3 _ _ (sa _ _ p2) (by simp [npm])
    have f23 : Frm [p] H2 H3 := (Frm.of_same sa).own hm f3
    have nall : ∀ x ∈ am.all, x ≠ p := fun x hx => Ne.symm (ne_of_none (sa _ _ p2) (hfr x hx))
    have hfr2 : ∀ x ∈ am.all, H2 x = none := fun x hx => (Frm.of_same (S := []) sa).free (hfr x hx)
    refine ⟨_, rfl, iniF (.ref am.m) p3 T.cl_End T.no_End_marks rfl fun H4 p4 f4 => ?_⟩
    refine ⟨_, rfl, iniF (.int 0) p4 T.cl_End T.no_End_over rfl fun H5 p5 f5 => ?_⟩
    refine ⟨_, rfl, iniF (.int 1) p5 T.cl_End T.no_End_version rfl fun H6 p6 f6 => ?_⟩
    -- (can, ())
    refine ⟨_, rfl, (by show 0 ≤ sizeLine; decide), fun e he => ⟨(by show 2 ≤ sizeLine; decide), fun t ht => ?_⟩⟩
    have s6 : Same H6 (upd (upd H6 e (.tup [])) t (.tup [x, .ref e])) := (Same.upd_new he).trans (Same.upd_new ht)
    have f16 : Frm [p] H1 H6 := (((f2.trans f23).trans f4).trans f5).trans f6
    have im6 : Im H6 x (canD ms) := (im.same s1).frm f16
    have mind : Im (upd (upd H6 e (.tup [])) t (.tup [x, .ref e])) (.ref t) (mindD (ms, [])) := .tup upd_same (.cons (im6.same s6) (.cons (.tup (a := e) (by rw [upd_ne (ne_of_none upd_same ht)]; exact upd_same) .nil) .nil))
    refine ⟨_, rfl, iniF (.ref t) (s6 _ _ p6) T.cl_End T.no_End_mind rfl fun H7 p7 f7 => ?_⟩
    refine ⟨_, rfl, iniF .non p7 T.cl_End T.no_End_other rfl fun H8 p8 f8 => ?_⟩
    refine ⟨_, rfl, iniF (.int 0) p8 T.cl_End T.no_End_seen rfl fun H9 p9 f9 => ?_⟩
    refine ⟨_, rfl, iniF (.int 0) p9 T.cl_End T.no_End_known rfl fun H10 p10 f10 => ?_⟩
    refine ⟨_, rfl, iniF (.bl false) p10 T.cl_End T.no_End_ready rfl fun H11 p11 f11 => ?_⟩
    refine ⟨_, rfl, iniF (.int 0) p11 T.cl_End T.no_End_now rfl fun H12 p12 f12 => ?_⟩
    refine ⟨_, rfl, iniF (.bl false) p12 T.cl_End T.no_End_joined rfl fun H13 p13 f13 => ?_⟩
    have f613 : Frm [p] H6 H13 := (((((((Frm.of_same s6).trans f7).trans f8).trans f9).trans f10).trans f11).trans f12).trans f13
    have f313 : Frm [p] H3 H13 := ((f4.trans f5).trans f6).trans f613
    refine ⟨(by show 0 ≤ sizeLine; decide), fun w hw => ?_⟩
    have s13 : Same H13 (upd H13 w (.lst [])) := Same.upd_new hw
    have npw : p ≠ w := ne_of_none p13 hw
    refine ⟨_, rfl, iniF (.ref w) (s13 _ _ p13) T.cl_End T.no_End_waiting rfl fun H14 p14 f14 => ?_⟩
    have w14 : H14 w = some (.lst []) := f14 _ _ upd_same (by simp [Ne.symm npw])
    refine ⟨_, rfl, iniF (.int 0) p14 T.cl_End T.no_End_count rfl fun H15 p15 f15 => ?_⟩
    have w15 : H15 w = some (.lst []) := f15 _ _ w14 (by simp [Ne.symm npw])
    refine ⟨(by show 0 ≤ sizeLine; decide), fun g hg => ?_⟩
    have s15 : Same H15 (upd H15 g (.lst [])) := Same.upd_new hg
    have npg : p ≠ g := ne_of_none p15 hg
    have nwg : w ≠ g := ne_of_none w15 hg
    refine ⟨_, rfl, iniF (.ref g) (s15 _ _ p15) T.cl_End T.no_End_gathered rfl fun H16 p16 f16' => ?_⟩
    refine ⟨_, rfl, iniF (.int 0) p16 T.cl_End T.no_End_part rfl fun H17 p17 f17 => ?_⟩
    have f1317 : Frm [p] H13 H17 := (((((Frm.of_same s13).trans f14).trans f15).trans (Frm.of_same s15)).trans f16').trans f17
    have f317 := f313.trans f1317
    have w17 : H17 w = some (.lst []) := f17 _ _ (f16' _ _ (s15 _ _ w15) (by simp [Ne.symm npw])) (by simp [Ne.symm npw])
    have g17 : H17 g = some (.lst []) := f17 _ _ (f16' _ _ upd_same (by simp [Ne.symm npg])) (by simp [Ne.symm npg])
    have M17 := MarksAt.ini Mm f317 npm nall
    have M13 := MarksAt.ini Mm f313 npm nall
    have f137 : Frm [p] H1 H17 := (f2.trans f23).trans f317
    have hmw : ∀ x ∈ am.m :: am.all, ∃ o, H13 x = some o := fun x hx => by
      rcases List.mem_cons.mp hx with rfl | hx
      · obtain ⟨⟨q, hq⟩, _⟩ := M13 []
        exact ⟨_, hq⟩
      · exact ((M13 []).out x hx).2
    have nw : ∀ x ∈ am.m :: am.all, x ≠ w := fun x hx => by
      obtain ⟨o, ho⟩ := hmw x hx
      exact ne_of_none ho hw
    have ng : ∀ x ∈ am.m :: am.all, x ≠ g := fun x hx => by
      obtain ⟨o, ho⟩ := hmw x hx
      obtain ⟨o', ho'⟩ := ((Frm.of_same (S := [p]) s13).trans f14 |>.trans f15).there _ _ ho
      exact ne_of_none ho' hg
    have nd := (Mm []).nd
    have mo := (Mm []).out
    have f01 : ∀ x, H1 x = none → H x = none := fun x => (Frm.of_same (S := []) s1).free
    refine k ⟨p, w, g, am⟩ H17 rfl (fun Z => ⟨⟨dx, x, .ref t, .non, p17, (im.same s1).frm f137, mind.frm (((((((f7.trans f8).trans f9).trans f10).trans f11).trans f12).trans f13).trans f1317), .non⟩, M17 Z, w17, g17, ?_⟩) ?_ ?_
    · obtain ⟨n1, n2, n3, n4, n5, n6⟩ := nd
      have a := am.mem
      have q1 := mo _ a.1
      have q2 := mo _ a.2.1
      have q3 := mo _ a.2.2.1
      have q4 := mo _ a.2.2.2
      have e1 := nall _ a.1
      have e2 := nall _ a.2.1
      have e3 := nall _ a.2.2.1
      have e4 := nall _ a.2.2.2
      have w1 := nw _ (List.mem_cons_of_mem _ a.1)
      have w2 := nw _ (List.mem_cons_of_mem _ a.2.1)
      have w3 := nw _ (List.mem_cons_of_mem _ a.2.2.1)
      have w4 := nw _ (List.mem_cons_of_mem _ a.2.2.2)
      have w0 := nw _ (List.mem_cons_self ..)
      have g1 := ng _ (List.mem_cons_of_mem _ a.1)
      have g2 := ng _ (List.mem_cons_of_mem _ a.2.1)
      have g3 := ng _ (List.mem_cons_of_mem _ a.2.2.1)
      have g4 := ng _ (List.mem_cons_of_mem _ a.2.2.2)
      have g0 := ng _ (List.mem_cons_self ..)
      simp only [EAd.every, EAd.all, List.nodup_cons, List.mem_cons, not_or, List.not_mem_nil, not_false_eq_true, List.nodup_nil, and_true]
      exact ⟨⟨Ne.symm npm, w0, g0, Ne.symm q1.1, Ne.symm q2.1, Ne.symm q3.1, Ne.symm q4.1⟩, ⟨npw, npg, Ne.symm e1, Ne.symm e2, Ne.symm e3, Ne.symm e4⟩, ⟨nwg, Ne.symm w1, Ne.symm w2, Ne.symm w3, Ne.symm w4⟩, ⟨Ne.symm g1, Ne.symm g2, Ne.symm g3, Ne.symm g4⟩, ⟨n1, n2, n3⟩, ⟨n4, n5⟩, n6⟩
    · intro y hy
      have m1 : H1 am.m = none := f2.free hm
      have mall : ∀ z ∈ am.all, H1 z = none := fun z hz => f2.free (hfr2 z hz)
      have ww : H1 w = none := ((f2.trans f23).trans f313).free hw
      have gg : H1 g = none := (((f2.trans f23).trans f313).trans (((Frm.of_same s13).trans f14).trans f15)).free hg
      simp [EAd.every, EAd.all] at hy
      rcases hy with rfl | rfl | rfl | rfl | rfl | rfl | rfl | rfl
      · exact .inr (f01 _ m1)
      · exact .inl rfl
      · exact .inr (f01 _ ww)
      · exact .inr (f01 _ gg)
      · exact .inr (f01 _ (mall _ (by simp [MAd.all])))
      · exact .inr (f01 _ (mall _ (by simp [MAd.all])))
      · exact .inr (f01 _ (mall _ (by simp [MAd.all])))
      · exact .inr (f01 _ (mall _ (by simp [MAd.all])))
    · exact (Frm.of_same s1).trans f137

end
end TL

namespace TL
open PySem PySem.Spec PyProof.Rows L2
section
variable {P : Program} {w : World} {K : PySem.W.Frag} {mg : Str → Option Value} {base : Heap}
def sp__law_line (T : Txt K mg) : Sp := fun vs H Q _ => ∃ (t0 t1 : Addr) (ca cb : List Int), vs = [.ref t0, .ref t1] ∧ H t0 = some (.tup (ca.map V.int)) ∧ H t1 = some (.tup (cb.map V.int)) ∧ Can ca ∧ Can cb ∧
  ∀ (x : LnAd) (H' : Hp), x.c0 = t0 → x.c1 = t1 → (∀ y ∈ x.every, H y = none) → (∀ Z, LineAt T.C_End T.C_Marks Z H' x (.new ca cb)) → Same H H' → Q (.ref x.l) H'
theorem ok__law_line (T : Txt K mg) : FnOk P w K mg base CX0 6 T.a__law_line T.fd__law_line P__law_line (sp__law_line T) := by
  have G_End_init := ok_End_init (P := P) (w := w) (base := base) T
  refine T.F__law_line.ok sc__law_line (fun vs H Q E h => ?_) (fun cdv A outer s H vs Q E hr h => ?_)
  · obtain ⟨t0, t1, ca, cb, rfl, _⟩ := h
    rfl
  · obtain ⟨t0, t1, ca, cb, rfl, h0, h1, hca, hcb, k⟩ := h
    refine ⟨_, (pss_one (ps_ret (pe_disp (pps_cons pe_str (pe_lst (pa_cons (pv 0) (pa_cons (pv 1) pa_nil))) (pps_cons pe_str (pe_lst (pa_cons (pe_make T.M_End G_End_init (hr.mono (by decide)) rfl T.c_End T.b_End_init .nil passL (pa_cons (pv 0) pa_nil)) (pa_cons (pe_make T.M_End G_End_init (hr.mono (by decide)) rfl T.c_End T.b_End_init .nil passL (pa_cons (pv 1) pa_nil)) pa_nil))) (pps_cons pe_str (pe_lst (pa_cons (pe_lst pa_nil) (pa_cons (pe_lst pa_nil) pa_nil))) (pps_cons pe_str (pe_lst pa_nil) (pps_cons pe_str pe_bl pps_nil))))) (by rfl) (by rfl) (fun z => by cases z) (by decide)))), ?_⟩
    intro p hp
    have s1 : Same H (upd H p (.dK [])) := Same.upd_new hp
    -- can
    refine ⟨_, rfl, _, rfl, (by show 2 ≤ sizeLine; decide), fun c hc => ?_⟩
    have s2 := s1.trans (Same.upd_new (o := .lst [.ref t0, .ref t1]) hc)
    have nL1 : [p, c].Nodup := by
      simp only [List.nodup_cons, List.mem_cons, not_or, List.not_mem_nil, not_false_eq_true, List.nodup_nil, and_true]
      exact ne_of_none upd_same hc
    generalize hH2 : upd (upd H p (.dK [])) c (.lst [.ref t0, .ref t1]) = H2 at s2 ⊢
    have p2 : H2 p = some (.dK []) := by rw [← hH2, upd_ne (ne_of_none upd_same hc)]; exact upd_same
    have c2 : H2 c = some (.lst [.ref t0, .ref t1]) := by rw [← hH2]; exact upd_same
    have al2 : Alloc [p, c] H2 := fun z hz => by
      simp at hz
      rcases hz with rfl | rfl
      · exact ⟨_, p2⟩
      · exact ⟨_, c2⟩
    have inj : ∀ {a b : List Int}, a.map PyData.int = b.map PyData.int → a = b := fun {a b} e => List.map_inj_right (fun x y z => by cases z; rfl) |>.mp e
    -- the ends
    refine ⟨_, rfl, ?_⟩
    intro e0 d0 he0 hd0 nd0
    have sa : Same H2 (upd (upd H2 d0 (.own e0)) e0 (.ins T.C_End d0 [])) := (Same.upd_new hd0).trans (Same.upd_new (by rw [upd_ne (Ne.symm nd0)]; exact he0))
    have im0 : Im (upd (upd H2 d0 (.own e0)) e0 (.ins T.C_End d0 [])) (.ref t0) (canD ca) := (Im.tup h0 (im_ints _)).same (s2.trans sa)
    refine ⟨e0, d0, .ref t0, canD ca, rfl, upd_same, im0.dp, mdat_ints hca.2.2.2, (fun z => absurd z (by show ¬ isMan (.tuple _) = false; rw [isMan_ints hca]; simp)), fun _ ms ems => ?_⟩
    obtain rfl := inj (by injection ems)
    refine ⟨im0, fun a H3 ha Ea fra fa => ⟨rfl, ?_⟩⟩
    have s3 : Same H2 H3 := ((Frm.of_same (S := []) sa).own he0 (ha ▸ fa)).same
    have fra2 : ∀ y ∈ a.every, H2 y = none := fun y hy => by
      rcases fra y hy with rfl | q
      · exact he0
      · exact (Frm.of_same (S := []) sa).free q
    have al3 : Alloc a.every H3 := fun z hz => (Ea []).there z hz
    have nA := (Ea []).nd
    refine ⟨_, rfl, ?_⟩
    intro e1 d1 he1 hd1 nd1
    have sb : Same H3 (upd (upd H3 d1 (.own e1)) e1 (.ins T.C_End d1 [])) := (Same.upd_new hd1).trans (Same.upd_new (by rw [upd_ne (Ne.symm nd1)]; exact he1))
    have im1 : Im (upd (upd H3 d1 (.own e1)) e1 (.ins T.C_End d1 [])) (.ref t1) (canD cb) := (Im.tup h1 (im_ints _)).same ((s2.trans s3).trans sb)
    refine ⟨e1, d1, .ref t1, canD cb, rfl, upd_same, im1.dp, mdat_ints hcb.2.2.2, (fun z => absurd z (by show ¬ isMan (.tuple _) = false; rw [isMan_ints hcb]; simp)), fun _ ms ems => ?_⟩
    obtain rfl := inj (by injection ems)
    refine ⟨im1, fun b H4 hb Eb frb fb => ⟨rfl, ?_⟩⟩
    have s4 : Same H3 H4 := ((Frm.of_same (S := []) sb).own he1 (hb ▸ fb)).same
    have frb2 : ∀ y ∈ b.every, H3 y = none := fun y hy => by
      rcases frb y hy with rfl | q
      · exact he1
      · exact (Frm.of_same (S := []) sb).free q
    have nB := (Eb []).nd
    have al4 : Alloc b.every H4 := fun z hz => (Eb []).there z hz
    subst ha hb
    have n1 : ([p, c] ++ a.every).Nodup := nd_snoc nL1 al2 nA fra2
    have a1 : Alloc ([p, c] ++ a.every) H3 := (al2.frm (Frm.of_same (S := []) s3)).app al3
    have n2 := nd_snoc n1 a1 nB frb2
    have a2 := (a1.frm (Frm.of_same (S := []) s4)).app al4
    -- the lists
    refine ⟨(by show 2 ≤ sizeLine; decide), fun es hes => ⟨(by show 0 ≤ sizeLine; decide), fun z0 hz0 => ⟨(by show 0 ≤ sizeLine; decide), fun z1 hz1 => ⟨(by show 2 ≤ sizeLine; decide), fun se hse => ⟨(by show 0 ≤ sizeLine; decide), fun lg hlg => ?_⟩⟩⟩⟩⟩
    have step : ∀ {L : List Addr} {K1 : Hp} {y : Addr} {o : HO}, L.Nodup → Alloc L K1 → K1 y = none → (L ++ [y]).Nodup ∧ Alloc (L ++ [y]) (upd K1 y o) := fun {L K1 y o} q1 q2 q3 =>
      ⟨nd_snoc q1 q2 (by simp) (by simp [q3]), (q2.frm (Frm.new (S := []) q3)).app fun z hz => by simp at hz; subst hz; exact ⟨_, upd_same⟩⟩
    obtain ⟨n3, a3⟩ := step (o := .lst [.ref a.e, .ref b.e]) n2 a2 hes
    obtain ⟨n4, a4⟩ := step (o := .lst []) n3 a3 hz0
    obtain ⟨n5, a5⟩ := step (o := .lst []) n4 a4 hz1
    obtain ⟨n6, a6⟩ := step (o := .lst [.ref z0, .ref z1]) n5 a5 hse
    obtain ⟨n7, a7⟩ := step (o := .lst []) n6 a6 hlg
    have t5 : Same H4 (upd H4 es (.lst [.ref a.e, .ref b.e])) := Same.upd_new hes
    have t6 : Same _ (upd (upd H4 es (.lst [.ref a.e, .ref b.e])) z0 (.lst [])) := Same.upd_new hz0
    have t7 : Same _ (upd (upd (upd H4 es (.lst [.ref a.e, .ref b.e])) z0 (.lst [])) z1 (.lst [])) := Same.upd_new hz1
    have t8 : Same _ (upd (upd (upd (upd H4 es (.lst [.ref a.e, .ref b.e])) z0 (.lst [])) z1 (.lst [])) se (.lst [.ref z0, .ref z1])) := Same.upd_new hse
    have t9 : Same _ (upd (upd (upd (upd (upd H4 es (.lst [.ref a.e, .ref b.e])) z0 (.lst [])) z1 (.lst [])) se (.lst [.ref z0, .ref z1])) lg (.lst [])) := Same.upd_new hlg
    have es9 := t9 _ _ (t8 _ _ (t7 _ _ (t6 _ _ (upd_same (H := H4) (a := es) (o := .lst [.ref a.e, .ref b.e])))))
    have z09 := t9 _ _ (t8 _ _ (t7 _ _ (upd_same (H := upd H4 es (.lst [.ref a.e, .ref b.e])) (a := z0) (o := .lst []))))
    have z19 := t9 _ _ (t8 _ _ (upd_same (H := upd (upd H4 es (.lst [.ref a.e, .ref b.e])) z0 (.lst [])) (a := z1) (o := .lst [])))
    have se9 := t9 _ _ (upd_same (H := upd (upd (upd H4 es (.lst [.ref a.e, .ref b.e])) z0 (.lst [])) z1 (.lst [])) (a := se) (o := .lst [.ref z0, .ref z1]))
    have lg9 := upd_same (H := upd (upd (upd (upd H4 es (.lst [.ref a.e, .ref b.e])) z0 (.lst [])) z1 (.lst [])) se (.lst [.ref z0, .ref z1])) (a := lg) (o := .lst [])
    have s49 := (((t5.trans t6).trans t7).trans t8).trans t9
    generalize (upd (upd (upd (upd (upd H4 es (.lst [.ref a.e, .ref b.e])) z0 (.lst [])) z1 (.lst [])) se (.lst [.ref z0, .ref z1])) lg (.lst [])) = H9 at es9 z09 z19 se9 lg9 s49 a7 ⊢
    have s29 : Same H2 H9 := (s3.trans s4).trans s49
    have p9 := s29 _ _ p2
    have c9 := s29 _ _ c2
    let x : LnAd := ⟨p, c, es, se, z0, z1, lg, t0, t1, a, b⟩
    have ndx : x.every.Nodup := by
      refine (List.Perm.nodup_iff ?_).mp n7
      show ([p, c] ++ a.every ++ b.every ++ [es] ++ [z0] ++ [z1] ++ [se] ++ [lg]).Perm (p :: c :: es :: se :: z0 :: z1 :: lg :: (a.every ++ b.every))
      have e1 : [p, c] ++ a.every ++ b.every ++ [es] ++ [z0] ++ [z1] ++ [se] ++ [lg] = p :: c :: ((a.every ++ b.every) ++ [es, z0, z1, se, lg]) := by simp [List.append_assoc]
      rw [e1]
      refine List.Perm.cons p (List.Perm.cons c (List.perm_append_comm.trans ?_))
      show (es :: z0 :: z1 :: se :: lg :: (a.every ++ b.every)).Perm _
      exact List.Perm.cons es ((List.Perm.cons z0 (List.Perm.swap se z1 _)).trans (List.Perm.swap se z0 _))
    refine ⟨p9, lnD x true, rfl, (by show 5 ≤ 15; decide), ?_⟩
    have em : mergeK [] (lnD x true) = lnD x true := rfl
    rw [em]
    have f10 : Frm [p] H9 (upd H9 p (.dK (lnD x true))) := Frm.updK p9
    have npx : ∀ y ∈ x.every, y ≠ p ∨ y = x.l := fun y hy => by
      by_cases q : y = p
      · exact .inr q
      · exact .inl q
    have nxt : ∀ {y}, y ∈ (c :: es :: se :: z0 :: z1 :: lg :: (a.every ++ b.every)) → y ∉ [p] := fun {y} hy z => by
      have : y = p := by simpa using z
      subst this
      exact (List.nodup_cons.mp ndx).1 hy
    have s19 : Same H H9 := s2.trans s29
    refine k x _ rfl rfl (fun y hy => ?_) (fun Z => ⟨upd_same, f10 _ _ c9 (nxt (y := c) (by simp)), f10.tups _ _ (s19 _ _ h0), f10.tups _ _ (s19 _ _ h1), f10 _ _ es9 (nxt (y := es) (by simp)), f10 _ _ se9 (nxt (y := se) (by simp)), f10 _ _ z09 (nxt (y := z0) (by simp)), f10 _ _ z19 (nxt (y := z1) (by simp)), ⟨[], f10 _ _ lg9 (nxt (y := lg) (by simp)), .nil⟩, ?_, ?_, ndx⟩) ?_
    · simp only [LnAd.every, LnAd.base, List.mem_append, List.mem_cons, List.not_mem_nil, or_false] at hy
      have g2 : ∀ y, H2 y = none → H y = none := fun y => (Frm.of_same (S := []) s2).free
      have g4 : ∀ y, H4 y = none → H y = none := fun y q => g2 y ((Frm.of_same (S := []) (s3.trans s4)).free q)
      rcases hy with (rfl | rfl | rfl | rfl | rfl | rfl | rfl) | hy | hy
      · exact hp
      · exact (Frm.of_same (S := []) s1).free hc
      · exact g4 _ hes
      · exact g4 _ ((Frm.of_same (S := []) ((t5.trans t6).trans t7)).free hse)
      · exact g4 _ ((Frm.of_same (S := []) t5).free hz0)
      · exact g4 _ ((Frm.of_same (S := []) (t5.trans t6)).free hz1)
      · exact g4 _ ((Frm.of_same (S := []) (((t5.trans t6).trans t7).trans t8)).free hlg)
      · exact g2 _ (fra2 _ hy)
      · exact g2 _ ((Frm.of_same (S := []) s3).free (frb2 _ hy))
    · exact EndAt.ini (fun Z => (Ea Z).same (s4.trans s49)) f10 (fun z => nxt (y := p) (by simp [z]) (by simp)) Z
    · exact EndAt.ini (fun Z => (Eb Z).same s49) f10 (fun z => nxt (y := p) (by simp [z]) (by simp)) Z
    · exact ((Frm.of_same (S := []) s19).own hp f10).same

end
end TL

namespace TL
open PySem PySem.Spec PyProof.Rows L2
section
variable {P : Program} {w : World} {K : PySem.W.Frag} {mg : Str → Option Value} {base : Heap}
def sp_End_stands (T : Txt K mg) : Sp := fun vs H Q _ => ∃ (Z : List Addr) (ad : EAd) (s : EndS), vs = [.ref ad.e] ∧ EndAt T.C_End T.C_Marks Z H ad s ∧ ∀ l, H l = none → Q (.ref l) (upd H l (.tup [.int s.now, .bl s.joined]))
theorem ok_End_stands (T : Txt K mg) : FnOk P w K mg base CX0 1 T.a_End_stands T.fd_End_stands P_End_stands (sp_End_stands T) := by
  skip
  refine T.F_End_stands.ok sc_End_stands (fun vs H Q E h => ?_) (fun cdv A outer s H vs Q E hr h => ?_)
  · obtain ⟨Z, ad, s, rfl, _⟩ := h
    rfl
  · obtain ⟨Z, ad, sk, rfl, M, k⟩ := h
    refine ⟨_, (pss_one (ps_ret (pe_tup (pa_cons (pe_fld (pv 0) rfl) (pa_cons (pe_fld (pv 0) rfl) pa_nil))))), ?_⟩
    obtain ⟨⟨dx, cv, mv, ov, ho, _⟩, _⟩ := id M
    refine ⟨_, rfl, _, T.C_End, _, _, _, rfl, ho, T.cl_End, T.no_End_now, zip_lookup enN_nd (i := 9) rfl rfl, _, rfl, _, T.C_End, _, _, _, rfl, ho, T.cl_End, T.no_End_joined, zip_lookup enN_nd (i := 10) rfl rfl, (by show 2 ≤ sizeLine; decide), k⟩

end
end TL

namespace TL
open PySem PySem.Spec PyProof.Rows L2
section
variable {P : Program} {w : World} {K : PySem.W.Frag} {mg : Str → Option Value} {base : Heap}
def sp_End_need_part (T : Txt K mg) : Sp := fun vs H Q E => ∃ (Z : List Addr) (ad : EAd) (s : EndS) (y : V) (dy : PyData), vs = [.ref ad.e, y] ∧ EndAt T.C_End T.C_Marks Z H ad s ∧ Dp K H y dy ∧ (∀ ds, dy ≠ .list ds) ∧ 0 ≤ s.part ∧ s.part ≤ 1 ∧
  (dy = .int s.part → Q .non H) ∧ (dy ≠ .int s.part → E (.ref T.C_BadPart) none H)
theorem ok_End_need_part (T : Txt K mg) : FnOk P w K mg base (L2.CX P w) 2 T.a_End_need_part T.fd_End_need_part P_End_need_part (sp_End_need_part T) := by
  have G_is_between := ok_is_between (P := P) (w := w) (base := base) T
  refine T.F_End_need_part.okX sc_End_need_part (fun vs H Q E h => ?_) (fun cdv A outer s H vs Q E hr h => ?_)
  · obtain ⟨Z, ad, s, y, dy, rfl, _⟩ := h
    rfl
  · obtain ⟨Z, ad, sk, y, dy, rfl, M, hy, nl, p0, p1, k1, k2⟩ := h
    refine ⟨_, (pss_one (ps_if (PW.pt (pw_or (pt_not (pt_val (pe_call G_is_between (hr.mono (by decide)) rfl T.g_is_between T.F_is_between.kp T.b_is_between .nil pass0 (pa_cons (pv 1) (pa_cons (pe_glob (v := .int 0) rfl T.v_SLOW ⟨_, rfl⟩) (pa_cons (pe_glob (v := .int 1) rfl T.v_FAST ⟨_, rfl⟩) pa_nil)))))) (pw_or1 (pt_cmpR op_ne (pv 1) (pe_fld (pv 0) rfl) (nomark _)))))
      (pss_one (ps_raise rfl (takes_of rfl rfl rfl rfl) (pmk_own PySem.F.excBase_ValueError T.x_BadPart T.c_BadPart T.k_BadPart (raises_own T.s_BadPart T.t_BadPart) rfl)))
      pss_nil)), ?_⟩
    refine ⟨_, rfl, y, dy, 0, 1, rfl, hy, nl, _, rfl, ?_⟩
    refine iteB (fun hb => k2 fun e => ?_) (fun hb => ?_)
    · subst e
      simp [between, p0, p1] at hb
    have gy : between dy 0 1 = true := by simpa using hb
    obtain ⟨f, rfl⟩ : ∃ f, dy = .int f := by
      cases dy with
      | int f => exact ⟨f, rfl⟩
      | _ => exact absurd gy (by simp [between])
    cases hy
    obtain ⟨⟨dx, cv, mv, ov, ho, _⟩, _⟩ := id M
    refine ⟨_, rfl, _, rfl, _, T.C_End, _, _, _, rfl, ho, T.cl_End, T.no_End_part, zip_lookup enN_nd (i := 14) rfl rfl, rfl, _, rfl, ?_⟩
    refine iteN (fun hne => k2 fun e => hne ?_) (fun heq => k1 ?_)
    · cases e; rfl
    · cases heq; rfl

end
end TL

namespace TL
open PySem PySem.Spec PyProof.Rows L2
section
variable {P : Program} {w : World} {K : PySem.W.Frag} {mg : Str → Option Value} {base : Heap}
def sp_Marks_bad (T : Txt K mg) : Sp := fun vs H Q E => ∃ (Z : List Addr) (ad : MAd) (s : MkS) (y : V) (dy : PyData), vs = [.ref ad.m, y] ∧ MarksAt T.C_Marks Z H ad s ∧ Dp K H y dy ∧ (∀ ds, dy ≠ .list ds) ∧
  (between dy 0 1000000 = false → E (.ref T.C_BadCount) none H) ∧
  (∀ f, dy = .int f → 0 ≤ f → f ≤ 1000000 → ∀ (p : Addr) (H' : Hp), H p = none → H' p = some (.lst ((badF s f).map V.int)) → Same H H' → Q (.ref p) H')
theorem ok_Marks_bad (T : Txt K mg) : FnOk P w K mg base (L2.CX P w) 2 T.a_Marks_bad T.fd_Marks_bad P_Marks_bad (sp_Marks_bad T) := by
  have G_is_between := ok_is_between (P := P) (w := w) (base := base) T
  refine T.F_Marks_bad.okX sc_Marks_bad (fun vs H Q E h => ?_) (fun cdv A outer s H vs Q E hr h => ?_)
  · obtain ⟨Z, ad, s, y, dy, rfl, _⟩ := h
    rfl
  · obtain ⟨Z, ad, sk, y, dy, rfl, M, hy, nl, k1, k2⟩ := h
    have hu := hu_of hr
    refine ⟨_, (pss_cons (ps_if (pt_not (pt_val (pe_call G_is_between (hr.mono (by decide)) rfl T.g_is_between T.F_is_between.kp T.b_is_between .nil pass0 (pa_cons (pv 1) (pa_cons pe_int (pa_cons (pe_glob (v := .int 1000000) rfl T.v_MOST_FRAME ⟨_, rfl⟩) pa_nil))))))
      (pss_one (ps_raise rfl (takes_of rfl rfl rfl rfl) (pmk_own PySem.F.excBase_ValueError T.x_BadCount T.c_BadCount T.k_BadCount (raises_own T.s_BadCount T.t_BadCount) rfl)))
      pss_nil)
    (pss_one (ps_ret (pe_lc (own := [("manner", 2)]) (g := (gName 2)) (tt := (tTest (tOp (rI0 fun i j => .bl (decide (i ≤ j))) (tVar 1) (tDGet (tFld K (tVar 0) "until") (tVar 2))))) (te := (tVar 2)) rfl sc_Marks_bad.nd (pi_list (pe_callB (call_sortedDI rfl) (by rfl) T.n_sorted (by decide +kernel) (pa_cons (pe_fld (pv 0) rfl) pa_nil))) (blkOk_by (own := [("manner", 2)]) (N := N_Marks_bad) (sc := defScope s_Marks_bad) (by decide +kernel)) (fun _ _ _ _ _ => (pg_name (i := 2) sc_Marks_bad.nd rfl (by first | exact Or.inl rfl | exact Or.inr rfl))) (fun _ _ _ _ _ => (pts_one (pt_cmpR op_le (pv 1) (pe_dget hu (pe_fld (pv 0) rfl) (pv 2) (fun _ _ => rfl)) (nomark _)))) (fun _ _ _ _ _ => (pv 2)))))), ?_⟩
    refine ⟨_, rfl, y, dy, 0, 1000000, rfl, hy, nl, _, rfl, ?_⟩
    refine iteB (fun hb => k1 (by simpa using hb)) (fun hb => ?_)
    have hb : between dy 0 1000000 = true := by simpa using hb
    cases dy with
    | int f =>
      cases hy
      have hf : 0 ≤ f ∧ f ≤ 1000000 := by simpa [between] using hb
      obtain ⟨⟨dx, ho⟩, _⟩ := id M
      obtain ⟨kvs, ks, hd, hks, hlt, hsort⟩ := until_keys M.u
      refine ⟨_, rfl, _, T.C_Marks, _, _, _, rfl, ho, T.cl_Marks, T.no_Marks_until, zip_lookup mkN_nd (i := 1) rfl rfl, ad.u, kvs, ks, rfl, Rd.of hd, hks, hlt, fun ys q hp hs hq => ?_⟩
      have e1 := hsort ys hp hs
      have s1 : Same H (upd H q (.lst (ys.map V.int))) := Same.upd_new hq
      refine ⟨q, rfl, ⟨_, SqL.of upd_same⟩, fun D hD => ?_⟩
      have s2 := s1.trans (Same.upd_new (o := .lst []) hD)
      have hDH := s1.free hD
      have nqD : q ≠ D := fun e => by rw [← e, upd_same] at hD; cases hD
      refine lc_list (K := K) (a := q) (xs := ys.map V.int) (fun i H2 => Same H H2 ∧ H2 q = some (.lst (ys.map V.int)) ∧ H2 D = some (.lst (((ys.take i).filter fun i => match sk.untl i with | some u => decide (f ≤ u) | none => false).map V.int)))
        ⟨s2, by rw [upd_ne nqD]; exact upd_same, upd_same⟩ (fun i H2 _ ⟨_, h2, _⟩ => SqL.of h2) ?_ ?_
      · rintro i v H2 hi ⟨s3, hq2, hD2⟩
        obtain ⟨m, hm, rfl⟩ := getmap hi
        have hil : i < ys.length := (List.getElem?_eq_some_iff.mp hm).1
        have hmy : m ∈ ys := List.mem_of_getElem? hm
        rw [e1, List.mem_filter] at hmy
        obtain ⟨u, hu2⟩ := Option.isSome_iff_exists.mp hmy.2
        have M2 := M.same s3
        obtain ⟨⟨dx2, ho2⟩, _⟩ := id M2
        have hg := M2.u.get m
        rw [hu2] at hg
        have hyl : ys.length ≤ 9 := by rw [e1]; exact List.length_filter_le _ _
        refine ⟨rfl, _, rfl, _, rfl, _, T.C_Marks, _, _, _, rfl, ho2, T.cl_Marks, T.no_Marks_until, zip_lookup mkN_nd (i := 1) rfl rfl, _, rfl, ad.u, .int u, rfl, hg, _, _, rfl, rfl, _, rfl, ?_⟩
        have htk := take_more hm
        refine iteD (fun hle => ?_) (fun hle => ⟨s3, hq2, ?_⟩)
        · refine ⟨_, rfl, _, hD2, ?_, ((Frm.of_same s3).own hDH (Frm.updL hD2)).same, by rw [upd_ne nqD]; exact hq2, ?_⟩
          · rw [List.length_map]
            have := List.length_filter_le (fun i => match sk.untl i with | some u => decide (f ≤ u) | none => false) (ys.take i)
            have := List.length_take_le i ys
            exact small1000 (by omega)
          · rw [upd_same, htk, List.filter_append, List.map_append]
            simp [List.filter, hu2, hle]
        · rw [hD2, htk, List.filter_append]
          simp [List.filter, hu2, hle]
      · rintro H2 ⟨s3, hq2, hD2⟩
        rw [List.length_map, List.take_length] at hD2
        refine k2 f rfl hf.1 hf.2 D H2 hDH ?_ s3
        rw [hD2, e1]
        congr 3
        unfold badF
        rw [List.filter_filter]
        apply List.filter_congr
        intro x _
        cases sk.untl x <;> simp
    | _ => exact absurd hb (by simp [between])

end
end TL

namespace TL
open PySem PySem.Spec PyProof.Rows L2
section
variable {P : Program} {w : World} {K : PySem.W.Frag} {mg : Str → Option Value} {base : Heap}
def sp_End_refresh (T : Txt K mg) : Sp := fun vs H Q _ => ∃ (Z : List Addr) (ad : EAd) (s : EndS), vs = [.ref ad.e] ∧ EndAt T.C_End T.C_Marks Z H ad s ∧ (∀ z ∈ ad.all, z ∈ Z) ∧ EndOk s ∧
  ∀ H', EndAt T.C_End T.C_Marks Z H' ad (refreshF s) → Frm ad.all H H' → Q .non H'
theorem ok_End_refresh (T : Txt K mg) : FnOk P w K mg base CX0 3 T.a_End_refresh T.fd_End_refresh P_End_refresh (sp_End_refresh T) := by
  have G_Marks_bad := ok_Marks_bad (P := P) (w := w) (base := base) T
  refine T.F_End_refresh.ok sc_End_refresh (fun vs H Q E h => ?_) (fun cdv A outer s H vs Q E hr h => ?_)
  · obtain ⟨Z, ad, s, rfl, _⟩ := h
    rfl
  · obtain ⟨Z, ad, sk, rfl, M, hsub, ok, k⟩ := h
    have hu64 := hr.units
    refine ⟨_, (pss_cons (ps_set (i := 1) sc_End_refresh.nd rfl (by first | exact Or.inl rfl | exact Or.inr rfl) (pe_tup (pa_cons (pe_fld (pv 0) rfl) (pa_cons (pe_callTy call_tuple_of (by rfl) T.n_tuple (by decide +kernel) (pa_cons (pe_meth (pe_fld (pv 0) rfl) T.cl_Marks T.m_Marks_bad G_Marks_bad (hr.mono (by decide)) T.b_Marks_bad .nil passL (pa_cons (pe_fld (pv 0) rfl) pa_nil)) pa_nil)) pa_nil))))
    (pss_one (ps_if (pt_cmpR (op_neD hu64) (pv 1) (pe_fld (pv 0) rfl) (nomark _))
      (pss_cons (ps_fld (pv 0) (pv 1) rfl)
      (pss_one (ps_fld (pv 0) (pe_op op_add (pe_fld (pv 0) rfl) pe_int) rfl)))
      pss_nil))), ?_⟩
    obtain ⟨⟨dx, cv, mv, ov, ho, hc, hm, hv⟩, _⟩ := id M
    obtain ⟨⟨dmk, hmk⟩, _⟩ := id M.mks
    refine ⟨_, rfl, _, T.C_End, _, _, _, rfl, ho, T.cl_End, T.no_End_can, zip_lookup enN_nd (i := 0) rfl rfl, _, rfl, _, T.C_End, _, _, _, rfl, ho, T.cl_End, T.no_End_marks, zip_lookup enN_nd (i := 1) rfl rfl, ad.mks.m, dmk, _, rfl, hmk, zip_no (by decide), _, rfl, _, T.C_End, _, _, _, rfl, ho, T.cl_End, T.no_End_over, zip_lookup enN_nd (i := 2) rfl rfl, ?_⟩
    refine ⟨Z, ad.mks, sk.mks, _, .int sk.over, rfl, M.mks, .int _, (fun ds z => by cases z), (fun z => ?_), fun f hf h0 h1 p H1 hpn hp s1 => ?_⟩
    · have := ok.o0
      have := ok.o1
      simp [between, *] at z
    cases hf
    refine ⟨p, _, rfl, .inl ⟨SqL.of hp, fun t ht => ?_⟩⟩
    have s2 := s1.trans (Same.upd_new (o := .tup ((badF sk.mks sk.over).map V.int)) ht)
    refine ⟨(by show 2 ≤ sizeLine; decide), fun u hun => ?_⟩
    have s3 := s2.trans (Same.upd_new (o := .tup [cv, .ref t]) hun)
    have M3 := M.same s3
    have hm3 : Im (upd (upd H1 t (.tup ((badF sk.mks sk.over).map V.int))) u (.tup [cv, .ref t])) (.ref u) (mindD (sk.can, badF sk.mks sk.over)) := by
      refine .tup upd_same (.cons (hc.same s3) (.cons (.tup (a := t) ?_ (im_ints _)) .nil))
      rw [upd_ne (ne_of_none upd_same hun)]
      exact upd_same
    obtain ⟨⟨dx3, cv3, mv3, ov3, ho3, hc3, hmm3, hv3⟩, _⟩ := id M3
    refine ⟨_, rfl, _, rfl, _, T.C_End, _, _, _, rfl, ho3, T.cl_End, T.no_End_mind, zip_lookup enN_nd (i := 4) rfl rfl, mindD (sk.can, badF sk.mks sk.over), mindD (sk.can, sk.bad), hm3.dp, hmm3.dp,
      shaped_lv (lv_mind ok.can.2.2.2 (Nat.le_trans (bad_len _ _) (by decide)) 0) (by decide), shaped_lv (lv_mind ok.can.2.2.2 (Nat.le_trans ok.bad (by decide)) 0) (by decide), _, rfl, ?_⟩
    rw [eqv_mind]
    refine iteN (fun hne => ?_) (fun heq => ?_)
    · have hne' : badF sk.mks sk.over ≠ sk.bad := fun z => hne (by rw [z])
      refine ⟨_, rfl, _, rfl, ?_⟩
      refine M3.sfld T.cl_End T.no_End_mind (hsub _ (by simp [EAd.all])) 4 (.ref u) { sk with bad := badF sk.mks sk.over } rfl (by decide) (fun cv mv ov h1 h2 h3 => ⟨cv, .ref u, ov, rfl, h1, hm3, h3⟩) rfl rfl rfl fun H4 M4 f4 => ?_
      obtain ⟨⟨dx4, cv4, mv4, ov4, ho4, _⟩, _⟩ := id M4
      refine ⟨_, rfl, _, T.C_End, _, _, _, rfl, ho4, T.cl_End, T.no_End_version, zip_lookup enN_nd (i := 3) rfl rfl, _, _, rfl, rfl, _, rfl, ?_⟩
      refine M4.sfld T.cl_End T.no_End_version (hsub _ (by simp [EAd.all])) 3 (.int (sk.ver + 1)) { sk with bad := badF sk.mks sk.over, ver := sk.ver + 1 } rfl (by decide) (fun cv mv ov h1 h2 h3 => ⟨cv, mv, ov, rfl, h1, h2, h3⟩) rfl rfl rfl fun H5 M5 f5 => ?_
      have e : refreshF sk = { sk with bad := badF sk.mks sk.over, ver := sk.ver + 1 } := by unfold refreshF; rw [if_neg hne']
      exact k H5 (by rw [e]; exact M5) (((Frm.of_same s3).trans f4).trans f5)
    · have heq' : badF sk.mks sk.over = sk.bad := (Prod.mk.inj heq).2
      have e : refreshF sk = sk := by unfold refreshF; rw [if_pos heq']
      exact k _ (by rw [e]; exact M3) (Frm.of_same s3)

end
end TL

namespace TL
open PySem PySem.Spec PyProof.Rows L2
section
variable {P : Program} {w : World} {K : PySem.W.Frag} {mg : Str → Option Value} {base : Heap}
def sp_End_say (T : Txt K mg) : Sp := fun vs H Q E => ∃ (Z : List Addr) (ad : EAd) (s : EndS) (y : V) (dy : PyData), vs = [.ref ad.e, y] ∧ EndAt T.C_End T.C_Marks Z H ad s ∧ (∀ z ∈ ad.all, z ∈ Z) ∧ EndOk s ∧ Dp K H y dy ∧ (∀ ds, dy ≠ .list ds) ∧ 0 ≤ s.part ∧ s.part ≤ 1 ∧
  (dy ≠ .int s.part → E (.ref T.C_BadPart) none H) ∧
  (dy = .int s.part → s.part = 0 → ∀ x H', EndAt T.C_End T.C_Marks Z H' ad (refreshF s) → Im H' x (.tuple [.int 0, slowD (slowOf (refreshF s))]) → Frm ad.all H H' → Q x H') ∧
  (dy = .int s.part → s.part = 1 → ∀ x H', EndAt T.C_End T.C_Marks Z H' ad s → Im H' x (.tuple [.int s.now, fastD (fastOf s)]) → Same H H' → Q x H')
theorem ok_End_say (T : Txt K mg) : FnOk P w K mg base (L2.CX P w) 4 T.a_End_say T.fd_End_say P_End_say (sp_End_say T) := by
  have G_End_need_part := ok_End_need_part (P := P) (w := w) (base := base) T
  have G_End_refresh := ok_End_refresh (P := P) (w := w) (base := base) T
  refine T.F_End_say.okX sc_End_say (fun vs H Q E h => ?_) (fun cdv A outer s H vs Q E hr h => ?_)
  · obtain ⟨Z, ad, s, y, dy, rfl, _⟩ := h
    rfl
  · obtain ⟨Z, ad, sk, y, dy, rfl, M, hsub, ok, hy, nl, p0, p1, k1, k2, k3⟩ := h
    have hu64 := hr.units
    refine ⟨_, (pss_cons (ps_expr (pe_meth (pv 0) T.cl_End T.m_End_need_part G_End_need_part (hr.mono (by decide)) T.b_End_need_part .nil (passes_call (takes_of rfl rfl rfl rfl) (fun _ _ _ _ h => h)) (pa_cons (pv 1) pa_nil)))
    (pss_cons (ps_if (pt_cmpR op_eq (pv 1) (pe_glob (v := .int 0) rfl T.v_SLOW ⟨_, rfl⟩) (nomark _))
      (pss_cons (ps_expr (pe_meth0 (pv 0) T.cl_End T.m_End_refresh G_End_refresh (hr.mono (by decide)) T.b_End_refresh .nil pass0))
      (pss_one (ps_ret (pe_tup (pa_cons pe_int (pa_cons (pe_tup (pa_cons (pe_fld (pv 0) rfl) (pa_cons (pe_fld (pv 0) rfl) (pa_cons (pe_fld (pv 0) rfl) pa_nil)))) pa_nil))))))
      pss_nil)
    (pss_cons (ps_set (i := 2) sc_End_say.nd rfl (by first | exact Or.inl rfl | exact Or.inr rfl) (pe_ifExp (pt_cmpR (op_neD hu64) (pe_fld (pv 0) rfl) (pe_lst pa_nil) (nomark _)) (pe_ix ix_list (pe_fld (pv 0) rfl) pe_int (fun _ _ => rfl)) pe_non))
    (pss_one (ps_ret (pe_tup (pa_cons (pe_fld (pv 0) rfl) (pa_cons (pe_tup (pa_cons (pe_fld (pv 0) rfl) (pa_cons (pv 2) (pa_cons (pe_callB call_len_seq (by rfl) T.n_len (by decide +kernel) (pa_cons (pe_fld (pv 0) rfl) pa_nil)) pa_nil)))) pa_nil)))))))), ?_⟩
    obtain ⟨⟨dx, cv, mv, ov, ho, hc, hm, hv⟩, _⟩ := id M
    refine ⟨_, rfl, ad.e, dx, _, rfl, ho, zip_no (by decide), _, rfl, Z, ad, sk, y, dy, rfl, M, hy, nl, p0, p1, fun e => ?_, k1⟩
    subst e
    cases hy
    refine ⟨_, rfl, rfl, _, rfl, ?_⟩
    refine iteD (fun hp => ?_) (fun hp => ?_)
    · have hp0 : sk.part = 0 := vint_inj.mp hp
      refine ⟨_, rfl, ad.e, dx, _, rfl, ho, zip_no (by decide), Z, ad, sk, rfl, M, hsub, ok, fun H1 M1 f1 => ?_⟩
      obtain ⟨⟨dx1, cv1, mv1, ov1, ho1, hc1, hm1, hv1⟩, _⟩ := id M1
      refine ⟨_, rfl, _, T.C_End, _, _, _, rfl, ho1, T.cl_End, T.no_End_version, zip_lookup enN_nd (i := 3) rfl rfl, _, rfl, _, T.C_End, _, _, _, rfl, ho1, T.cl_End, T.no_End_mind, zip_lookup enN_nd (i := 4) rfl rfl, _, rfl, _, T.C_End, _, _, _, rfl, ho1, T.cl_End, T.no_End_seen, zip_lookup enN_nd (i := 6) rfl rfl, (by show 3 ≤ sizeLine; decide), fun t ht => ?_⟩
      have s2 : Same H1 (upd H1 t (.tup [.int (refreshF sk).ver, mv1, .int (refreshF sk).seen])) := Same.upd_new ht
      refine ⟨(by show 2 ≤ sizeLine; decide), fun u hu => ?_⟩
      have s3 := s2.trans (Same.upd_new (o := .tup [.int 0, .ref t]) hu)
      refine k2 rfl hp0 _ _ (M1.same s3) (.tup upd_same (.cons (.int 0) (.cons (.tup (a := t) ?_ (.cons (.int _) (.cons (hm1.same s3) (.cons (.int _) .nil)))) .nil))) (f1.trans (Frm.of_same s3))
      rw [upd_ne (ne_of_none upd_same hu)]
      exact upd_same
    · have hp1 : sk.part = 1 := by
        have : sk.part ≠ 0 := fun z => hp (by rw [z])
        omega
      -- the item that is to come
      refine ⟨_, rfl, _, T.C_End, _, _, _, rfl, ho, T.cl_End, T.no_End_waiting, zip_lookup enN_nd (i := 11) rfl rfl, (by show 0 ≤ sizeLine; decide), fun e he => ?_⟩
      have s1 : Same H (upd H e (.lst [])) := Same.upd_new he
      have M1 := M.same s1
      obtain ⟨⟨dx1, cv1, mv1, ov1, ho1, hc1, hm1, hv1⟩, _⟩ := id M1
      refine ⟨.list (sk.wait.map .int), .list [], .lst (SqL.of M1.wt) (dp_ints _), .lst (SqL.of upd_same) .nil, shaped_ints _, shaped_ints [], _, rfl, ?_⟩
      have ee : PyData.eqv (.list (sk.wait.map .int)) (.list []) = decide (sk.wait = []) := eqvAll_ints sk.wait []
      rw [ee]
      refine iteN (fun hne => ?_) (fun hwe => ?_)
      · obtain ⟨w0, wr, hw⟩ : ∃ a r, sk.wait = a :: r := by
          cases h : sk.wait with
          | nil => exact absurd h hne
          | cons a r => exact ⟨a, r, rfl⟩
        refine ⟨_, rfl, _, T.C_End, _, _, _, rfl, ho1, T.cl_End, T.no_End_waiting, zip_lookup enN_nd (i := 11) rfl rfl, ad.w, _, _, .int w0, rfl, rfl, SqL.of M1.wt, atI_nat (j := 0) (by rw [hw]; rfl), ?_⟩
        refine ⟨_, rfl, _, T.C_End, _, _, _, rfl, ho1, T.cl_End, T.no_End_now, zip_lookup enN_nd (i := 9) rfl rfl, _, rfl, _, T.C_End, _, _, _, rfl, ho1, T.cl_End, T.no_End_count, zip_lookup enN_nd (i := 12) rfl rfl, _, rfl, _, rfl, _, T.C_End, _, _, _, rfl, ho1, T.cl_End, T.no_End_gathered, zip_lookup enN_nd (i := 13) rfl rfl, ad.g, _, rfl, .inl (SqL.of M1.gt), (by show 3 ≤ sizeLine; decide), fun t ht => ?_⟩
        have s2 := s1.trans (Same.upd_new (o := .tup [.int sk.count, .int w0, .int ((sk.got.map V.int).length : Nat)]) ht)
        refine ⟨(by show 2 ≤ sizeLine; decide), fun u hu => ?_⟩
        have s3 := s2.trans (Same.upd_new (o := .tup [.int sk.now, .ref t]) hu)
        refine k3 rfl hp1 _ _ (M.same s3) (.tup upd_same (.cons (.int _) (.cons (.tup (a := t) (xs := [.int sk.count, .int w0, .int ((sk.got.map V.int).length : Nat)]) ?_ ?_) .nil))) s3
        · rw [upd_ne (ne_of_none upd_same hu)]
          exact upd_same
        · rw [List.length_map]
          refine .cons (.int _) (.cons ?_ (.cons (.int _) .nil))
          show Im _ _ (optD sk.wait.head?)
          rw [hw]
          exact .int w0
      · refine ⟨_, rfl, _, T.C_End, _, _, _, rfl, ho1, T.cl_End, T.no_End_now, zip_lookup enN_nd (i := 9) rfl rfl, _, rfl, _, T.C_End, _, _, _, rfl, ho1, T.cl_End, T.no_End_count, zip_lookup enN_nd (i := 12) rfl rfl, _, rfl, _, rfl, _, T.C_End, _, _, _, rfl, ho1, T.cl_End, T.no_End_gathered, zip_lookup enN_nd (i := 13) rfl rfl, ad.g, _, rfl, .inl (SqL.of M1.gt), (by show 3 ≤ sizeLine; decide), fun t ht => ?_⟩
        have s2 := s1.trans (Same.upd_new (o := .tup [.int sk.count, .non, .int ((sk.got.map V.int).length : Nat)]) ht)
        refine ⟨(by show 2 ≤ sizeLine; decide), fun u hu => ?_⟩
        have s3 := s2.trans (Same.upd_new (o := .tup [.int sk.now, .ref t]) hu)
        refine k3 rfl hp1 _ _ (M.same s3) (.tup upd_same (.cons (.int _) (.cons (.tup (a := t) (xs := [.int sk.count, .non, .int ((sk.got.map V.int).length : Nat)]) ?_ ?_) .nil))) s3
        · rw [upd_ne (ne_of_none upd_same hu)]
          exact upd_same
        · rw [List.length_map]
          refine .cons (.int _) (.cons ?_ (.cons (.int _) .nil))
          show Im _ _ (optD sk.wait.head?)
          rw [hwe]
          exact .non

end
end TL

namespace TL
open PySem PySem.Spec PyProof.Rows L2
section
variable {P : Program} {w : World} {K : PySem.W.Frag} {mg : Str → Option Value} {base : Heap}
def sp_End_take (T : Txt K mg) : Sp := fun vs H Q _ => ∃ (Z : List Addr) (ad : EAd) (s : EndS), vs = [.ref ad.e] ∧ EndAt T.C_End T.C_Marks Z H ad s ∧ Can s.can ∧ s.bad.length ≤ 9 ∧ (∀ m, s.oth = some m → Can m.1 ∧ m.2.length ≤ 9) ∧ ∀ H', Same H H' → Q (.int (takeF s)) H'
theorem ok_End_take (T : Txt K mg) : FnOk P w K mg base CX0 5 T.a_End_take T.fd_End_take P_End_take (sp_End_take T) := by
  have G_chosen := ok_chosen (P := P) (w := w) (base := base) T
  refine T.F_End_take.ok sc_End_take (fun vs H Q E h => ?_) (fun cdv A outer s H vs Q E hr h => ?_)
  · obtain ⟨Z, ad, s, rfl, _⟩ := h
    rfl
  · obtain ⟨Z, ad, sk, rfl, M, hcan, hbad, hoth, k⟩ := h
    refine ⟨_, (pss_cons (ps_if (pt_cmpR op_isN1 (pe_fld (pv 0) rfl) pe_non (nomark _))
      (pss_one (ps_ret pe_int))
      pss_nil)
    (pss_one (ps_ret (pe_call G_chosen (hr.mono (by decide)) rfl T.g_chosen T.F_chosen.kp T.b_chosen .nil passL (pa_cons (pe_fld (pv 0) rfl) (pa_cons (pe_ix ix_tup (pe_fld (pv 0) rfl) pe_int (fun _ _ => rfl)) (pa_cons (pe_op op_catA (pe_ix ix_tup (pe_fld (pv 0) rfl) pe_int (fun _ _ => rfl)) (pe_ix ix_tup (pe_fld (pv 0) rfl) pe_int (fun _ _ => rfl))) pa_nil))))))), ?_⟩
    obtain ⟨⟨dx, cv, mv, ov, ho, hc, hm, hv⟩, _⟩ := id M
    refine ⟨_, rfl, _, T.C_End, _, _, _, rfl, ho, T.cl_End, T.no_End_other, zip_lookup enN_nd (i := 5) rfl rfl, rfl, _, rfl, ?_⟩
    have hcs : sk.oth = none ∨ ∃ m, sk.oth = some m := by
      cases sk.oth with
      | none => exact .inl rfl
      | some m => exact .inr ⟨m, rfl⟩
    rcases hcs with hn | ⟨m, hsm⟩
    · rw [hn] at hv
      cases hv
      refine iteT ?_
      have e : takeF sk = 0 := by unfold takeF; rw [hn]
      rw [e] at k
      exact k H (.refl _)
    · rw [hsm] at hv
      obtain ⟨ot, o1, o2, rfl, hot, ho1, ho2⟩ := im_two_inv hv
      obtain ⟨c2, rfl, hc2⟩ := im_can_inv (ms := m.1) ho1
      obtain ⟨b2, rfl, hb2⟩ := im_can_inv (ms := m.2) ho2
      obtain ⟨mt, m1, m2, rfl, hmt, hm1, hm2⟩ := im_two_inv hm
      obtain ⟨c1, rfl, hc1⟩ := im_can_inv hc
      obtain ⟨b1, rfl, hb1⟩ := im_can_inv (ms := sk.bad) hm2
      obtain ⟨hcm, hbm⟩ := hoth m hsm
      refine iteF ?_
      refine ⟨_, rfl, _, T.C_End, _, _, _, rfl, ho, T.cl_End, T.no_End_can, zip_lookup enN_nd (i := 0) rfl rfl, _, rfl, _, T.C_End, _, _, _, rfl, ho, T.cl_End, T.no_End_other, zip_lookup enN_nd (i := 5) rfl rfl, ot, _, _, _, rfl, rfl, SqT.of hot, rfl, _, rfl, _, T.C_End, _, _, _, rfl, ho, T.cl_End, T.no_End_mind, zip_lookup enN_nd (i := 4) rfl rfl, mt, _, _, _, rfl, rfl, SqT.of hmt, rfl, _, rfl, _, T.C_End, _, _, _, rfl, ho, T.cl_End, T.no_End_other, zip_lookup enN_nd (i := 5) rfl rfl, ot, _, _, _, rfl, rfl, SqT.of hot, rfl, ?_⟩
      refine catA (SqT.of hb1) (SqT.of hb2) (by rw [List.length_map, List.length_map]; exact Nat.le_of_lt (small1000 (by omega))) fun u H1 hu s1 => ?_
      have hcD : Im H1 (.ref c1) (canD sk.can) := (Im.tup hc1 (im_ints _)).same s1
      have hcE : Im H1 (.ref c2) (canD m.1) := (Im.tup hc2 (im_ints _)).same s1
      refine ⟨_, _, _, canD sk.can, canD m.1, rfl, hcD.dp, mdat_ints hcan.2.2.2, hcE.dp, mdat_ints hcm.2.2.2, (fun z => absurd z (by show ¬ isMan (.tuple _) = false; rw [isMan_ints hcan]; simp)), (fun _ z => absurd z (by show ¬ isMan (.tuple _) = false; rw [isMan_ints hcm]; simp)), fun _ _ one other e1 e2 => ?_⟩
      have inj : ∀ {a b : List Int}, a.map PyData.int = b.map PyData.int → a = b := fun {a b} e => List.map_inj_right (fun x y z => by cases z; rfl) |>.mp e
      obtain rfl := inj (by injection e1)
      obtain rfl := inj (by injection e2)
      refine ⟨u, sk.bad ++ m.2, rfl, .inr (by rw [List.map_append]; exact hu), fun H2 s2 => ?_⟩
      have e : takeF sk = chosenF sk.can m.1 (sk.bad ++ m.2) := by unfold takeF; rw [hsm]
      rw [e] at k
      exact k H2 (s1.trans s2)

end
end TL

namespace TL
open PySem PySem.Spec PyProof.Rows L2
section
variable {P : Program} {w : World} {K : PySem.W.Frag} {mg : Str → Option Value} {base : Heap}
def sp_End_hear_slow (T : Txt K mg) : Sp := fun vs H Q _ => ∃ (Z : List Addr) (ad : EAd) (s : EndS) (z : V) (l : Option SlowL), vs = [.ref ad.e, z] ∧ EndAt T.C_End T.C_Marks Z H ad s ∧ (∀ z ∈ ad.all, z ∈ Z) ∧ EndOk s ∧ Im H z (slowO l) ∧ (∀ x, l = some x → Can x.2.1.1 ∧ x.2.1.2.length ≤ 9) ∧
  ∀ H', EndAt T.C_End T.C_Marks Z H' ad (hearSlowF s l) → Frm ad.all H H' → Q .non H'
theorem ok_End_hear_slow (T : Txt K mg) : FnOk P w K mg base CX0 6 T.a_End_hear_slow T.fd_End_hear_slow P_End_hear_slow (sp_End_hear_slow T) := by
  have G_End_refresh := ok_End_refresh (P := P) (w := w) (base := base) T
  have G_End_take := ok_End_take (P := P) (w := w) (base := base) T
  refine T.F_End_hear_slow.ok sc_End_hear_slow (fun vs H Q E h => ?_) (fun cdv A outer s H vs Q E hr h => ?_)
  · obtain ⟨Z, ad, s, z, l, rfl, _⟩ := h
    rfl
  · obtain ⟨Z, ad, sk, z, l, rfl, M, hsub, ok, hz, hl, k⟩ := h
    refine ⟨_, (pss_cons (ps_expr (pe_meth0 (pv 0) T.cl_End T.m_End_refresh G_End_refresh (hr.mono (by decide)) T.b_End_refresh .nil pass0))
    (pss_cons (ps_fld (pv 0) pe_bl rfl)
    (pss_cons (ps_cut (ps_if (pt_cmpR op_notN1 (pv 1) pe_non (nomark _))
      (pss_cons (ps_asg (pv 1) (pg_tup rfl (pgs_cons (pg_fld (pv 0)) (pgs_cons (pg_fld (pv 0)) (pgs_cons (pg_fld (pv 0)) pgs_nil)))))
      (pss_one (ps_fld (pv 0) (pe_cmpR op_eq (pe_fld (pv 0) rfl) (pe_fld (pv 0) rfl) (nomark _)) rfl)))
      pss_nil))
    (pss_one (ps_fld (pv 0) (pe_meth0 (pv 0) T.cl_End T.m_End_take G_End_take (hr.mono (by decide)) T.b_End_take .nil pass0) rfl))))), ?_⟩
    obtain ⟨⟨dx, cv, mv, ov, ho, hc, hm, hv⟩, _⟩ := id M
    refine ⟨_, rfl, ad.e, dx, _, rfl, ho, zip_no (by decide), Z, ad, sk, rfl, M, hsub, ok, fun H1 M1 f1 => ?_⟩
    have ok1 := ok.refresh
    refine ⟨_, rfl, M1.sfld T.cl_End T.no_End_ready (hsub _ (by simp [EAd.all])) 8 (.bl false) { refreshF sk with ready := false } rfl (by decide) (fun cv mv ov h1 h2 h3 => ⟨cv, mv, ov, rfl, h1, h2, h3⟩) rfl rfl rfl fun H2 M2 f2 => ?_⟩
    have f12 := f1.trans f2
    refine ⟨fun σ' H' => σ' = [some (.ref ad.e), some z] ∧ EndAt T.C_End T.C_Marks Z H' ad (heardS (refreshF sk) l) ∧ Frm ad.all H H', ?_, ?_⟩
    · refine ⟨_, rfl, rfl, _, rfl, ?_⟩
      cases l with
      | none =>
        cases hz
        exact iteF ⟨rfl, M2, f12⟩
      | some l =>
        obtain ⟨t, x, y, w, rfl, ht, hx, hy, hw⟩ := im_three_inv (hz.frm f12)
        have := im_int_inv hx; subst this
        have := im_int_inv hw; subst this
        refine iteT ?_
        refine ⟨_, rfl, t, _, rfl, SqT.of ht, rfl, _, _, rfl, ?_⟩
        refine M2.gfld T.cl_End T.no_End_seen (hsub _ (by simp [EAd.all])) 6 (.int l.1) { refreshF sk with ready := false, seen := l.1 } rfl (by decide) (fun cv mv ov h1 h2 h3 => ⟨cv, mv, ov, rfl, h1, h2, h3⟩) rfl rfl rfl fun H3 M3 f3 => ?_
        refine ⟨_, _, rfl, ?_⟩
        refine M3.gfld T.cl_End T.no_End_other (hsub _ (by simp [EAd.all])) 5 y { refreshF sk with ready := false, seen := l.1, oth := some l.2.1 } rfl (by decide) (fun cv mv ov h1 h2 h3 => ⟨cv, mv, y, rfl, h1, h2, hy.frm f3⟩) rfl rfl rfl fun H4 M4 f4 => ?_
        refine ⟨_, _, rfl, ?_⟩
        refine M4.gfld T.cl_End T.no_End_known (hsub _ (by simp [EAd.all])) 7 (.int l.2.2) { refreshF sk with ready := false, seen := l.1, oth := some l.2.1, known := l.2.2 } rfl (by decide) (fun cv mv ov h1 h2 h3 => ⟨cv, mv, ov, rfl, h1, h2, h3⟩) rfl rfl rfl fun H5 M5 f5 => ?_
        refine ⟨rfl, ?_⟩
        obtain ⟨⟨dx5, cv5, mv5, ov5, ho5, _⟩, _⟩ := id M5
        refine ⟨_, rfl, _, T.C_End, _, _, _, rfl, ho5, T.cl_End, T.no_End_known, zip_lookup enN_nd (i := 7) rfl rfl, _, rfl, _, T.C_End, _, _, _, rfl, ho5, T.cl_End, T.no_End_version, zip_lookup enN_nd (i := 3) rfl rfl, rfl, _, rfl, M5.sfld T.cl_End T.no_End_ready (hsub _ (by simp [EAd.all])) 8 _ (heardS (refreshF sk) (some l)) rfl (by decide) (fun cv mv ov h1 h2 h3 => ⟨cv, mv, ov, ?_, h1, h2, h3⟩) rfl rfl rfl fun H6 M6 f6 => ⟨rfl, M6, f12.trans (((f3.trans f4).trans f5).trans f6)⟩⟩
        have e : decide (V.int l.2.2 = V.int (refreshF sk).ver) = decide (l.2.2 = (refreshF sk).ver) := decide_eq_decide.mpr vint_inj
        rw [e]
        rfl
    rintro σ' H3 ⟨rfl, M3, f3⟩
    obtain ⟨⟨dx3, cv3, mv3, ov3, ho3, _⟩, _⟩ := id M3
    have hob : (heardS (refreshF sk) l).can = (refreshF sk).can ∧ (heardS (refreshF sk) l).bad = (refreshF sk).bad ∧ (∀ m, (heardS (refreshF sk) l).oth = some m → Can m.1 ∧ m.2.length ≤ 9) := by
      cases l with
      | none => exact ⟨rfl, rfl, ok1.oth⟩
      | some l => exact ⟨rfl, rfl, fun m e => by
          have e' : l.2.1 = m := Option.some.inj e
          rw [← e']
          exact hl l rfl⟩
    refine ⟨_, rfl, ad.e, dx3, _, rfl, ho3, zip_no (by decide), Z, ad, _, rfl, M3, by rw [hob.1]; exact ok1.can, by rw [hob.2.1]; exact ok1.bad, hob.2.2, fun H4 s4 => ?_⟩
    refine ⟨_, rfl, (M3.same s4).sfld T.cl_End T.no_End_now (hsub _ (by simp [EAd.all])) 9 _ (hearSlowF sk l) rfl (by decide) (fun cv mv ov h1 h2 h3 => ⟨cv, mv, ov, rfl, h1, h2, h3⟩) rfl rfl rfl fun H5 M5 f5 => ?_⟩
    exact k H5 M5 ((f3.trans (Frm.of_same s4)).trans f5)

end
end TL

namespace TL
open PySem PySem.Spec PyProof.Rows L2
section
variable {P : Program} {w : World} {K : PySem.W.Frag} {mg : Str → Option Value} {base : Heap}
def sp_Marks_note (T : Txt K mg) : Sp := fun vs H Q E => ∃ (Z : List Addr) (ad : MAd) (s : MkS) (x y : V) (dx dy : PyData) (b : Bool), vs = [.ref ad.m, x, .bl b, y] ∧ MarksAt T.C_Marks Z H ad s ∧ Alloc Z H ∧ (∀ z ∈ ad.all, z ∈ Z) ∧ Dp K H x dx ∧ (∀ ds, dx ≠ .list ds) ∧ Dp K H y dy ∧ (∀ ds, dy ≠ .list ds) ∧
  (between dx 1 9 = false → E (.ref T.C_BadManners) none H) ∧ (between dx 1 9 = true → between dy 0 1000000 = false → E (.ref T.C_BadCount) none H) ∧
  (∀ m f, dx = .int m → dy = .int f → 1 ≤ m → m ≤ 9 → 0 ≤ f → f ≤ 1000000 → ∀ H', MarksAt T.C_Marks Z H' ad (noteF s m b f) → Frm ad.all H H' → Q (.bl (isMarked s m b)) H')
theorem ok_Marks_note (T : Txt K mg) : FnOk P w K mg base (L2.CX P w) 3 T.a_Marks_note T.fd_Marks_note P_Marks_note (sp_Marks_note T) := by
  have G_need_manner := ok_need_manner (P := P) (w := w) (base := base) T
  have G_is_between := ok_is_between (P := P) (w := w) (base := base) T
  refine T.F_Marks_note.okX sc_Marks_note (fun vs H Q E h => ?_) (fun cdv A outer s H vs Q E hr h => ?_)
  · obtain ⟨Z, ad, s, x, y, dx, dy, b, rfl, _⟩ := h
    rfl
  · obtain ⟨Z, ad, sk, x, y, dx, dy, b, rfl, M, AZ, hsub, hx, nlx, hy, nly, k1, k2, k3⟩ := h
    have hu := hu_of hr
    refine ⟨_, (pss_cons (ps_expr (pe_call G_need_manner (hr.mono (by decide)) rfl T.g_need_manner T.F_need_manner.kp T.b_need_manner .nil (passes_call (takes_of rfl rfl rfl rfl) (fun _ _ _ _ h => h)) (pa_cons (pv 1) pa_nil)))
    (pss_cons (ps_if (pt_not (pt_val (pe_call G_is_between (hr.mono (by decide)) rfl T.g_is_between T.F_is_between.kp T.b_is_between .nil pass0 (pa_cons (pv 3) (pa_cons pe_int (pa_cons (pe_glob (v := .int 1000000) rfl T.v_MOST_FRAME ⟨_, rfl⟩) pa_nil))))))
      (pss_one (ps_raise rfl (takes_of rfl rfl rfl rfl) (pmk_own PySem.F.excBase_ValueError T.x_BadCount T.c_BadCount T.k_BadCount (raises_own T.s_BadCount T.t_BadCount) rfl)))
      pss_nil)
    (pss_cons (ps_dput hu (pe_fld (pv 0) rfl) (pv 1) (pe_slice sl_list (pe_op op_cat (pe_dget2 hu (pe_fld (pv 0) rfl) (pv 1) (pe_lst pa_nil) ⟨rfl, rfl, rfl, rfl⟩) (pe_lst (pa_cons (pv 2) pa_nil))) (po_some (pe_op op_sub pe_int (pe_glob (v := .int 6) rfl T.v_LAST ⟨_, rfl⟩))) po_none) rfl)
    (pss_cons (ps_cut (ps_dput hu (pe_fld (pv 0) rfl) (pv 1) (pe_ifExp (pt_val (pv 2)) (pe_op op_add (pe_dget2 hu (pe_fld (pv 0) rfl) (pv 1) pe_int ⟨rfl, rfl, rfl, rfl⟩) pe_int) pe_int) rfl))
    (pss_cons (ps_cut (ps_if (pt_cmpR op_eq (pe_dget hu (pe_fld (pv 0) rfl) (pv 1) (fun _ _ => rfl)) (pe_glob (v := .int 32) rfl T.v_STAYS ⟨_, rfl⟩) (nomark _))
      (pss_one (ps_dput hu (pe_fld (pv 0) rfl) (pv 1) (pe_glob (v := .int 16) rfl T.v_FIRST ⟨_, rfl⟩) rfl))
      pss_nil))
    (pss_cons (ps_if (pt_cmpR op_lt (pe_bm PySem.F.plainAttrs_list PySem.F.slot_list_count PySem.F.type_list_count mt_countF (pe_dget hu (pe_fld (pv 0) rfl) (pv 1) (fun _ _ => rfl)) (pa_cons pe_bl pa_nil)) (pe_glob (v := .int 3) rfl T.v_LOST ⟨_, rfl⟩) (nomark _))
      (pss_one (ps_ret pe_bl))
      pss_nil)
    (pss_cons (ps_set (i := 4) sc_Marks_note.nd rfl (by first | exact Or.inl rfl | exact Or.inr rfl) (pe_dget2 hu (pe_fld (pv 0) rfl) (pv 1) (pe_glob (v := .int 16) rfl T.v_FIRST ⟨_, rfl⟩) ⟨rfl, rfl, rfl, rfl⟩))
    (pss_cons (ps_dput hu (pe_fld (pv 0) rfl) (pv 1) (pe_callB (call_max2 rfl) (by rfl) T.n_max (by decide +kernel) (pa_cons (pe_dget2 hu (pe_fld (pv 0) rfl) (pv 1) pe_int ⟨rfl, rfl, rfl, rfl⟩) (pa_cons (pe_op op_add (pv 3) (pv 4)) pa_nil))) rfl)
    (pss_cons (ps_dput hu (pe_fld (pv 0) rfl) (pv 1) (pe_callB (call_min2 rfl) (by rfl) T.n_min (by decide +kernel) (pa_cons (pe_glob (v := .int 256) rfl T.v_LONGEST ⟨_, rfl⟩) (pa_cons (pe_op op_mul pe_int (pv 4)) pa_nil))) rfl)
    (pss_cons (ps_dput hu (pe_fld (pv 0) rfl) (pv 1) (pe_lst pa_nil) rfl)
    (pss_one (ps_ret pe_bl)))))))))))), ?_⟩
    refine ⟨_, rfl, x, dx, rfl, hx, nlx, fun gx => ?_, k1⟩
    refine ⟨_, rfl, y, dy, 0, 1000000, rfl, hy, nly, _, rfl, ?_⟩
    refine iteB (fun hb => k2 gx (by simpa using hb)) (fun hb => ?_)
    have gy : between dy 0 1000000 = true := by simpa using hb
    obtain ⟨m, rfl, hm1, hm9⟩ : ∃ m, dx = .int m ∧ 1 ≤ m ∧ m ≤ 9 := by
      cases dx with
      | int m => exact ⟨m, rfl, by simpa [between] using gx⟩
      | _ => exact absurd gx (by simp [between])
    obtain ⟨f, rfl, hf0, hf1⟩ : ∃ f, dy = .int f ∧ 0 ≤ f ∧ f ≤ 1000000 := by
      cases dy with
      | int f => exact ⟨f, rfl, by simpa [between] using gy⟩
      | _ => exact absurd gy (by simp [between])
    cases hx; cases hy
    have k := k3 m f rfl rfl hm1 hm9 hf0 hf1
    -- tries
    obtain ⟨⟨dm, ho⟩, _⟩ := id M
    refine ⟨_, rfl, _, T.C_Marks, _, _, _, rfl, ho, T.cl_Marks, T.no_Marks_tries, zip_lookup mkN_nd (i := 3) rfl rfl, ad.t, rfl, (by obtain ⟨ta, ht, _⟩ := M.t; exact ht.isD), _, rfl, (by show 0 ≤ sizeLine; decide), fun e he => ?_⟩
    have s1 : Same H (upd H e (.lst [])) := Same.upd_new he
    have M1 := M.same s1
    obtain ⟨ta, ht, hls⟩ := id M1.t
    refine ⟨_, ht.get m, ?_⟩
    obtain ⟨l0, hl0, hc0, hb0⟩ : ∃ l0, ((fun i => (ta i).map V.ref) m).getD (.ref e) = .ref l0 ∧ (upd H e (.lst [])) l0 = some (.lst (((sk.tries m).getD []).map V.bl)) ∧ ((sk.tries m).getD []).length ≤ 6 := by
      rcases hls m with ⟨q1, q2⟩ | ⟨l, bs, q1, q2, q3, _, q4⟩
      · refine ⟨e, by simp [q1], ?_, ?_⟩
        · rw [q2]; exact upd_same
        · rw [q2]; exact Nat.zero_le _
      · refine ⟨l, by simp [q1], ?_, ?_⟩
        · rw [q2]; exact q3
        · rw [q2]; exact q4
    rw [hl0]
    refine ⟨_, rfl, (by show 1 ≤ sizeLine; decide), fun q hq => ?_⟩
    have s2 := Same.upd_new (o := .lst [.bl b]) hq
    refine ⟨l0, q, _, _, rfl, rfl, s2 _ _ hc0, upd_same, by rw [List.length_map]; exact Nat.le_of_lt (small1000 (by simp; omega)), fun c hc => ?_⟩
    have s3 := Same.upd_new (o := .lst (((sk.tries m).getD []).map V.bl ++ [.bl b])) hc
    refine ⟨_, _, rfl, rfl, _, rfl, c, _, rfl, SqL.of upd_same, fun l hl => ?_⟩
    have s4 := Same.upd_new (o := .lst (cutV (((sk.tries m).getD []).map V.bl ++ [.bl b]) (some (0 - 6)) none)) hl
    have s14 := ((s1.trans s2).trans s3).trans s4
    have M4 := M.same s14
    have hl4 : (upd (upd (upd (upd H e (.lst [])) q (.lst [.bl b])) c (.lst (((sk.tries m).getD []).map V.bl ++ [.bl b]))) l (.lst (cutV (((sk.tries m).getD []).map V.bl ++ [.bl b]) (some (0 - 6)) none))) l = some (.lst ((triesOf sk m b).map V.bl)) := by
      rw [upd_same, cut6]
      have e1 : ((sk.tries m).getD []).map V.bl ++ [.bl b] = ((sk.tries m).getD [] ++ [b]).map V.bl := by simp
      rw [e1, last6_map]
      rfl
    have hlZ : l ∉ Z := AZ.not (((s1.trans s2).trans s3).free hl)
    obtain ⟨H5, d5, M5, f5, hl5⟩ := M4.put_t hm1 hm9 hl4 hlZ (last6_len _)
    obtain ⟨⟨dm4, ho4⟩, _⟩ := id M4
    refine ⟨_, rfl, _, T.C_Marks, _, _, _, rfl, ho4, T.cl_Marks, T.no_Marks_tries, zip_lookup mkN_nd (i := 3) rfl rfl, _, rfl, ad.t, H5, rfl, d5, ?_⟩
    have F5 : Frm ad.all H H5 := (Frm.of_same s14).trans f5
    -- runs
    obtain ⟨⟨dm5, ho5⟩, _⟩ := id M5
    obtain ⟨H6, d6, M6, f6⟩ := M5.put_r hm1 hm9 (runOf sk m b)
    refine ⟨fun σ' H' => σ' = [some (.ref ad.m), some (.int m), some (.bl b), some (.int f), none] ∧ H' = H6, ?_, ?_⟩
    · refine ⟨_, rfl, ?_⟩
      cases b with
      | false =>
        refine ⟨_, rfl, ?_⟩
        refine iteB (fun z => by cases z) fun _ => ?_
        exact ⟨_, rfl, _, T.C_Marks, _, _, _, rfl, ho5, T.cl_Marks, T.no_Marks_runs, zip_lookup mkN_nd (i := 2) rfl rfl, _, rfl, ad.r, H6, rfl, d6, rfl, rfl⟩
      | true =>
        refine ⟨_, rfl, ?_⟩
        refine iteB (fun _ => ?_) fun z => by cases z
        refine ⟨_, rfl, _, T.C_Marks, _, _, _, rfl, ho5, T.cl_Marks, T.no_Marks_runs, zip_lookup mkN_nd (i := 2) rfl rfl, ad.r, rfl, M5.r.isD, _, rfl, _, M5.r.get m, ?_⟩
        have er : ((fun i => (sk.run i).map V.int) m).getD (.int 0) = .int ((sk.run m).getD 0) := by
          show ((sk.run m).map V.int).getD (.int 0) = _
          cases sk.run m <;> rfl
        refine ⟨_, _, er, rfl, ?_⟩
        exact ⟨_, rfl, _, T.C_Marks, _, _, _, rfl, ho5, T.cl_Marks, T.no_Marks_runs, zip_lookup mkN_nd (i := 2) rfl rfl, _, rfl, ad.r, H6, rfl, d6, rfl, rfl⟩
    rintro σ' H' ⟨rfl, rfl⟩
    have F6 := F5.trans f6
    -- the wait is sixteen again
    refine ⟨fun σ' H' => σ' = [some (.ref ad.m), some (.int m), some (.bl b), some (.int f), none] ∧ MarksAt T.C_Marks Z H' ad ⟨waitsOf sk m b, sk.untl, setA sk.run m (runOf sk m b), setA sk.tries m (triesOf sk m b)⟩ ∧ Frm ad.all H H', ?_, ?_⟩
    · obtain ⟨⟨dm6, ho6⟩, _⟩ := id M6
      have hg : DGet H' ad.r (.int m) (some (.int (runOf sk m b))) := by
        have q := M6.r.get m
        simpa [setA] using q
      refine ⟨_, rfl, _, T.C_Marks, _, _, _, rfl, ho6, T.cl_Marks, T.no_Marks_runs, zip_lookup mkN_nd (i := 2) rfl rfl, _, rfl, ad.r, _, rfl, hg, rfl, _, rfl, ?_⟩
      refine iteD (fun h32 => ?_) (fun h32 => ⟨rfl, ?_, F6⟩)
      · obtain ⟨H7, d7, M7, f7⟩ := M6.put_w hm1 hm9 16
        refine ⟨_, rfl, _, T.C_Marks, _, _, _, rfl, ho6, T.cl_Marks, T.no_Marks_waits, zip_lookup mkN_nd (i := 0) rfl rfl, _, rfl, ad.w, H7, rfl, d7, rfl, ?_, F6.trans f7⟩
        have : waitsOf sk m b = setA sk.wait m 16 := by unfold waitsOf; rw [if_pos (vint_inj.mp h32)]
        rw [this]
        exact M7
      · have : waitsOf sk m b = sk.wait := by unfold waitsOf; rw [if_neg fun z => h32 (by rw [z])]
        rw [this]
        exact M6
    rintro σ' H7 ⟨rfl, M7, F7⟩
    -- marked?
    obtain ⟨⟨dm7, ho7⟩, _⟩ := id M7
    obtain ⟨ta7, ht7, hls7⟩ := id M7.t
    obtain ⟨l7, hl7a, hl7⟩ : ∃ l, ta7 m = some l ∧ H7 l = some (.lst ((triesOf sk m b).map V.bl)) := by
      rcases hls7 m with ⟨_, q⟩ | ⟨l, bs, q1, q2, q3, _⟩
      · simp [setA] at q
      · simp [setA] at q2
        subst q2
        exact ⟨l, q1, q3⟩
    have hg7 : DGet H7 ad.t (.int m) (some (.ref l7)) := by
      have q := ht7.get m
      simpa [hl7a] using q
    refine ⟨_, rfl, _, T.C_Marks, _, _, _, rfl, ho7, T.cl_Marks, T.no_Marks_tries, zip_lookup mkN_nd (i := 3) rfl rfl, _, rfl, ad.t, _, rfl, hg7, .inl ⟨rfl, _, SqL.of hl7⟩, l7, _, _, rfl, rfl, SqL.of hl7, rfl, flat_bls _, _, _, rfl, rfl, _, rfl, ?_⟩
    rw [count_bl]
    have eM : isMarked sk m b = !decide (((triesOf sk m b).count false : Int) < 3) := rfl
    refine iteD (fun hlt => ?_) (fun hge => ?_)
    · have e0 : isMarked sk m b = false := by rw [eM, decide_eq_true hlt]; rfl
      have q := k H7 (by unfold noteF; rw [e0, if_neg (by simp)]; exact M7) F7
      rw [e0] at q
      exact q
    have e1 : isMarked sk m b = true := by rw [eM, decide_eq_false hge]; rfl
    -- the mark
    have ew : ((fun i => ((waitsOf sk m b) i).map V.int) m).getD (.int 16) = .int (((waitsOf sk m b) m).getD 16) := by
      show (((waitsOf sk m b) m).map V.int).getD (.int 16) = _
      cases (waitsOf sk m b) m <;> rfl
    refine ⟨_, rfl, _, T.C_Marks, _, _, _, rfl, ho7, T.cl_Marks, T.no_Marks_waits, zip_lookup mkN_nd (i := 0) rfl rfl, ad.w, rfl, M7.w.isD, _, rfl, _, M7.w.get m, ?_⟩
    rw [ew]
    have eu : ((fun i => (sk.untl i).map V.int) m).getD (.int 0) = .int ((sk.untl m).getD 0) := by
      show ((sk.untl m).map V.int).getD (.int 0) = _
      cases sk.untl m <;> rfl
    refine ⟨_, rfl, _, T.C_Marks, _, _, _, rfl, ho7, T.cl_Marks, T.no_Marks_until, zip_lookup mkN_nd (i := 1) rfl rfl, ad.u, rfl, M7.u.isD, _, rfl, _, M7.u.get m, ?_⟩
    rw [eu]
    refine ⟨_, rfl, _, rfl, _, _, rfl, rfl, _, _, rfl, ?_⟩
    have emax : ∀ i j : Int, (if j > i then j else i) = max i j := fun i j => by split <;> omega
    rw [emax]
    obtain ⟨H8, d8, M8, f8⟩ := M7.put_u hm1 hm9 (max ((sk.untl m).getD 0) (f + ((waitsOf sk m b) m).getD 16))
    refine ⟨_, rfl, _, T.C_Marks, _, _, _, rfl, ho7, T.cl_Marks, T.no_Marks_until, zip_lookup mkN_nd (i := 1) rfl rfl, _, rfl, ad.u, H8, rfl, d8, ?_⟩
    obtain ⟨⟨dm8, ho8⟩, _⟩ := id M8
    refine ⟨_, rfl, _, _, rfl, rfl, .inl ⟨by decide, by decide⟩, _, _, rfl, ?_⟩
    have emin : ∀ i j : Int, (if j < i then j else i) = min i j := fun i j => by split <;> omega
    rw [emin]
    obtain ⟨H9, d9, M9, f9⟩ := M8.put_w hm1 hm9 (min 256 (2 * ((waitsOf sk m b) m).getD 16))
    refine ⟨_, rfl, _, T.C_Marks, _, _, _, rfl, ho8, T.cl_Marks, T.no_Marks_waits, zip_lookup mkN_nd (i := 0) rfl rfl, _, rfl, ad.w, H9, rfl, d9, ?_⟩
    obtain ⟨⟨dm9, ho9⟩, _⟩ := id M9
    have F9 := (F7.trans f8).trans f9
    refine ⟨(by show 0 ≤ sizeLine; decide), fun n hn => ?_⟩
    have M10 := M9.same (Same.upd_new (o := .lst []) hn)
    obtain ⟨H11, d11, M11, f11, _⟩ := M10.put_t (bs := []) hm1 hm9 (l := n) upd_same (AZ.not (F9.free hn)) (Nat.zero_le _)
    obtain ⟨⟨dm10, ho10⟩, _⟩ := id M10
    refine ⟨_, rfl, _, T.C_Marks, _, _, _, rfl, ho10, T.cl_Marks, T.no_Marks_tries, zip_lookup mkN_nd (i := 3) rfl rfl, _, rfl, ad.t, H11, rfl, d11, ?_⟩
    have q := k H11 (by
      unfold noteF
      rw [e1, if_pos rfl]
      have e2 : setA (setA sk.tries m (triesOf sk m b)) m [] = setA sk.tries m [] := by
        funext j
        unfold setA
        split <;> rfl
      have M12 := M11
      simp only [e2] at M12
      exact M12) ((F9.trans (Frm.new hn)).trans f11)
    rw [e1] at q
    exact q

end
end TL

namespace TL
open PySem PySem.Spec PyProof.Rows L2
section
variable {P : Program} {w : World} {K : PySem.W.Frag} {mg : Str → Option Value} {base : Heap}
def sp_End_hear_fast (T : Txt K mg) : Sp := fun vs H Q _ => ∃ (Z : List Addr) (ad : EAd) (s : EndS) (z : V) (l : Option FastL), vs = [.ref ad.e, z] ∧ EndAt T.C_End T.C_Marks Z H ad s ∧ (∀ z ∈ ad.all, z ∈ Z) ∧ Alloc Z H ∧ EndOk s ∧ Im H z (fastO l) ∧ (∀ x, l = some x → s.count < x.2.2 → s.wait ≠ []) ∧
  ∀ H', EndAt T.C_End T.C_Marks Z H' ad (hearFastF s l) → Frm ad.all H H' → Q .non H'
theorem ok_End_hear_fast (T : Txt K mg) : FnOk P w K mg base CX0 4 T.a_End_hear_fast T.fd_End_hear_fast P_End_hear_fast (sp_End_hear_fast T) := by
  have G_Marks_note := ok_Marks_note (P := P) (w := w) (base := base) T
  refine T.F_End_hear_fast.ok sc_End_hear_fast (fun vs H Q E h => ?_) (fun cdv A outer s H vs Q E hr h => ?_)
  · obtain ⟨Z, ad, s, z, l, rfl, _⟩ := h
    rfl
  · obtain ⟨Z, ad, sk, z, l, rfl, M, hsub, AZ, ok, hz, hl, k⟩ := h
    refine ⟨_, (pss_cons (ps_fld (pv 0) (pe_cmpR op_notN1 (pv 1) pe_non (nomark _)) rfl)
    (pss_cons (ps_cut (ps_if (PW.pt (pw_and (pt_cmpR op_gt (pe_fld (pv 0) rfl) pe_int (nomark _)) (pw_and1 (PW.pt (pw_or (pt_val (pe_fld (pv 0) rfl)) (pw_or1 (pt_val (pe_fld (pv 0) rfl))))))))
      (pss_one (ps_expr (pe_meth (pe_fld (pv 0) rfl) T.cl_Marks T.m_Marks_note G_Marks_note (hr.mono (by decide)) T.b_Marks_note .nil passL (pa_cons (pe_fld (pv 0) rfl) (pa_cons (pe_fld (pv 0) rfl) (pa_cons (pe_fld (pv 0) rfl) pa_nil))))))
      pss_nil))
    (pss_cons (ps_if (pt_cmpR op_isN1 (pv 1) pe_non (nomark _))
      (pss_one ps_retN)
      pss_nil)
    (pss_cons (ps_asg (pv 1) (pg_tup rfl (pgs_cons (pg_name (i := 2) sc_End_hear_fast.nd rfl (by first | exact Or.inl rfl | exact Or.inr rfl)) (pgs_cons (pg_name (i := 3) sc_End_hear_fast.nd rfl (by first | exact Or.inl rfl | exact Or.inr rfl)) (pgs_cons (pg_name (i := 4) sc_End_hear_fast.nd rfl (by first | exact Or.inl rfl | exact Or.inr rfl)) pgs_nil)))))
    (pss_cons (ps_cut (ps_if (PW.pt (pw_and (pt_cmpR op_notN1 (pv 3) pe_non (nomark _)) (pw_and1 (pt_cmpR op_eq (pv 2) (pe_callB call_len_seq (by rfl) T.n_len (by decide +kernel) (pa_cons (pe_fld (pv 0) rfl) pa_nil)) (nomark _)))))
      (pss_one (ps_expr (pe_bm PySem.F.plainAttrs_list PySem.F.slot_list_append PySem.F.type_list_append mt_append (pe_fld (pv 0) rfl) (pa_cons (pv 3) pa_nil))))
      pss_nil))
    (pss_one (ps_if (pt_cmpR op_gt (pv 4) (pe_fld (pv 0) rfl) (nomark _))
      (pss_cons (ps_fld (pv 0) (pv 4) rfl)
      (pss_one (ps_expr (pe_bm PySem.F.plainAttrs_list PySem.F.slot_list_pop PySem.F.type_list_pop mt_popAt (pe_fld (pv 0) rfl) (pa_cons pe_int pa_nil)))))
      pss_nil))))))), ?_⟩
    refine ⟨_, rfl, rfl, ?_⟩
    have ej : (!decide (z = V.non)) = l.isSome := by
      cases l with
      | none => cases hz; rfl
      | some l => obtain ⟨t, x, y, w, rfl, _⟩ := im_three_inv hz; rfl
    rw [ej]
    refine ⟨_, rfl, M.sfld T.cl_End T.no_End_joined (hsub _ (by simp [EAd.all])) 10 (.bl l.isSome) { sk with joined := l.isSome } rfl (by decide) (fun cv mv ov h1 h2 h3 => ⟨cv, mv, ov, rfl, h1, h2, h3⟩) rfl rfl rfl fun H1 M1 f1 => ?_⟩
    refine ⟨fun σ' H' => σ' = [some (.ref ad.e), some z, none, none, none] ∧ EndAt T.C_End T.C_Marks Z H' ad (notedF sk l.isSome) ∧ Frm ad.all H H', ?_, ?_⟩
    · obtain ⟨⟨dx1, cv1, mv1, ov1, ho1, _⟩, _⟩ := id M1
      have no : ∀ (h : ¬ (0 < sk.now ∧ (l.isSome = true ∨ sk.ready = true))), notedF sk l.isSome = { sk with joined := l.isSome } := fun h => by unfold notedF; rw [if_neg h]
      refine ⟨_, rfl, _, T.C_End, _, _, _, rfl, ho1, T.cl_End, T.no_End_now, zip_lookup enN_nd (i := 9) rfl rfl, _, _, rfl, rfl, _, rfl, ?_⟩
      refine iteD (fun hn => ?_) (fun hn => iteF ⟨rfl, by rw [no fun z => hn z.1]; exact M1, f1⟩)
      have go : (0 < sk.now ∧ (l.isSome = true ∨ sk.ready = true)) → True := fun _ => trivial
      have note : (0 < sk.now ∧ (l.isSome = true ∨ sk.ready = true)) → ∀ H3, MarksAt T.C_Marks Z H3 ad.mks (noteF sk.mks sk.now l.isSome sk.over) → Frm ad.mks.all H1 H3 → EndAt T.C_End T.C_Marks Z H3 ad (notedF sk l.isSome) ∧ Frm ad.all H H3 := fun hh H3 M3 f3 => by
        obtain ⟨g1, g2⟩ := M1.setM M3 f3
        have e : notedF sk l.isSome = { sk with joined := l.isSome, mks := noteF sk.mks sk.now l.isSome sk.over } := by unfold notedF; rw [if_pos hh]
        rw [e]
        exact ⟨g1, f1.trans g2⟩
      obtain ⟨⟨dmk, hmk⟩, _⟩ := id M1.mks
      have ob0 := ok.o0
      have ob1 := ok.o1
      have nb9 := ok.n9
      have hn' : 0 < sk.now := hn
      refine ⟨_, rfl, _, T.C_End, _, _, _, rfl, ho1, T.cl_End, T.no_End_joined, zip_lookup enN_nd (i := 10) rfl rfl, _, rfl, ?_⟩
      refine iteB (fun hj => iteT ?_) (fun hj => ⟨_, rfl, _, T.C_End, _, _, _, rfl, ho1, T.cl_End, T.no_End_ready, zip_lookup enN_nd (i := 8) rfl rfl, _, rfl, iteB (fun hr => ?_) (fun hr => ⟨rfl, by rw [no fun z => z.2.elim (fun q => Bool.noConfusion (q.symm.trans hj)) (fun q => Bool.noConfusion (q.symm.trans hr))]; exact M1, f1⟩)⟩)
      · refine ⟨_, rfl, _, T.C_End, _, _, _, rfl, ho1, T.cl_End, T.no_End_marks, zip_lookup enN_nd (i := 1) rfl rfl, ad.mks.m, dmk, _, rfl, hmk, zip_no (by decide), _, rfl, _, T.C_End, _, _, _, rfl, ho1, T.cl_End, T.no_End_now, zip_lookup enN_nd (i := 9) rfl rfl, _, rfl, _, T.C_End, _, _, _, rfl, ho1, T.cl_End, T.no_End_joined, zip_lookup enN_nd (i := 10) rfl rfl, _, rfl, _, T.C_End, _, _, _, rfl, ho1, T.cl_End, T.no_End_over, zip_lookup enN_nd (i := 2) rfl rfl, Z, ad.mks, sk.mks, _, _, .int sk.now, .int sk.over, l.isSome, rfl, M1.mks, AZ.frm f1, fun z hz => hsub z (ad.mk_all z hz), .int _, (fun ds z => by cases z), .int _, (fun ds z => by cases z), (fun z => ?_), (fun _ z => ?_), fun m f e1 e2 _ _ _ _ H3 M3 f3 => ?_⟩
        · simp [between] at z
          omega
        · simp [between] at z
          omega
        · cases e1
          cases e2
          obtain ⟨g1, g2⟩ := note ⟨hn', .inl hj⟩ H3 M3 f3
          exact ⟨rfl, g1, g2⟩
      · refine ⟨_, rfl, _, T.C_End, _, _, _, rfl, ho1, T.cl_End, T.no_End_marks, zip_lookup enN_nd (i := 1) rfl rfl, ad.mks.m, dmk, _, rfl, hmk, zip_no (by decide), _, rfl, _, T.C_End, _, _, _, rfl, ho1, T.cl_End, T.no_End_now, zip_lookup enN_nd (i := 9) rfl rfl, _, rfl, _, T.C_End, _, _, _, rfl, ho1, T.cl_End, T.no_End_joined, zip_lookup enN_nd (i := 10) rfl rfl, _, rfl, _, T.C_End, _, _, _, rfl, ho1, T.cl_End, T.no_End_over, zip_lookup enN_nd (i := 2) rfl rfl, Z, ad.mks, sk.mks, _, _, .int sk.now, .int sk.over, l.isSome, rfl, M1.mks, AZ.frm f1, fun z hz => hsub z (ad.mk_all z hz), .int _, (fun ds z => by cases z), .int _, (fun ds z => by cases z), (fun z => ?_), (fun _ z => ?_), fun m f e1 e2 _ _ _ _ H3 M3 f3 => ?_⟩
        · simp [between] at z
          omega
        · simp [between] at z
          omega
        · cases e1
          cases e2
          obtain ⟨g1, g2⟩ := note ⟨hn', .inr hr⟩ H3 M3 f3
          exact ⟨rfl, g1, g2⟩
    rintro σ' H2 ⟨rfl, M2, f2⟩
    refine ⟨_, rfl, rfl, _, rfl, ?_⟩
    cases l with
    | none =>
      cases hz
      exact iteT (k H2 M2 f2)
    | some l =>
      obtain ⟨t, x, y, w, rfl, ht, hx, hy, hw⟩ := im_three_inv (hz.frm f2)
      have := im_int_inv hx; subst this
      have := im_int_inv hw; subst this
      obtain ⟨n, i, c⟩ := l
      have M2 : EndAt T.C_End T.C_Marks Z H2 ad (notedF sk true) := M2
      refine iteF ?_
      refine ⟨_, rfl, t, _, rfl, SqT.of ht, rfl, _, _, rfl, _, _, rfl, _, _, rfl, rfl, ?_⟩
      have hgl : (notedF sk true).got = sk.got ∧ (notedF sk true).wait = sk.wait ∧ (notedF sk true).count = sk.count := by
        unfold notedF
        split <;> exact ⟨rfl, rfl, rfl⟩
      refine ⟨fun σ' H' => σ' = [some (.ref ad.e), some (.ref t), some (.int n), some y, some (.int c)] ∧ EndAt T.C_End T.C_Marks Z H' ad (gatherF (notedF sk true) n i) ∧ Frm ad.all H H', ?_, ?_⟩
      · refine ⟨_, rfl, rfl, _, rfl, ?_⟩
        cases i with
        | none =>
          cases hy
          exact iteF ⟨rfl, M2, f2⟩
        | some i =>
          cases hy
          obtain ⟨⟨dx2, cv2, mv2, ov2, ho2, _⟩, _⟩ := id M2
          refine iteT ⟨_, rfl, _, rfl, _, T.C_End, _, _, _, rfl, ho2, T.cl_End, T.no_End_gathered, zip_lookup enN_nd (i := 13) rfl rfl, ad.g, _, rfl, .inl (SqL.of M2.gt), rfl, _, rfl, ?_⟩
          have eg : ∀ q : n = ((notedF sk true).got.length : Nat), gatherF (notedF sk true) n (some i) = { notedF sk true with got := (notedF sk true).got ++ [i] } := fun q => by
            show (if n = ((notedF sk true).got.length : Nat) then _ else _) = _
            rw [if_pos q]
          have en : ∀ q : ¬ n = ((notedF sk true).got.length : Nat), gatherF (notedF sk true) n (some i) = notedF sk true := fun q => by
            show (if n = ((notedF sk true).got.length : Nat) then _ else _) = _
            rw [if_neg q]
          refine iteD (fun q => ?_) (fun q => ⟨rfl, by rw [en fun z => q (by rw [z, List.length_map]; rfl)]; exact M2, f2⟩)
          have q' := vint_inj.mp q
          rw [List.length_map] at q'
          refine ⟨_, rfl, _, T.C_End, _, _, _, rfl, ho2, T.cl_End, T.no_End_gathered, zip_lookup enN_nd (i := 13) rfl rfl, .inl ⟨rfl, _, SqL.of M2.gt⟩, _, rfl, ad.g, _, _, rfl, rfl, M2.gt, (by rw [List.length_map]; show (notedF sk true).got.length < sizeLine; rw [hgl.1]; have := ok.got; exact small1000 (by omega)), ?_⟩
          obtain ⟨M3, f3⟩ := M2.setG (hsub _ (by simp [EAd.all])) ((notedF sk true).got ++ [i])
          rw [List.map_append] at M3 f3
          exact ⟨rfl, by rw [eg q']; exact M3, f2.trans f3⟩
      rintro σ' H3 ⟨rfl, M3, f3⟩
      have hg3 : (gatherF (notedF sk true) n i).wait = sk.wait ∧ (gatherF (notedF sk true) n i).count = sk.count := by
        unfold gatherF
        split
        · exact hgl.2
        · split
          · exact hgl.2
          · exact hgl.2
      obtain ⟨⟨dx3, cv3, mv3, ov3, ho3, _⟩, _⟩ := id M3
      refine ⟨_, rfl, _, rfl, _, T.C_End, _, _, _, rfl, ho3, T.cl_End, T.no_End_count, zip_lookup enN_nd (i := 12) rfl rfl, _, _, rfl, rfl, _, rfl, ?_⟩
      have ek : hearFastF sk (some (n, i, c)) = if (gatherF (notedF sk true) n i).count < c then { gatherF (notedF sk true) n i with count := c, wait := (gatherF (notedF sk true) n i).wait.tail } else gatherF (notedF sk true) n i := rfl
      refine iteD (fun q => ?_) (fun q => k H3 (by rw [ek, if_neg q]; exact M3) f3)
      have hwn : sk.wait ≠ [] := hl _ rfl (by rw [hg3.2] at q; exact q)
      refine ⟨_, rfl, _, rfl, M3.sfld T.cl_End T.no_End_count (hsub _ (by simp [EAd.all])) 12 (.int c) { gatherF (notedF sk true) n i with count := c } rfl (by decide) (fun cv mv ov h1 h2 h3 => ⟨cv, mv, ov, rfl, h1, h2, h3⟩) rfl rfl rfl fun H4 M4 f4 => ?_⟩
      obtain ⟨⟨dx4, cv4, mv4, ov4, ho4, _⟩, _⟩ := id M4
      obtain ⟨w0, wr, hw⟩ : ∃ a r, sk.wait = a :: r := by
        cases h : sk.wait with
        | nil => exact absurd h hwn
        | cons a r => exact ⟨a, r, rfl⟩
      have hw4 : H4 ad.w = some (.lst ((w0 :: wr).map V.int)) := by
        have := M4.wt
        rw [show ({ gatherF (notedF sk true) n i with count := c } : EndS).wait = w0 :: wr from hg3.1.trans hw] at this
        exact this
      have s2 : seqIndex? 0 ((w0 :: wr).map V.int).length = some 0 := by
        have e : ixN ((w0 :: wr).map V.int).length 0 = some 0 := by
          unfold ixN
          simp only [List.length_map, List.length_cons]
          rw [if_pos (by omega), if_pos (by omega)]
          rfl
        exact (ixN_seq e).1
      refine ⟨_, rfl, _, T.C_End, _, _, _, rfl, ho4, T.cl_End, T.no_End_waiting, zip_lookup enN_nd (i := 11) rfl rfl, .inl ⟨rfl, _, SqL.of M4.wt⟩, ad.w, _, _, 0, .int w0, rfl, rfl, hw4, by decide, by decide, s2, rfl, ?_⟩
      obtain ⟨M5, f5⟩ := M4.setW (hsub _ (by simp [EAd.all])) wr
      refine k _ (by rw [ek, if_pos q, hg3.1, hw]; exact M5) ((f3.trans f4).trans f5)

end
end TL

namespace TL
open PySem PySem.Spec PyProof.Rows L2
section
variable {P : Program} {w : World} {K : PySem.W.Frag} {mg : Str → Option Value} {base : Heap}
def sp_End_hear (T : Txt K mg) : Sp := fun vs H Q E => ∃ (Z : List Addr) (ad : EAd) (s : EndS) (y z : V) (dy : PyData), vs = [.ref ad.e, y, z] ∧ EndAt T.C_End T.C_Marks Z H ad s ∧ (∀ z ∈ ad.all, z ∈ Z) ∧ Alloc Z H ∧ EndOk s ∧ Dp K H y dy ∧ (∀ ds, dy ≠ .list ds) ∧ 0 ≤ s.part ∧ s.part ≤ 1 ∧
  (dy ≠ .int s.part → E (.ref T.C_BadPart) none H) ∧
  (dy = .int s.part → s.part = 0 → ∃ l : Option SlowL, Im H z (slowO l) ∧ (∀ x, l = some x → Can x.2.1.1 ∧ x.2.1.2.length ≤ 9) ∧ ∀ H', EndAt T.C_End T.C_Marks Z H' ad (hearF0 s l) → Frm ad.all H H' → Q .non H') ∧
  (dy = .int s.part → s.part = 1 → ∃ l : Option FastL, Im H z (fastO l) ∧ (∀ x, l = some x → s.count < x.2.2 → s.wait ≠ []) ∧ ∀ H', EndAt T.C_End T.C_Marks Z H' ad (hearF1 s l) → Frm ad.all H H' → Q .non H')
theorem ok_End_hear (T : Txt K mg) : FnOk P w K mg base (L2.CX P w) 7 T.a_End_hear T.fd_End_hear P_End_hear (sp_End_hear T) := by
  have G_End_need_part := ok_End_need_part (P := P) (w := w) (base := base) T
  have G_End_hear_slow := ok_End_hear_slow (P := P) (w := w) (base := base) T
  have G_End_hear_fast := ok_End_hear_fast (P := P) (w := w) (base := base) T
  refine T.F_End_hear.okX sc_End_hear (fun vs H Q E h => ?_) (fun cdv A outer s H vs Q E hr h => ?_)
  · obtain ⟨Z, ad, s, y, z, dy, rfl, _⟩ := h
    rfl
  · obtain ⟨Z, ad, sk, y, z, dy, rfl, M, hsub, AZ, ok, hy, nl, p0, p1, k1, k2, k3⟩ := h
    refine ⟨_, (pss_cons (ps_expr (pe_meth (pv 0) T.cl_End T.m_End_need_part G_End_need_part (hr.mono (by decide)) T.b_End_need_part .nil (passes_call (takes_of rfl rfl rfl rfl) (fun _ _ _ _ h => h)) (pa_cons (pv 1) pa_nil)))
    (pss_one (ps_if (pt_cmpR op_eq (pv 1) (pe_glob (v := .int 0) rfl T.v_SLOW ⟨_, rfl⟩) (nomark _))
      (pss_cons (ps_expr (pe_meth (pv 0) T.cl_End T.m_End_hear_slow G_End_hear_slow (hr.mono (by decide)) T.b_End_hear_slow .nil pass0 (pa_cons (pv 2) pa_nil)))
      (pss_one (ps_fld (pv 0) (pe_glob (v := .int 1) rfl T.v_FAST ⟨_, rfl⟩) rfl)))
      (pss_cons (ps_expr (pe_meth (pv 0) T.cl_End T.m_End_hear_fast G_End_hear_fast (hr.mono (by decide)) T.b_End_hear_fast .nil pass0 (pa_cons (pv 2) pa_nil)))
      (pss_cons (ps_fld (pv 0) (pe_glob (v := .int 0) rfl T.v_SLOW ⟨_, rfl⟩) rfl)
      (pss_one (ps_fld (pv 0) (pe_op op_add (pe_fld (pv 0) rfl) pe_int) rfl))))))), ?_⟩
    obtain ⟨⟨dx, cv, mv, ov, ho, hc, hm, hv⟩, _⟩ := id M
    refine ⟨_, rfl, ad.e, dx, _, rfl, ho, zip_no (by decide), _, rfl, Z, ad, sk, y, dy, rfl, M, hy, nl, p0, p1, fun e => ?_, k1⟩
    subst e
    cases hy
    refine ⟨_, rfl, rfl, _, rfl, ?_⟩
    refine iteD (fun hp => ?_) (fun hp => ?_)
    · have hp0 : sk.part = 0 := vint_inj.mp hp
      obtain ⟨l, hz, hl, k⟩ := k2 rfl hp0
      refine ⟨_, rfl, ad.e, dx, _, rfl, ho, zip_no (by decide), _, rfl, Z, ad, sk, z, l, rfl, M, hsub, ok, hz, hl, fun H1 M1 f1 => ?_⟩
      refine ⟨_, rfl, M1.sfld T.cl_End T.no_End_part (hsub _ (by simp [EAd.all])) 14 (.int 1) (hearF0 sk l) rfl (by decide) (fun cv mv ov h1 h2 h3 => ⟨cv, mv, ov, rfl, h1, h2, h3⟩) rfl rfl rfl fun H2 M2 f2 => ?_⟩
      exact k H2 M2 (f1.trans f2)
    · have hp1 : sk.part = 1 := by
        have : sk.part ≠ 0 := fun z => hp (by rw [z])
        omega
      obtain ⟨l, hz, hl, k⟩ := k3 rfl hp1
      refine ⟨_, rfl, ad.e, dx, _, rfl, ho, zip_no (by decide), _, rfl, Z, ad, sk, z, l, rfl, M, hsub, AZ, ok, hz, hl, fun H1 M1 f1 => ?_⟩
      refine ⟨_, rfl, M1.sfld T.cl_End T.no_End_part (hsub _ (by simp [EAd.all])) 14 (.int 0) { hearFastF sk l with part := 0 } rfl (by decide) (fun cv mv ov h1 h2 h3 => ⟨cv, mv, ov, rfl, h1, h2, h3⟩) rfl rfl rfl fun H2 M2 f2 => ?_⟩
      obtain ⟨⟨dx2, cv2, mv2, ov2, ho2, _⟩, _⟩ := id M2
      refine ⟨_, rfl, _, T.C_End, _, _, _, rfl, ho2, T.cl_End, T.no_End_over, zip_lookup enN_nd (i := 2) rfl rfl, _, _, rfl, rfl, _, rfl, M2.sfld T.cl_End T.no_End_over (hsub _ (by simp [EAd.all])) 2 (.int ((hearFastF sk l).over + 1)) (hearF1 sk l) rfl (by decide) (fun cv mv ov h1 h2 h3 => ⟨cv, mv, ov, rfl, h1, h2, h3⟩) rfl rfl rfl fun H3 M3 f3 => ?_⟩
      exact k H3 M3 ((f1.trans f2).trans f3)

end
end TL

namespace TL
open PySem PySem.Spec PyProof.Rows L2
section
variable {P : Program} {w : World} {K : PySem.W.Frag} {mg : Str → Option Value} {base : Heap}
theorem sayA0 {T : Txt K mg} {Z : List Addr} {H : Hp} {x : LnAd} {s : LnS} {Q : VK} (M : LineAt T.C_End T.C_Marks Z H x s) (ok : EndOk s.a) (hp : s.a.part = 0) (hZ : ∀ z ∈ x.all, z ∈ Z)
    (k : ∀ v H', LineAt T.C_End T.C_Marks Z H' x { s with a := refreshF s.a } → Im H' v (.tuple [.int 0, slowD (slowOf (refreshF s.a))]) → Frm x.all H H' → Q v H') : sp_End_say T [.ref x.a.e, .int 0] H Q E0 := by
  refine ⟨Z, x.a, s.a, .int 0, .int 0, rfl, M.ea, fun z hz => hZ z (x.a_all z hz), ok, .int 0, (fun ds z => by cases z), by omega, by omega, fun z => absurd (by rw [hp]) z, fun _ _ v H' E i f => ?_, fun _ z => by omega⟩
  obtain ⟨M', f'⟩ := M.setA E f hZ
  exact k v H' M' i f'
theorem sayA1 {T : Txt K mg} {Z : List Addr} {H : Hp} {x : LnAd} {s : LnS} {Q : VK} (M : LineAt T.C_End T.C_Marks Z H x s) (ok : EndOk s.a) (hp : s.a.part = 1) (hZ : ∀ z ∈ x.all, z ∈ Z)
    (k : ∀ v H', LineAt T.C_End T.C_Marks Z H' x s → Im H' v (.tuple [.int s.a.now, fastD (fastOf s.a)]) → Same H H' → Q v H') : sp_End_say T [.ref x.a.e, .int 1] H Q E0 := by
  refine ⟨Z, x.a, s.a, .int 1, .int 1, rfl, M.ea, fun z hz => hZ z (x.a_all z hz), ok, .int 1, (fun ds z => by cases z), by omega, by omega, fun z => absurd (by rw [hp]) z, fun _ z => by omega, fun _ _ v H' E i f => ?_⟩
  exact k v H' (M.same f) i f
theorem hearA0 {T : Txt K mg} {Z : List Addr} {H : Hp} {x : LnAd} {s : LnS} {Q : VK} {z : V} {l : Option SlowL} (M : LineAt T.C_End T.C_Marks Z H x s) (ok : EndOk s.a) (hp : s.a.part = 0) (hZ : ∀ z ∈ x.all, z ∈ Z) (AZ : Alloc Z H)
    (hz : Im H z (slowO l)) (hl : ∀ m, l = some m → Can m.2.1.1 ∧ m.2.1.2.length ≤ 9) (k : ∀ H', LineAt T.C_End T.C_Marks Z H' x { s with a := hearF0 s.a l } → Frm x.all H H' → Q .non H') : sp_End_hear T [.ref x.a.e, .int 0, z] H Q E0 := by
  refine ⟨Z, x.a, s.a, .int 0, z, .int 0, rfl, M.ea, fun z hz => hZ z (x.a_all z hz), AZ, ok, .int 0, (fun ds z => by cases z), by omega, by omega, fun z => absurd (by rw [hp]) z, fun _ _ => ⟨l, hz, hl, fun H' E f => ?_⟩, fun _ z => by omega⟩
  obtain ⟨M', f'⟩ := M.setA E f hZ
  exact k H' M' f'
theorem hearA1 {T : Txt K mg} {Z : List Addr} {H : Hp} {x : LnAd} {s : LnS} {Q : VK} {z : V} {l : Option FastL} (M : LineAt T.C_End T.C_Marks Z H x s) (ok : EndOk s.a) (hp : s.a.part = 1) (hZ : ∀ z ∈ x.all, z ∈ Z) (AZ : Alloc Z H)
    (hz : Im H z (fastO l)) (hl : ∀ m, l = some m → s.a.count < m.2.2 → s.a.wait ≠ []) (k : ∀ H', LineAt T.C_End T.C_Marks Z H' x { s with a := hearF1 s.a l } → Frm x.all H H' → Q .non H') : sp_End_hear T [.ref x.a.e, .int 1, z] H Q E0 := by
  refine ⟨Z, x.a, s.a, .int 1, z, .int 1, rfl, M.ea, fun z hz => hZ z (x.a_all z hz), AZ, ok, .int 1, (fun ds z => by cases z), by omega, by omega, fun z => absurd (by rw [hp]) z, fun _ z => by omega, fun _ _ => ⟨l, hz, hl, fun H' E f => ?_⟩⟩
  obtain ⟨M', f'⟩ := M.setA E f hZ
  exact k H' M' f'
theorem sayB0 {T : Txt K mg} {Z : List Addr} {H : Hp} {x : LnAd} {s : LnS} {Q : VK} (M : LineAt T.C_End T.C_Marks Z H x s) (ok : EndOk s.b) (hp : s.b.part = 0) (hZ : ∀ z ∈ x.all, z ∈ Z)
    (k : ∀ v H', LineAt T.C_End T.C_Marks Z H' x { s with b := refreshF s.b } → Im H' v (.tuple [.int 0, slowD (slowOf (refreshF s.b))]) → Frm x.all H H' → Q v H') : sp_End_say T [.ref x.b.e, .int 0] H Q E0 := by
  refine ⟨Z, x.b, s.b, .int 0, .int 0, rfl, M.eb, fun z hz => hZ z (x.b_all z hz), ok, .int 0, (fun ds z => by cases z), by omega, by omega, fun z => absurd (by rw [hp]) z, fun _ _ v H' E i f => ?_, fun _ z => by omega⟩
  obtain ⟨M', f'⟩ := M.setB E f hZ
  exact k v H' M' i f'
theorem sayB1 {T : Txt K mg} {Z : List Addr} {H : Hp} {x : LnAd} {s : LnS} {Q : VK} (M : LineAt T.C_End T.C_Marks Z H x s) (ok : EndOk s.b) (hp : s.b.part = 1) (hZ : ∀ z ∈ x.all, z ∈ Z)
    (k : ∀ v H', LineAt T.C_End T.C_Marks Z H' x s → Im H' v (.tuple [.int s.b.now, fastD (fastOf s.b)]) → Same H H' → Q v H') : sp_End_say T [.ref x.b.e, .int 1] H Q E0 := by
  refine ⟨Z, x.b, s.b, .int 1, .int 1, rfl, M.eb, fun z hz => hZ z (x.b_all z hz), ok, .int 1, (fun ds z => by cases z), by omega, by omega, fun z => absurd (by rw [hp]) z, fun _ z => by omega, fun _ _ v H' E i f => ?_⟩
  exact k v H' (M.same f) i f
theorem hearB0 {T : Txt K mg} {Z : List Addr} {H : Hp} {x : LnAd} {s : LnS} {Q : VK} {z : V} {l : Option SlowL} (M : LineAt T.C_End T.C_Marks Z H x s) (ok : EndOk s.b) (hp : s.b.part = 0) (hZ : ∀ z ∈ x.all, z ∈ Z) (AZ : Alloc Z H)
    (hz : Im H z (slowO l)) (hl : ∀ m, l = some m → Can m.2.1.1 ∧ m.2.1.2.length ≤ 9) (k : ∀ H', LineAt T.C_End T.C_Marks Z H' x { s with b := hearF0 s.b l } → Frm x.all H H' → Q .non H') : sp_End_hear T [.ref x.b.e, .int 0, z] H Q E0 := by
  refine ⟨Z, x.b, s.b, .int 0, z, .int 0, rfl, M.eb, fun z hz => hZ z (x.b_all z hz), AZ, ok, .int 0, (fun ds z => by cases z), by omega, by omega, fun z => absurd (by rw [hp]) z, fun _ _ => ⟨l, hz, hl, fun H' E f => ?_⟩, fun _ z => by omega⟩
  obtain ⟨M', f'⟩ := M.setB E f hZ
  exact k H' M' f'
theorem hearB1 {T : Txt K mg} {Z : List Addr} {H : Hp} {x : LnAd} {s : LnS} {Q : VK} {z : V} {l : Option FastL} (M : LineAt T.C_End T.C_Marks Z H x s) (ok : EndOk s.b) (hp : s.b.part = 1) (hZ : ∀ z ∈ x.all, z ∈ Z) (AZ : Alloc Z H)
    (hz : Im H z (fastO l)) (hl : ∀ m, l = some m → s.b.count < m.2.2 → s.b.wait ≠ []) (k : ∀ H', LineAt T.C_End T.C_Marks Z H' x { s with b := hearF1 s.b l } → Frm x.all H H' → Q .non H') : sp_End_hear T [.ref x.b.e, .int 1, z] H Q E0 := by
  refine ⟨Z, x.b, s.b, .int 1, z, .int 1, rfl, M.eb, fun z hz => hZ z (x.b_all z hz), AZ, ok, .int 1, (fun ds z => by cases z), by omega, by omega, fun z => absurd (by rw [hp]) z, fun _ z => by omega, fun _ _ => ⟨l, hz, hl, fun H' E f => ?_⟩⟩
  obtain ⟨M', f'⟩ := M.setB E f hZ
  exact k H' M' f'
/-- both say, in a list -/
theorem lc_say0 {T : Txt K mg} {Z : List Addr} {H : Hp} {x : LnAd} {s : LnS} {i : Nat} {te : TE} {σ : L2.St} {D : Addr} {Qd : Hp → Prop} (M : LineAt T.C_End T.C_Marks Z H x s) (oka : EndOk s.a) (okb : EndOk s.b) (pa : s.a.part = 0) (pb : s.b.part = 0) (hZ : ∀ z ∈ x.all, z ∈ Z) (hD : H D = none)
    (hw : ∀ v, wipe ((wipe σ [i]).set i (some v)) [i] = wipe σ [i]) (hte : ∀ a dx fs H Q, H a = some (.ins T.C_End dx fs) → fs.lookup ("say" : Str) = none → sp_End_say T [.ref a, .int 0] H Q E0 → te ((wipe σ [i]).set i (some (.ref a))) H Q)
    (k : ∀ H' v0 v1, LineAt T.C_End T.C_Marks Z H' x { s with a := refreshF s.a, b := refreshF s.b } → H' D = some (.lst [v0, v1]) → Im H' v0 (.tuple [.int 0, slowD (slowOf (refreshF s.a))]) → Im H' v1 (.tuple [.int 0, slowD (slowOf (refreshF s.b))]) → Frm x.all H H' → Qd H') :
    LcW (Itl K x.es) (gName i) tYes te [i] σ H D Qd := by
  have hZ' : ∀ z ∈ x.all, z ∈ D :: Z := fun z hz => List.mem_cons_of_mem _ (hZ z hz)
  have nD : D ∉ x.all := fun z => M.ne_new hD (x.sub_all _ z)
  have nDe : D ∉ x.every := M.ne_new hD
  have M0 : LineAt T.C_End T.C_Marks (D :: Z) H x s := M.more fun y hy => (List.mem_cons.mp hy).elim (fun e => .inr fun bs z => by rw [e, hD] at z; cases z) .inl
  have put : ∀ {s' : LnS} {H' : Hp} {xs ys : List V}, LineAt T.C_End T.C_Marks (D :: Z) H' x s' → H' D = some (.lst xs) → Frm x.all H H' → LineAt T.C_End T.C_Marks (D :: Z) (upd H' D (.lst ys)) x s' ∧ Frm x.all H (upd H' D (.lst ys)) := fun {s' H' xs ys} m h f =>
    ⟨m.frm (Frm.updL h) (fun y hy => by simp at hy; simp [hy]) (fun y hy z => by simp at z; subst z; exact nDe hy), f.own hD (Frm.updL h)⟩
  refine lc_two (fun H' => LineAt T.C_End T.C_Marks (D :: Z) H' x s ∧ H' D = some (.lst []) ∧ Frm x.all H H')
    (fun H' => ∃ v0, LineAt T.C_End T.C_Marks (D :: Z) H' x { s with a := refreshF s.a } ∧ H' D = some (.lst [v0]) ∧ Im H' v0 (.tuple [.int 0, slowD (slowOf (refreshF s.a))]) ∧ Frm x.all H H')
    (fun H' => ∃ v0 v1, LineAt T.C_End T.C_Marks (D :: Z) H' x { s with a := refreshF s.a, b := refreshF s.b } ∧ H' D = some (.lst [v0, v1]) ∧ Im H' v0 (.tuple [.int 0, slowD (slowOf (refreshF s.a))]) ∧ Im H' v1 (.tuple [.int 0, slowD (slowOf (refreshF s.b))]) ∧ Frm x.all H H')
    ⟨M0.same (Same.upd_new hD), upd_same, Frm.new hD⟩ (fun H' h => SqL.of h.1.es) (fun H' ⟨_, h⟩ => SqL.of h.1.es) (fun H' ⟨_, _, h⟩ => SqL.of h.1.es) ?_ ?_ ?_
  · rintro H' ⟨m, h, f⟩
    obtain ⟨⟨dx, _, _, _, ho, _⟩, _⟩ := id m.ea
    refine ⟨hw _, ?_⟩
    refine hte _ dx _ _ _ ho (zip_no (by decide)) (sayA0 m oka pa hZ' fun v H'' m' iv f' => ?_)
    have h' := f' _ _ h nD
    obtain ⟨m2, f2⟩ := put (ys := [v]) m' h' (f.trans f')
    exact ⟨[], h', small1000 (by decide), v, m2, upd_same, iv.updL h', f2⟩
  · rintro H' ⟨v0, m, h, i0, f⟩
    obtain ⟨⟨dx, _, _, _, ho, _⟩, _⟩ := id m.eb
    refine ⟨hw _, ?_⟩
    refine hte _ dx _ _ _ ho (zip_no (by decide)) (sayB0 m okb pb hZ' fun v H'' m' iv f' => ?_)
    have h' := f' _ _ h nD
    obtain ⟨m2, f2⟩ := put (ys := [v0, v]) m' h' (f.trans f')
    exact ⟨[v0], h', small1000 (by simp), v0, v, m2, upd_same, (i0.frm f').updL h', iv.updL h', f2⟩
  · rintro H' ⟨v0, v1, m, h, i0, i1, f⟩
    exact k H' v0 v1 (m.more fun y hy => .inl (List.mem_cons_of_mem _ hy)) h i0 i1 f
theorem lc_say1 {T : Txt K mg} {Z : List Addr} {H : Hp} {x : LnAd} {s : LnS} {i : Nat} {te : TE} {σ : L2.St} {D : Addr} {Qd : Hp → Prop} (M : LineAt T.C_End T.C_Marks Z H x s) (oka : EndOk s.a) (okb : EndOk s.b) (pa : s.a.part = 1) (pb : s.b.part = 1) (hZ : ∀ z ∈ x.all, z ∈ Z) (hD : H D = none)
    (hw : ∀ v, wipe ((wipe σ [i]).set i (some v)) [i] = wipe σ [i]) (hte : ∀ a dx fs H Q, H a = some (.ins T.C_End dx fs) → fs.lookup ("say" : Str) = none → sp_End_say T [.ref a, .int 1] H Q E0 → te ((wipe σ [i]).set i (some (.ref a))) H Q)
    (k : ∀ H' v0 v1, H' D = some (.lst [v0, v1]) → Im H' v0 (.tuple [.int s.a.now, fastD (fastOf s.a)]) → Im H' v1 (.tuple [.int s.b.now, fastD (fastOf s.b)]) → Same H H' → Qd H') :
    LcW (Itl K x.es) (gName i) tYes te [i] σ H D Qd := by
  have put : ∀ {H' : Hp} {xs ys : List V}, H' D = some (.lst xs) → Same H H' → Same H (upd H' D (.lst ys)) := fun {H' xs ys} h f => ((Frm.of_same (S := []) f).own hD (Frm.updL h)).same
  refine lc_two (fun H' => H' D = some (.lst []) ∧ Same H H')
    (fun H' => ∃ v0, H' D = some (.lst [v0]) ∧ Im H' v0 (.tuple [.int s.a.now, fastD (fastOf s.a)]) ∧ Same H H')
    (fun H' => ∃ v0 v1, H' D = some (.lst [v0, v1]) ∧ Im H' v0 (.tuple [.int s.a.now, fastD (fastOf s.a)]) ∧ Im H' v1 (.tuple [.int s.b.now, fastD (fastOf s.b)]) ∧ Same H H')
    ⟨upd_same, Same.upd_new hD⟩ (fun H' h => SqL.of (h.2 _ _ M.es)) (fun H' ⟨_, h⟩ => SqL.of (h.2.2 _ _ M.es)) (fun H' ⟨_, _, h⟩ => SqL.of (h.2.2.2 _ _ M.es)) ?_ ?_ ?_
  · rintro H' ⟨h, f⟩
    have m := M.same f
    obtain ⟨⟨dx, _, _, _, ho, _⟩, _⟩ := id m.ea
    refine ⟨hw _, ?_⟩
    refine hte _ dx _ _ _ ho (zip_no (by decide)) (sayA1 m oka pa hZ fun v H'' m' iv f' => ?_)
    have h' := f' _ _ h
    exact ⟨[], h', small1000 (by decide), v, upd_same, iv.updL h', put h' (f.trans f')⟩
  · rintro H' ⟨v0, h, i0, f⟩
    have m := M.same f
    obtain ⟨⟨dx, _, _, _, ho, _⟩, _⟩ := id m.eb
    refine ⟨hw _, ?_⟩
    refine hte _ dx _ _ _ ho (zip_no (by decide)) (sayB1 m okb pb hZ fun v H'' m' iv f' => ?_)
    have h' := f' _ _ h
    exact ⟨[v0], h', small1000 (by simp), v0, v, upd_same, (i0.same f').updL h', iv.updL h', put h' (f.trans f')⟩
  · rintro H' ⟨v0, v1, h, i0, i1, f⟩
    exact k H' v0 v1 h i0 i1 f

end
end TL

namespace TL
open PySem PySem.Spec PyProof.Rows L2
section
variable {P : Program} {w : World} {K : PySem.W.Frag} {mg : Str → Option Value} {base : Heap}
def sp__law_frame (T : Txt K mg) : Sp := fun vs H Q _ => ∃ (Z : List Addr) (x : LnAd) (s : LnS) (pl L : Addr) (p : Pass) (l : Lost), vs = [.ref x.l, .ref pl, .ref L] ∧ LineAt T.C_End T.C_Marks Z H x s ∧ LnOk 0 s ∧ (∀ z ∈ x.all, z ∈ Z) ∧ Alloc Z H ∧ s.a.over < 1000000 ∧ s.log.length < 5000 ∧
  PassAt x.all H pl p ∧ LostAt x.all H L l ∧ ∀ H', LineAt T.C_End T.C_Marks Z H' x (frameF p l s) → Frm x.all H H' → Q .non H'
theorem ok__law_frame (T : Txt K mg) : FnOk P w K mg base CX0 8 T.a__law_frame T.fd__law_frame P__law_frame (sp__law_frame T) := by
  have G_End_stands := ok_End_stands (P := P) (w := w) (base := base) T
  have G__law_alike := ok__law_alike (P := P) (w := w) (base := base) T 4
  have G_End_say := ok_End_say (P := P) (w := w) (base := base) T
  have G_End_hear := ok_End_hear (P := P) (w := w) (base := base) T
  refine T.F__law_frame.ok sc__law_frame (fun vs H Q E h => ?_) (fun cdv A outer s H vs Q E hr h => ?_)
  · obtain ⟨Z, x, s, pl, L, p, l, rfl, _⟩ := h
    rfl
  · obtain ⟨Z, x, sk, pl, L, p, l, rfl, M, ok, hZ, AZ, hov, hlog, PA, LA, kk⟩ := h
    have hu := hu_of hr
    refine ⟨_, (pss_cons (ps_set (i := 3) sc__law_frame.nd rfl (by first | exact Or.inl rfl | exact Or.inr rfl) (pe_dget hu (pv 0) pe_str (fun _ _ => rfl)))
    (pss_cons (ps_par (i := 4) (j := 5) (by rfl) sc__law_frame.nd rfl rfl (by decide) rfl rfl (pa_cons (pe_lst (pa_cons pe_bl (pa_cons pe_bl pa_nil))) (pa_cons (pe_lst (pa_cons pe_int (pa_cons pe_int pa_nil))) pa_nil)) (by rfl))
    (pss_cons (ps_cut (ps_for PassesOwn.never rfl (pi_range1 rfl T.n_range (pa_cons pe_int pa_nil)) (pg_name (i := 6) sc__law_frame.nd rfl (by first | exact Or.inl rfl | exact Or.inr rfl))
      (pss_cons (ps_cut (ps_setLc (i := 7) (own := [("_law_end", 8)]) (g := (gName 8)) (tt := tYes) (te := (tMeth T.C_End "say" _ [] E0 (tVar 8) (tCons (tVar 6) tNil))) rfl sc__law_frame.nd rfl rfl (sw_true rfl rfl rfl (by decide +kernel)) (pi_list (pv 3)) (blkOk_by (own := [("_law_end", 8)]) (N := N__law_frame) (sc := defScope s__law_frame) (by decide +kernel)) (fun _ _ _ _ _ => (pg_name (i := 8) sc__law_frame.nd rfl (by first | exact Or.inl rfl | exact Or.inr rfl))) (fun _ _ _ _ _ => pts_nil) (fun _ _ _ _ _ => (pe_meth (pv 8) T.cl_End T.m_End_say G_End_say (hr.mono (by decide)) T.b_End_say .nil passL (pa_cons (pv 6) pa_nil)))))
      (pss_cons (ps_set (i := 9) sc__law_frame.nd rfl (by first | exact Or.inl rfl | exact Or.inr rfl) (pe_cmpR op_eq (pe_ix ix_tup (pe_ix ix_list (pv 7) pe_int (fun _ _ => rfl)) pe_int (fun _ _ => rfl)) (pe_ix ix_tup (pe_ix ix_list (pv 7) pe_int (fun _ _ => rfl)) pe_int (fun _ _ => rfl)) (nomark _)))
      (pss_one (ps_for PassesOwn.never rfl (pi_range1 rfl T.n_range (pa_cons pe_int pa_nil)) (pg_name (i := 10) sc__law_frame.nd rfl (by first | exact Or.inl rfl | exact Or.inr rfl))
        (pss_cons (ps_cut (ps_set (i := 11) sc__law_frame.nd rfl (by first | exact Or.inl rfl | exact Or.inr rfl) (pe_ifExp (PW.pt (pw_and (pt_val (pv 9)) (pw_and (pt_cmpR op_in_seq (pe_ix ix_tup (pe_ix ix_list (pv 7) (pv 10) (fun _ _ => rfl)) pe_int (fun _ _ => rfl)) (pe_ix ix_list (pv 1) (pv 10) (fun _ _ => rfl)) (by rfl)) (pw_and1 (pt_not (pt_val (pe_ix ix_list (pe_ix ix_list (pv 2) (pv 6) (fun _ _ => rfl)) (pv 10) (fun _ _ => rfl)))))))) (pe_ix ix_tup (pe_ix ix_list (pv 7) (pe_op op_sub pe_int (pv 10)) (fun _ _ => rfl)) pe_int (fun _ _ => rfl)) pe_non)))
        (pss_cons (ps_cut (ps_expr (pe_meth (pe_ix ix_list (pv 3) (pv 10) (fun _ _ => rfl)) T.cl_End T.m_End_hear G_End_hear (hr.mono (by decide)) T.b_End_hear .nil passL (pa_cons (pv 6) (pa_cons (pv 11) pa_nil)))))
        (pss_cons (ps_asg (pe_cmpR op_notN1 (pv 11) pe_non (nomark _)) (pg_sub (pv 4) (pv 10) set_list))
        (pss_cons (ps_asg (pe_ix ix_tup (pe_ix ix_list (pv 7) (pv 10) (fun _ _ => rfl)) pe_int (fun _ _ => rfl)) (pg_sub (pv 5) (pv 10) set_list))
        (pss_cons (ps_set (i := 12) sc__law_frame.nd rfl (by first | exact Or.inl rfl | exact Or.inr rfl) (pe_and (pe_cmpR op_in_seq (pe_ix ix_tup (pe_ix ix_list (pv 7) (pv 10) (fun _ _ => rfl)) pe_int (fun _ _ => rfl)) (pe_ix ix_list (pe_dget hu (pv 0) pe_str (fun _ _ => rfl)) pe_int (fun _ _ => rfl)) (by rfl)) (pe_one (pe_cmpR op_in_seq (pe_ix ix_tup (pe_ix ix_list (pv 7) (pv 10) (fun _ _ => rfl)) pe_int (fun _ _ => rfl)) (pe_ix ix_list (pe_dget hu (pv 0) pe_str (fun _ _ => rfl)) pe_int (fun _ _ => rfl)) (by rfl)))))
        (pss_one (ps_dput hu (pv 0) pe_str (pe_and (pe_dget hu (pv 0) pe_str (fun _ _ => rfl)) (pe_and (pv 12) (pe_one (pe_or (pe_cmpR op_eq (pv 6) pe_int (nomark _)) (pe_one (pe_cmpR op_eq (pe_ix ix_tup (pe_ix ix_list (pv 7) (pv 10) (fun _ _ => rfl)) pe_int (fun _ _ => rfl)) pe_int (nomark _))))))) rfl)))))))))))))
    (pss_cons (ps_cut (ps_setLc (i := 13) (own := [("_law_end", 8)]) (g := (gName 8)) (tt := tYes) (te := (tMeth T.C_End "stands" _ [] E0 (tVar 8) tNil)) rfl sc__law_frame.nd rfl rfl (sw_true rfl rfl rfl (by decide +kernel)) (pi_list (pv 3)) (blkOk_by (own := [("_law_end", 8)]) (N := N__law_frame) (sc := defScope s__law_frame) (by decide +kernel)) (fun _ _ _ _ _ => (pg_name (i := 8) sc__law_frame.nd rfl (by first | exact Or.inl rfl | exact Or.inr rfl))) (fun _ _ _ _ _ => pts_nil) (fun _ _ _ _ _ => (pe_meth0 (pv 8) T.cl_End T.m_End_stands G_End_stands (hr.mono (by decide)) T.b_End_stands .nil pass0))))
    (pss_cons (ps_dput hu (pv 0) pe_str (pe_and (pe_dget hu (pv 0) pe_str (fun _ _ => rfl)) (pe_one (pe_call G__law_alike (hr.mono (by decide)) rfl T.g__law_alike T.F__law_alike.kp T.b__law_alike .nil pass0 (pa_cons (pv 13) (pa_cons (pe_lst (pa_cons (pe_tup (pa_cons (pe_ix ix_list (pv 5) pe_int (fun _ _ => rfl)) (pa_cons (pe_ix ix_list (pv 4) pe_int (fun _ _ => rfl)) pa_nil))) (pa_cons (pe_tup (pa_cons (pe_ix ix_list (pv 5) pe_int (fun _ _ => rfl)) (pa_cons (pe_ix ix_list (pv 4) pe_int (fun _ _ => rfl)) pa_nil))) pa_nil))) pa_nil))))) rfl)
    (pss_one (ps_expr (pe_bm PySem.F.plainAttrs_list PySem.F.slot_list_append PySem.F.type_list_append mt_append (pe_dget hu (pv 0) pe_str (fun _ _ => rfl)) (pa_cons (pe_tup (pa_cons (pe_ix ix_list (pv 5) pe_int (fun _ _ => rfl)) (pa_cons (pe_ix ix_list (pv 4) pe_int (fun _ _ => rfl)) (pa_cons (pe_ix ix_list (pv 5) pe_int (fun _ _ => rfl)) (pa_cons (pe_ix ix_list (pv 4) pe_int (fun _ _ => rfl)) pa_nil))))) pa_nil))))))))), ?_⟩
    refine ⟨_, rfl, x.l, _, rfl, M.get.2.1, ?_⟩
    refine ⟨(by show 2 ≤ sizeLine; decide), fun j hjn => ⟨(by show 2 ≤ sizeLine; decide), fun m hmn' => ⟨_, _, rfl, ?_⟩⟩⟩
    have nje := M.ne_new hjn
    have s1 : Same H (upd H j (.lst [.bl false, .bl false])) := Same.upd_new hjn
    have hmn : H m = none := (Frm.of_same (S := []) s1).free hmn'
    have nme := M.ne_new hmn
    have njm : j ≠ m := ne_of_none upd_same hmn'
    have njx : j ∉ x.all := fun z => nje (x.sub_all _ z)
    have nmx : m ∉ x.all := fun z => nme (x.sub_all _ z)
    let Z1 : List Addr := j :: m :: Z
    have hZ1 : ∀ z ∈ x.all, z ∈ Z1 := fun z hz => List.mem_cons_of_mem _ (List.mem_cons_of_mem _ (hZ z hz))
    have s2 : Same H (upd (upd H j (.lst [.bl false, .bl false])) m (.lst [.int 0, .int 0])) := s1.trans (Same.upd_new hmn')
    have hj2 : (upd (upd H j (.lst [.bl false, .bl false])) m (.lst [.int 0, .int 0])) j = some (.lst [.bl false, .bl false]) := by rw [upd_ne njm]; exact upd_same
    have hm2 : (upd (upd H j (.lst [.bl false, .bl false])) m (.lst [.int 0, .int 0])) m = some (.lst [.int 0, .int 0]) := upd_same
    generalize (upd (upd H j (.lst [.bl false, .bl false])) m (.lst [.int 0, .int 0])) = H2 at s2 hj2 hm2 ⊢
    have AZ1 : ∀ {H' : Hp}, (∃ o, H' j = some o) → (∃ o, H' m = some o) → Frm x.all H H' → Alloc Z1 H' := fun {H'} a b f z hz => by
      rcases List.mem_cons.mp hz with rfl | hz
      · exact a
      · rcases List.mem_cons.mp hz with rfl | hz
        · exact b
        · exact AZ.frm f z hz
    have M2 : LineAt T.C_End T.C_Marks Z1 H2 x sk := (M.more fun y hy => by
      rcases List.mem_cons.mp hy with rfl | hy
      · exact .inr fun bs z => by rw [hjn] at z; cases z
      · rcases List.mem_cons.mp hy with rfl | hy
        · exact .inr fun bs z => by rw [hmn] at z; cases z
        · exact .inl hy).same s2
    have ok1 : LnOk 1 (halfF p l sk) := ok.half _ _
    have c00 : 0 ∈ sk.ca := by rw [← ok.ka]; exact ok.ea.can.2.2.1
    have c01 : 0 ∈ sk.cb := by rw [← ok.kb]; exact ok.eb.can.2.2.1
    have pa0 : (refreshF sk.a).part = 0 := by rw [(refresh_same sk.a).2.2.2.2.2.2.2.2.2.2.2.2]; exact ok.pa
    have pb0 : (refreshF sk.b).part = 0 := by rw [(refresh_same sk.b).2.2.2.2.2.2.2.2.2.2.2.2]; exact ok.pb
    have mind : ∀ {e : EndS} {b : Bool} {m : SlowL}, EndOk e → when b (slowOf (refreshF e)) = some m → Can m.2.1.1 ∧ m.2.1.2.length ≤ 9 := fun {e b m} he hm => by
      rw [← (when_some hm).2]
      exact ⟨he.refresh.can, he.refresh.bad⟩
    refine ⟨(fun (σ' : L2.St) (H' : Hp) => (∃ v6 v7 v9 v10 v11 v12 v13 : Option V, σ' = [some (V.ref x.l), some (.ref pl), some (.ref L), some (.ref x.es), some (.ref j), some (.ref m), v6, v7, none, v9, v10, v11, v12, v13]) ∧ LineAt T.C_End T.C_Marks Z1 H' x (fastG (jo (halfF p l sk).a.now (halfF p l sk).b.now p.1 l.2.1) (jo (halfF p l sk).a.now (halfF p l sk).b.now p.2 l.2.2) (halfF p l sk)) ∧ Frm x.all H H' ∧ H' j = some (.lst [.bl (jo (halfF p l sk).a.now (halfF p l sk).b.now p.1 l.2.1), .bl (jo (halfF p l sk).a.now (halfF p l sk).b.now p.2 l.2.2)]) ∧ H' m = some (.lst [.int (halfF p l sk).a.now, .int (halfF p l sk).b.now])), ?_, ?_⟩
    · refine ⟨2, rfl, by decide, by decide, for_two
        (fun (σ' : L2.St) (H' : Hp) => (∃ v6 v7 v9 v10 v11 v12 v13 : Option V, σ' = [some (V.ref x.l), some (.ref pl), some (.ref L), some (.ref x.es), some (.ref j), some (.ref m), v6, v7, none, v9, v10, v11, v12, v13]) ∧ LineAt T.C_End T.C_Marks Z1 H' x sk ∧ Frm x.all H H' ∧ (∃ b0 b1 : Bool, H' j = some (.lst [.bl b0, .bl b1])) ∧ H' m = some (.lst [.int 0, .int 0]))
        (fun (σ' : L2.St) (H' : Hp) => (∃ v6 v7 v9 v10 v11 v12 v13 : Option V, σ' = [some (V.ref x.l), some (.ref pl), some (.ref L), some (.ref x.es), some (.ref j), some (.ref m), v6, v7, none, v9, v10, v11, v12, v13]) ∧ LineAt T.C_End T.C_Marks Z1 H' x (halfF p l sk) ∧ Frm x.all H H' ∧ (∃ b0 b1 : Bool, H' j = some (.lst [.bl b0, .bl b1])) ∧ H' m = some (.lst [.int 0, .int 0]))
        (fun (σ' : L2.St) (H' : Hp) => (∃ v6 v7 v9 v10 v11 v12 v13 : Option V, σ' = [some (V.ref x.l), some (.ref pl), some (.ref L), some (.ref x.es), some (.ref j), some (.ref m), v6, v7, none, v9, v10, v11, v12, v13]) ∧ LineAt T.C_End T.C_Marks Z1 H' x (fastG (jo (halfF p l sk).a.now (halfF p l sk).b.now p.1 l.2.1) (jo (halfF p l sk).a.now (halfF p l sk).b.now p.2 l.2.2) (halfF p l sk)) ∧ Frm x.all H H' ∧ H' j = some (.lst [.bl (jo (halfF p l sk).a.now (halfF p l sk).b.now p.1 l.2.1), .bl (jo (halfF p l sk).a.now (halfF p l sk).b.now p.2 l.2.2)]) ∧ H' m = some (.lst [.int (halfF p l sk).a.now, .int (halfF p l sk).b.now]))
        ⟨⟨_, _, _, _, _, _, _, rfl⟩, M2, Frm.of_same s2, ⟨_, _, hj2⟩, hm2⟩ ?_ ?_ ?_⟩
      · rintro σ H3 ⟨⟨v6, v7, v9, v10, v11, v12, v13, rfl⟩, M3, F3, ⟨b0, b1, hj3⟩, hm3⟩
        refine ⟨fun σ' H' => ∃ (q t0 t1 : Addr) (q0 q1 : V), σ' = [some (V.ref x.l), some (.ref pl), some (.ref L), some (.ref x.es), some (.ref j), some (.ref m), some (.int 0), some (.ref q), none, v9, v10, v11, v12, v13] ∧ LineAt T.C_End T.C_Marks Z1 H' x { sk with a := refreshF sk.a, b := refreshF sk.b } ∧ Frm x.all H H' ∧ H' j = some (.lst [.bl b0, .bl b1]) ∧ H' m = some (.lst [.int 0, .int 0]) ∧ H' q = some (.lst [.ref t0, .ref t1]) ∧ q ∉ x.all ∧ q ≠ j ∧ q ≠ m ∧ H' t0 = some (.tup [.int 0, q0]) ∧ H' t1 = some (.tup [.int 0, q1]) ∧ Im H' q0 (slowD (slowOf (refreshF sk.a))) ∧ Im H' q1 (slowD (slowOf (refreshF sk.b))), ?_, ?_⟩
        · refine ⟨_, rfl, x.es, rfl, ⟨_, SqL.of M3.es⟩, fun D hD => ?_⟩
          have nDj : D ≠ j := Ne.symm (ne_of_none hj3 hD)
          have nDm : D ≠ m := Ne.symm (ne_of_none hm3 hD)
          have nDx := M3.ne_new hD
          refine lc_say0 M3 ok.ea ok.eb ok.pa ok.pb hZ1 hD (fun v => rfl) (fun a dx fs H Q h1 h2 h3 => ⟨_, rfl, a, dx, fs, rfl, h1, h2, _, rfl, h3⟩) fun H4 y0 y1 M4 h4 i0 i1 f4 => ?_
          have hj4 := f4 _ _ hj3 njx
          have hm4 := f4 _ _ hm3 nmx
          have F4 := F3.trans f4
          obtain ⟨t0, n0, q0, rfl, ht0, in0, iq0⟩ := im_two_inv i0
          obtain ⟨t1, n1, q1, rfl, ht1, in1, iq1⟩ := im_two_inv i1
          have := im_int_inv in0; subst this
          have := im_int_inv in1; subst this
          exact ⟨D, t0, t1, q0, q1, rfl, M4, F4, hj4, hm4, h4, fun z => nDx (x.sub_all _ z), nDj, nDm, ht0, ht1, iq0, iq1⟩
        rintro σ' H4 ⟨q, t0, t1, q0, q1, rfl, M4, F4, hj4, hm4, hq4, nqx, nqj, nqm, ht0, ht1, iq0, iq1⟩
        refine ⟨_, rfl, q, _, _, _, rfl, rfl, SqL.of hq4, rfl, t0, _, _, _, rfl, rfl, SqT.of ht0, rfl, _, rfl, q, _, _, _, rfl, rfl, SqL.of hq4, rfl, t1, _, _, _, rfl, rfl, SqT.of ht1, rfl, rfl, ?_⟩
        have eal : decide (V.int 0 = V.int 0) = decide ((0 : Int) = 0) := decide_eq_decide.mpr vint_inj
        rw [eal]
        refine ⟨2, rfl, by decide, by decide, for_two
          (fun (σ' : L2.St) (H' : Hp) => (∃ v10 v11 v12 v13 : Option V, σ' = [some (V.ref x.l), some (.ref pl), some (.ref L), some (.ref x.es), some (.ref j), some (.ref m), some (.int 0), some (.ref q), none, some (.bl (decide ((0 : Int) = 0))), v10, v11, v12, v13]) ∧ LineAt T.C_End T.C_Marks Z1 H' x { sk with a := refreshF sk.a, b := refreshF sk.b } ∧ Frm x.all H H' ∧ Frm (j :: m :: x.all) H4 H' ∧ (∃ b0 b1 : Bool, H' j = some (.lst [.bl b0, .bl b1]) ∧ True) ∧ H' m = some (.lst [.int 0, .int 0]))
          (fun (σ' : L2.St) (H' : Hp) => (∃ v10 v11 v12 v13 : Option V, σ' = [some (V.ref x.l), some (.ref pl), some (.ref L), some (.ref x.es), some (.ref j), some (.ref m), some (.int 0), some (.ref q), none, some (.bl (decide ((0 : Int) = 0))), v10, v11, v12, v13]) ∧ LineAt T.C_End T.C_Marks Z1 H' x { sk with a := hearF0 (refreshF sk.a) (when (jo 0 0 p.1 l.1.1) (slowOf (refreshF sk.b))), b := refreshF sk.b } ∧ Frm x.all H H' ∧ Frm (j :: m :: x.all) H4 H' ∧ (∃ b0 b1 : Bool, H' j = some (.lst [.bl b0, .bl b1]) ∧ b0 = (jo 0 0 p.1 l.1.1)) ∧ H' m = some (.lst [.int 0, .int 0]))
          (fun (σ' : L2.St) (H' : Hp) => (∃ v10 v11 v12 v13 : Option V, σ' = [some (V.ref x.l), some (.ref pl), some (.ref L), some (.ref x.es), some (.ref j), some (.ref m), some (.int 0), some (.ref q), none, some (.bl (decide ((0 : Int) = 0))), v10, v11, v12, v13]) ∧ LineAt T.C_End T.C_Marks Z1 H' x (halfF p l sk) ∧ Frm x.all H H' ∧ Frm (j :: m :: x.all) H4 H' ∧ (∃ b0 b1 : Bool, H' j = some (.lst [.bl b0, .bl b1]) ∧ b0 = (jo 0 0 p.1 l.1.1) ∧ b1 = (jo 0 0 p.2 l.1.2)) ∧ H' m = some (.lst [.int 0, .int 0]))
          ⟨⟨_, _, _, _, rfl⟩, M4, F4, .refl _ _, ⟨b0, b1, hj4, trivial⟩, hm4⟩ ?_ ?_ ?_⟩
        · rintro σ H5 ⟨⟨v10, v11, v12, v13, rfl⟩, M5, F5, F45, ⟨b0, b1, hj5, hb5⟩, hm5⟩
          have hq5 := F45 _ _ hq4 (by simp [nqx, nqj, nqm])
          have ht0 := F45.tups _ _ ht0
          have ht1 := F45.tups _ _ ht1
          have iq0 := iq0.frm F45
          have iq1 := iq1.frm F45
          obtain ⟨a0, a1, hpl, hp0, hp1, _⟩ := PA.frm F5
          obtain ⟨c0, c1, hL, hL0, hL1, _⟩ := LA.frm F5
          refine ⟨fun σ' H' => ∃ z : V, σ' = [some (V.ref x.l), some (.ref pl), some (.ref L), some (.ref x.es), some (.ref j), some (.ref m), some (.int 0), some (.ref q), none, some (.bl (decide ((0 : Int) = 0))), some (.int 0), some z, v12, v13] ∧ H' = H5 ∧ Im H5 z (slowO (when (jo 0 0 p.1 l.1.1) (slowOf (refreshF sk.b)))), ?_, ?_⟩
          · have fin0 : ∀ b, (jo 0 0 p.1 l.1.1) = false → Im H5 .non (slowO (when b (slowOf (refreshF sk.b)))) ∨ True := fun _ _ => .inr trivial
            have non : (jo 0 0 p.1 l.1.1) = false → Im H5 .non (slowO (when (jo 0 0 p.1 l.1.1) (slowOf (refreshF sk.b)))) := fun e => by rw [e]; exact .non
            refine ⟨_, rfl, _, rfl, iteB (fun g1 => ?_) (fun g1 => iteF ⟨.non, rfl, rfl, non (by unfold jo; rw [g1]; rfl)⟩)⟩
            refine ⟨_, rfl, _, rfl, q, _, _, _, rfl, rfl, SqL.of hq5, rfl, t0, _, _, _, rfl, rfl, SqT.of ht0, rfl, _, rfl, _, rfl, pl, _, _, _, rfl, rfl, SqL.of hpl, rfl, a0, _, rfl, .inl (SqL.of hp0), rfl, flat_ints _, _, rfl, ?_⟩
            have ein : inV (V.int 0) (p.1.map V.int) = decide (0 ∈ p.1) := inV_int _ _
            show if (inV (V.int 0) (p.1.map V.int)) = true then _ else _
            rw [ein]
            refine iteB (fun g2 => ?_) (fun g2 => iteF ⟨.non, rfl, rfl, non (by unfold jo; rw [g1, g2]; rfl)⟩)
            refine ⟨_, rfl, _, rfl, L, _, _, _, rfl, rfl, SqL.of hL, rfl, _, rfl, c0, _, _, _, rfl, rfl, SqL.of hL0, rfl, _, rfl, ?_⟩
            refine iteB (fun g3 => ?_) (fun g3 => ⟨.non, rfl, rfl, non (by unfold jo; rw [g1, g2, g3]; rfl)⟩)
            refine ⟨_, rfl, _, rfl, _, _, rfl, rfl, q, _, _, _, rfl, rfl, SqL.of hq5, rfl, t1, _, _, _, rfl, rfl, SqT.of ht1, rfl, q1, rfl, rfl, ?_⟩
            have e : (jo 0 0 p.1 l.1.1) = true := by unfold jo; rw [g1, g2, g3]; rfl
            rw [e]
            exact iq1
          rintro σ' H' ⟨z, rfl, rfl, hz⟩
          refine ⟨fun σ' H6 => σ' = [some (V.ref x.l), some (.ref pl), some (.ref L), some (.ref x.es), some (.ref j), some (.ref m), some (.int 0), some (.ref q), none, some (.bl (decide ((0 : Int) = 0))), some (.int 0), some z, v12, v13] ∧ LineAt T.C_End T.C_Marks Z1 H6 x { sk with a := hearF0 (refreshF sk.a) (when (jo 0 0 p.1 l.1.1) (slowOf (refreshF sk.b))), b := refreshF sk.b } ∧ Frm x.all H' H6, ?_, ?_⟩
          · obtain ⟨⟨dxe, _, _, _, hoe, _⟩, _⟩ := id M5.ea
            exact ⟨_, rfl, _, rfl, x.es, _, _, .ref x.a.e, rfl, rfl, SqL.of M5.es, rfl, x.a.e, dxe, _, rfl, hoe, zip_no (by decide), _, rfl, _, rfl, hearA0 (Q := fun _ H6 => [some (V.ref x.l), some (.ref pl), some (.ref L), some (.ref x.es), some (.ref j), some (.ref m), some (.int 0), some (.ref q), none, some (.bl (decide ((0 : Int) = 0))), some (.int 0), some z, v12, v13] = [some (V.ref x.l), some (.ref pl), some (.ref L), some (.ref x.es), some (.ref j), some (.ref m), some (.int 0), some (.ref q), none, some (.bl (decide ((0 : Int) = 0))), some (.int 0), some z, v12, v13] ∧ LineAt T.C_End T.C_Marks Z1 H6 x { sk with a := hearF0 (refreshF sk.a) (when (jo 0 0 p.1 l.1.1) (slowOf (refreshF sk.b))), b := refreshF sk.b } ∧ Frm x.all H' H6) M5 ok.ea.refresh pa0 hZ1 (AZ1 ⟨_, hj5⟩ ⟨_, hm5⟩ F5) hz (fun mm hm => mind ok.eb hm) fun H6 M6 f6 => ⟨rfl, M6, f6⟩⟩
          rintro σ' H6 ⟨rfl, M6, f6⟩
          have hj6 := f6 _ _ hj5 njx
          have hm6 := f6 _ _ hm5 nmx
          have hq6 := f6 _ _ hq5 nqx
          have ht0 := f6.tups _ _ ht0
          have ht1 := f6.tups _ _ ht1
          have F6 := F5.trans f6
          have F46 : Frm (j :: m :: x.all) H4 H6 := F45.trans (f6.mono fun y hy => by simp [hy])
          have ez : (!decide (z = V.non)) = (jo 0 0 p.1 l.1.1) := by
            cases e : (jo 0 0 p.1 l.1.1) with
            | true => rw [e] at hz; obtain ⟨_, _, _, _, rfl, _⟩ := im_three_inv hz; rfl
            | false => rw [e] at hz; cases hz; rfl
          refine ⟨_, rfl, rfl, _, rfl, _, rfl, j, _, _, 0, rfl, rfl, hj6, rfl, ?_⟩
          rw [ez]
          have f7 : Frm [j] H6 (upd H6 j (.lst [.bl (jo 0 0 p.1 l.1.1), .bl b1])) := Frm.updL hj6
          have M7 := M6.frm f7 (fun y hy => by simp at hy; simp [hy, Z1]) (fun y hy z => by simp at z; subst z; exact nje hy)
          have hm7 := f7 _ _ hm6 (by simp [Ne.symm njm])
          have hq7 := f7 _ _ hq6 (by simp [nqj])
          have ht0 := f7.tups _ _ ht0
          have ht1 := f7.tups _ _ ht1
          refine ⟨_, rfl, _, rfl, q, _, _, _, rfl, rfl, SqL.of hq7, rfl, t0, _, _, _, rfl, rfl, SqT.of ht0, rfl, _, rfl, _, rfl, m, _, _, 0, rfl, rfl, hm7, rfl, ?_⟩
          have f8 : Frm [m] (upd H6 j (.lst [.bl (jo 0 0 p.1 l.1.1), .bl b1])) (upd (upd H6 j (.lst [.bl (jo 0 0 p.1 l.1.1), .bl b1])) m (.lst [.int 0, .int 0])) := Frm.updL hm7
          have M8 := M7.frm f8 (fun y hy => by simp at hy; simp [hy, Z1]) (fun y hy z => by simp at z; subst z; exact nme hy)
          have hj8 := f8 _ _ (upd_same (H := H6) (a := j) (o := .lst [.bl (jo 0 0 p.1 l.1.1), .bl b1])) (by simp [njm])
          have hq8 := f8 _ _ hq7 (by simp [nqm])
          have ht0 := f8.tups _ _ ht0
          have ht1 := f8.tups _ _ ht1
          have hm8 := upd_same (H := upd H6 j (.lst [.bl (jo 0 0 p.1 l.1.1), .bl b1])) (a := m) (o := .lst [.int 0, .int 0])
          have F8 : Frm x.all H (upd (upd H6 j (.lst [.bl (jo 0 0 p.1 l.1.1), .bl b1])) m (.lst [.int 0, .int 0])) := (F6.own hjn f7).own hmn f8
          have F48 : Frm (j :: m :: x.all) H4 (upd (upd H6 j (.lst [.bl (jo 0 0 p.1 l.1.1), .bl b1])) m (.lst [.int 0, .int 0])) := (F46.trans (f7.mono (by simp))).trans (f8.mono (by simp))
          have i1 : inV (V.int 0) (sk.ca.map V.int) = true := by rw [inV_int]; exact decide_eq_true c00
          have i2 : inV (V.int 0) (sk.cb.map V.int) = true := by rw [inV_int]; exact decide_eq_true c01
          refine ⟨_, rfl, _, rfl, q, _, _, _, rfl, rfl, SqL.of hq8, rfl, t0, _, _, _, rfl, rfl, SqT.of ht0, rfl, _, rfl, x.l, _, rfl, M8.get.1, x.c, _, _, _, rfl, rfl, SqL.of M8.c, rfl, x.c0, _, rfl, .inr (SqT.of M8.c0), rfl, flat_ints _, true, congrArg V.bl i1, ?_⟩
          refine iteT ⟨_, rfl, _, rfl, q, _, _, _, rfl, rfl, SqL.of hq8, rfl, t0, _, _, _, rfl, rfl, SqT.of ht0, rfl, _, rfl, x.l, _, rfl, M8.get.1, x.c, _, _, _, rfl, rfl, SqL.of M8.c, rfl, x.c1, _, rfl, .inr (SqT.of M8.c1), rfl, flat_ints _, ?_⟩
          skip
          refine ⟨_, rfl, x.l, _, rfl, M8.get.2.2.2.2, true, rfl, iteT ⟨_, rfl, true, congrArg V.bl i2, iteT ?_⟩⟩
          refine ⟨_, rfl, rfl, false, rfl, iteF ⟨_, rfl, _, rfl, q, _, _, _, rfl, rfl, SqL.of hq8, rfl, t0, _, _, _, rfl, rfl, SqT.of ht0, rfl, rfl, _, rfl, x.l, _, rfl, DPut.k (k := .inr "right") M8.l (small1000 (by show 5 ≤ 1000; decide)), ?_⟩⟩
          rw [lnD_put]
          obtain ⟨M9, f9⟩ := M8.setR (hZ1 _ (by simp [LnAd.all]))
          exact ⟨⟨_, _, _, _, rfl⟩, M9, F8.trans f9, F48.trans (f9.mono fun y hy => by simp [hy]), ⟨_, _, f9 _ _ hj8 njx, rfl⟩, f9 _ _ hm8 nmx⟩
        · rintro σ H5 ⟨⟨v10, v11, v12, v13, rfl⟩, M5, F5, F45, ⟨b0, b1, hj5, hb5⟩, hm5⟩
          have hq5 := F45 _ _ hq4 (by simp [nqx, nqj, nqm])
          have ht0 := F45.tups _ _ ht0
          have ht1 := F45.tups _ _ ht1
          have iq0 := iq0.frm F45
          have iq1 := iq1.frm F45
          obtain ⟨a0, a1, hpl, hp0, hp1, _⟩ := PA.frm F5
          obtain ⟨c0, c1, hL, hL0, hL1, _⟩ := LA.frm F5
          refine ⟨fun σ' H' => ∃ z : V, σ' = [some (V.ref x.l), some (.ref pl), some (.ref L), some (.ref x.es), some (.ref j), some (.ref m), some (.int 0), some (.ref q), none, some (.bl (decide ((0 : Int) = 0))), some (.int 1), some z, v12, v13] ∧ H' = H5 ∧ Im H5 z (slowO (when (jo 0 0 p.2 l.1.2) (slowOf (refreshF sk.a)))), ?_, ?_⟩
          · have fin0 : ∀ b, (jo 0 0 p.2 l.1.2) = false → Im H5 .non (slowO (when b (slowOf (refreshF sk.a)))) ∨ True := fun _ _ => .inr trivial
            have non : (jo 0 0 p.2 l.1.2) = false → Im H5 .non (slowO (when (jo 0 0 p.2 l.1.2) (slowOf (refreshF sk.a)))) := fun e => by rw [e]; exact .non
            refine ⟨_, rfl, _, rfl, iteB (fun g1 => ?_) (fun g1 => iteF ⟨.non, rfl, rfl, non (by unfold jo; rw [g1]; rfl)⟩)⟩
            refine ⟨_, rfl, _, rfl, q, _, _, _, rfl, rfl, SqL.of hq5, rfl, t1, _, _, _, rfl, rfl, SqT.of ht1, rfl, _, rfl, _, rfl, pl, _, _, _, rfl, rfl, SqL.of hpl, rfl, a1, _, rfl, .inl (SqL.of hp1), rfl, flat_ints _, _, rfl, ?_⟩
            have ein : inV (V.int 0) (p.2.map V.int) = decide (0 ∈ p.2) := inV_int _ _
            show if (inV (V.int 0) (p.2.map V.int)) = true then _ else _
            rw [ein]
            refine iteB (fun g2 => ?_) (fun g2 => iteF ⟨.non, rfl, rfl, non (by unfold jo; rw [g1, g2]; rfl)⟩)
            refine ⟨_, rfl, _, rfl, L, _, _, _, rfl, rfl, SqL.of hL, rfl, _, rfl, c0, _, _, _, rfl, rfl, SqL.of hL0, rfl, _, rfl, ?_⟩
            refine iteB (fun g3 => ?_) (fun g3 => ⟨.non, rfl, rfl, non (by unfold jo; rw [g1, g2, g3]; rfl)⟩)
            refine ⟨_, rfl, _, rfl, _, _, rfl, rfl, q, _, _, _, rfl, rfl, SqL.of hq5, rfl, t0, _, _, _, rfl, rfl, SqT.of ht0, rfl, q0, rfl, rfl, ?_⟩
            have e : (jo 0 0 p.2 l.1.2) = true := by unfold jo; rw [g1, g2, g3]; rfl
            rw [e]
            exact iq0
          rintro σ' H' ⟨z, rfl, rfl, hz⟩
          refine ⟨fun σ' H6 => σ' = [some (V.ref x.l), some (.ref pl), some (.ref L), some (.ref x.es), some (.ref j), some (.ref m), some (.int 0), some (.ref q), none, some (.bl (decide ((0 : Int) = 0))), some (.int 1), some z, v12, v13] ∧ LineAt T.C_End T.C_Marks Z1 H6 x (halfF p l sk) ∧ Frm x.all H' H6, ?_, ?_⟩
          · obtain ⟨⟨dxe, _, _, _, hoe, _⟩, _⟩ := id M5.eb
            exact ⟨_, rfl, _, rfl, x.es, _, _, .ref x.b.e, rfl, rfl, SqL.of M5.es, rfl, x.b.e, dxe, _, rfl, hoe, zip_no (by decide), _, rfl, _, rfl, hearB0 (Q := fun _ H6 => [some (V.ref x.l), some (.ref pl), some (.ref L), some (.ref x.es), some (.ref j), some (.ref m), some (.int 0), some (.ref q), none, some (.bl (decide ((0 : Int) = 0))), some (.int 1), some z, v12, v13] = [some (V.ref x.l), some (.ref pl), some (.ref L), some (.ref x.es), some (.ref j), some (.ref m), some (.int 0), some (.ref q), none, some (.bl (decide ((0 : Int) = 0))), some (.int 1), some z, v12, v13] ∧ LineAt T.C_End T.C_Marks Z1 H6 x (halfF p l sk) ∧ Frm x.all H' H6) M5 ok.eb.refresh pb0 hZ1 (AZ1 ⟨_, hj5⟩ ⟨_, hm5⟩ F5) hz (fun mm hm => mind ok.ea hm) fun H6 M6 f6 => ⟨rfl, M6, f6⟩⟩
          rintro σ' H6 ⟨rfl, M6, f6⟩
          have hj6 := f6 _ _ hj5 njx
          have hm6 := f6 _ _ hm5 nmx
          have hq6 := f6 _ _ hq5 nqx
          have ht0 := f6.tups _ _ ht0
          have ht1 := f6.tups _ _ ht1
          have F6 := F5.trans f6
          have F46 : Frm (j :: m :: x.all) H4 H6 := F45.trans (f6.mono fun y hy => by simp [hy])
          have ez : (!decide (z = V.non)) = (jo 0 0 p.2 l.1.2) := by
            cases e : (jo 0 0 p.2 l.1.2) with
            | true => rw [e] at hz; obtain ⟨_, _, _, _, rfl, _⟩ := im_three_inv hz; rfl
            | false => rw [e] at hz; cases hz; rfl
          refine ⟨_, rfl, rfl, _, rfl, _, rfl, j, _, _, 1, rfl, rfl, hj6, rfl, ?_⟩
          rw [ez]
          have f7 : Frm [j] H6 (upd H6 j (.lst [.bl b0, .bl (jo 0 0 p.2 l.1.2)])) := Frm.updL hj6
          have M7 := M6.frm f7 (fun y hy => by simp at hy; simp [hy, Z1]) (fun y hy z => by simp at z; subst z; exact nje hy)
          have hm7 := f7 _ _ hm6 (by simp [Ne.symm njm])
          have hq7 := f7 _ _ hq6 (by simp [nqj])
          have ht0 := f7.tups _ _ ht0
          have ht1 := f7.tups _ _ ht1
          refine ⟨_, rfl, _, rfl, q, _, _, _, rfl, rfl, SqL.of hq7, rfl, t1, _, _, _, rfl, rfl, SqT.of ht1, rfl, _, rfl, _, rfl, m, _, _, 1, rfl, rfl, hm7, rfl, ?_⟩
          have f8 : Frm [m] (upd H6 j (.lst [.bl b0, .bl (jo 0 0 p.2 l.1.2)])) (upd (upd H6 j (.lst [.bl b0, .bl (jo 0 0 p.2 l.1.2)])) m (.lst [.int 0, .int 0])) := Frm.updL hm7
          have M8 := M7.frm f8 (fun y hy => by simp at hy; simp [hy, Z1]) (fun y hy z => by simp at z; subst z; exact nme hy)
          have hj8 := f8 _ _ (upd_same (H := H6) (a := j) (o := .lst [.bl b0, .bl (jo 0 0 p.2 l.1.2)])) (by simp [njm])
          have hq8 := f8 _ _ hq7 (by simp [nqm])
          have ht0 := f8.tups _ _ ht0
          have ht1 := f8.tups _ _ ht1
          have hm8 := upd_same (H := upd H6 j (.lst [.bl b0, .bl (jo 0 0 p.2 l.1.2)])) (a := m) (o := .lst [.int 0, .int 0])
          have F8 : Frm x.all H (upd (upd H6 j (.lst [.bl b0, .bl (jo 0 0 p.2 l.1.2)])) m (.lst [.int 0, .int 0])) := (F6.own hjn f7).own hmn f8
          have F48 : Frm (j :: m :: x.all) H4 (upd (upd H6 j (.lst [.bl b0, .bl (jo 0 0 p.2 l.1.2)])) m (.lst [.int 0, .int 0])) := (F46.trans (f7.mono (by simp))).trans (f8.mono (by simp))
          have i1 : inV (V.int 0) (sk.ca.map V.int) = true := by rw [inV_int]; exact decide_eq_true c00
          have i2 : inV (V.int 0) (sk.cb.map V.int) = true := by rw [inV_int]; exact decide_eq_true c01
          refine ⟨_, rfl, _, rfl, q, _, _, _, rfl, rfl, SqL.of hq8, rfl, t1, _, _, _, rfl, rfl, SqT.of ht1, rfl, _, rfl, x.l, _, rfl, M8.get.1, x.c, _, _, _, rfl, rfl, SqL.of M8.c, rfl, x.c0, _, rfl, .inr (SqT.of M8.c0), rfl, flat_ints _, true, congrArg V.bl i1, ?_⟩
          refine iteT ⟨_, rfl, _, rfl, q, _, _, _, rfl, rfl, SqL.of hq8, rfl, t1, _, _, _, rfl, rfl, SqT.of ht1, rfl, _, rfl, x.l, _, rfl, M8.get.1, x.c, _, _, _, rfl, rfl, SqL.of M8.c, rfl, x.c1, _, rfl, .inr (SqT.of M8.c1), rfl, flat_ints _, ?_⟩
          skip
          refine ⟨_, rfl, x.l, _, rfl, M8.get.2.2.2.2, true, rfl, iteT ⟨_, rfl, true, congrArg V.bl i2, iteT ?_⟩⟩
          refine ⟨_, rfl, rfl, false, rfl, iteF ⟨_, rfl, _, rfl, q, _, _, _, rfl, rfl, SqL.of hq8, rfl, t1, _, _, _, rfl, rfl, SqT.of ht1, rfl, rfl, _, rfl, x.l, _, rfl, DPut.k (k := .inr "right") M8.l (small1000 (by show 5 ≤ 1000; decide)), ?_⟩⟩
          rw [lnD_put]
          obtain ⟨M9, f9⟩ := M8.setR (hZ1 _ (by simp [LnAd.all]))
          exact ⟨⟨_, _, _, _, rfl⟩, M9, F8.trans f9, F48.trans (f9.mono fun y hy => by simp [hy]), ⟨_, _, f9 _ _ hj8 njx, hb5, rfl⟩, f9 _ _ hm8 nmx⟩
        · rintro σ H5 ⟨⟨v10, v11, v12, v13, rfl⟩, M5, F5, F45, ⟨b0, b1, hj5, hb5⟩, hm5⟩
          exact ⟨⟨_, _, _, _, _, _, _, rfl⟩, M5, F5, ⟨b0, b1, hj5⟩, hm5⟩
      · rintro σ H3 ⟨⟨v6, v7, v9, v10, v11, v12, v13, rfl⟩, M3, F3, ⟨b0, b1, hj3⟩, hm3⟩
        refine ⟨fun σ' H' => ∃ (q t0 t1 : Addr) (q0 q1 : V), σ' = [some (V.ref x.l), some (.ref pl), some (.ref L), some (.ref x.es), some (.ref j), some (.ref m), some (.int 1), some (.ref q), none, v9, v10, v11, v12, v13] ∧ LineAt T.C_End T.C_Marks Z1 H' x (halfF p l sk) ∧ Frm x.all H H' ∧ H' j = some (.lst [.bl b0, .bl b1]) ∧ H' m = some (.lst [.int 0, .int 0]) ∧ H' q = some (.lst [.ref t0, .ref t1]) ∧ q ∉ x.all ∧ q ≠ j ∧ q ≠ m ∧ H' t0 = some (.tup [.int (halfF p l sk).a.now, q0]) ∧ H' t1 = some (.tup [.int (halfF p l sk).b.now, q1]) ∧ Im H' q0 (fastD (fastOf (halfF p l sk).a)) ∧ Im H' q1 (fastD (fastOf (halfF p l sk).b)), ?_, ?_⟩
        · refine ⟨_, rfl, x.es, rfl, ⟨_, SqL.of M3.es⟩, fun D hD => ?_⟩
          have nDj : D ≠ j := Ne.symm (ne_of_none hj3 hD)
          have nDm : D ≠ m := Ne.symm (ne_of_none hm3 hD)
          have nDx := M3.ne_new hD
          refine lc_say1 M3 ok1.ea ok1.eb ok1.pa ok1.pb hZ1 hD (fun v => rfl) (fun a dx fs H Q h1 h2 h3 => ⟨_, rfl, a, dx, fs, rfl, h1, h2, _, rfl, h3⟩) fun H4 y0 y1 h4 i0 i1 f4 => ?_
          have hj4 := f4 _ _ hj3
          have hm4 := f4 _ _ hm3
          have F4 := F3.trans (Frm.of_same f4)
          have M4 := M3.same f4
          obtain ⟨t0, n0, q0, rfl, ht0, in0, iq0⟩ := im_two_inv i0
          obtain ⟨t1, n1, q1, rfl, ht1, in1, iq1⟩ := im_two_inv i1
          have := im_int_inv in0; subst this
          have := im_int_inv in1; subst this
          exact ⟨D, t0, t1, q0, q1, rfl, M4, F4, hj4, hm4, h4, fun z => nDx (x.sub_all _ z), nDj, nDm, ht0, ht1, iq0, iq1⟩
        rintro σ' H4 ⟨q, t0, t1, q0, q1, rfl, M4, F4, hj4, hm4, hq4, nqx, nqj, nqm, ht0, ht1, iq0, iq1⟩
        refine ⟨_, rfl, q, _, _, _, rfl, rfl, SqL.of hq4, rfl, t0, _, _, _, rfl, rfl, SqT.of ht0, rfl, _, rfl, q, _, _, _, rfl, rfl, SqL.of hq4, rfl, t1, _, _, _, rfl, rfl, SqT.of ht1, rfl, rfl, ?_⟩
        have eal : decide (V.int (halfF p l sk).a.now = V.int (halfF p l sk).b.now) = decide (((halfF p l sk).a.now : Int) = (halfF p l sk).b.now) := decide_eq_decide.mpr vint_inj
        rw [eal]
        refine ⟨2, rfl, by decide, by decide, for_two
          (fun (σ' : L2.St) (H' : Hp) => (∃ v10 v11 v12 v13 : Option V, σ' = [some (V.ref x.l), some (.ref pl), some (.ref L), some (.ref x.es), some (.ref j), some (.ref m), some (.int 1), some (.ref q), none, some (.bl (decide (((halfF p l sk).a.now : Int) = (halfF p l sk).b.now))), v10, v11, v12, v13]) ∧ LineAt T.C_End T.C_Marks Z1 H' x (halfF p l sk) ∧ Frm x.all H H' ∧ Frm (j :: m :: x.all) H4 H' ∧ (∃ b0 b1 : Bool, H' j = some (.lst [.bl b0, .bl b1]) ∧ True) ∧ H' m = some (.lst [.int 0, .int 0]))
          (fun (σ' : L2.St) (H' : Hp) => (∃ v10 v11 v12 v13 : Option V, σ' = [some (V.ref x.l), some (.ref pl), some (.ref L), some (.ref x.es), some (.ref j), some (.ref m), some (.int 1), some (.ref q), none, some (.bl (decide (((halfF p l sk).a.now : Int) = (halfF p l sk).b.now))), v10, v11, v12, v13]) ∧ LineAt T.C_End T.C_Marks Z1 H' x { (halfF p l sk) with a := hearF1 (halfF p l sk).a (when (jo (halfF p l sk).a.now (halfF p l sk).b.now p.1 l.2.1) (fastOf (halfF p l sk).b)) } ∧ Frm x.all H H' ∧ Frm (j :: m :: x.all) H4 H' ∧ (∃ b0 b1 : Bool, H' j = some (.lst [.bl b0, .bl b1]) ∧ b0 = (jo (halfF p l sk).a.now (halfF p l sk).b.now p.1 l.2.1)) ∧ H' m = some (.lst [.int (halfF p l sk).a.now, .int 0]))
          (fun (σ' : L2.St) (H' : Hp) => (∃ v10 v11 v12 v13 : Option V, σ' = [some (V.ref x.l), some (.ref pl), some (.ref L), some (.ref x.es), some (.ref j), some (.ref m), some (.int 1), some (.ref q), none, some (.bl (decide (((halfF p l sk).a.now : Int) = (halfF p l sk).b.now))), v10, v11, v12, v13]) ∧ LineAt T.C_End T.C_Marks Z1 H' x (fastG (jo (halfF p l sk).a.now (halfF p l sk).b.now p.1 l.2.1) (jo (halfF p l sk).a.now (halfF p l sk).b.now p.2 l.2.2) (halfF p l sk)) ∧ Frm x.all H H' ∧ Frm (j :: m :: x.all) H4 H' ∧ (∃ b0 b1 : Bool, H' j = some (.lst [.bl b0, .bl b1]) ∧ b0 = (jo (halfF p l sk).a.now (halfF p l sk).b.now p.1 l.2.1) ∧ b1 = (jo (halfF p l sk).a.now (halfF p l sk).b.now p.2 l.2.2)) ∧ H' m = some (.lst [.int (halfF p l sk).a.now, .int (halfF p l sk).b.now]))
          ⟨⟨_, _, _, _, rfl⟩, M4, F4, .refl _ _, ⟨b0, b1, hj4, trivial⟩, hm4⟩ ?_ ?_ ?_⟩
        · rintro σ H5 ⟨⟨v10, v11, v12, v13, rfl⟩, M5, F5, F45, ⟨b0, b1, hj5, hb5⟩, hm5⟩
          have hq5 := F45 _ _ hq4 (by simp [nqx, nqj, nqm])
          have ht0 := F45.tups _ _ ht0
          have ht1 := F45.tups _ _ ht1
          have iq0 := iq0.frm F45
          have iq1 := iq1.frm F45
          obtain ⟨a0, a1, hpl, hp0, hp1, _⟩ := PA.frm F5
          obtain ⟨c0, c1, hL, hL0, hL1, _⟩ := LA.frm F5
          refine ⟨fun σ' H' => ∃ z : V, σ' = [some (V.ref x.l), some (.ref pl), some (.ref L), some (.ref x.es), some (.ref j), some (.ref m), some (.int 1), some (.ref q), none, some (.bl (decide (((halfF p l sk).a.now : Int) = (halfF p l sk).b.now))), some (.int 0), some z, v12, v13] ∧ H' = H5 ∧ Im H5 z (fastO (when (jo (halfF p l sk).a.now (halfF p l sk).b.now p.1 l.2.1) (fastOf (halfF p l sk).b))), ?_, ?_⟩
          · have fin0 : ∀ b, (jo (halfF p l sk).a.now (halfF p l sk).b.now p.1 l.2.1) = false → Im H5 .non (fastO (when b (fastOf (halfF p l sk).b))) ∨ True := fun _ _ => .inr trivial
            have non : (jo (halfF p l sk).a.now (halfF p l sk).b.now p.1 l.2.1) = false → Im H5 .non (fastO (when (jo (halfF p l sk).a.now (halfF p l sk).b.now p.1 l.2.1) (fastOf (halfF p l sk).b))) := fun e => by rw [e]; exact .non
            refine ⟨_, rfl, _, rfl, iteB (fun g1 => ?_) (fun g1 => iteF ⟨.non, rfl, rfl, non (by unfold jo; rw [g1]; rfl)⟩)⟩
            refine ⟨_, rfl, _, rfl, q, _, _, _, rfl, rfl, SqL.of hq5, rfl, t0, _, _, _, rfl, rfl, SqT.of ht0, rfl, _, rfl, _, rfl, pl, _, _, _, rfl, rfl, SqL.of hpl, rfl, a0, _, rfl, .inl (SqL.of hp0), rfl, flat_ints _, _, rfl, ?_⟩
            have ein : inV (V.int (halfF p l sk).a.now) (p.1.map V.int) = decide ((halfF p l sk).a.now ∈ p.1) := inV_int _ _
            show if (inV (V.int (halfF p l sk).a.now) (p.1.map V.int)) = true then _ else _
            rw [ein]
            refine iteB (fun g2 => ?_) (fun g2 => iteF ⟨.non, rfl, rfl, non (by unfold jo; rw [g1, g2]; rfl)⟩)
            refine ⟨_, rfl, _, rfl, L, _, _, _, rfl, rfl, SqL.of hL, rfl, _, rfl, c1, _, _, _, rfl, rfl, SqL.of hL1, rfl, _, rfl, ?_⟩
            refine iteB (fun g3 => ?_) (fun g3 => ⟨.non, rfl, rfl, non (by unfold jo; rw [g1, g2, g3]; rfl)⟩)
            refine ⟨_, rfl, _, rfl, _, _, rfl, rfl, q, _, _, _, rfl, rfl, SqL.of hq5, rfl, t1, _, _, _, rfl, rfl, SqT.of ht1, rfl, q1, rfl, rfl, ?_⟩
            have e : (jo (halfF p l sk).a.now (halfF p l sk).b.now p.1 l.2.1) = true := by unfold jo; rw [g1, g2, g3]; rfl
            rw [e]
            exact iq1
          rintro σ' H' ⟨z, rfl, rfl, hz⟩
          refine ⟨fun σ' H6 => σ' = [some (V.ref x.l), some (.ref pl), some (.ref L), some (.ref x.es), some (.ref j), some (.ref m), some (.int 1), some (.ref q), none, some (.bl (decide (((halfF p l sk).a.now : Int) = (halfF p l sk).b.now))), some (.int 0), some z, v12, v13] ∧ LineAt T.C_End T.C_Marks Z1 H6 x { (halfF p l sk) with a := hearF1 (halfF p l sk).a (when (jo (halfF p l sk).a.now (halfF p l sk).b.now p.1 l.2.1) (fastOf (halfF p l sk).b)) } ∧ Frm x.all H' H6, ?_, ?_⟩
          · obtain ⟨⟨dxe, _, _, _, hoe, _⟩, _⟩ := id M5.ea
            exact ⟨_, rfl, _, rfl, x.es, _, _, .ref x.a.e, rfl, rfl, SqL.of M5.es, rfl, x.a.e, dxe, _, rfl, hoe, zip_no (by decide), _, rfl, _, rfl, hearA1 (Q := fun _ H6 => [some (V.ref x.l), some (.ref pl), some (.ref L), some (.ref x.es), some (.ref j), some (.ref m), some (.int 1), some (.ref q), none, some (.bl (decide (((halfF p l sk).a.now : Int) = (halfF p l sk).b.now))), some (.int 0), some z, v12, v13] = [some (V.ref x.l), some (.ref pl), some (.ref L), some (.ref x.es), some (.ref j), some (.ref m), some (.int 1), some (.ref q), none, some (.bl (decide (((halfF p l sk).a.now : Int) = (halfF p l sk).b.now))), some (.int 0), some z, v12, v13] ∧ LineAt T.C_End T.C_Marks Z1 H6 x { (halfF p l sk) with a := hearF1 (halfF p l sk).a (when (jo (halfF p l sk).a.now (halfF p l sk).b.now p.1 l.2.1) (fastOf (halfF p l sk).b)) } ∧ Frm x.all H' H6) M5 ok1.ea ok1.pa hZ1 (AZ1 ⟨_, hj5⟩ ⟨_, hm5⟩ F5) hz (fun mm hm => by rw [← (when_some hm).2]; exact ok1.da.waits) fun H6 M6 f6 => ⟨rfl, M6, f6⟩⟩
          rintro σ' H6 ⟨rfl, M6, f6⟩
          have hj6 := f6 _ _ hj5 njx
          have hm6 := f6 _ _ hm5 nmx
          have hq6 := f6 _ _ hq5 nqx
          have ht0 := f6.tups _ _ ht0
          have ht1 := f6.tups _ _ ht1
          have F6 := F5.trans f6
          have F46 : Frm (j :: m :: x.all) H4 H6 := F45.trans (f6.mono fun y hy => by simp [hy])
          have ez : (!decide (z = V.non)) = (jo (halfF p l sk).a.now (halfF p l sk).b.now p.1 l.2.1) := by
            cases e : (jo (halfF p l sk).a.now (halfF p l sk).b.now p.1 l.2.1) with
            | true => rw [e] at hz; obtain ⟨_, _, _, _, rfl, _⟩ := im_three_inv hz; rfl
            | false => rw [e] at hz; cases hz; rfl
          refine ⟨_, rfl, rfl, _, rfl, _, rfl, j, _, _, 0, rfl, rfl, hj6, rfl, ?_⟩
          rw [ez]
          have f7 : Frm [j] H6 (upd H6 j (.lst [.bl (jo (halfF p l sk).a.now (halfF p l sk).b.now p.1 l.2.1), .bl b1])) := Frm.updL hj6
          have M7 := M6.frm f7 (fun y hy => by simp at hy; simp [hy, Z1]) (fun y hy z => by simp at z; subst z; exact nje hy)
          have hm7 := f7 _ _ hm6 (by simp [Ne.symm njm])
          have hq7 := f7 _ _ hq6 (by simp [nqj])
          have ht0 := f7.tups _ _ ht0
          have ht1 := f7.tups _ _ ht1
          refine ⟨_, rfl, _, rfl, q, _, _, _, rfl, rfl, SqL.of hq7, rfl, t0, _, _, _, rfl, rfl, SqT.of ht0, rfl, _, rfl, _, rfl, m, _, _, 0, rfl, rfl, hm7, rfl, ?_⟩
          have f8 : Frm [m] (upd H6 j (.lst [.bl (jo (halfF p l sk).a.now (halfF p l sk).b.now p.1 l.2.1), .bl b1])) (upd (upd H6 j (.lst [.bl (jo (halfF p l sk).a.now (halfF p l sk).b.now p.1 l.2.1), .bl b1])) m (.lst [.int (halfF p l sk).a.now, .int 0])) := Frm.updL hm7
          have M8 := M7.frm f8 (fun y hy => by simp at hy; simp [hy, Z1]) (fun y hy z => by simp at z; subst z; exact nme hy)
          have hj8 := f8 _ _ (upd_same (H := H6) (a := j) (o := .lst [.bl (jo (halfF p l sk).a.now (halfF p l sk).b.now p.1 l.2.1), .bl b1])) (by simp [njm])
          have hq8 := f8 _ _ hq7 (by simp [nqm])
          have ht0 := f8.tups _ _ ht0
          have ht1 := f8.tups _ _ ht1
          have hm8 := upd_same (H := upd H6 j (.lst [.bl (jo (halfF p l sk).a.now (halfF p l sk).b.now p.1 l.2.1), .bl b1])) (a := m) (o := .lst [.int (halfF p l sk).a.now, .int 0])
          have F8 : Frm x.all H (upd (upd H6 j (.lst [.bl (jo (halfF p l sk).a.now (halfF p l sk).b.now p.1 l.2.1), .bl b1])) m (.lst [.int (halfF p l sk).a.now, .int 0])) := (F6.own hjn f7).own hmn f8
          have F48 : Frm (j :: m :: x.all) H4 (upd (upd H6 j (.lst [.bl (jo (halfF p l sk).a.now (halfF p l sk).b.now p.1 l.2.1), .bl b1])) m (.lst [.int (halfF p l sk).a.now, .int 0])) := (F46.trans (f7.mono (by simp))).trans (f8.mono (by simp))
          have i1 : inV (V.int (halfF p l sk).a.now) (sk.ca.map V.int) = true := by rw [inV_int]; exact decide_eq_true ok1.na.1
          have i2 : inV (V.int (halfF p l sk).a.now) (sk.cb.map V.int) = true := by rw [inV_int]; exact decide_eq_true ok1.na.2
          refine ⟨_, rfl, _, rfl, q, _, _, _, rfl, rfl, SqL.of hq8, rfl, t0, _, _, _, rfl, rfl, SqT.of ht0, rfl, _, rfl, x.l, _, rfl, M8.get.1, x.c, _, _, _, rfl, rfl, SqL.of M8.c, rfl, x.c0, _, rfl, .inr (SqT.of M8.c0), rfl, flat_ints _, true, congrArg V.bl i1, ?_⟩
          refine iteT ⟨_, rfl, _, rfl, q, _, _, _, rfl, rfl, SqL.of hq8, rfl, t0, _, _, _, rfl, rfl, SqT.of ht0, rfl, _, rfl, x.l, _, rfl, M8.get.1, x.c, _, _, _, rfl, rfl, SqL.of M8.c, rfl, x.c1, _, rfl, .inr (SqT.of M8.c1), rfl, flat_ints _, ?_⟩
          skip
          refine ⟨_, rfl, x.l, _, rfl, M8.get.2.2.2.2, true, rfl, iteT ⟨_, rfl, true, congrArg V.bl i2, iteT ?_⟩⟩
          refine ⟨_, rfl, rfl, true, rfl, iteT ⟨_, rfl, x.l, _, rfl, DPut.k (k := .inr "right") M8.l (small1000 (by show 5 ≤ 1000; decide)), ?_⟩⟩
          rw [lnD_put]
          obtain ⟨M9, f9⟩ := M8.setR (hZ1 _ (by simp [LnAd.all]))
          exact ⟨⟨_, _, _, _, rfl⟩, M9, F8.trans f9, F48.trans (f9.mono fun y hy => by simp [hy]), ⟨_, _, f9 _ _ hj8 njx, rfl⟩, f9 _ _ hm8 nmx⟩
        · rintro σ H5 ⟨⟨v10, v11, v12, v13, rfl⟩, M5, F5, F45, ⟨b0, b1, hj5, hb5⟩, hm5⟩
          have hq5 := F45 _ _ hq4 (by simp [nqx, nqj, nqm])
          have ht0 := F45.tups _ _ ht0
          have ht1 := F45.tups _ _ ht1
          have iq0 := iq0.frm F45
          have iq1 := iq1.frm F45
          obtain ⟨a0, a1, hpl, hp0, hp1, _⟩ := PA.frm F5
          obtain ⟨c0, c1, hL, hL0, hL1, _⟩ := LA.frm F5
          refine ⟨fun σ' H' => ∃ z : V, σ' = [some (V.ref x.l), some (.ref pl), some (.ref L), some (.ref x.es), some (.ref j), some (.ref m), some (.int 1), some (.ref q), none, some (.bl (decide (((halfF p l sk).a.now : Int) = (halfF p l sk).b.now))), some (.int 1), some z, v12, v13] ∧ H' = H5 ∧ Im H5 z (fastO (when (jo (halfF p l sk).a.now (halfF p l sk).b.now p.2 l.2.2) (fastOf (halfF p l sk).a))), ?_, ?_⟩
          · have fin0 : ∀ b, (jo (halfF p l sk).a.now (halfF p l sk).b.now p.2 l.2.2) = false → Im H5 .non (fastO (when b (fastOf (halfF p l sk).a))) ∨ True := fun _ _ => .inr trivial
            have non : (jo (halfF p l sk).a.now (halfF p l sk).b.now p.2 l.2.2) = false → Im H5 .non (fastO (when (jo (halfF p l sk).a.now (halfF p l sk).b.now p.2 l.2.2) (fastOf (halfF p l sk).a))) := fun e => by rw [e]; exact .non
            refine ⟨_, rfl, _, rfl, iteB (fun g1 => ?_) (fun g1 => iteF ⟨.non, rfl, rfl, non (by unfold jo; rw [g1]; rfl)⟩)⟩
            refine ⟨_, rfl, _, rfl, q, _, _, _, rfl, rfl, SqL.of hq5, rfl, t1, _, _, _, rfl, rfl, SqT.of ht1, rfl, _, rfl, _, rfl, pl, _, _, _, rfl, rfl, SqL.of hpl, rfl, a1, _, rfl, .inl (SqL.of hp1), rfl, flat_ints _, _, rfl, ?_⟩
            have ein : inV (V.int (halfF p l sk).b.now) (p.2.map V.int) = decide ((halfF p l sk).b.now ∈ p.2) := inV_int _ _
            show if (inV (V.int (halfF p l sk).b.now) (p.2.map V.int)) = true then _ else _
            rw [ein]
            refine iteB (fun g2 => ?_) (fun g2 => iteF ⟨.non, rfl, rfl, non (by rw [← of_decide_eq_true g1] at g2; unfold jo; rw [g1, g2]; rfl)⟩)
            rw [← of_decide_eq_true g1] at g2
            refine ⟨_, rfl, _, rfl, L, _, _, _, rfl, rfl, SqL.of hL, rfl, _, rfl, c1, _, _, _, rfl, rfl, SqL.of hL1, rfl, _, rfl, ?_⟩
            refine iteB (fun g3 => ?_) (fun g3 => ⟨.non, rfl, rfl, non (by unfold jo; rw [g1, g2, g3]; rfl)⟩)
            refine ⟨_, rfl, _, rfl, _, _, rfl, rfl, q, _, _, _, rfl, rfl, SqL.of hq5, rfl, t0, _, _, _, rfl, rfl, SqT.of ht0, rfl, q0, rfl, rfl, ?_⟩
            have e : (jo (halfF p l sk).a.now (halfF p l sk).b.now p.2 l.2.2) = true := by unfold jo; rw [g1, g2, g3]; rfl
            rw [e]
            exact iq0
          rintro σ' H' ⟨z, rfl, rfl, hz⟩
          refine ⟨fun σ' H6 => σ' = [some (V.ref x.l), some (.ref pl), some (.ref L), some (.ref x.es), some (.ref j), some (.ref m), some (.int 1), some (.ref q), none, some (.bl (decide (((halfF p l sk).a.now : Int) = (halfF p l sk).b.now))), some (.int 1), some z, v12, v13] ∧ LineAt T.C_End T.C_Marks Z1 H6 x (fastG (jo (halfF p l sk).a.now (halfF p l sk).b.now p.1 l.2.1) (jo (halfF p l sk).a.now (halfF p l sk).b.now p.2 l.2.2) (halfF p l sk)) ∧ Frm x.all H' H6, ?_, ?_⟩
          · obtain ⟨⟨dxe, _, _, _, hoe, _⟩, _⟩ := id M5.eb
            exact ⟨_, rfl, _, rfl, x.es, _, _, .ref x.b.e, rfl, rfl, SqL.of M5.es, rfl, x.b.e, dxe, _, rfl, hoe, zip_no (by decide), _, rfl, _, rfl, hearB1 (Q := fun _ H6 => [some (V.ref x.l), some (.ref pl), some (.ref L), some (.ref x.es), some (.ref j), some (.ref m), some (.int 1), some (.ref q), none, some (.bl (decide (((halfF p l sk).a.now : Int) = (halfF p l sk).b.now))), some (.int 1), some z, v12, v13] = [some (V.ref x.l), some (.ref pl), some (.ref L), some (.ref x.es), some (.ref j), some (.ref m), some (.int 1), some (.ref q), none, some (.bl (decide (((halfF p l sk).a.now : Int) = (halfF p l sk).b.now))), some (.int 1), some z, v12, v13] ∧ LineAt T.C_End T.C_Marks Z1 H6 x (fastG (jo (halfF p l sk).a.now (halfF p l sk).b.now p.1 l.2.1) (jo (halfF p l sk).a.now (halfF p l sk).b.now p.2 l.2.2) (halfF p l sk)) ∧ Frm x.all H' H6) M5 ok1.eb ok1.pb hZ1 (AZ1 ⟨_, hj5⟩ ⟨_, hm5⟩ F5) hz (fun mm hm => by rw [← (when_some hm).2]; exact ok1.db.waits) fun H6 M6 f6 => ⟨rfl, M6, f6⟩⟩
          rintro σ' H6 ⟨rfl, M6, f6⟩
          have hj6 := f6 _ _ hj5 njx
          have hm6 := f6 _ _ hm5 nmx
          have hq6 := f6 _ _ hq5 nqx
          have ht0 := f6.tups _ _ ht0
          have ht1 := f6.tups _ _ ht1
          have F6 := F5.trans f6
          have F46 : Frm (j :: m :: x.all) H4 H6 := F45.trans (f6.mono fun y hy => by simp [hy])
          have ez : (!decide (z = V.non)) = (jo (halfF p l sk).a.now (halfF p l sk).b.now p.2 l.2.2) := by
            cases e : (jo (halfF p l sk).a.now (halfF p l sk).b.now p.2 l.2.2) with
            | true => rw [e] at hz; obtain ⟨_, _, _, _, rfl, _⟩ := im_three_inv hz; rfl
            | false => rw [e] at hz; cases hz; rfl
          refine ⟨_, rfl, rfl, _, rfl, _, rfl, j, _, _, 1, rfl, rfl, hj6, rfl, ?_⟩
          rw [ez]
          have f7 : Frm [j] H6 (upd H6 j (.lst [.bl b0, .bl (jo (halfF p l sk).a.now (halfF p l sk).b.now p.2 l.2.2)])) := Frm.updL hj6
          have M7 := M6.frm f7 (fun y hy => by simp at hy; simp [hy, Z1]) (fun y hy z => by simp at z; subst z; exact nje hy)
          have hm7 := f7 _ _ hm6 (by simp [Ne.symm njm])
          have hq7 := f7 _ _ hq6 (by simp [nqj])
          have ht0 := f7.tups _ _ ht0
          have ht1 := f7.tups _ _ ht1
          refine ⟨_, rfl, _, rfl, q, _, _, _, rfl, rfl, SqL.of hq7, rfl, t1, _, _, _, rfl, rfl, SqT.of ht1, rfl, _, rfl, _, rfl, m, _, _, 1, rfl, rfl, hm7, rfl, ?_⟩
          have f8 : Frm [m] (upd H6 j (.lst [.bl b0, .bl (jo (halfF p l sk).a.now (halfF p l sk).b.now p.2 l.2.2)])) (upd (upd H6 j (.lst [.bl b0, .bl (jo (halfF p l sk).a.now (halfF p l sk).b.now p.2 l.2.2)])) m (.lst [.int (halfF p l sk).a.now, .int (halfF p l sk).b.now])) := Frm.updL hm7
          have M8 := M7.frm f8 (fun y hy => by simp at hy; simp [hy, Z1]) (fun y hy z => by simp at z; subst z; exact nme hy)
          have hj8 := f8 _ _ (upd_same (H := H6) (a := j) (o := .lst [.bl b0, .bl (jo (halfF p l sk).a.now (halfF p l sk).b.now p.2 l.2.2)])) (by simp [njm])
          have hq8 := f8 _ _ hq7 (by simp [nqm])
          have ht0 := f8.tups _ _ ht0
          have ht1 := f8.tups _ _ ht1
          have hm8 := upd_same (H := upd H6 j (.lst [.bl b0, .bl (jo (halfF p l sk).a.now (halfF p l sk).b.now p.2 l.2.2)])) (a := m) (o := .lst [.int (halfF p l sk).a.now, .int (halfF p l sk).b.now])
          have F8 : Frm x.all H (upd (upd H6 j (.lst [.bl b0, .bl (jo (halfF p l sk).a.now (halfF p l sk).b.now p.2 l.2.2)])) m (.lst [.int (halfF p l sk).a.now, .int (halfF p l sk).b.now])) := (F6.own hjn f7).own hmn f8
          have F48 : Frm (j :: m :: x.all) H4 (upd (upd H6 j (.lst [.bl b0, .bl (jo (halfF p l sk).a.now (halfF p l sk).b.now p.2 l.2.2)])) m (.lst [.int (halfF p l sk).a.now, .int (halfF p l sk).b.now])) := (F46.trans (f7.mono (by simp))).trans (f8.mono (by simp))
          have i1 : inV (V.int (halfF p l sk).b.now) (sk.ca.map V.int) = true := by rw [inV_int]; exact decide_eq_true ok1.nb.1
          have i2 : inV (V.int (halfF p l sk).b.now) (sk.cb.map V.int) = true := by rw [inV_int]; exact decide_eq_true ok1.nb.2
          refine ⟨_, rfl, _, rfl, q, _, _, _, rfl, rfl, SqL.of hq8, rfl, t1, _, _, _, rfl, rfl, SqT.of ht1, rfl, _, rfl, x.l, _, rfl, M8.get.1, x.c, _, _, _, rfl, rfl, SqL.of M8.c, rfl, x.c0, _, rfl, .inr (SqT.of M8.c0), rfl, flat_ints _, true, congrArg V.bl i1, ?_⟩
          refine iteT ⟨_, rfl, _, rfl, q, _, _, _, rfl, rfl, SqL.of hq8, rfl, t1, _, _, _, rfl, rfl, SqT.of ht1, rfl, _, rfl, x.l, _, rfl, M8.get.1, x.c, _, _, _, rfl, rfl, SqL.of M8.c, rfl, x.c1, _, rfl, .inr (SqT.of M8.c1), rfl, flat_ints _, ?_⟩
          skip
          refine ⟨_, rfl, x.l, _, rfl, M8.get.2.2.2.2, true, rfl, iteT ⟨_, rfl, true, congrArg V.bl i2, iteT ?_⟩⟩
          refine ⟨_, rfl, rfl, true, rfl, iteT ⟨_, rfl, x.l, _, rfl, DPut.k (k := .inr "right") M8.l (small1000 (by show 5 ≤ 1000; decide)), ?_⟩⟩
          rw [lnD_put]
          obtain ⟨M9, f9⟩ := M8.setR (hZ1 _ (by simp [LnAd.all]))
          exact ⟨⟨_, _, _, _, rfl⟩, M9, F8.trans f9, F48.trans (f9.mono fun y hy => by simp [hy]), ⟨_, _, f9 _ _ hj8 njx, hb5, rfl⟩, f9 _ _ hm8 nmx⟩
        · rintro σ H5 ⟨⟨v10, v11, v12, v13, rfl⟩, M5, F5, F45, ⟨b0, b1, hj5, hb5⟩, hm5⟩
          obtain ⟨rfl, rfl⟩ := hb5
          exact ⟨⟨_, _, _, _, _, _, _, rfl⟩, M5, F5, hj5, hm5⟩
      · rintro σ H3 h
        exact h
    rintro σ' H3 ⟨⟨v6, v7, v9, v10, v11, v12, v13, rfl⟩, M3, F3, hj3, hm3⟩
    have W : ∀ (s' : LnS) (e : LnS → EndS), True := fun _ _ => trivial
    have ja : (fastG (jo (halfF p l sk).a.now (halfF p l sk).b.now p.1 l.2.1) (jo (halfF p l sk).a.now (halfF p l sk).b.now p.2 l.2.2) (halfF p l sk)).a.joined = (jo (halfF p l sk).a.now (halfF p l sk).b.now p.1 l.2.1) ∧ (fastG (jo (halfF p l sk).a.now (halfF p l sk).b.now p.1 l.2.1) (jo (halfF p l sk).a.now (halfF p l sk).b.now p.2 l.2.2) (halfF p l sk)).a.now = (halfF p l sk).a.now := by
      refine ⟨?_, (fast_parts _ _).2.2.2.2.1⟩
      show (hearF1 _ _).joined = _
      rw [(fast_parts _ _).2.2.2.2.2.1]
      cases (jo (halfF p l sk).a.now (halfF p l sk).b.now p.1 l.2.1) <;> rfl
    have jb : (fastG (jo (halfF p l sk).a.now (halfF p l sk).b.now p.1 l.2.1) (jo (halfF p l sk).a.now (halfF p l sk).b.now p.2 l.2.2) (halfF p l sk)).b.joined = (jo (halfF p l sk).a.now (halfF p l sk).b.now p.2 l.2.2) ∧ (fastG (jo (halfF p l sk).a.now (halfF p l sk).b.now p.1 l.2.1) (jo (halfF p l sk).a.now (halfF p l sk).b.now p.2 l.2.2) (halfF p l sk)).b.now = (halfF p l sk).b.now := by
      refine ⟨?_, (fast_parts _ _).2.2.2.2.1⟩
      show (hearF1 _ _).joined = _
      rw [(fast_parts _ _).2.2.2.2.2.1]
      cases (jo (halfF p l sk).a.now (halfF p l sk).b.now p.2 l.2.2) <;> rfl
    -- how they stand
    refine ⟨fun σ' H' => ∃ (q u0 u1 : Addr), σ' = [some (V.ref x.l), some (.ref pl), some (.ref L), some (.ref x.es), some (.ref j), some (.ref m), v6, v7, none, v9, v10, v11, v12, some (.ref q)] ∧ Same H3 H' ∧ H' q = some (.lst [.ref u0, .ref u1]) ∧ H' u0 = some (.tup [.int (halfF p l sk).a.now, .bl (jo (halfF p l sk).a.now (halfF p l sk).b.now p.1 l.2.1)]) ∧ H' u1 = some (.tup [.int (halfF p l sk).b.now, .bl (jo (halfF p l sk).a.now (halfF p l sk).b.now p.2 l.2.2)]), ?_, ?_⟩
    · refine ⟨_, rfl, x.es, rfl, ⟨_, SqL.of M3.es⟩, fun D hD => ?_⟩
      refine lc_two (K := K) (fun H' => Same H3 H' ∧ H' D = some (.lst [])) (fun H' => Same H3 H' ∧ ∃ u0 : Addr, H' D = some (.lst [.ref u0]) ∧ H' u0 = some (.tup [.int (halfF p l sk).a.now, .bl (jo (halfF p l sk).a.now (halfF p l sk).b.now p.1 l.2.1)]))
        (fun H' => Same H3 H' ∧ ∃ u0 u1 : Addr, H' D = some (.lst [.ref u0, .ref u1]) ∧ H' u0 = some (.tup [.int (halfF p l sk).a.now, .bl (jo (halfF p l sk).a.now (halfF p l sk).b.now p.1 l.2.1)]) ∧ H' u1 = some (.tup [.int (halfF p l sk).b.now, .bl (jo (halfF p l sk).a.now (halfF p l sk).b.now p.2 l.2.2)]))
        ⟨Same.upd_new hD, upd_same⟩ (fun H' h => SqL.of (h.1 _ _ M3.es)) (fun H' h => SqL.of (h.1 _ _ M3.es)) (fun H' h => SqL.of (h.1 _ _ M3.es)) ?_ ?_ ?_
      · rintro H' ⟨s', hD'⟩
        have mm := M3.same s'
        obtain ⟨⟨dxe, _, _, _, hoe, _⟩, _⟩ := id mm.ea
        refine ⟨rfl, _, rfl, x.a.e, dxe, _, rfl, hoe, zip_no (by decide), Z1, x.a, _, rfl, mm.ea, fun t ht => ?_⟩
        have s2 := Same.upd_new (o := .tup [.int (fastG (jo (halfF p l sk).a.now (halfF p l sk).b.now p.1 l.2.1) (jo (halfF p l sk).a.now (halfF p l sk).b.now p.2 l.2.2) (halfF p l sk)).a.now, .bl (fastG (jo (halfF p l sk).a.now (halfF p l sk).b.now p.1 l.2.1) (jo (halfF p l sk).a.now (halfF p l sk).b.now p.2 l.2.2) (halfF p l sk)).a.joined]) ht
        have hD2 := s2 _ _ hD'
        refine ⟨_, hD2, small1000 (by simp), ((Frm.of_same (S := []) (s'.trans s2)).own hD (Frm.updL hD2)).same, t, upd_same, ?_⟩
        rw [upd_ne (fun z => by subst z; rw [upd_same] at hD2; cases hD2), upd_same, ja.1, ja.2]
      · rintro H' ⟨s', u0, hD', hu0⟩
        have mm := M3.same s'
        obtain ⟨⟨dxe, _, _, _, hoe, _⟩, _⟩ := id mm.eb
        refine ⟨rfl, _, rfl, x.b.e, dxe, _, rfl, hoe, zip_no (by decide), Z1, x.b, _, rfl, mm.eb, fun t ht => ?_⟩
        have s2 := Same.upd_new (o := .tup [.int (fastG (jo (halfF p l sk).a.now (halfF p l sk).b.now p.1 l.2.1) (jo (halfF p l sk).a.now (halfF p l sk).b.now p.2 l.2.2) (halfF p l sk)).b.now, .bl (fastG (jo (halfF p l sk).a.now (halfF p l sk).b.now p.1 l.2.1) (jo (halfF p l sk).a.now (halfF p l sk).b.now p.2 l.2.2) (halfF p l sk)).b.joined]) ht
        have hD2 := s2 _ _ hD'
        have hu2 := s2 _ _ hu0
        refine ⟨_, hD2, small1000 (by simp), ((Frm.of_same (S := []) (s'.trans s2)).own hD (Frm.updL hD2)).same, u0, t, upd_same, ?_, ?_⟩
        · rw [upd_ne (fun z => by subst z; rw [hu2] at hD2; cases hD2)]
          exact hu2
        · rw [upd_ne (fun z => by subst z; rw [upd_same] at hD2; cases hD2), upd_same, jb.1, jb.2]
      · rintro H' ⟨s', u0, u1, h1, h2, h3⟩
        exact ⟨D, u0, u1, rfl, s', h1, h2, h3⟩
    rintro σ' H4 ⟨q, u0, u1, rfl, s4, hq4, hu0, hu1⟩
    have M4 := M3.same s4
    have hj4 := s4 _ _ hj3
    have hm4 := s4 _ _ hm3
    refine ⟨_, rfl, x.l, _, rfl, M4.get.2.2.2.2, true, rfl, iteT ⟨_, rfl, _, rfl, m, _, _, _, rfl, rfl, SqL.of hm4, rfl, _, rfl, j, _, _, _, rfl, rfl, SqL.of hj4, rfl, (by show 2 ≤ sizeLine; decide), fun y0 hy0 => ?_⟩⟩
    have s5 : Same H4 (upd H4 y0 (.tup [.int (halfF p l sk).a.now, .bl (jo (halfF p l sk).a.now (halfF p l sk).b.now p.1 l.2.1)])) := Same.upd_new hy0
    refine ⟨_, rfl, m, _, _, _, rfl, rfl, SqL.of (s5 _ _ hm4), rfl, _, rfl, j, _, _, _, rfl, rfl, SqL.of (s5 _ _ hj4), rfl, (by show 2 ≤ sizeLine; decide), fun y1 hy1 => ⟨(by show 2 ≤ sizeLine; decide), fun u hu' => ?_⟩⟩
    have s6 : Same _ (upd (upd H4 y0 (.tup [.int (halfF p l sk).a.now, .bl (jo (halfF p l sk).a.now (halfF p l sk).b.now p.1 l.2.1)])) y1 (.tup [.int (halfF p l sk).b.now, .bl (jo (halfF p l sk).a.now (halfF p l sk).b.now p.2 l.2.2)])) := Same.upd_new hy1
    have s7 : Same _ (upd (upd (upd H4 y0 (.tup [.int (halfF p l sk).a.now, .bl (jo (halfF p l sk).a.now (halfF p l sk).b.now p.1 l.2.1)])) y1 (.tup [.int (halfF p l sk).b.now, .bl (jo (halfF p l sk).a.now (halfF p l sk).b.now p.2 l.2.2)])) u (.lst [.ref y0, .ref y1])) := Same.upd_new hu'
    have s47 := (s5.trans s6).trans s7
    have im0 : ∀ {H' : Hp} {t : Addr} {n : Int} {b : Bool}, H' t = some (.tup [.int n, .bl b]) → Im H' (.ref t) (.tuple [.int n, .bool b]) := fun h => .tup h (.cons (.int _) (.cons (.bl _) .nil))
    have lvr : ∀ (n : Int) (b : Bool), lv 1 (.tuple [.int n, .bool b]) := fun n b => ⟨by show 2 ≤ 100000; decide, fun d hd => by
      rcases List.mem_cons.mp hd with rfl | hd
      · trivial
      · rw [List.mem_singleton] at hd
        subst hd
        trivial⟩
    refine ⟨_, _, .list [.tuple [.int (halfF p l sk).a.now, .bool (jo (halfF p l sk).a.now (halfF p l sk).b.now p.1 l.2.1)], .tuple [.int (halfF p l sk).b.now, .bool (jo (halfF p l sk).a.now (halfF p l sk).b.now p.2 l.2.2)]], rfl, .lst (SqL.of (s47 _ _ hq4)) (.cons (im0 (s47 _ _ hu0)).dp (.cons (im0 (s47 _ _ hu1)).dp .nil)),
      .lst (SqL.of upd_same) (.cons (im0 (s7 _ _ (s6 _ _ upd_same))).dp (.cons (im0 (s7 _ _ upd_same)).dp .nil)), lv_mono (lv_two (lvr _ _) (lvr _ _)), fun H8 s8 => ?_⟩
    have s48 := s47.trans s8
    have M8 := M4.same s48
    refine ⟨_, rfl, x.l, _, rfl, DPut.k (k := .inr "right") M8.l (small1000 (by show 5 ≤ 1000; decide)), ?_⟩
    rw [lnD_put]
    obtain ⟨M9, f9⟩ := M8.setR (hZ1 _ (by simp [LnAd.all]))
    have hj9 := f9 _ _ (s48 _ _ hj4) njx
    have hm9 := f9 _ _ (s48 _ _ hm4) nmx
    obtain ⟨xs9, hlg9, hA9⟩ := id M9.lg
    refine ⟨_, rfl, x.l, _, rfl, M9.get.2.2.2.1, .inl ⟨rfl, _, SqL.of hlg9⟩, _, rfl, m, _, _, _, rfl, rfl, SqL.of hm9, rfl, _, rfl, j, _, _, _, rfl, rfl, SqL.of hj9, rfl, _, rfl, m, _, _, _, rfl, rfl, SqL.of hm9, rfl, _, rfl, j, _, _, _, rfl, rfl, SqL.of hj9, rfl, (by show 4 ≤ sizeLine; decide), fun t ht => ?_⟩
    have s10 : Same _ (upd (upd H8 x.l (.dK (lnD x true))) t (.tup (rowV (rowF p l (halfF p l sk))))) := Same.upd_new ht
    have M10 := M9.same s10
    have hxl := rows_len hA9
    refine ⟨x.lg, xs9, _, rfl, rfl, s10 _ _ hlg9, ?_, ?_⟩
    · rw [hxl]
      show sk.log.length < sizeLine
      exact Nat.lt_trans hlog (by decide)
    have hA10 : ImAll (upd (upd H8 x.l (.dK (lnD x true))) t (.tup (rowV (rowF p l (halfF p l sk))))) (xs9 ++ [.ref t]) ((sk.log ++ [rowF p l (halfF p l sk)]).map rowD) := by
      rw [List.map_append]
      exact (hA9.same s10).append (.cons (im_row upd_same) .nil)
    obtain ⟨M11, f11⟩ := M10.setLog (hZ1 _ (by simp [LnAd.all])) hA10
    exact kk _ (M11.more fun y hy => .inl (List.mem_cons_of_mem _ (List.mem_cons_of_mem _ hy))) (((F3.trans (Frm.of_same (s4.trans s48))).trans f9).trans ((Frm.of_same s10).trans f11))

end
end TL

namespace TL
open PySem PySem.Spec PyProof.Rows L2
section
variable {P : Program} {w : World} {K : PySem.W.Frag} {mg : Str → Option Value} {base : Heap}
def sp__law_none_lost (T : Txt K mg) : Sp := fun vs H Q _ => vs = [] ∧ ∀ (L c0 c1 : Addr) (H' : Hp), H L = none → H c0 = none → H c1 = none → L ≠ c0 → L ≠ c1 → c0 ≠ c1 → H' L = some (.lst [.ref c0, .ref c1]) → H' c0 = some (.lst [.bl false, .bl false]) → H' c1 = some (.lst [.bl false, .bl false]) → Same H H' → Q (.ref L) H'
theorem ok__law_none_lost (T : Txt K mg) : FnOk P w K mg base CX0 1 T.a__law_none_lost T.fd__law_none_lost P__law_none_lost (sp__law_none_lost T) := by
  skip
  refine T.F__law_none_lost.ok sc__law_none_lost (fun vs H Q E h => ?_) (fun cdv A outer s H vs Q E hr h => ?_)
  · obtain ⟨rfl, _⟩ := h
    rfl
  · obtain ⟨rfl, k⟩ := h
    refine ⟨_, (pss_one (ps_ret (pe_lst (pa_cons (pe_lst (pa_cons pe_bl (pa_cons pe_bl pa_nil))) (pa_cons (pe_lst (pa_cons pe_bl (pa_cons pe_bl pa_nil))) pa_nil))))), ?_⟩
    refine ⟨(by show 2 ≤ sizeLine; decide), fun c0 h0 => ⟨(by show 2 ≤ sizeLine; decide), fun c1 h1 => ⟨(by show 2 ≤ sizeLine; decide), fun L hL => ?_⟩⟩⟩
    have s1 := Same.upd_new (o := .lst [.bl false, .bl false]) h0
    have s2 := Same.upd_new (o := .lst [.bl false, .bl false]) h1
    have s3 := Same.upd_new (o := .lst [.ref c0, .ref c1]) hL
    have q0 := s2 _ _ (upd_same (H := H) (a := c0) (o := .lst [.bl false, .bl false]))
    exact k L c0 c1 _ ((Frm.of_same (S := []) (s1.trans s2)).free hL) h0 ((Frm.of_same (S := []) s1).free h1) (Ne.symm (ne_of_none q0 hL)) (Ne.symm (ne_of_none upd_same hL)) (ne_of_none upd_same h1) upd_same (s3 _ _ q0) (s3 _ _ upd_same) ((s1.trans s2).trans s3)

end
end TL

namespace TL
open PySem PySem.Spec PyProof.Rows L2
section
variable {P : Program} {w : World} {K : PySem.W.Frag} {mg : Str → Option Value} {base : Heap}
def sp_Line_log (T : Txt K mg) : Sp := fun vs H Q _ => ∃ (Z : List Addr) (x : LoAd) (s : PlS), vs = [.ref x.o] ∧ LoAt T.C_Line T.C_End T.C_Marks Z H x s ∧ ∀ (l : Addr) (xs : List V), H l = none → ImAll H xs (s.log.map rowD) → Q (.ref l) (upd H l (.lst xs))
theorem ok_Line_log (T : Txt K mg) : FnOk P w K mg base CX0 1 T.a_Line_log T.fd_Line_log P_Line_log (sp_Line_log T) := by
  skip
  refine T.F_Line_log.ok sc_Line_log (fun vs H Q E h => ?_) (fun cdv A outer s H vs Q E hr h => ?_)
  · obtain ⟨Z, x, s, rfl, _⟩ := h
    rfl
  · obtain ⟨Z, x, sk, rfl, M, k⟩ := h
    refine ⟨_, (pss_one (ps_ret (pe_callTy call_list_of (by rfl) T.n_list (by decide +kernel) (pa_cons (pe_fld (pv 0) rfl) pa_nil)))), ?_⟩
    obtain ⟨dx, ho⟩ := M.ob
    obtain ⟨xs, hr, hA⟩ := M.rw
    exact ⟨_, rfl, _, T.C_Line, _, _, _, rfl, ho, T.cl_Line, T.no_Line_rows, zip_lookup liN_nd (i := 3) rfl rfl, x.rw, _, rfl, .inl (SqL.of hr), fun l hl => k l xs hl hA⟩

end
end TL

namespace TL
open PySem PySem.Spec PyProof.Rows L2
section
variable {P : Program} {w : World} {K : PySem.W.Frag} {mg : Str → Option Value} {base : Heap}
def sp_End_got (T : Txt K mg) : Sp := fun vs H Q _ => ∃ (Z : List Addr) (ad : EAd) (s : EndS), vs = [.ref ad.e] ∧ EndAt T.C_End T.C_Marks Z H ad s ∧ ∀ l, H l = none → Q (.ref l) (upd H l (.lst (s.got.map V.int)))
theorem ok_End_got (T : Txt K mg) : FnOk P w K mg base CX0 1 T.a_End_got T.fd_End_got P_End_got (sp_End_got T) := by
  skip
  refine T.F_End_got.ok sc_End_got (fun vs H Q E h => ?_) (fun cdv A outer s H vs Q E hr h => ?_)
  · obtain ⟨Z, ad, s, rfl, _⟩ := h
    rfl
  · obtain ⟨Z, ad, sk, rfl, M, k⟩ := h
    refine ⟨_, (pss_one (ps_ret (pe_callTy call_list_of (by rfl) T.n_list (by decide +kernel) (pa_cons (pe_fld (pv 0) rfl) pa_nil)))), ?_⟩
    obtain ⟨⟨dx, cv, mv, ov, ho, _⟩, _⟩ := id M
    refine ⟨_, rfl, _, T.C_End, _, _, _, rfl, ho, T.cl_End, T.no_End_gathered, zip_lookup enN_nd (i := 13) rfl rfl, ad.g, _, rfl, .inl (SqL.of M.gt), k⟩

end
end TL

namespace TL
open PySem PySem.Spec PyProof.Rows L2
section
variable {P : Program} {w : World} {K : PySem.W.Frag} {mg : Str → Option Value} {base : Heap}
def sp_Line_got (T : Txt K mg) : Sp := fun vs H Q E => ∃ (Z : List Addr) (x : LoAd) (s : PlS) (v : V) (d : PyData), vs = [.ref x.o, v] ∧ LoAt T.C_Line T.C_End T.C_Marks Z H x s ∧ Dp K H v d ∧ (∀ ds, d ≠ .list ds) ∧ (between d 0 1 = false → E (.ref T.C_BadEnd) none H) ∧
  (∀ e : Int, d = .int e → (e = 0 ∨ e = 1) → ∀ l, H l = none → Q (.ref l) (upd H l (.lst ((if e = 0 then s.a.got else s.b.got).map V.int))))
theorem ok_Line_got (T : Txt K mg) : FnOk P w K mg base (L2.CX P w) 3 T.a_Line_got T.fd_Line_got P_Line_got (sp_Line_got T) := by
  have G_need_end := ok_need_end (P := P) (w := w) (base := base) T
  have G_End_got := ok_End_got (P := P) (w := w) (base := base) T
  refine T.F_Line_got.okX sc_Line_got (fun vs H Q E h => ?_) (fun cdv A outer s H vs Q E hr h => ?_)
  · obtain ⟨Z, x, s, v, d, rfl, _⟩ := h
    rfl
  · obtain ⟨Z, x, sk, v, d, rfl, M, hd, nl, k1, k2⟩ := h
    refine ⟨_, (pss_cons (ps_expr (pe_call G_need_end (hr.mono (by decide)) rfl T.g_need_end T.F_need_end.kp T.b_need_end .nil (passes_call (takes_of rfl rfl rfl rfl) (fun _ _ _ _ h => h)) (pa_cons (pv 1) pa_nil)))
    (pss_one (ps_ret (pe_meth0 (pe_ix ix_list (pe_fld (pv 0) rfl) (pv 1) (fun _ _ => rfl)) T.cl_End T.m_End_got G_End_got (hr.mono (by decide)) T.b_End_got .nil pass0)))), ?_⟩
    obtain ⟨dx, ho⟩ := M.ob
    refine ⟨_, rfl, v, d, rfl, hd, nl, fun g => ?_, fun g => k1 g⟩
    obtain ⟨e, rfl, he⟩ := between01 g
    cases hd
    have k := k2 e rfl he
    rcases he with rfl | rfl
    · obtain ⟨⟨dxe, _, _, _, hoe, _⟩, _⟩ := id M.ea
      exact ⟨_, rfl, _, T.C_Line, _, _, _, rfl, ho, T.cl_Line, T.no_Line_ends, zip_lookup liN_nd (i := 0) rfl rfl, _, rfl, x.es, _, _, .ref x.a.e, rfl, rfl, SqL.of M.es, rfl, x.a.e, dxe, _, rfl, hoe, zip_no (by decide), Z, x.a, sk.a, rfl, M.ea, k⟩
    · obtain ⟨⟨dxe, _, _, _, hoe, _⟩, _⟩ := id M.eb
      exact ⟨_, rfl, _, T.C_Line, _, _, _, rfl, ho, T.cl_Line, T.no_Line_ends, zip_lookup liN_nd (i := 0) rfl rfl, _, rfl, x.es, _, _, .ref x.b.e, rfl, rfl, SqL.of M.es, rfl, x.b.e, dxe, _, rfl, hoe, zip_no (by decide), Z, x.b, sk.b, rfl, M.eb, k⟩

end
end TL

namespace TL
open PySem PySem.Spec PyProof.Rows L2
section
variable {P : Program} {w : World} {K : PySem.W.Frag} {mg : Str → Option Value} {base : Heap}
def sp_End_left (T : Txt K mg) : Sp := fun vs H Q _ => ∃ (Z : List Addr) (ad : EAd) (s : EndS), vs = [.ref ad.e] ∧ EndAt T.C_End T.C_Marks Z H ad s ∧ Q (.int (s.wait.length : Nat)) H
theorem ok_End_left (T : Txt K mg) : FnOk P w K mg base CX0 1 T.a_End_left T.fd_End_left P_End_left (sp_End_left T) := by
  skip
  refine T.F_End_left.ok sc_End_left (fun vs H Q E h => ?_) (fun cdv A outer s H vs Q E hr h => ?_)
  · obtain ⟨Z, ad, s, rfl, _⟩ := h
    rfl
  · obtain ⟨Z, ad, sk, rfl, M, k⟩ := h
    refine ⟨_, (pss_one (ps_ret (pe_callB call_len_seq (by rfl) T.n_len (by decide +kernel) (pa_cons (pe_fld (pv 0) rfl) pa_nil)))), ?_⟩
    obtain ⟨⟨dx, cv, mv, ov, ho, _⟩, _⟩ := id M
    refine ⟨_, rfl, _, T.C_End, _, _, _, rfl, ho, T.cl_End, T.no_End_waiting, zip_lookup enN_nd (i := 11) rfl rfl, ad.w, _, rfl, .inl (SqL.of M.wt), ?_⟩
    rw [List.length_map]
    exact k

end
end TL

namespace TL
open PySem PySem.Spec PyProof.Rows L2
section
variable {P : Program} {w : World} {K : PySem.W.Frag} {mg : Str → Option Value} {base : Heap}
def sp_Line_left (T : Txt K mg) : Sp := fun vs H Q E => ∃ (Z : List Addr) (x : LoAd) (s : PlS) (v : V) (d : PyData), vs = [.ref x.o, v] ∧ LoAt T.C_Line T.C_End T.C_Marks Z H x s ∧ Dp K H v d ∧ (∀ ds, d ≠ .list ds) ∧ (between d 0 1 = false → E (.ref T.C_BadEnd) none H) ∧
  (∀ e : Int, d = .int e → (e = 0 ∨ e = 1) → Q (.int ((if e = 0 then s.a.wait else s.b.wait).length : Nat)) H)
theorem ok_Line_left (T : Txt K mg) : FnOk P w K mg base (L2.CX P w) 3 T.a_Line_left T.fd_Line_left P_Line_left (sp_Line_left T) := by
  have G_need_end := ok_need_end (P := P) (w := w) (base := base) T
  have G_End_left := ok_End_left (P := P) (w := w) (base := base) T
  refine T.F_Line_left.okX sc_Line_left (fun vs H Q E h => ?_) (fun cdv A outer s H vs Q E hr h => ?_)
  · obtain ⟨Z, x, s, v, d, rfl, _⟩ := h
    rfl
  · obtain ⟨Z, x, sk, v, d, rfl, M, hd, nl, k1, k2⟩ := h
    refine ⟨_, (pss_cons (ps_expr (pe_call G_need_end (hr.mono (by decide)) rfl T.g_need_end T.F_need_end.kp T.b_need_end .nil (passes_call (takes_of rfl rfl rfl rfl) (fun _ _ _ _ h => h)) (pa_cons (pv 1) pa_nil)))
    (pss_one (ps_ret (pe_meth0 (pe_ix ix_list (pe_fld (pv 0) rfl) (pv 1) (fun _ _ => rfl)) T.cl_End T.m_End_left G_End_left (hr.mono (by decide)) T.b_End_left .nil pass0)))), ?_⟩
    obtain ⟨dx, ho⟩ := M.ob
    refine ⟨_, rfl, v, d, rfl, hd, nl, fun g => ?_, fun g => k1 g⟩
    obtain ⟨e, rfl, he⟩ := between01 g
    cases hd
    have k := k2 e rfl he
    rcases he with rfl | rfl
    · obtain ⟨⟨dxe, _, _, _, hoe, _⟩, _⟩ := id M.ea
      exact ⟨_, rfl, _, T.C_Line, _, _, _, rfl, ho, T.cl_Line, T.no_Line_ends, zip_lookup liN_nd (i := 0) rfl rfl, _, rfl, x.es, _, _, .ref x.a.e, rfl, rfl, SqL.of M.es, rfl, x.a.e, dxe, _, rfl, hoe, zip_no (by decide), Z, x.a, sk.a, rfl, M.ea, k⟩
    · obtain ⟨⟨dxe, _, _, _, hoe, _⟩, _⟩ := id M.eb
      exact ⟨_, rfl, _, T.C_Line, _, _, _, rfl, ho, T.cl_Line, T.no_Line_ends, zip_lookup liN_nd (i := 0) rfl rfl, _, rfl, x.es, _, _, .ref x.b.e, rfl, rfl, SqL.of M.es, rfl, x.b.e, dxe, _, rfl, hoe, zip_no (by decide), Z, x.b, sk.b, rfl, M.eb, k⟩

end
end TL

namespace TL
open PySem PySem.Spec PyProof.Rows L2
section
variable {P : Program} {w : World} {K : PySem.W.Frag} {mg : Str → Option Value} {base : Heap}
def sp_Line_let_pass (T : Txt K mg) : Sp := fun vs H Q E => ∃ (Z : List Addr) (x : LoAd) (s : PlS) (v vm : V) (d dm : PyData), vs = [.ref x.o, v, vm] ∧ LoAt T.C_Line T.C_End T.C_Marks Z H x s ∧ (∀ z ∈ x.all, z ∈ Z) ∧ Dp K H v d ∧ (∀ ds, d ≠ .list ds) ∧ Im H vm dm ∧ mdat dm ∧
  (between d 0 1 = false → E (.ref T.C_BadEnd) none H) ∧ (between d 0 1 = true → isMan dm = false → ∀ H', Same H H' → E (.ref T.C_BadManners) none H') ∧
  (∀ (e : Int) (ms : List Int), d = .int e → dm = .tuple (ms.map .int) → (e = 0 ∨ e = 1) → isMan dm = true → ∀ H', LoAt T.C_Line T.C_End T.C_Marks Z H' x { s with ps := setP s.ps e ms } → Frm x.all H H' → Q .non H')
theorem ok_Line_let_pass (T : Txt K mg) : FnOk P w K mg base (L2.CX P w) 4 T.a_Line_let_pass T.fd_Line_let_pass P_Line_let_pass (sp_Line_let_pass T) := by
  have G_need_end := ok_need_end (P := P) (w := w) (base := base) T
  have G_need_manners := ok_need_manners (P := P) (w := w) (base := base) T
  refine T.F_Line_let_pass.okX sc_Line_let_pass (fun vs H Q E h => ?_) (fun cdv A outer s H vs Q E hr h => ?_)
  · obtain ⟨Z, x, s, v, vm, d, dm, rfl, _⟩ := h
    rfl
  · obtain ⟨Z, x, sk, v, vm, d, dm, rfl, M, hZ, hd, nl, im, hm, k1, k2, k3⟩ := h
    refine ⟨_, (pss_cons (ps_expr (pe_call G_need_end (hr.mono (by decide)) rfl T.g_need_end T.F_need_end.kp T.b_need_end .nil (passes_call (takes_of rfl rfl rfl rfl) (fun _ _ _ _ h => h)) (pa_cons (pv 1) pa_nil)))
    (pss_cons (ps_expr (pe_call G_need_manners (hr.mono (by decide)) rfl T.g_need_manners T.F_need_manners.kp T.b_need_manners .nil (passes_call (takes_of rfl rfl rfl rfl) (fun _ _ _ _ h => h)) (pa_cons (pv 2) pa_nil)))
    (pss_one (ps_asg (pv 2) (pg_sub (pe_fld (pv 0) rfl) (pv 1) set_list))))), ?_⟩
    refine ⟨_, rfl, v, d, rfl, hd, nl, fun g => ?_, fun g => k1 g⟩
    obtain ⟨e, rfl, he⟩ := between01 g
    cases hd
    refine ⟨_, rfl, vm, dm, rfl, im.dp, hm, fun g2 H1 s1 => ?_, fun g2 H' s' => k2 g g2 H' s'⟩
    obtain ⟨ms, rfl, _⟩ := man_tuple g2
    have k := k3 e ms rfl rfl he g2
    cases im with
    | tup ht hA =>
    rename_i t ts
    have ets : ts = ms.map V.int := by
      have q := hA.dp (K := K)
      exact DpAll.ints_inv q
    subst ets
    have M1 := M.same s1
    have ht1 := s1 _ _ ht
    obtain ⟨dx, ho⟩ := M1.ob
    obtain ⟨p0, p1, hpg, hp0, hp1⟩ := M1.pg
    have hz : x.pg ∈ Z := hZ _ (by simp [LoAd.all])
    rcases he with rfl | rfl
    · obtain ⟨M2, f2⟩ := M1.setPass hz (q0 := t) (q1 := p1) (p := (ms, sk.ps.2)) ht1 hp1
      exact ⟨_, rfl, _, rfl, _, T.C_Line, _, _, _, rfl, ho, T.cl_Line, T.no_Line_passing, zip_lookup liN_nd (i := 1) rfl rfl, _, rfl, x.pg, _, _, 0, rfl, rfl, hpg, rfl, k _ M2 ((Frm.of_same s1).trans f2)⟩
    · obtain ⟨M2, f2⟩ := M1.setPass hz (q0 := p0) (q1 := t) (p := (sk.ps.1, ms)) hp0 ht1
      exact ⟨_, rfl, _, rfl, _, T.C_Line, _, _, _, rfl, ho, T.cl_Line, T.no_Line_passing, zip_lookup liN_nd (i := 1) rfl rfl, _, rfl, x.pg, _, _, 1, rfl, rfl, hpg, rfl, k _ M2 ((Frm.of_same s1).trans f2)⟩

end
end TL

namespace TL
open PySem PySem.Spec PyProof.Rows L2
section
variable {P : Program} {w : World} {K : PySem.W.Frag} {mg : Str → Option Value} {base : Heap}
def sp_End_send (T : Txt K mg) : Sp := fun vs H Q E => ∃ (Z : List Addr) (ad : EAd) (s : EndS) (y : V) (dy : PyData), vs = [.ref ad.e, y] ∧ EndAt T.C_End T.C_Marks Z H ad s ∧ (∀ z ∈ ad.all, z ∈ Z) ∧ Dp K H y dy ∧ (∀ ds, dy ≠ .list ds) ∧ s.wait.length ≤ 20 ∧
  (between dy 0 999 = false → E (.ref T.C_BadItem) none H) ∧ (between dy 0 999 = true → s.wait.length = 20 → E (.ref T.C_Full) none H) ∧
  (∀ i, dy = .int i → 0 ≤ i → i ≤ 999 → s.wait.length < 20 → ∀ H', EndAt T.C_End T.C_Marks Z H' ad { s with wait := s.wait ++ [i] } → Frm ad.all H H' → Q .non H')
theorem ok_End_send (T : Txt K mg) : FnOk P w K mg base (L2.CX P w) 2 T.a_End_send T.fd_End_send P_End_send (sp_End_send T) := by
  have G_is_between := ok_is_between (P := P) (w := w) (base := base) T
  refine T.F_End_send.okX sc_End_send (fun vs H Q E h => ?_) (fun cdv A outer s H vs Q E hr h => ?_)
  · obtain ⟨Z, ad, s, y, dy, rfl, _⟩ := h
    rfl
  · obtain ⟨Z, ad, sk, y, dy, rfl, M, hsub, hy, nl, hl, k1, k2, k3⟩ := h
    refine ⟨_, (pss_cons (ps_if (pt_not (pt_val (pe_call G_is_between (hr.mono (by decide)) rfl T.g_is_between T.F_is_between.kp T.b_is_between .nil pass0 (pa_cons (pv 1) (pa_cons pe_int (pa_cons (pe_glob (v := .int 999) rfl T.v_MOST_ITEM ⟨_, rfl⟩) pa_nil))))))
      (pss_one (ps_raise rfl (takes_of rfl rfl rfl rfl) (pmk_own PySem.F.excBase_ValueError T.x_BadItem T.c_BadItem T.k_BadItem (raises_own T.s_BadItem T.t_BadItem) rfl)))
      pss_nil)
    (pss_cons (ps_if (pt_cmpR op_eq (pe_callB call_len_seq (by rfl) T.n_len (by decide +kernel) (pa_cons (pe_fld (pv 0) rfl) pa_nil)) (pe_glob (v := .int 20) rfl T.v_MOST_ITEMS ⟨_, rfl⟩) (nomark _))
      (pss_one (ps_raise rfl (takes_of rfl rfl rfl rfl) (pmk_own PySem.F.excBase_ValueError T.x_Full T.c_Full T.k_Full (raises_own T.s_Full T.t_Full) rfl)))
      pss_nil)
    (pss_one (ps_expr (pe_bm PySem.F.plainAttrs_list PySem.F.slot_list_append PySem.F.type_list_append mt_append (pe_fld (pv 0) rfl) (pa_cons (pv 1) pa_nil)))))), ?_⟩
    refine ⟨_, rfl, y, dy, 0, 999, rfl, hy, nl, _, rfl, ?_⟩
    refine iteB (fun hb => k1 (by simpa using hb)) (fun hb => ?_)
    have gy : between dy 0 999 = true := by simpa using hb
    obtain ⟨f, rfl⟩ : ∃ f, dy = .int f := by
      cases dy with
      | int f => exact ⟨f, rfl⟩
      | _ => exact absurd gy (by simp [between])
    have gf : 0 ≤ f ∧ f ≤ 999 := by simpa [between] using gy
    cases hy
    obtain ⟨⟨dx, cv, mv, ov, ho, _⟩, _⟩ := id M
    refine ⟨_, rfl, _, T.C_End, _, _, _, rfl, ho, T.cl_End, T.no_End_waiting, zip_lookup enN_nd (i := 11) rfl rfl, ad.w, _, rfl, .inl (SqL.of M.wt), rfl, _, rfl, ?_⟩
    refine iteD (fun he => k2 gy ?_) (fun he => ?_)
    · have := vint_inj.mp he
      rw [List.length_map] at this
      omega
    have hlt : sk.wait.length < 20 := by
      rcases Nat.lt_or_ge sk.wait.length 20 with q | q
      · exact q
      · exact absurd (by rw [List.length_map]; congr 1; omega) he
    refine ⟨_, rfl, _, T.C_End, _, _, _, rfl, ho, T.cl_End, T.no_End_waiting, zip_lookup enN_nd (i := 11) rfl rfl, .inl ⟨rfl, _, SqL.of M.wt⟩, _, rfl, ad.w, _, _, rfl, rfl, M.wt, by rw [List.length_map]; exact small1000 (by omega), ?_⟩
    obtain ⟨E1, f1⟩ := M.setW (hsub _ (by simp [EAd.all])) (sk.wait ++ [f])
    rw [List.map_append] at E1 f1
    exact k3 f rfl gf.1 gf.2 hlt _ E1 f1

end
end TL

namespace TL
open PySem PySem.Spec PyProof.Rows L2
section
variable {P : Program} {w : World} {K : PySem.W.Frag} {mg : Str → Option Value} {base : Heap}
def sp_Line_send (T : Txt K mg) : Sp := fun vs H Q E => ∃ (Z : List Addr) (x : LoAd) (s : PlS) (v vi : V) (d di : PyData), vs = [.ref x.o, v, vi] ∧ LoAt T.C_Line T.C_End T.C_Marks Z H x s ∧ (∀ z ∈ x.all, z ∈ Z) ∧ Dp K H v d ∧ (∀ ds, d ≠ .list ds) ∧ Dp K H vi di ∧ (∀ ds, di ≠ .list ds) ∧ s.a.wait.length ≤ 20 ∧ s.b.wait.length ≤ 20 ∧
  (between d 0 1 = false → E (.ref T.C_BadEnd) none H) ∧ (between d 0 1 = true → between di 0 999 = false → E (.ref T.C_BadItem) none H) ∧
  (∀ e : Int, d = .int e → (e = 0 ∨ e = 1) → between di 0 999 = true → (if e = 0 then s.a.wait else s.b.wait).length = 20 → E (.ref T.C_Full) none H) ∧
  (∀ e i : Int, d = .int e → di = .int i → (e = 0 ∨ e = 1) → 0 ≤ i → i ≤ 999 → (if e = 0 then s.a.wait else s.b.wait).length < 20 → ∀ H', LoAt T.C_Line T.C_End T.C_Marks Z H' x (sendP s e i) → Frm x.all H H' → Q .non H')
theorem ok_Line_send (T : Txt K mg) : FnOk P w K mg base (L2.CX P w) 3 T.a_Line_send T.fd_Line_send P_Line_send (sp_Line_send T) := by
  have G_need_end := ok_need_end (P := P) (w := w) (base := base) T
  have G_End_send := ok_End_send (P := P) (w := w) (base := base) T
  refine T.F_Line_send.okX sc_Line_send (fun vs H Q E h => ?_) (fun cdv A outer s H vs Q E hr h => ?_)
  · obtain ⟨Z, x, s, v, vi, d, di, rfl, _⟩ := h
    rfl
  · obtain ⟨Z, x, sk, v, vi, d, di, rfl, M, hZ, hd, nl, hdi, nli, wa, wb, k1, k2, k3, k4⟩ := h
    refine ⟨_, (pss_cons (ps_expr (pe_call G_need_end (hr.mono (by decide)) rfl T.g_need_end T.F_need_end.kp T.b_need_end .nil (passes_call (takes_of rfl rfl rfl rfl) (fun _ _ _ _ h => h)) (pa_cons (pv 1) pa_nil)))
    (pss_one (ps_expr (pe_meth (pe_ix ix_list (pe_fld (pv 0) rfl) (pv 1) (fun _ _ => rfl)) T.cl_End T.m_End_send G_End_send (hr.mono (by decide)) T.b_End_send .nil (passes_call (takes_of rfl rfl rfl rfl) (fun _ _ _ _ h => h)) (pa_cons (pv 2) pa_nil))))), ?_⟩
    refine ⟨_, rfl, v, d, rfl, hd, nl, fun g => ?_, fun g => k1 g⟩
    obtain ⟨e, rfl, he⟩ := between01 g
    cases hd
    have k3 := k3 e rfl he
    have k4 := fun i h1 => k4 e i rfl h1 he
    obtain ⟨dx, ho⟩ := M.ob
    rcases he with rfl | rfl
    · obtain ⟨⟨dxe, _, _, _, hoe, _⟩, _⟩ := id M.ea
      refine ⟨_, rfl, _, T.C_Line, _, _, _, rfl, ho, T.cl_Line, T.no_Line_ends, zip_lookup liN_nd (i := 0) rfl rfl, _, rfl, x.es, _, _, .ref x.a.e, rfl, rfl, SqL.of M.es, rfl, x.a.e, dxe, _, rfl, hoe, zip_no (by decide), _, rfl, Z, x.a, sk.a, vi, di, rfl, M.ea, fun z hz => hZ z (x.a_all z hz), hdi, nli, wa, fun h => k2 g h, fun h1 h2 => k3 h1 h2, fun i h1 h2 h3 h4 H' E' f' => ?_⟩
      obtain ⟨M', f2⟩ := M.setA E' f' hZ
      exact k4 i h1 h2 h3 h4 H' (M'.ghost ⟨rfl, rfl, rfl, rfl, rfl⟩) f2
    · obtain ⟨⟨dxe, _, _, _, hoe, _⟩, _⟩ := id M.eb
      refine ⟨_, rfl, _, T.C_Line, _, _, _, rfl, ho, T.cl_Line, T.no_Line_ends, zip_lookup liN_nd (i := 0) rfl rfl, _, rfl, x.es, _, _, .ref x.b.e, rfl, rfl, SqL.of M.es, rfl, x.b.e, dxe, _, rfl, hoe, zip_no (by decide), _, rfl, Z, x.b, sk.b, vi, di, rfl, M.eb, fun z hz => hZ z (x.b_all z hz), hdi, nli, wb, fun h => k2 g h, fun h1 h2 => k3 h1 h2, fun i h1 h2 h3 h4 H' E' f' => ?_⟩
      obtain ⟨M', f2⟩ := M.setB E' f' hZ
      exact k4 i h1 h2 h3 h4 H' (M'.ghost ⟨rfl, rfl, rfl, rfl, rfl⟩) f2

end
end TL

namespace TL
open PySem PySem.Spec PyProof.Rows L2
section
variable {P : Program} {w : World} {K : PySem.W.Frag} {mg : Str → Option Value} {base : Heap}
def sp_Line_lose (T : Txt K mg) : Sp := fun vs H Q E => ∃ (Z : List Addr) (x : LoAd) (s : PlS) (v ve : V) (d de : PyData), vs = [.ref x.o, v, ve] ∧ LoAt T.C_Line T.C_End T.C_Marks Z H x s ∧ (∀ z ∈ x.all, z ∈ Z) ∧ Dp K H v d ∧ (∀ ds, d ≠ .list ds) ∧ Dp K H ve de ∧ (∀ ds, de ≠ .list ds) ∧
  (between d 0 1 = false → E (.ref T.C_BadPart) none H) ∧ (between d 0 1 = true → between de 0 1 = false → E (.ref T.C_BadEnd) none H) ∧
  (∀ p e : Int, d = .int p → de = .int e → (p = 0 ∨ p = 1) → (e = 0 ∨ e = 1) → ∀ H', LoAt T.C_Line T.C_End T.C_Marks Z H' x { s with ls := setL s.ls p e } → Frm x.all H H' → Q .non H')
theorem ok_Line_lose (T : Txt K mg) : FnOk P w K mg base (L2.CX P w) 3 T.a_Line_lose T.fd_Line_lose P_Line_lose (sp_Line_lose T) := by
  have G_need_end := ok_need_end (P := P) (w := w) (base := base) T
  have G_is_between := ok_is_between (P := P) (w := w) (base := base) T
  refine T.F_Line_lose.okX sc_Line_lose (fun vs H Q E h => ?_) (fun cdv A outer s H vs Q E hr h => ?_)
  · obtain ⟨Z, x, s, v, ve, d, de, rfl, _⟩ := h
    rfl
  · obtain ⟨Z, x, sk, v, ve, d, de, rfl, M, hZ, hd, nl, hde, nle, k1, k2, k3⟩ := h
    have hu := hu_of hr
    refine ⟨_, (pss_cons (ps_if (pt_not (pt_val (pe_call G_is_between (hr.mono (by decide)) rfl T.g_is_between T.F_is_between.kp T.b_is_between .nil pass0 (pa_cons (pv 1) (pa_cons (pe_glob (v := .int 0) rfl T.v_SLOW ⟨_, rfl⟩) (pa_cons (pe_glob (v := .int 1) rfl T.v_FAST ⟨_, rfl⟩) pa_nil))))))
      (pss_one (ps_raise rfl (takes_of rfl rfl rfl rfl) (pmk_own PySem.F.excBase_ValueError T.x_BadPart T.c_BadPart T.k_BadPart (raises_own T.s_BadPart T.t_BadPart) rfl)))
      pss_nil)
    (pss_cons (ps_expr (pe_call G_need_end (hr.mono (by decide)) rfl T.g_need_end T.F_need_end.kp T.b_need_end .nil (passes_call (takes_of rfl rfl rfl rfl) (fun _ _ _ _ h => h)) (pa_cons (pv 2) pa_nil)))
    (pss_one (ps_dput hu (pe_fld (pv 0) rfl) (pe_tup (pa_cons (pv 1) (pa_cons (pv 2) pa_nil))) pe_bl rfl)))), ?_⟩
    refine ⟨_, rfl, v, d, 0, 1, rfl, hd, nl, _, rfl, ?_⟩
    refine iteB (fun hb => k1 (by simpa using hb)) (fun hb => ?_)
    have g : between d 0 1 = true := by simpa using hb
    obtain ⟨p, rfl, hp⟩ := between01 g
    cases hd
    refine ⟨_, rfl, ve, de, rfl, hde, nle, fun g2 => ?_, fun g2 => k2 g g2⟩
    obtain ⟨e, rfl, he⟩ := between01 g2
    cases hde
    have k := k3 p e rfl rfl hp he
    obtain ⟨dx, ho⟩ := M.ob
    obtain ⟨kvs, hlo, hld⟩ := M.lo
    refine ⟨_, rfl, _, T.C_Line, _, _, _, rfl, ho, T.cl_Line, T.no_Line_lost, zip_lookup liN_nd (i := 2) rfl rfl, _, rfl, _, rfl, (by show 2 ≤ sizeLine; decide), fun N hN => ?_⟩
    have sN := Same.upd_new (o := .tup [.int p, .int e]) hN
    have M1 := M.same sN
    have h4 := hld.small
    obtain ⟨M2, f2⟩ := M1.setLost (hZ _ (by simp [LoAd.all])) (hld.put hp he (v := .bl true))
    exact ⟨x.lo, _, rfl, DPut.t (k := lkey p e) (sN _ _ hlo) upd_same (small1000 (by omega)), k _ M2 ((Frm.of_same sN).trans f2)⟩

end
end TL

namespace TL
open PySem PySem.Spec PyProof.Rows L2
section
variable {P : Program} {w : World} {K : PySem.W.Frag} {mg : Str → Option Value} {base : Heap}
/-- a line, dice and tables -/
structure IR (T : Txt K mg) (Z : List Addr) (ρ : Addr → Nat) (H : Hp) (d : Addr) (x : LoAd) (s : PlS) : Prop where
  W : Wd T.tl Z ρ H d
  X : LoAt T.C_Line T.C_End T.C_Marks Z H x s
  rx : Reg ρ 1 x.every
/-- what was told ahead -/
structure Ah (H : Hp) (A l1 l2 : Addr) (s : PlS) : Prop where
  hA : H A = some (.lst [.ref l1, .ref l2, .int (s.b.wait.length : Nat)])
  h1 : ∃ xs, H l1 = some (.lst xs) ∧ ImAll H xs (s.log.map rowD)
  h2 : H l2 = some (.lst (s.a.got.map V.int))
section
variable {T : Txt K mg} {Z : List Addr} {ρ : Addr → Nat} {H H' : Hp} {d : Addr} {x : LoAd} {s : PlS} {A l1 l2 : Addr}
theorem IR.same (h : IR T Z ρ H d x s) (e : Same H H') : IR T Z ρ H' d x s := ⟨h.W.same e, h.X.same e, h.rx⟩
theorem IR.dice (h : IR T Z ρ H d x s) (D : DiceAt H' d) (f : Frm [d] H H') : IR T Z ρ H' d x s := ⟨h.W.dice D f, h.X.by h.rx h.W.hZ f h.W.rone (by decide) (by decide), h.rx⟩
theorem IR.lam (h : IR T Z ρ H d x s) (tb : LamX.Tabs T.tl H') (f : Frm [T.lP__law_are_refused] H H') : IR T Z ρ H' d x s :=
  ⟨h.W.lam T.tm__law_are_refused tb f, h.X.by h.rx h.W.hZ f (h.W.tone T.tm__law_are_refused) (by decide) (by decide), h.rx⟩
theorem IR.all (h : IR T Z ρ H d x s) : ∀ z ∈ x.all, z ∈ Z := fun z hz => h.W.hZ z (by rw [h.rx z (x.sub_all z hz)]; decide)
theorem Ah.same (h : Ah H A l1 l2 s) (e : Same H H') : Ah H' A l1 l2 s := ⟨e _ _ h.hA, let ⟨xs, a, b⟩ := h.h1; ⟨xs, e _ _ a, b.same e⟩, e _ _ h.h2⟩
theorem Ah.ext (h : Ah H A l1 l2 s) (e : LamX.ExtN H H') : Ah H' A l1 l2 s := ⟨e _ _ h.hA lst_ne, let ⟨xs, a, b⟩ := h.h1; ⟨xs, e _ _ a lst_ne, b.ext e⟩, e _ _ h.h2 lst_ne⟩
theorem Ah.frm (h : Ah H A l1 l2 s) {w : Addr} (f : Frm [w] H H') (n : A ≠ w) (n1 : l1 ≠ w) (n2 : l2 ≠ w) : Ah H' A l1 l2 s := ⟨f _ _ h.hA (by simp [n]), let ⟨xs, a, b⟩ := h.h1; ⟨xs, f _ _ a (by simp [n1]), b.frm f⟩, f _ _ h.h2 (by simp [n2])⟩
theorem Ah.dp {K : PySem.W.Frag} (h : Ah H A l1 l2 s) : Dp K H (.ref A) (.list [.list (s.log.map rowD), .list (s.a.got.map .int), .int (s.b.wait.length : Nat)]) := by
  obtain ⟨xs, a, b⟩ := h.h1
  exact .lst (SqL.of h.hA) (.cons (.lst (SqL.of a) b.dp) (.cons (.lst (SqL.of h.h2) (dp_ints _)) (.cons (.int _) .nil)))
end
def sp__law_are_refused (T : Txt K mg) : Sp := fun vs H Q _ => ∃ (Z : List Addr) (ρ : Addr → Nat) (d : Addr) (x : LoAd) (s : PlS), vs = [.ref d, .ref x.o] ∧ IR T Z ρ H d x s ∧ s.a.wait.length ≤ 20 ∧ s.b.wait.length ≤ 20 ∧ s.log.length ≤ 1000 ∧ s.a.got.length ≤ 1000 ∧ ∀ H', Q (.bl true) H'
theorem ok__law_are_refused (T : Txt K mg) (TB : LamX.TabB base mg T.lC__law_are_refused T.lP__law_are_refused) : FnOk P w K mg base CX0 7 T.a__law_are_refused T.fd__law_are_refused P__law_are_refused (sp__law_are_refused T) := by
  have G__law_alike := ok__law_alike (P := P) (w := w) (base := base) T 4
  have G__law_off := ok__law_off (P := P) (w := w) (base := base) T
  have G_Line_log := ok_Line_log (P := P) (w := w) (base := base) T
  have G_Line_got := ok_Line_got (P := P) (w := w) (base := base) T
  have G_Line_left := ok_Line_left (P := P) (w := w) (base := base) T
  have G_Line_let_pass := ok_Line_let_pass (P := P) (w := w) (base := base) T
  have G_Line_send := ok_Line_send (P := P) (w := w) (base := base) T
  have G_Line_lose := ok_Line_lose (P := P) (w := w) (base := base) T
  have bnw := T.b__law_word
  obtain ⟨ocw, odw, kVw, dcw, pmw, anw, cdw, ctw, slw, efw, lkw, hcw⟩ := T.F__law_word.ex
  rw [efw] at lkw bnw
  refine T.fl__law_are_refused.ok sc__law_are_refused (fun vs H Q E h => ?_) (fun A outer s H vs Q E hr h => ?_)
  · obtain ⟨Z, ρ, d, x, s, rfl, _⟩ := h
    rfl
  · obtain ⟨Z, ρ, d, x, sk, rfl, I0, wa, wb, lg, gt, k⟩ := h
    have hu64 : (A.deeper (envOfC "_law_are_refused" (defScope s__law_are_refused) s.heap.objs.size T.a__law_are_refused (.ref T.lC__law_are_refused))).units + 64 < cLine := by have := hr.un; omega
    refine ⟨_, (pss_cons (ps_set (i := 2) sc__law_are_refused.nd rfl (by first | exact Or.inl rfl | exact Or.inr rfl) (pe_callB (call_max2 rfl) (by rfl) T.n_max (by decide +kernel) (pa_cons pe_int (pa_cons (pe_op op_sub (pe_call G__law_off (hr.mono (by decide)) rfl T.g__law_off T.F__law_off.kp T.b__law_off .nil pass0 (pa_cons (pv 0) (pa_cons (pe_op op_pow pe_int pe_int) pa_nil))) pe_int) pa_nil))))
    (pss_cons (ps_cut (ps_set (i := 3) sc__law_are_refused.nd rfl (by first | exact Or.inl rfl | exact Or.inr rfl) (pe_ix ix_list (pe_lst (pa_cons pe_int (pa_cons (pe_op op_add pe_int (pv 2)) (pa_cons (pe_un un_neg pe_int) (pa_cons (pe_op op_sub (pe_un un_neg pe_int) (pv 2)) (pa_cons pe_bl (pa_cons pe_non (pa_cons pe_str pa_nil)))))))) (pe_call G__law_off (hr.mono (by decide)) rfl T.g__law_off T.F__law_off.kp T.b__law_off .nil pass0 (pa_cons (pv 0) (pa_cons pe_int pa_nil))) (fun _ _ => rfl))))
    (pss_cons (ps_cut (ps_set (i := 4) sc__law_are_refused.nd rfl (by first | exact Or.inl rfl | exact Or.inr rfl) (pe_ix ix_list (pe_lst (pa_cons (pe_tup pa_nil) (pa_cons (pe_tup (pa_cons pe_int pa_nil)) (pa_cons (pe_tup (pa_cons pe_int (pa_cons pe_int pa_nil))) (pa_cons (pe_tup (pa_cons pe_int (pa_cons pe_int (pa_cons pe_int pa_nil)))) (pa_cons pe_int (pa_cons pe_non pa_nil))))))) (pe_call G__law_off (hr.mono (by decide)) rfl T.g__law_off T.F__law_off.kp T.b__law_off .nil pass0 (pa_cons (pv 0) (pa_cons pe_int pa_nil))) (fun _ _ => rfl))))
    (pss_cons (ps_set (i := 5) sc__law_are_refused.nd rfl (by first | exact Or.inl rfl | exact Or.inr rfl) (pe_cut (pe_lst (pa_cons (pe_meth0 (pv 1) T.cl_Line T.m_Line_log G_Line_log (hr.mono (by decide)) T.b_Line_log .nil pass0) (pa_cons (pe_meth (pv 1) T.cl_Line T.m_Line_got G_Line_got (hr.mono (by decide)) T.b_Line_got .nil passL (pa_cons pe_int pa_nil)) (pa_cons (pe_meth (pv 1) T.cl_Line T.m_Line_left G_Line_left (hr.mono (by decide)) T.b_Line_left .nil passL (pa_cons pe_int pa_nil)) pa_nil))))))
    (pss_cons (ps_set (i := 6) sc__law_are_refused.nd rfl (by first | exact Or.inl rfl | exact Or.inr rfl) (pe_lst (pa_cons (pe_lamF (T := T.tl) TB rfl T.tm__law_are_refused T.tu__law_are_refused (NdefX.ndef_free (fr := []) (by show NdefX.ndefB (defScope s__law_are_refused) _ [] = true; decide +kernel)) rfl) (pa_cons (pe_lamD (T := T.tl) TB rfl T.tm__law_are_refused T.tu__law_are_refused (NdefX.ndef_free (fr := []) (by show NdefX.ndefB (defScope s__law_are_refused) _ [] = true; decide +kernel)) rfl rfl) pa_nil))))
    (pss_cons (ps_set (i := 6) sc__law_are_refused.nd rfl (by first | exact Or.inl rfl | exact Or.inr rfl) (pe_op op_cat (pv 6) (pe_lst (pa_cons (pe_lamD (T := T.tl) TB rfl T.tm__law_are_refused T.tu__law_are_refused (NdefX.ndef_free (fr := []) (by show NdefX.ndefB (defScope s__law_are_refused) _ [] = true; decide +kernel)) rfl rfl) (pa_cons (pe_lamD (T := T.tl) TB rfl T.tm__law_are_refused T.tu__law_are_refused (NdefX.ndef_free (fr := []) (by show NdefX.ndefB (defScope s__law_are_refused) _ [] = true; decide +kernel)) rfl rfl) (pa_cons (pe_lamD (T := T.tl) TB rfl T.tm__law_are_refused T.tu__law_are_refused (NdefX.ndef_free (fr := []) (by show NdefX.ndefB (defScope s__law_are_refused) _ [] = true; decide +kernel)) rfl rfl) pa_nil))))))
    (pss_cons (ps_cut (ps_if (pt_cmpR (op_neD hu64) (pe_lcK (own := [("_law_work", 7)]) (g := (gName 7)) (tt := fun σL => (tTest (tOp (rNeD K) (tWordX (cxOf CX0 P w K mg base N__law_are_refused "_law_are_refused" (defScope s__law_are_refused) T.a__law_are_refused (.ref T.lC__law_are_refused) A outer s H E).nox 5 (fun _ => σL) (tW T) (tVar 7)) (tTup (tCons (tC (.str "end")) (tCons (tC (.int 0)) tNil)))))) (te := fun σL => (tVar 7)) rfl sc__law_are_refused.nd (pi_list (pv 6)) (blkOk_by (own := [("_law_work", 7)]) (N := N__law_are_refused) (sc := defScope s__law_are_refused) (by decide +kernel)) (fun _ _ _ _ _ => (pg_name (i := 7) sc__law_are_refused.nd rfl (by first | exact Or.inl rfl | exact Or.inr rfl))) (fun pins σL s0 H0 C cl ob J z => (pts_one (pt_cmpR (op_neD hu64) (pe_word (k := 5) (sel := fun _ => σL) (known_blk J z) rfl T.g__law_word T.F__law_word.kp lkw hcw bnw sc__law_word rfl (.inl rfl) (fun q => gives__law_word T rfl rfl rfl rfl rfl q) (hr.mono (by decide)) (pv 7)) (pe_tup (pa_cons pe_str (pa_cons pe_int pa_nil))) (nomark _)))) (fun pins σL s0 H0 C cl ob J z => (pv 7))) (pe_lst pa_nil) (nomark _))
      (pss_one (ps_ret pe_bl))
      pss_nil))
    (pss_cons (ps_set (i := 6) sc__law_are_refused.nd rfl (by first | exact Or.inl rfl | exact Or.inr rfl) (pe_lst (pa_cons (pe_lamF (T := T.tl) TB rfl T.tm__law_are_refused T.tu__law_are_refused (NdefX.ndef_free (fr := []) (by show NdefX.ndefB (defScope s__law_are_refused) _ [] = true; decide +kernel)) rfl) (pa_cons (pe_lamD (T := T.tl) TB rfl T.tm__law_are_refused T.tu__law_are_refused (NdefX.ndef_free (fr := []) (by show NdefX.ndefB (defScope s__law_are_refused) _ [] = true; decide +kernel)) rfl rfl) pa_nil))))
    (pss_cons (ps_expr (pe_bm PySem.F.plainAttrs_list PySem.F.slot_list_append PySem.F.type_list_append mt_append (pv 6) (pa_cons (pe_lamD (T := T.tl) TB rfl T.tm__law_are_refused T.tu__law_are_refused (NdefX.ndef_free (fr := []) (by show NdefX.ndefB (defScope s__law_are_refused) _ [] = true; decide +kernel)) rfl rfl) pa_nil)))
    (pss_cons (ps_cut (ps_if (pt_cmpR (op_neD hu64) (pe_lcK (own := [("_law_work", 7)]) (g := (gName 7)) (tt := fun σL => tYes) (te := fun σL => (tWordX (cxOf CX0 P w K mg base N__law_are_refused "_law_are_refused" (defScope s__law_are_refused) T.a__law_are_refused (.ref T.lC__law_are_refused) A outer s H E).nox 5 (fun _ => σL) (tW T) (tVar 7))) rfl sc__law_are_refused.nd (pi_list (pv 6)) (blkOk_by (own := [("_law_work", 7)]) (N := N__law_are_refused) (sc := defScope s__law_are_refused) (by decide +kernel)) (fun _ _ _ _ _ => (pg_name (i := 7) sc__law_are_refused.nd rfl (by first | exact Or.inl rfl | exact Or.inr rfl))) (fun pins σL s0 H0 C cl ob J z => pts_nil) (fun pins σL s0 H0 C cl ob J z => (pe_word (k := 5) (sel := fun _ => σL) (known_blk J z) rfl T.g__law_word T.F__law_word.kp lkw hcw bnw sc__law_word rfl (.inl rfl) (fun q => gives__law_word T rfl rfl rfl rfl rfl q) (hr.mono (by decide)) (pv 7)))) (pe_lst (pa_cons (pe_tup (pa_cons pe_str (pa_cons pe_int pa_nil))) (pa_cons (pe_tup (pa_cons pe_str (pa_cons pe_int pa_nil))) (pa_cons (pe_tup (pa_cons pe_str (pa_cons pe_int pa_nil))) pa_nil)))) (nomark _))
      (pss_one (ps_ret pe_bl))
      pss_nil))
    (pss_one (ps_ret (pe_call G__law_alike (hr.mono (by decide)) rfl T.g__law_alike T.F__law_alike.kp T.b__law_alike .nil pass0 (pa_cons (pe_cut (pe_lst (pa_cons (pe_meth0 (pv 1) T.cl_Line T.m_Line_log G_Line_log (hr.mono (by decide)) T.b_Line_log .nil pass0) (pa_cons (pe_meth (pv 1) T.cl_Line T.m_Line_got G_Line_got (hr.mono (by decide)) T.b_Line_got .nil passL (pa_cons pe_int pa_nil)) (pa_cons (pe_meth (pv 1) T.cl_Line T.m_Line_left G_Line_left (hr.mono (by decide)) T.b_Line_left .nil passL (pa_cons pe_int pa_nil)) pa_nil))))) (pa_cons (pv 5) pa_nil))))))))))))))), ?_⟩
    have z0 : 0 ≤ sizeLine := Nat.zero_le _
    refine ⟨_, rfl, _, _, rfl, rfl, ⟨by decide, by decide, by decide⟩, d, _, rfl, I0.W.D, by decide, by decide, fun x' H2 x0 x1 D2 f2 => ?_⟩
    refine ⟨_, _, rfl, rfl, _, _, rfl, ?_⟩
    obtain ⟨far, efar, far0⟩ : ∃ far : Int, (if x' - 500000 > 0 then x' - 500000 else 0) = far ∧ 0 ≤ far := ⟨_, rfl, by split <;> omega⟩
    rw [efar]
    have I2 := I0.dice D2 f2
    -- another end
    refine ⟨fun σ' H' => ∃ (v : V) (dd : PyData), σ' = [some (V.ref d), some (.ref x.o), some (.int far), some v, none, none, none, none] ∧ Im H' v dd ∧ between dd 0 1 = false ∧ (∀ ds, dd ≠ .list ds) ∧ IR T Z ρ H' d x sk, ?_, ?_⟩
    · refine ⟨_, rfl, _, _, rfl, rfl, _, rfl, _, rfl, _, rfl, _, _, rfl, rfl, (by show 7 ≤ sizeLine; decide), fun l hl => ?_⟩
      have s3 := Same.upd_new (o := .lst [.int 2, .int (2 + far), .int (-1), .int (-1 - far), .bl true, .non, .str "0"]) hl
      have q3 := upd_same (H := H2) (a := l) (o := .lst [.int 2, .int (2 + far), .int (-1), .int (-1 - far), .bl true, .non, .str "0"])
      have nl := I2.W.D.ne_new hl
      generalize upd H2 l (.lst [.int 2, .int (2 + far), .int (-1), .int (-1 - far), .bl true, .non, .str "0"]) = H3 at s3 q3 ⊢
      have I3 := I2.same s3
      refine ⟨_, rfl, d, 7, rfl, I3.W.D, by decide, by decide, fun j H4 j0 j7 D4 f4 => ?_⟩
      have q4 := f4 _ _ q3 (by simp [nl])
      obtain ⟨v, dd, hat, im, hb, nls⟩ : ∃ v dd, atI [V.int 2, .int (2 + far), .int (-1), .int (-1 - far), .bl true, .non, .str "0"] j = some v ∧ Im H4 v dd ∧ between dd 0 1 = false ∧ ∀ ds, dd ≠ .list ds := by
        have : j = 0 ∨ j = 1 ∨ j = 2 ∨ j = 3 ∨ j = 4 ∨ j = 5 ∨ j = 6 := by omega
        rcases this with rfl | rfl | rfl | rfl | rfl | rfl | rfl
        · exact ⟨_, _, rfl, .int _, rfl, fun ds z => by cases z⟩
        · exact ⟨_, _, rfl, .int _, by simp [between]; omega, fun ds z => by cases z⟩
        · exact ⟨_, _, rfl, .int _, rfl, fun ds z => by cases z⟩
        · exact ⟨_, _, rfl, .int _, by simp [between]; omega, fun ds z => by cases z⟩
        · exact ⟨_, _, rfl, .bl _, rfl, fun ds z => by cases z⟩
        · exact ⟨_, _, rfl, .non, rfl, fun ds z => by cases z⟩
        · exact ⟨_, _, rfl, .str _, rfl, fun ds z => by cases z⟩
      exact ⟨l, _, j, _, rfl, rfl, SqL.of q4, hat, v, dd, rfl, im, hb, nls, I3.dice D4 f4⟩
    rintro σ' H3 ⟨ov, od, rfl, imo, hbo, nlo, I3⟩
    -- bad manners
    refine ⟨fun σ' H' => ∃ (v : V) (dd : PyData), σ' = [some (V.ref d), some (.ref x.o), some (.int far), some ov, some v, none, none, none] ∧ Im H' v dd ∧ isMan dd = false ∧ mdat dd ∧ IR T Z ρ H' d x sk ∧ Im H' ov od, ?_, ?_⟩
    · refine ⟨z0, fun t1 h1 => ⟨(by show 1 ≤ sizeLine; decide), fun t2 h2 => ⟨(by show 2 ≤ sizeLine; decide), fun t3 h3 => ⟨(by show 3 ≤ sizeLine; decide), fun t4 h4 => ⟨(by show 6 ≤ sizeLine; decide), fun l hl => ?_⟩⟩⟩⟩⟩
      have s4 := Same.upd_new (o := .tup []) h1
      have q4 := upd_same (H := H3) (a := t1) (o := .tup [])
      generalize upd H3 t1 (.tup []) = H4 at s4 q4 h2 h3 h4 hl ⊢
      have s5 := Same.upd_new (o := .tup [.int 1]) h2
      have q5 := upd_same (H := H4) (a := t2) (o := .tup [.int 1])
      generalize upd H4 t2 (.tup [.int 1]) = H5 at s5 q5 h3 h4 hl ⊢
      have s6 := Same.upd_new (o := .tup [.int 0, .int 10]) h3
      have q6 := upd_same (H := H5) (a := t3) (o := .tup [.int 0, .int 10])
      generalize upd H5 t3 (.tup [.int 0, .int 10]) = H6 at s6 q6 h4 hl ⊢
      have s7 := Same.upd_new (o := .tup [.int 0, .int 2, .int 2]) h4
      have q7 := upd_same (H := H6) (a := t4) (o := .tup [.int 0, .int 2, .int 2])
      generalize upd H6 t4 (.tup [.int 0, .int 2, .int 2]) = H7 at s7 q7 hl ⊢
      have s8 := Same.upd_new (o := .lst [.ref t1, .ref t2, .ref t3, .ref t4, .int 0, .non]) hl
      have q8 := upd_same (H := H7) (a := l) (o := .lst [.ref t1, .ref t2, .ref t3, .ref t4, .int 0, .non])
      have s38 := (((s4.trans s5).trans s6).trans s7).trans s8
      have s58 := ((s6).trans s7).trans s8
      have s48 := s5.trans s58
      have s68 := s7.trans s8
      have nl := (I3.same (((s4.trans s5).trans s6).trans s7)).W.D.ne_new hl
      generalize upd H7 l (.lst [.ref t1, .ref t2, .ref t3, .ref t4, .int 0, .non]) = H8 at s8 q8 s38 s58 s48 s68 ⊢
      have I8 := I3.same s38
      refine ⟨_, rfl, d, 6, rfl, I8.W.D, by decide, by decide, fun j H9 j0 j6 D9 f9 => ?_⟩
      have q9 := f9 _ _ q8 (by simp [nl])
      have md : ∀ {ns : List Int}, ns.length ≤ 60 → mdat (.tuple (ns.map .int)) := mdat_ints
      obtain ⟨v, dd, hat, im, hb, hm⟩ : ∃ v dd, atI [V.ref t1, .ref t2, .ref t3, .ref t4, .int 0, .non] j = some v ∧ Im H9 v dd ∧ isMan dd = false ∧ mdat dd := by
        have : j = 0 ∨ j = 1 ∨ j = 2 ∨ j = 3 ∨ j = 4 ∨ j = 5 := by omega
        rcases this with rfl | rfl | rfl | rfl | rfl | rfl
        · exact ⟨_, _, rfl, .tup (f9.tups _ _ (s48 _ _ q4)) .nil, rfl, md (ns := []) (by decide)⟩
        · exact ⟨_, .tuple [.int 1], rfl, .tup (f9.tups _ _ (s58 _ _ q5)) (im_ints [1]), rfl, md (ns := [1]) (by decide)⟩
        · exact ⟨_, .tuple [.int 0, .int 10], rfl, .tup (f9.tups _ _ (s68 _ _ q6)) (im_ints [0, 10]), rfl, md (ns := [0, 10]) (by decide)⟩
        · exact ⟨_, .tuple [.int 0, .int 2, .int 2], rfl, .tup (f9.tups _ _ (s8 _ _ q7)) (im_ints [0, 2, 2]), rfl, md (ns := [0, 2, 2]) (by decide)⟩
        · exact ⟨_, _, rfl, .int 0, rfl, trivial⟩
        · exact ⟨_, _, rfl, .non, rfl, trivial⟩
      exact ⟨l, _, j, _, rfl, rfl, SqL.of q9, hat, v, dd, rfl, im, hb, hm, I8.dice D9 f9, (imo.same s38).frm f9⟩
    rintro σ' H4 ⟨bv, bd, rfl, imb, hbb, mdb, I4, imo⟩
    -- what stands ahead
    have tells : ∀ {H5 : Hp} (Q' : VK), IR T Z ρ H5 d x sk → (∀ (A l1 l2 : Addr) (H6 : Hp), H5 A = none → H5 l1 = none → H5 l2 = none → Same H5 H6 → Ah H6 A l1 l2 sk → Q' (.ref A) H6) →
        ∀ (v3 v4 v5 v6 v7 : Option V), tLst (tCons (tMeth T.C_Line "log" (sp_Line_log T) [] E0 (tVar 1) tNil) (tCons (tMeth T.C_Line "got" (sp_Line_got T) [] E0 (tVar 1) (tCons (tC (.int 0)) tNil)) (tCons (tMeth T.C_Line "left" (sp_Line_left T) [] E0 (tVar 1) (tCons (tC (.int 1)) tNil)) tNil))) [some (V.ref d), some (.ref x.o), some (.int far), v3, v4, v5, v6, v7] H5 Q' := by
      intro H5 Q' I5 hk v3 v4 v5 v6 v7
      obtain ⟨dx, hob⟩ := I5.X.ob
      refine ⟨_, rfl, x.o, dx, _, rfl, hob, zip_no (N := liN) (by decide +kernel), Z, x, sk, rfl, I5.X, fun l1 xs hl1 hA1 => ?_⟩
      have s6 := Same.upd_new (o := .lst xs) hl1
      have q6 := upd_same (H := H5) (a := l1) (o := .lst xs)
      generalize upd H5 l1 (.lst xs) = H6 at s6 q6 ⊢
      have I6 := I5.same s6
      refine ⟨_, rfl, x.o, dx, _, rfl, s6 _ _ hob, zip_no (N := liN) (by decide +kernel), Z, x, sk, _, _, rfl, I6.X, .int 0, (fun ds z => by cases z), (fun z => by cases z), fun e ee _ l2 hl2 => ?_⟩
      cases ee
      have eg : (if (0 : Int) = 0 then sk.a.got else sk.b.got) = sk.a.got := rfl
      rw [eg]
      have s7 := Same.upd_new (o := .lst (sk.a.got.map V.int)) hl2
      have q7 : (upd H6 l2 (.lst (sk.a.got.map V.int))) l2 = some (.lst (sk.a.got.map V.int)) := upd_same
      generalize upd H6 l2 (.lst (sk.a.got.map V.int)) = H7 at s7 q7 ⊢
      have I7 := I6.same s7
      have s57 := s6.trans s7
      refine ⟨_, rfl, x.o, dx, _, rfl, s57 _ _ hob, zip_no (N := liN) (by decide +kernel), Z, x, sk, _, _, rfl, I7.X, .int 1, (fun ds z => by cases z), (fun z => by cases z), fun e ee _ => ⟨(by show 3 ≤ sizeLine; decide), fun A hA => ?_⟩⟩
      cases ee
      have s8 := Same.upd_new (o := .lst [.ref l1, .ref l2, .int (sk.b.wait.length : Nat)]) hA
      have s58 := s57.trans s8
      exact hk A l1 l2 _ ((Frm.of_same (S := []) s57).free hA) hl1 ((Frm.of_same (S := []) s6).free hl2) s58 ⟨upd_same, ⟨xs, s8 _ _ (s7 _ _ q6), hA1.same s58⟩, s8 _ _ q7⟩
    refine ⟨fun v H' => ∃ A l1 l2, v = .ref A ∧ H4 A = none ∧ H4 l1 = none ∧ H4 l2 = none ∧ Same H4 H' ∧ Ah H' A l1 l2 sk, tells _ I4 (fun A l1 l2 H5 g0 g1 g2 s5 A5 => ⟨A, l1, l2, rfl, g0, g1, g2, s5, A5⟩) _ _ _ _ _, ?_⟩
    rintro _ H5 ⟨A1, l1, l2, rfl, g0, g1, g2, s5, A5⟩
    have I5 := I4.same s5
    have imb5 := imb.same s5
    have imo5 := imo.same s5
    -- works at another end
    refine ⟨I5.W.tb, fun h1 c1 H6 e6 tb6 f6 h1n h1H c1H => ⟨tb6, fun z2 h2 c2 H7 e7 tb7 f7 h2n z2H h2H c2H => ⟨(by show 2 ≤ sizeLine; decide), fun W1 hW1 => ?_⟩⟩⟩
    have I7 := (I5.lam tb6 f6).lam tb7 f7
    have s8 := Same.upd_new (o := .lst [.ref h1, .ref h2]) hW1
    have q8 := upd_same (H := H7) (a := W1) (o := .lst [.ref h1, .ref h2])
    generalize upd H7 W1 (.lst [.ref h1, .ref h2]) = H8 at s8 q8 ⊢
    have I8 := I7.same s8
    refine ⟨_, rfl, I8.W.tb, fun z3 h3 c3 H9 e9 tb9 f9 h3n z3H h3H c3H => ⟨tb9, fun z4 h4 c4 H10 e10 tb10 f10 h4n z4H h4H c4H => ⟨tb10, fun z5 h5 c5 H11 e11 tb11 f11 h5n z5H h5H c5H => ⟨(by show 3 ≤ sizeLine; decide), fun W2 hW2 => ?_⟩⟩⟩⟩
    have I11 := ((I8.lam tb9 f9).lam tb10 f10).lam tb11 f11
    have s12 := Same.upd_new (o := .lst [.ref h3, .ref h4, .ref h5]) hW2
    have q12 := upd_same (H := H11) (a := W2) (o := .lst [.ref h3, .ref h4, .ref h5])
    generalize upd H11 W2 (.lst [.ref h3, .ref h4, .ref h5]) = H12 at s12 q12 ⊢
    have e811 : LamX.ExtN H8 H11 := (e9.trans e10).trans e11
    refine ⟨W1, W2, _, _, rfl, rfl, s12 _ _ (e811 _ _ q8 lst_ne), q12, (by show 2 + 3 ≤ sizeLine; decide), fun W hW => ?_⟩
    have s13 := Same.upd_new (o := .lst ([.ref h1, .ref h2] ++ [.ref h3, .ref h4, .ref h5])) hW
    have q13 : (upd H12 W (.lst ([.ref h1, .ref h2] ++ [.ref h3, .ref h4, .ref h5]))) W = some (.lst [.ref h1, .ref h2, .ref h3, .ref h4, .ref h5]) := upd_same
    generalize upd H12 W (.lst ([.ref h1, .ref h2] ++ [.ref h3, .ref h4, .ref h5])) = H13 at s13 q13 ⊢
    have s1113 := s12.trans s13
    have e1113 : LamX.ExtN H11 H13 := .of s1113
    have e813 := e811.trans e1113
    have e713 : LamX.ExtN H7 H13 := (LamX.ExtN.of s8).trans e813
    have e613 := e7.trans e713
    have e513 := e6.trans e613
    have e913 := (e10.trans e11).trans e1113
    have e1013 := e11.trans e1113
    have I13 := I11.same s1113
    have h1H := e613 _ _ h1H lamAt_ne
    have c1H := e613 _ _ c1H LamX.codeO_ne
    have h2H := e713 _ _ h2H lamAt_ne
    have c2H := e713 _ _ c2H LamX.codeO_ne
    have z2H := e713 _ _ z2H tup_ne
    have h3H := e913 _ _ h3H lamAt_ne
    have c3H := e913 _ _ c3H LamX.codeO_ne
    have z3H := e913 _ _ z3H tup_ne
    have h4H := e1013 _ _ h4H lamAt_ne
    have c4H := e1013 _ _ c4H LamX.codeO_ne
    have z4H := e1013 _ _ z4H tup_ne
    have h5H := e1113 _ _ h5H lamAt_ne
    have c5H := e1113 _ _ c5H LamX.codeO_ne
    have z5H := e1113 _ _ z5H tup_ne
    have A13 := A5.ext e513
    have imb13 := imb5.ext e513
    have imo13 := imo5.ext e513
    -- no such end
    have rE : ∀ {cls : Value} {d' : Option Addr} {H' : Hp}, cls = .ref T.C_BadEnd → d' = none → WordAt K [T.C_BadManners, T.C_BadCount, T.C_BadPart, T.C_BadItem, T.C_Full, T.C_BadLog, T.C_BadText, T.C_BadEnd, T.C_BadStep] T.C_LineError cls d' H' 7 0 := fun h1 h2 => by
      subst h1 h2
      exact word_plain T.wk_BadEnd (by decide) (by decide) (by decide) (by decide)
    refine ⟨fun σ' H' => σ' = [some (V.ref d), some (.ref x.o), some (.int far), some ov, some bv, some (.ref A1), some (.ref W), none] ∧ Same H13 H', ?_, ?_⟩
    · refine ⟨_, rfl, W, rfl, ⟨_, SqL.of q13⟩, fun D hD => ?_⟩
      have sD := Same.upd_new (o := .lst []) hD
      refine lc_list (K := K) (a := W) (xs := [.ref h1, .ref h2, .ref h3, .ref h4, .ref h5]) (fun i H' => Same H13 H' ∧ H' D = some (.lst [])) ⟨sD, upd_same⟩ (fun i H' _ h => SqL.of (h.1 _ _ q13)) ?_ ?_
      · rintro i v H18 hi ⟨s18, hD18⟩
        have hi5 : i < 5 := (List.getElem?_eq_some_iff.mp hi).1
        have I18 := I13.same s18
        obtain ⟨dx, hob⟩ := I18.X.ob
        have imo18 := imo13.same s18
        have nob : ∀ {e : Int}, od = .int e → (e = 0 ∨ e = 1) → False := fun h1 h2 => by
          subst h1
          rcases h2 with rfl | rfl <;> cases hbo
        have : i = 0 ∨ i = 1 ∨ i = 2 ∨ i = 3 ∨ i = 4 := by omega
        rcases this with rfl | rfl | rfl | rfl | rfl
        · cases hi
          refine ⟨rfl, _, rfl, h1, _, rfl, ready_of (js := [3, 4, 1]) (s18 _ _ h1H) (s18 _ _ c1H) (fun t z => by cases z) (lok_of (P := P) (w := w) (mg := mg) (base := base) (k := 4) (fr := ["_law_odd", "_law_bad", "_law_line_here"]) (N := ["_law_odd", "_law_bad", "_law_line_here"]) (ps := []) (vs := []) (tb := fun E => (tMeth T.C_Line "let_pass" _ [] E (tVar 2) (tCons (tVar 0) (tCons (tVar 1) tNil)))) (NdefX.nscope_by (by dsimp only; decide +kernel)) rfl (fun s doc pm ctv _ => ⟨[], .nil, .of_eq rfl⟩) (fun A outer s H E hr => (pe_meth (pv 2) T.cl_Line T.m_Line_let_pass G_Line_let_pass (hr.mono (by decide)) T.b_Line_let_pass .nil pass_ncx (pa_cons (pv 0) (pa_cons (pv 1) pa_nil))))) ⟨rfl, NdefX.ndef_free (fr := []) (by show NdefX.ndefB (defScope s__law_are_refused) _ [] = true; dsimp only; decide +kernel), NdefX.ndef_fr (sc := defScope s__law_are_refused) (by dsimp only; decide +kernel), rfl⟩, fun cls d' H' => cls = .ref T.C_BadEnd ∧ d' = none ∧ H' = H18, ?_, ?_⟩
          · exact ⟨s18 _ _ h1H, (fun t z => by cases z), _, rfl, x.o, dx, _, rfl, hob, zip_no (N := liN) (by decide +kernel), _, rfl, _, rfl, Z, x, sk, ov, bv, od, bd, rfl, I18.X, I18.all, imo18.dp, nlo, imb13.same s18, mdb, (fun _ => ⟨rfl, rfl, rfl⟩), (fun z => by rw [hbo] at z; cases z), fun e ms e1 _ e3 _ => (nob e1 e3).elim⟩
          · rintro cls d' H' ⟨hc1, hc2, rfl⟩
            exact ⟨7, 0, rE hc1 hc2, fun u H3 s3 hu => ⟨(by show 2 ≤ sizeLine; decide), fun t ht => ne_word ht hu (by decide +kernel) fun H' s' => ⟨false, rfl, iteF ⟨(s18.trans s3).trans s', s' _ _ (s3 _ _ hD18)⟩⟩⟩⟩
        · cases hi
          refine ⟨rfl, _, rfl, h2, _, rfl, ready_of (js := [3, 1]) (s18 _ _ h2H) (s18 _ _ c2H) (fun t z => by cases z; exact s18 _ _ z2H) (lok_of (P := P) (w := w) (mg := mg) (base := base) (k := 4) (fr := ["_law_odd", "_law_line_here"]) (N := ["_law_a", "_law_odd", "_law_line_here"]) (ps := ["_law_a"]) (vs := [.int 0]) (tb := fun E => (tMeth T.C_Line "send" _ [] E (tVar 2) (tCons (tVar 1) (tCons (tUn (rU fun i => .int (-i)) (tC (.int 1))) tNil)))) (NdefX.nscope_by (by dsimp only; decide +kernel)) rfl (fun s doc pm ctv h => by obtain ⟨u, ⟨o, ho, _, n, hd⟩, ru⟩ := h _ rfl; exact ⟨[u], .cons ru .nil, BindsTo.of_defaults rfl ho hd rfl rfl⟩) (fun A outer s H E hr => (pe_meth (pv 2) T.cl_Line T.m_Line_send G_Line_send (hr.mono (by decide)) T.b_Line_send .nil pass_ncx (pa_cons (pv 1) (pa_cons (pe_un un_neg pe_int) pa_nil))))) ⟨rfl, NdefX.ndef_free (fr := []) (by show NdefX.ndefB (defScope s__law_are_refused) _ [] = true; dsimp only; decide +kernel), NdefX.ndef_fr (sc := defScope s__law_are_refused) (by dsimp only; decide +kernel), rfl⟩, fun cls d' H' => cls = .ref T.C_BadEnd ∧ d' = none ∧ H' = H18, ?_, ?_⟩
          · exact ⟨s18 _ _ h2H, (fun t z => by cases z; exact s18 _ _ z2H), _, rfl, x.o, dx, _, rfl, hob, zip_no (N := liN) (by decide +kernel), _, rfl, _, rfl, Z, x, sk, ov, .int (-1), od, .int (-1), rfl, I18.X, I18.all, imo18.dp, nlo, .int _, (fun ds z => by cases z), wa, wb, (fun _ => ⟨rfl, rfl, rfl⟩), (fun z => by rw [hbo] at z; cases z), (fun e e1 e3 => (nob e1 e3).elim), fun e i e1 _ e3 => (nob e1 e3).elim⟩
          · rintro cls d' H' ⟨hc1, hc2, rfl⟩
            exact ⟨7, 0, rE hc1 hc2, fun u H3 s3 hu => ⟨(by show 2 ≤ sizeLine; decide), fun t ht => ne_word ht hu (by decide +kernel) fun H' s' => ⟨false, rfl, iteF ⟨(s18.trans s3).trans s', s' _ _ (s3 _ _ hD18)⟩⟩⟩⟩
        · cases hi
          refine ⟨rfl, _, rfl, h3, _, rfl, ready_of (js := [3, 1, 2]) (s18 _ _ h3H) (s18 _ _ c3H) (fun t z => by cases z; exact s18 _ _ z3H) (lok_of (P := P) (w := w) (mg := mg) (base := base) (k := 4) (fr := ["_law_odd", "_law_line_here", "_law_far"]) (N := ["_law_b", "_law_odd", "_law_line_here", "_law_far"]) (ps := ["_law_b"]) (vs := [.int 0]) (tb := fun E => (tMeth T.C_Line "lose" _ [] E (tVar 2) (tCons (tOp (rI (fun _ j => 0 < j) fun i j => .int (i % j)) (tVar 3) (tC (.int 2))) (tCons (tVar 1) tNil)))) (NdefX.nscope_by (by dsimp only; decide +kernel)) rfl (fun s doc pm ctv h => by obtain ⟨u, ⟨o, ho, _, n, hd⟩, ru⟩ := h _ rfl; exact ⟨[u], .cons ru .nil, BindsTo.of_defaults rfl ho hd rfl rfl⟩) (fun A outer s H E hr => (pe_meth (pv 2) T.cl_Line T.m_Line_lose G_Line_lose (hr.mono (by decide)) T.b_Line_lose .nil pass_ncx (pa_cons (pe_op op_mod (pv 3) pe_int) (pa_cons (pv 1) pa_nil))))) ⟨rfl, NdefX.ndef_free (fr := []) (by show NdefX.ndefB (defScope s__law_are_refused) _ [] = true; dsimp only; decide +kernel), NdefX.ndef_fr (sc := defScope s__law_are_refused) (by dsimp only; decide +kernel), rfl⟩, fun cls d' H' => cls = .ref T.C_BadEnd ∧ d' = none ∧ H' = H18, ?_, ?_⟩
          · have f2 : between (.int (far % 2)) 0 1 = true := by
              have : far % 2 = 0 ∨ far % 2 = 1 := by omega
              rcases this with q | q <;> rw [q] <;> rfl
            exact ⟨s18 _ _ h3H, (fun t z => by cases z; exact s18 _ _ z3H), _, rfl, x.o, dx, _, rfl, hob, zip_no (N := liN) (by decide +kernel), _, rfl, _, _, rfl, rfl, (by show (0 : Int) < 2; decide), _, rfl, Z, x, sk, .int (far % 2), ov, .int (far % 2), od, rfl, I18.X, I18.all, .int _, (fun ds z => by cases z), imo18.dp, nlo, (fun z => by rw [f2] at z; cases z), (fun _ _ => ⟨rfl, rfl, rfl⟩), fun p e _ e1 _ e3 => (nob e1 e3).elim⟩
          · rintro cls d' H' ⟨hc1, hc2, rfl⟩
            exact ⟨7, 0, rE hc1 hc2, fun u H3 s3 hu => ⟨(by show 2 ≤ sizeLine; decide), fun t ht => ne_word ht hu (by decide +kernel) fun H' s' => ⟨false, rfl, iteF ⟨(s18.trans s3).trans s', s' _ _ (s3 _ _ hD18)⟩⟩⟩⟩
        · cases hi
          refine ⟨rfl, _, rfl, h4, _, rfl, ready_of (js := [3, 1]) (s18 _ _ h4H) (s18 _ _ c4H) (fun t z => by cases z; exact s18 _ _ z4H) (lok_of (P := P) (w := w) (mg := mg) (base := base) (k := 4) (fr := ["_law_odd", "_law_line_here"]) (N := ["_law_c", "_law_odd", "_law_line_here"]) (ps := ["_law_c"]) (vs := [.int 0]) (tb := fun E => (tMeth T.C_Line "got" _ [] E (tVar 2) (tCons (tVar 1) tNil))) (NdefX.nscope_by (by dsimp only; decide +kernel)) rfl (fun s doc pm ctv h => by obtain ⟨u, ⟨o, ho, _, n, hd⟩, ru⟩ := h _ rfl; exact ⟨[u], .cons ru .nil, BindsTo.of_defaults rfl ho hd rfl rfl⟩) (fun A outer s H E hr => (pe_meth (pv 2) T.cl_Line T.m_Line_got G_Line_got (hr.mono (by decide)) T.b_Line_got .nil pass_ncx (pa_cons (pv 1) pa_nil)))) ⟨rfl, NdefX.ndef_free (fr := []) (by show NdefX.ndefB (defScope s__law_are_refused) _ [] = true; dsimp only; decide +kernel), NdefX.ndef_fr (sc := defScope s__law_are_refused) (by dsimp only; decide +kernel), rfl⟩, fun cls d' H' => cls = .ref T.C_BadEnd ∧ d' = none ∧ H' = H18, ?_, ?_⟩
          · exact ⟨s18 _ _ h4H, (fun t z => by cases z; exact s18 _ _ z4H), _, rfl, x.o, dx, _, rfl, hob, zip_no (N := liN) (by decide +kernel), _, rfl, Z, x, sk, ov, od, rfl, I18.X, imo18.dp, nlo, (fun _ => ⟨rfl, rfl, rfl⟩), fun e e1 e3 => (nob e1 e3).elim⟩
          · rintro cls d' H' ⟨hc1, hc2, rfl⟩
            exact ⟨7, 0, rE hc1 hc2, fun u H3 s3 hu => ⟨(by show 2 ≤ sizeLine; decide), fun t ht => ne_word ht hu (by decide +kernel) fun H' s' => ⟨false, rfl, iteF ⟨(s18.trans s3).trans s', s' _ _ (s3 _ _ hD18)⟩⟩⟩⟩
        · cases hi
          refine ⟨rfl, _, rfl, h5, _, rfl, ready_of (js := [3, 1]) (s18 _ _ h5H) (s18 _ _ c5H) (fun t z => by cases z; exact s18 _ _ z5H) (lok_of (P := P) (w := w) (mg := mg) (base := base) (k := 4) (fr := ["_law_odd", "_law_line_here"]) (N := ["_law_e", "_law_odd", "_law_line_here"]) (ps := ["_law_e"]) (vs := [.int 0]) (tb := fun E => (tMeth T.C_Line "left" _ [] E (tVar 2) (tCons (tVar 1) tNil))) (NdefX.nscope_by (by dsimp only; decide +kernel)) rfl (fun s doc pm ctv h => by obtain ⟨u, ⟨o, ho, _, n, hd⟩, ru⟩ := h _ rfl; exact ⟨[u], .cons ru .nil, BindsTo.of_defaults rfl ho hd rfl rfl⟩) (fun A outer s H E hr => (pe_meth (pv 2) T.cl_Line T.m_Line_left G_Line_left (hr.mono (by decide)) T.b_Line_left .nil pass_ncx (pa_cons (pv 1) pa_nil)))) ⟨rfl, NdefX.ndef_free (fr := []) (by show NdefX.ndefB (defScope s__law_are_refused) _ [] = true; dsimp only; decide +kernel), NdefX.ndef_fr (sc := defScope s__law_are_refused) (by dsimp only; decide +kernel), rfl⟩, fun cls d' H' => cls = .ref T.C_BadEnd ∧ d' = none ∧ H' = H18, ?_, ?_⟩
          · exact ⟨s18 _ _ h5H, (fun t z => by cases z; exact s18 _ _ z5H), _, rfl, x.o, dx, _, rfl, hob, zip_no (N := liN) (by decide +kernel), _, rfl, Z, x, sk, ov, od, rfl, I18.X, imo18.dp, nlo, (fun _ => ⟨rfl, rfl, rfl⟩), fun e e1 e3 => (nob e1 e3).elim⟩
          · rintro cls d' H' ⟨hc1, hc2, rfl⟩
            exact ⟨7, 0, rE hc1 hc2, fun u H3 s3 hu => ⟨(by show 2 ≤ sizeLine; decide), fun t ht => ne_word ht hu (by decide +kernel) fun H' s' => ⟨false, rfl, iteF ⟨(s18.trans s3).trans s', s' _ _ (s3 _ _ hD18)⟩⟩⟩⟩
      · rintro H18 ⟨s18, hD18⟩
        refine ⟨z0, fun e he => ?_⟩
        have s19 := Same.upd_new (o := .lst []) he
        exact ⟨.list [], .list [], .lst (SqL.of (s19 _ _ hD18)) .nil, .lst (SqL.of upd_same) .nil, rfl, rfl, false, rfl, iteF ⟨rfl, s18.trans s19⟩⟩
    rintro σ' H14 ⟨rfl, s14⟩
    have I14 := I13.same s14
    have A14 := A13.same s14
    have imb14 := imb13.same s14
    have imo14 := imo13.same s14
    clear I13 A13 imb13 imo13 I11 I8 I7
    -- other bad things
    refine ⟨I14.W.tb, fun g1' c1' H15 e15 tb15 f15 g1n g1H c1H' => ⟨tb15, fun z2' g2' c2' H16 e16 tb16 f16 g2n z2H' g2H c2H' => ⟨(by show 2 ≤ sizeLine; decide), fun V1 hV1 => ?_⟩⟩⟩
    have I16 := (I14.lam tb15 f15).lam tb16 f16
    have s17 := Same.upd_new (o := .lst [.ref g1', .ref g2']) hV1
    have q17 := upd_same (H := H16) (a := V1) (o := .lst [.ref g1', .ref g2'])
    generalize upd H16 V1 (.lst [.ref g1', .ref g2']) = H17 at s17 q17 ⊢
    have I17 := I16.same s17
    refine ⟨_, rfl, .inl ⟨rfl, _, SqL.of q17⟩, I17.W.tb, fun z3' g3' c3' H18 e18 tb18 f18 g3n z3H' g3H c3H' => ?_⟩
    have q18 := e18 _ _ q17 lst_ne
    refine ⟨V1, _, _, rfl, rfl, q18, (by show 2 < sizeLine; decide), ?_⟩
    have A16' := (A14.ext e15).ext e16
    have fV : Frm [V1] H18 (upd H18 V1 (.lst ([.ref g1', .ref g2'] ++ [.ref g3']))) := Frm.updL q18
    have q19 : (upd H18 V1 (.lst ([.ref g1', .ref g2'] ++ [.ref g3']))) V1 = some (.lst [.ref g1', .ref g2', .ref g3']) := upd_same
    have tb19 := tabs_frm tb18 q18 fV
    have f1619 := ((Frm.of_same s17).trans f18).own hV1 fV
    have A18 := (A16'.same s17).ext e18
    have A19 := A18.frm fV (ne_of_none A16'.hA hV1) (let ⟨_, q, _⟩ := A16'.h1; ne_of_none q hV1) (ne_of_none A16'.h2 hV1)
    have nV : ∀ {z : Addr} {o : HO}, H16 z = some o → z ≠ V1 := fun e => ne_of_none e hV1
    have up : ∀ {z : Addr} {o : HO}, H16 z = some o → (∀ ps, o ≠ .tbl ps) → (upd H18 V1 (.lst ([.ref g1', .ref g2'] ++ [.ref g3']))) z = some o := fun e n => fV _ _ (e18 _ _ (s17 _ _ e) n) (by simp [nV e])
    have g1H := up (e16 _ _ g1H lamAt_ne) lamAt_ne
    have c1H := up (e16 _ _ c1H' LamX.codeO_ne) LamX.codeO_ne
    have g2H := up g2H lamAt_ne
    have c2H := up c2H' LamX.codeO_ne
    have z2H := up z2H' tup_ne
    have n3 : g3' ≠ V1 := fun e => by rw [e, q17] at g3n; cases g3n
    have n3c : c3' ≠ V1 := fun e => by
      rw [e, q18] at c3H'
      unfold LamX.CodeO at c3H'
      cases c3H'
    have g3H := fV _ _ g3H (by simp [n3])
    have c3H := fV _ _ c3H' (by simp [n3c])
    have z3H := fV.tups _ _ z3H'
    have I19 := I16.lam tb19 f1619
    have imb19 := ((imb14.ext e15).ext e16).frm f1619
    have imo19 := ((imo14.ext e15).ext e16).frm f1619
    generalize upd H18 V1 (.lst ([.ref g1', .ref g2'] ++ [.ref g3'])) = H19 at q19 A19 g1H c1H g2H c2H z2H g3H c3H z3H I19 imb19 imo19 ⊢
    refine ⟨fun σ' H' => σ' = [some (V.ref d), some (.ref x.o), some (.int far), some ov, some bv, some (.ref A1), some (.ref V1), none] ∧ Same H19 H', ?_, ?_⟩
    · have wd : ∀ w ∈ (["part", "manners", "item"] : List Str), lv 1 (.tuple [.str w, .int 0]) := fun w hw => by
        simp only [List.mem_cons, List.not_mem_nil, or_false] at hw
        rcases hw with rfl | rfl | rfl <;> exact lv_word (by decide +kernel) 0
      refine ⟨_, rfl, V1, rfl, ⟨_, SqL.of q19⟩, fun D hD => ?_⟩
      have sD := Same.upd_new (o := .lst []) hD
      have fin : ∀ (i : Nat) (w : Str) (H20 H' : Hp) (u : Addr) (xs : List V), (["part", "manners", "item"] : List Str)[i]? = some w → Same H19 H20 → H20 D = some (.lst xs) → ImAll H20 xs (((["part", "manners", "item"] : List Str).take i).map fun w => .tuple [.str w, .int 0]) → Same H20 H' → H' u = some (.tup [.str w, .int 0]) →
          ∃ acc, H' D = some (.lst acc) ∧ acc.length < sizeLine ∧ (Same H19 (upd H' D (.lst (acc ++ [.ref u]))) ∧ ∃ ys, (upd H' D (.lst (acc ++ [.ref u]))) D = some (.lst ys) ∧ ImAll (upd H' D (.lst (acc ++ [.ref u]))) ys (((["part", "manners", "item"] : List Str).take (i + 1)).map fun w => .tuple [.str w, .int 0])) := by
        intro i w H20 H' u xs hw s20 hD20 hA20 s' hu
        have hD' := s' _ _ hD20
        have hl := hA20.length
        refine ⟨xs, hD', ?_, ((Frm.of_same (s20.trans s')).own hD (Frm.updL hD')).same, _, upd_same, ?_⟩
        · rw [List.length_map] at hl
          have := List.length_take_le i (["part", "manners", "item"] : List Str)
          have := (List.getElem?_eq_some_iff.mp hw).1
          show _ < 16777216
          simp at this
          omega
        · rw [take_more hw, List.map_append]
          exact ((hA20.same s').append (.cons (im_word hu) .nil)).updL hD'
      refine lc_list (K := K) (a := V1) (xs := [.ref g1', .ref g2', .ref g3']) (fun i H' => Same H19 H' ∧ ∃ ys, H' D = some (.lst ys) ∧ ImAll H' ys (((["part", "manners", "item"] : List Str).take i).map fun w => .tuple [.str w, .int 0])) ⟨sD, [], upd_same, .nil⟩ (fun i H' _ h => SqL.of (h.1 _ _ q19)) ?_ ?_
      · rintro i v H20 hi ⟨s20, ys, hD20, hA20⟩
        have hi3 : i < 3 := (List.getElem?_eq_some_iff.mp hi).1
        have I20 := I19.same s20
        obtain ⟨dx, hob⟩ := I20.X.ob
        have imo20 := imo19.same s20
        have imb20 := imb19.same s20
        have : i = 0 ∨ i = 1 ∨ i = 2 := by omega
        rcases this with rfl | rfl | rfl
        · cases hi
          refine ⟨rfl, _, rfl, g1', _, rfl, ready_of (js := [3, 1]) (s20 _ _ g1H) (s20 _ _ c1H) (fun t z => by cases z) (lok_of (P := P) (w := w) (mg := mg) (base := base) (k := 4) (fr := ["_law_odd", "_law_line_here"]) (N := ["_law_odd", "_law_line_here"]) (ps := []) (vs := []) (tb := fun E => (tMeth T.C_Line "lose" _ [] E (tVar 1) (tCons (tVar 0) (tCons (tC (.int 5)) tNil)))) (NdefX.nscope_by (by dsimp only; decide +kernel)) rfl (fun s doc pm ctv _ => ⟨[], .nil, .of_eq rfl⟩) (fun A outer s H E hr => (pe_meth (pv 1) T.cl_Line T.m_Line_lose G_Line_lose (hr.mono (by decide)) T.b_Line_lose .nil pass_ncx (pa_cons (pv 0) (pa_cons pe_int pa_nil))))) ⟨rfl, NdefX.ndef_free (fr := []) (by show NdefX.ndefB (defScope s__law_are_refused) _ [] = true; dsimp only; decide +kernel), NdefX.ndef_fr (sc := defScope s__law_are_refused) (by dsimp only; decide +kernel), rfl⟩, fun cls d' H' => cls = .ref T.C_BadPart ∧ d' = none ∧ H' = H20, ?_, ?_⟩
          · exact ⟨s20 _ _ g1H, (fun t z => by cases z), _, rfl, x.o, dx, _, rfl, hob, zip_no (N := liN) (by decide +kernel), _, rfl, Z, x, sk, ov, .int 5, od, .int 5, rfl, I20.X, I20.all, imo20.dp, nlo, .int _, (fun ds z => by cases z), (fun _ => ⟨rfl, rfl, rfl⟩), (fun z => by rw [hbo] at z; cases z), fun p e e1 _ e3 _ => by subst e1; rcases e3 with rfl | rfl <;> cases hbo⟩
          · rintro cls d' H' ⟨rfl, rfl, rfl⟩
            exact ⟨2, 0, word_plain T.wk_BadPart (by decide) (by decide) (by decide) (by decide), fun u H3 s3 hu => fin 0 "part" _ H3 u ys rfl s20 hD20 hA20 s3 hu⟩
        · cases hi
          refine ⟨rfl, _, rfl, g2', _, rfl, ready_of (js := [4, 1]) (s20 _ _ g2H) (s20 _ _ c2H) (fun t z => by cases z; exact s20 _ _ z2H) (lok_of (P := P) (w := w) (mg := mg) (base := base) (k := 4) (fr := ["_law_bad", "_law_line_here"]) (N := ["_law_a", "_law_bad", "_law_line_here"]) (ps := ["_law_a"]) (vs := [.int 0]) (tb := fun E => (tMeth T.C_Line "let_pass" _ [] E (tVar 2) (tCons (tC (.int 1)) (tCons (tVar 1) tNil)))) (NdefX.nscope_by (by dsimp only; decide +kernel)) rfl (fun s doc pm ctv h => by obtain ⟨u, ⟨o, ho, _, n, hd⟩, ru⟩ := h _ rfl; exact ⟨[u], .cons ru .nil, BindsTo.of_defaults rfl ho hd rfl rfl⟩) (fun A outer s H E hr => (pe_meth (pv 2) T.cl_Line T.m_Line_let_pass G_Line_let_pass (hr.mono (by decide)) T.b_Line_let_pass .nil pass_ncx (pa_cons pe_int (pa_cons (pv 1) pa_nil))))) ⟨rfl, NdefX.ndef_free (fr := []) (by show NdefX.ndefB (defScope s__law_are_refused) _ [] = true; dsimp only; decide +kernel), NdefX.ndef_fr (sc := defScope s__law_are_refused) (by dsimp only; decide +kernel), rfl⟩, fun cls d' H' => cls = .ref T.C_BadManners ∧ d' = none ∧ Same H20 H', ?_, ?_⟩
          · exact ⟨s20 _ _ g2H, (fun t z => by cases z; exact s20 _ _ z2H), _, rfl, x.o, dx, _, rfl, hob, zip_no (N := liN) (by decide +kernel), _, rfl, Z, x, sk, .int 1, bv, .int 1, bd, rfl, I20.X, I20.all, .int _, (fun ds z => by cases z), imb20, mdb, (fun z => by cases z), (fun _ _ H' s' => ⟨rfl, rfl, s'⟩), fun e ms _ _ _ z => by rw [hbb] at z; cases z⟩
          · rintro cls d' H' ⟨rfl, rfl, s'⟩
            exact ⟨0, 0, word_plain T.wk_BadManners (by decide) (by decide) (by decide) (by decide), fun u H3 s3 hu => fin 1 "manners" _ H3 u ys rfl s20 hD20 hA20 (s'.trans s3) hu⟩
        · cases hi
          refine ⟨rfl, _, rfl, g3', _, rfl, ready_of (js := [1, 2]) (s20 _ _ g3H) (s20 _ _ c3H) (fun t z => by cases z; exact s20 _ _ z3H) (lok_of (P := P) (w := w) (mg := mg) (base := base) (k := 4) (fr := ["_law_line_here", "_law_far"]) (N := ["_law_b", "_law_line_here", "_law_far"]) (ps := ["_law_b"]) (vs := [.int 0]) (tb := fun E => (tMeth T.C_Line "send" _ [] E (tVar 1) (tCons (tC (.int 0)) (tCons (tOp (rIxL K) (tLst (tCons (tC (.int 1000)) (tCons (tUn (rU fun i => .int (-i)) (tC (.int 1))) tNil))) (tOp (rI (fun _ j => 0 < j) fun i j => .int (i % j)) (tVar 2) (tC (.int 2)))) tNil)))) (NdefX.nscope_by (by dsimp only; decide +kernel)) rfl (fun s doc pm ctv h => by obtain ⟨u, ⟨o, ho, _, n, hd⟩, ru⟩ := h _ rfl; exact ⟨[u], .cons ru .nil, BindsTo.of_defaults rfl ho hd rfl rfl⟩) (fun A outer s H E hr => (pe_meth (pv 1) T.cl_Line T.m_Line_send G_Line_send (hr.mono (by decide)) T.b_Line_send .nil pass_ncx (pa_cons pe_int (pa_cons (pe_ix ix_list (pe_lst (pa_cons pe_int (pa_cons (pe_un un_neg pe_int) pa_nil))) (pe_op op_mod (pv 2) pe_int) (fun _ _ => rfl)) pa_nil))))) ⟨rfl, NdefX.ndef_free (fr := []) (by show NdefX.ndefB (defScope s__law_are_refused) _ [] = true; dsimp only; decide +kernel), NdefX.ndef_fr (sc := defScope s__law_are_refused) (by dsimp only; decide +kernel), rfl⟩, fun cls d' H' => cls = .ref T.C_BadItem ∧ d' = none ∧ Same H20 H', ?_, ?_⟩
          · refine ⟨s20 _ _ g3H, (fun t z => by cases z; exact s20 _ _ z3H), _, rfl, x.o, dx, _, rfl, hob, zip_no (N := liN) (by decide +kernel), _, rfl, (by show 2 ≤ sizeLine; decide), fun l hl => ?_⟩
            have s21 := Same.upd_new (o := .lst [.int 1000, .int (-1)]) hl
            have q21 := upd_same (H := H20) (a := l) (o := .lst [.int 1000, .int (-1)])
            generalize upd H20 l (.lst [.int 1000, .int (-1)]) = H21 at s21 q21 ⊢
            have I21 := I20.same s21
            obtain ⟨it, hat, hit⟩ : ∃ it : Int, atI [V.int 1000, .int (-1)] (far % 2) = some (.int it) ∧ between (.int it) 0 999 = false := by
              have : far % 2 = 0 ∨ far % 2 = 1 := by omega
              rcases this with q | q <;> rw [q]
              · exact ⟨_, rfl, rfl⟩
              · exact ⟨_, rfl, rfl⟩
            exact ⟨_, rfl, _, _, rfl, rfl, (by show (0 : Int) < 2; decide), l, _, _, _, rfl, rfl, SqL.of q21, hat, Z, x, sk, .int 0, _, .int 0, _, rfl, I21.X, I21.all, .int _, (fun ds z => by cases z), .int it, (fun ds z => by cases z), wa, wb, (fun z => by cases z), (fun _ _ => ⟨rfl, rfl, s21⟩), (fun e _ _ z => by rw [hit] at z; cases z), fun e i _ e2 _ h0 h9 => by
              cases e2
              simp only [between, Bool.and_eq_false_iff, decide_eq_false_iff_not] at hit
              omega⟩
          · rintro cls d' H' ⟨rfl, rfl, s'⟩
            exact ⟨3, 0, word_plain T.wk_BadItem (by decide) (by decide) (by decide) (by decide), fun u H3 s3 hu => fin 2 "item" _ H3 u ys rfl s20 hD20 hA20 (s'.trans s3) hu⟩
      · rintro H20 ⟨s20, ys, hD20, hA20⟩
        refine ⟨(by show 2 ≤ sizeLine; decide), fun t1 h1 => ⟨(by show 2 ≤ sizeLine; decide), fun t2 h2 => ⟨(by show 2 ≤ sizeLine; decide), fun t3 h3 => ⟨(by show 3 ≤ sizeLine; decide), fun l hl => ?_⟩⟩⟩⟩
        have s21 := Same.upd_new (o := .tup [.str "part", .int 0]) h1
        have q21 := upd_same (H := H20) (a := t1) (o := .tup [.str "part", .int 0])
        generalize upd H20 t1 (.tup [.str "part", .int 0]) = H21 at s21 q21 h2 h3 hl ⊢
        have s22 := Same.upd_new (o := .tup [.str "manners", .int 0]) h2
        have q22 := upd_same (H := H21) (a := t2) (o := .tup [.str "manners", .int 0])
        generalize upd H21 t2 (.tup [.str "manners", .int 0]) = H22 at s22 q22 h3 hl ⊢
        have s23 := Same.upd_new (o := .tup [.str "item", .int 0]) h3
        have q23 := upd_same (H := H22) (a := t3) (o := .tup [.str "item", .int 0])
        generalize upd H22 t3 (.tup [.str "item", .int 0]) = H23 at s23 q23 hl ⊢
        have s24 := Same.upd_new (o := .lst [.ref t1, .ref t2, .ref t3]) hl
        have q24 := upd_same (H := H23) (a := l) (o := .lst [.ref t1, .ref t2, .ref t3])
        generalize upd H23 l (.lst [.ref t1, .ref t2, .ref t3]) = H24 at s24 q24 ⊢
        have s2224 := s23.trans s24
        have s2124 := s22.trans s2224
        have s2024 := s21.trans s2124
        have i1 := (im_word (s2124 _ _ q21)).dp (K := K)
        have i2 := (im_word (s2224 _ _ q22)).dp (K := K)
        have i3 := (im_word (s24 _ _ q23)).dp (K := K)
        have lvs : lv 2 (.list [.tuple [.str "part", .int 0], .tuple [.str "manners", .int 0], .tuple [.str "item", .int 0]]) := by
          refine ⟨(by show 3 ≤ 100000; decide), fun y hy => ?_⟩
          simp only [List.mem_cons, List.not_mem_nil, or_false] at hy
          rcases hy with rfl | rfl | rfl
          · exact wd "part" (by simp)
          · exact wd "manners" (by simp)
          · exact wd "item" (by simp)
        have hA : ImAll H20 ys [.tuple [.str "part", .int 0], .tuple [.str "manners", .int 0], .tuple [.str "item", .int 0]] := hA20
        exact ⟨_, _, .lst (SqL.of (s2024 _ _ hD20)) (hA.same s2024).dp, .lst (SqL.of q24) (.cons i1 (.cons i2 (.cons i3 .nil))), shaped_lv lvs (by decide), shaped_lv lvs (by decide), false, congrArg V.bl (by rw [eqv_refl lvs]; rfl), iteF ⟨rfl, s20.trans s2024⟩⟩
    rintro σ' H20 ⟨rfl, s20⟩
    have I20 := I19.same s20
    have A20 := A19.same s20
    -- all stands as ahead
    refine ⟨fun v H' => ∃ B1 k1 k2, v = .ref B1 ∧ Same H20 H' ∧ Ah H' B1 k1 k2 sk, tells _ I20 (fun B1 k1 k2 H5 _ _ _ s5 B5 => ⟨B1, k1, k2, rfl, s5, B5⟩) _ _ _ _ _, ?_⟩
    rintro _ H21 ⟨B1, k1, k2, rfl, s21, B21⟩
    have A21 := A20.same s21
    have lvt : lv 3 (.list [.list (sk.log.map rowD), .list (sk.a.got.map .int), .int (sk.b.wait.length : Nat)]) := by
      refine ⟨(by show 3 ≤ 100000; decide), fun y hy => ?_⟩
      simp only [List.mem_cons, List.not_mem_nil, or_false] at hy
      rcases hy with rfl | rfl | rfl
      · exact lv_rows (by omega)
      · exact lv_mono (lv_ints (by omega))
      · trivial
    exact ⟨_, rfl, .ref B1, .ref A1, _, rfl, B21.dp, A21.dp, lvt, fun H' _ => k H'⟩

end
end TL

namespace TL
open PySem PySem.Spec PyProof.Rows L2
section
variable {P : Program} {w : World} {K : PySem.W.Frag} {mg : Str → Option Value} {base : Heap}
theorem sayA0L {T : Txt K mg} {Z : List Addr} {H : Hp} {x : LoAd} {s : PlS} {Q : VK} (M : LoAt T.C_Line T.C_End T.C_Marks Z H x s) (ok : EndOk s.a) (hp : s.a.part = 0) (hZ : ∀ z ∈ x.all, z ∈ Z)
    (k : ∀ v H', LoAt T.C_Line T.C_End T.C_Marks Z H' x { s with a := refreshF s.a } → Im H' v (.tuple [.int 0, slowD (slowOf (refreshF s.a))]) → Frm x.all H H' → Q v H') : sp_End_say T [.ref x.a.e, .int 0] H Q E0 := by
  refine ⟨Z, x.a, s.a, .int 0, .int 0, rfl, M.ea, fun z hz => hZ z (x.a_all z hz), ok, .int 0, (fun ds z => by cases z), by omega, by omega, fun z => absurd (by rw [hp]) z, fun _ _ v H' E i f => ?_, fun _ z => by omega⟩
  obtain ⟨M', f'⟩ := M.setA E f hZ
  exact k v H' M' i f'
theorem sayA1L {T : Txt K mg} {Z : List Addr} {H : Hp} {x : LoAd} {s : PlS} {Q : VK} (M : LoAt T.C_Line T.C_End T.C_Marks Z H x s) (ok : EndOk s.a) (hp : s.a.part = 1) (hZ : ∀ z ∈ x.all, z ∈ Z)
    (k : ∀ v H', LoAt T.C_Line T.C_End T.C_Marks Z H' x s → Im H' v (.tuple [.int s.a.now, fastD (fastOf s.a)]) → Same H H' → Q v H') : sp_End_say T [.ref x.a.e, .int 1] H Q E0 := by
  refine ⟨Z, x.a, s.a, .int 1, .int 1, rfl, M.ea, fun z hz => hZ z (x.a_all z hz), ok, .int 1, (fun ds z => by cases z), by omega, by omega, fun z => absurd (by rw [hp]) z, fun _ z => by omega, fun _ _ v H' E i f => ?_⟩
  exact k v H' (M.same f) i f
theorem hearA0L {T : Txt K mg} {Z : List Addr} {H : Hp} {x : LoAd} {s : PlS} {Q : VK} {z : V} {l : Option SlowL} (M : LoAt T.C_Line T.C_End T.C_Marks Z H x s) (ok : EndOk s.a) (hp : s.a.part = 0) (hZ : ∀ z ∈ x.all, z ∈ Z) (AZ : Alloc Z H)
    (hz : Im H z (slowO l)) (hl : ∀ m, l = some m → Can m.2.1.1 ∧ m.2.1.2.length ≤ 9) (k : ∀ H', LoAt T.C_Line T.C_End T.C_Marks Z H' x { s with a := hearF0 s.a l } → Frm x.all H H' → Q .non H') : sp_End_hear T [.ref x.a.e, .int 0, z] H Q E0 := by
  refine ⟨Z, x.a, s.a, .int 0, z, .int 0, rfl, M.ea, fun z hz => hZ z (x.a_all z hz), AZ, ok, .int 0, (fun ds z => by cases z), by omega, by omega, fun z => absurd (by rw [hp]) z, fun _ _ => ⟨l, hz, hl, fun H' E f => ?_⟩, fun _ z => by omega⟩
  obtain ⟨M', f'⟩ := M.setA E f hZ
  exact k H' M' f'
theorem hearA1L {T : Txt K mg} {Z : List Addr} {H : Hp} {x : LoAd} {s : PlS} {Q : VK} {z : V} {l : Option FastL} (M : LoAt T.C_Line T.C_End T.C_Marks Z H x s) (ok : EndOk s.a) (hp : s.a.part = 1) (hZ : ∀ z ∈ x.all, z ∈ Z) (AZ : Alloc Z H)
    (hz : Im H z (fastO l)) (hl : ∀ m, l = some m → s.a.count < m.2.2 → s.a.wait ≠ []) (k : ∀ H', LoAt T.C_Line T.C_End T.C_Marks Z H' x { s with a := hearF1 s.a l } → Frm x.all H H' → Q .non H') : sp_End_hear T [.ref x.a.e, .int 1, z] H Q E0 := by
  refine ⟨Z, x.a, s.a, .int 1, z, .int 1, rfl, M.ea, fun z hz => hZ z (x.a_all z hz), AZ, ok, .int 1, (fun ds z => by cases z), by omega, by omega, fun z => absurd (by rw [hp]) z, fun _ z => by omega, fun _ _ => ⟨l, hz, hl, fun H' E f => ?_⟩⟩
  obtain ⟨M', f'⟩ := M.setA E f hZ
  exact k H' M' f'
theorem sayB0L {T : Txt K mg} {Z : List Addr} {H : Hp} {x : LoAd} {s : PlS} {Q : VK} (M : LoAt T.C_Line T.C_End T.C_Marks Z H x s) (ok : EndOk s.b) (hp : s.b.part = 0) (hZ : ∀ z ∈ x.all, z ∈ Z)
    (k : ∀ v H', LoAt T.C_Line T.C_End T.C_Marks Z H' x { s with b := refreshF s.b } → Im H' v (.tuple [.int 0, slowD (slowOf (refreshF s.b))]) → Frm x.all H H' → Q v H') : sp_End_say T [.ref x.b.e, .int 0] H Q E0 := by
  refine ⟨Z, x.b, s.b, .int 0, .int 0, rfl, M.eb, fun z hz => hZ z (x.b_all z hz), ok, .int 0, (fun ds z => by cases z), by omega, by omega, fun z => absurd (by rw [hp]) z, fun _ _ v H' E i f => ?_, fun _ z => by omega⟩
  obtain ⟨M', f'⟩ := M.setB E f hZ
  exact k v H' M' i f'
theorem sayB1L {T : Txt K mg} {Z : List Addr} {H : Hp} {x : LoAd} {s : PlS} {Q : VK} (M : LoAt T.C_Line T.C_End T.C_Marks Z H x s) (ok : EndOk s.b) (hp : s.b.part = 1) (hZ : ∀ z ∈ x.all, z ∈ Z)
    (k : ∀ v H', LoAt T.C_Line T.C_End T.C_Marks Z H' x s → Im H' v (.tuple [.int s.b.now, fastD (fastOf s.b)]) → Same H H' → Q v H') : sp_End_say T [.ref x.b.e, .int 1] H Q E0 := by
  refine ⟨Z, x.b, s.b, .int 1, .int 1, rfl, M.eb, fun z hz => hZ z (x.b_all z hz), ok, .int 1, (fun ds z => by cases z), by omega, by omega, fun z => absurd (by rw [hp]) z, fun _ z => by omega, fun _ _ v H' E i f => ?_⟩
  exact k v H' (M.same f) i f
theorem hearB0L {T : Txt K mg} {Z : List Addr} {H : Hp} {x : LoAd} {s : PlS} {Q : VK} {z : V} {l : Option SlowL} (M : LoAt T.C_Line T.C_End T.C_Marks Z H x s) (ok : EndOk s.b) (hp : s.b.part = 0) (hZ : ∀ z ∈ x.all, z ∈ Z) (AZ : Alloc Z H)
    (hz : Im H z (slowO l)) (hl : ∀ m, l = some m → Can m.2.1.1 ∧ m.2.1.2.length ≤ 9) (k : ∀ H', LoAt T.C_Line T.C_End T.C_Marks Z H' x { s with b := hearF0 s.b l } → Frm x.all H H' → Q .non H') : sp_End_hear T [.ref x.b.e, .int 0, z] H Q E0 := by
  refine ⟨Z, x.b, s.b, .int 0, z, .int 0, rfl, M.eb, fun z hz => hZ z (x.b_all z hz), AZ, ok, .int 0, (fun ds z => by cases z), by omega, by omega, fun z => absurd (by rw [hp]) z, fun _ _ => ⟨l, hz, hl, fun H' E f => ?_⟩, fun _ z => by omega⟩
  obtain ⟨M', f'⟩ := M.setB E f hZ
  exact k H' M' f'
theorem hearB1L {T : Txt K mg} {Z : List Addr} {H : Hp} {x : LoAd} {s : PlS} {Q : VK} {z : V} {l : Option FastL} (M : LoAt T.C_Line T.C_End T.C_Marks Z H x s) (ok : EndOk s.b) (hp : s.b.part = 1) (hZ : ∀ z ∈ x.all, z ∈ Z) (AZ : Alloc Z H)
    (hz : Im H z (fastO l)) (hl : ∀ m, l = some m → s.b.count < m.2.2 → s.b.wait ≠ []) (k : ∀ H', LoAt T.C_Line T.C_End T.C_Marks Z H' x { s with b := hearF1 s.b l } → Frm x.all H H' → Q .non H') : sp_End_hear T [.ref x.b.e, .int 1, z] H Q E0 := by
  refine ⟨Z, x.b, s.b, .int 1, z, .int 1, rfl, M.eb, fun z hz => hZ z (x.b_all z hz), AZ, ok, .int 1, (fun ds z => by cases z), by omega, by omega, fun z => absurd (by rw [hp]) z, fun _ z => by omega, fun _ _ => ⟨l, hz, hl, fun H' E f => ?_⟩⟩
  obtain ⟨M', f'⟩ := M.setB E f hZ
  exact k H' M' f'
/-- both say, in a list -/
theorem lc_say0L {T : Txt K mg} {Z : List Addr} {H : Hp} {x : LoAd} {s : PlS} {i : Nat} {te : TE} {σ : L2.St} {D : Addr} {Qd : Hp → Prop} (M : LoAt T.C_Line T.C_End T.C_Marks Z H x s) (oka : EndOk s.a) (okb : EndOk s.b) (pa : s.a.part = 0) (pb : s.b.part = 0) (hZ : ∀ z ∈ x.all, z ∈ Z) (hD : H D = none)
    (hw : ∀ v, wipe ((wipe σ [i]).set i (some v)) [i] = wipe σ [i]) (hte : ∀ a dx fs H Q, H a = some (.ins T.C_End dx fs) → fs.lookup ("say" : Str) = none → sp_End_say T [.ref a, .int 0] H Q E0 → te ((wipe σ [i]).set i (some (.ref a))) H Q)
    (k : ∀ H' v0 v1, LoAt T.C_Line T.C_End T.C_Marks Z H' x { s with a := refreshF s.a, b := refreshF s.b } → H' D = some (.lst [v0, v1]) → Im H' v0 (.tuple [.int 0, slowD (slowOf (refreshF s.a))]) → Im H' v1 (.tuple [.int 0, slowD (slowOf (refreshF s.b))]) → Frm x.all H H' → Qd H') :
    LcW (Itl K x.es) (gName i) tYes te [i] σ H D Qd := by
  have hZ' : ∀ z ∈ x.all, z ∈ D :: Z := fun z hz => List.mem_cons_of_mem _ (hZ z hz)
  have nD : D ∉ x.all := fun z => M.ne_new hD (x.sub_all _ z)
  have nDe : D ∉ x.every := M.ne_new hD
  have M0 : LoAt T.C_Line T.C_End T.C_Marks (D :: Z) H x s := M.more fun y hy => (List.mem_cons.mp hy).elim (fun e => .inr fun bs z => by rw [e, hD] at z; cases z) .inl
  have put : ∀ {s' : PlS} {H' : Hp} {xs ys : List V}, LoAt T.C_Line T.C_End T.C_Marks (D :: Z) H' x s' → H' D = some (.lst xs) → Frm x.all H H' → LoAt T.C_Line T.C_End T.C_Marks (D :: Z) (upd H' D (.lst ys)) x s' ∧ Frm x.all H (upd H' D (.lst ys)) := fun {s' H' xs ys} m h f =>
    ⟨m.frm (Frm.updL h) (fun y hy => by simp at hy; simp [hy]) (fun y hy z => by simp at z; subst z; exact nDe hy), f.own hD (Frm.updL h)⟩
  refine lc_two (fun H' => LoAt T.C_Line T.C_End T.C_Marks (D :: Z) H' x s ∧ H' D = some (.lst []) ∧ Frm x.all H H')
    (fun H' => ∃ v0, LoAt T.C_Line T.C_End T.C_Marks (D :: Z) H' x { s with a := refreshF s.a } ∧ H' D = some (.lst [v0]) ∧ Im H' v0 (.tuple [.int 0, slowD (slowOf (refreshF s.a))]) ∧ Frm x.all H H')
    (fun H' => ∃ v0 v1, LoAt T.C_Line T.C_End T.C_Marks (D :: Z) H' x { s with a := refreshF s.a, b := refreshF s.b } ∧ H' D = some (.lst [v0, v1]) ∧ Im H' v0 (.tuple [.int 0, slowD (slowOf (refreshF s.a))]) ∧ Im H' v1 (.tuple [.int 0, slowD (slowOf (refreshF s.b))]) ∧ Frm x.all H H')
    ⟨M0.same (Same.upd_new hD), upd_same, Frm.new hD⟩ (fun H' h => SqL.of h.1.es) (fun H' ⟨_, h⟩ => SqL.of h.1.es) (fun H' ⟨_, _, h⟩ => SqL.of h.1.es) ?_ ?_ ?_
  · rintro H' ⟨m, h, f⟩
    obtain ⟨⟨dx, _, _, _, ho, _⟩, _⟩ := id m.ea
    refine ⟨hw _, ?_⟩
    refine hte _ dx _ _ _ ho (zip_no (by decide)) (sayA0L m oka pa hZ' fun v H'' m' iv f' => ?_)
    have h' := f' _ _ h nD
    obtain ⟨m2, f2⟩ := put (ys := [v]) m' h' (f.trans f')
    exact ⟨[], h', small1000 (by decide), v, m2, upd_same, iv.updL h', f2⟩
  · rintro H' ⟨v0, m, h, i0, f⟩
    obtain ⟨⟨dx, _, _, _, ho, _⟩, _⟩ := id m.eb
    refine ⟨hw _, ?_⟩
    refine hte _ dx _ _ _ ho (zip_no (by decide)) (sayB0L m okb pb hZ' fun v H'' m' iv f' => ?_)
    have h' := f' _ _ h nD
    obtain ⟨m2, f2⟩ := put (ys := [v0, v]) m' h' (f.trans f')
    exact ⟨[v0], h', small1000 (by simp), v0, v, m2, upd_same, (i0.frm f').updL h', iv.updL h', f2⟩
  · rintro H' ⟨v0, v1, m, h, i0, i1, f⟩
    exact k H' v0 v1 (m.more fun y hy => .inl (List.mem_cons_of_mem _ hy)) h i0 i1 f
theorem lc_say1L {T : Txt K mg} {Z : List Addr} {H : Hp} {x : LoAd} {s : PlS} {i : Nat} {te : TE} {σ : L2.St} {D : Addr} {Qd : Hp → Prop} (M : LoAt T.C_Line T.C_End T.C_Marks Z H x s) (oka : EndOk s.a) (okb : EndOk s.b) (pa : s.a.part = 1) (pb : s.b.part = 1) (hZ : ∀ z ∈ x.all, z ∈ Z) (hD : H D = none)
    (hw : ∀ v, wipe ((wipe σ [i]).set i (some v)) [i] = wipe σ [i]) (hte : ∀ a dx fs H Q, H a = some (.ins T.C_End dx fs) → fs.lookup ("say" : Str) = none → sp_End_say T [.ref a, .int 1] H Q E0 → te ((wipe σ [i]).set i (some (.ref a))) H Q)
    (k : ∀ H' v0 v1, H' D = some (.lst [v0, v1]) → Im H' v0 (.tuple [.int s.a.now, fastD (fastOf s.a)]) → Im H' v1 (.tuple [.int s.b.now, fastD (fastOf s.b)]) → Same H H' → Qd H') :
    LcW (Itl K x.es) (gName i) tYes te [i] σ H D Qd := by
  have put : ∀ {H' : Hp} {xs ys : List V}, H' D = some (.lst xs) → Same H H' → Same H (upd H' D (.lst ys)) := fun {H' xs ys} h f => ((Frm.of_same (S := []) f).own hD (Frm.updL h)).same
  refine lc_two (fun H' => H' D = some (.lst []) ∧ Same H H')
    (fun H' => ∃ v0, H' D = some (.lst [v0]) ∧ Im H' v0 (.tuple [.int s.a.now, fastD (fastOf s.a)]) ∧ Same H H')
    (fun H' => ∃ v0 v1, H' D = some (.lst [v0, v1]) ∧ Im H' v0 (.tuple [.int s.a.now, fastD (fastOf s.a)]) ∧ Im H' v1 (.tuple [.int s.b.now, fastD (fastOf s.b)]) ∧ Same H H')
    ⟨upd_same, Same.upd_new hD⟩ (fun H' h => SqL.of (h.2 _ _ M.es)) (fun H' ⟨_, h⟩ => SqL.of (h.2.2 _ _ M.es)) (fun H' ⟨_, _, h⟩ => SqL.of (h.2.2.2 _ _ M.es)) ?_ ?_ ?_
  · rintro H' ⟨h, f⟩
    have m := M.same f
    obtain ⟨⟨dx, _, _, _, ho, _⟩, _⟩ := id m.ea
    refine ⟨hw _, ?_⟩
    refine hte _ dx _ _ _ ho (zip_no (by decide)) (sayA1L m oka pa hZ fun v H'' m' iv f' => ?_)
    have h' := f' _ _ h
    exact ⟨[], h', small1000 (by decide), v, upd_same, iv.updL h', put h' (f.trans f')⟩
  · rintro H' ⟨v0, h, i0, f⟩
    have m := M.same f
    obtain ⟨⟨dx, _, _, _, ho, _⟩, _⟩ := id m.eb
    refine ⟨hw _, ?_⟩
    refine hte _ dx _ _ _ ho (zip_no (by decide)) (sayB1L m okb pb hZ fun v H'' m' iv f' => ?_)
    have h' := f' _ _ h
    exact ⟨[v0], h', small1000 (by simp), v0, v, upd_same, (i0.same f').updL h', iv.updL h', put h' (f.trans f')⟩
  · rintro H' ⟨v0, v1, h, i0, i1, f⟩
    exact k H' v0 v1 h i0 i1 f

end
end TL

namespace TL
open PySem PySem.Spec PyProof.Rows L2
section
variable {P : Program} {w : World} {K : PySem.W.Frag} {mg : Str → Option Value} {base : Heap}
def sp_Line_carry (T : Txt K mg) : Sp := fun vs H Q _ => ∃ (Z : List Addr) (x : LoAd) (s : PlS) (pt : Int), vs = [.ref x.o, .int pt] ∧ LoAt T.C_Line T.C_End T.C_Marks Z H x s ∧ (∀ z ∈ x.all, z ∈ Z) ∧ Alloc Z H ∧ LnOk pt s.toLnS ∧ (pt = 0 ∨ pt = 1) ∧ s.a.over < 1000000 ∧
  ∀ H', LoAt T.C_Line T.C_End T.C_Marks Z H' x (if pt = 0 then halfP s else fastP s) → Frm x.all H H' → Q .non H'
theorem jo_b (na nb : Int) (m : List Int) (l : Bool) : jo na nb m l = (decide (na = nb) && (decide (nb ∈ m) && !l)) := by
  unfold jo
  by_cases h : na = nb
  · subst h
    rfl
  · rw [decide_eq_false h]
    rfl
theorem for_enum2 {K : PySem.W.Frag} {a : Addr} {v0 v1 : V} {g : TG} {tb : TS} {D : Ends} {σ : L2.St} {H : Hp} (P0 P1 P2 : L2.St → Hp → Prop) (h0 : P0 σ H) (l0 : ∀ σ H, P0 σ H → SqL K H a [v0, v1]) (l1 : ∀ σ H, P1 σ H → SqL K H a [v0, v1]) (l2 : ∀ σ H, P2 σ H → SqL K H a [v0, v1])
    (s0 : ∀ σ H T, P0 σ H → H T = none → g (.ref T) σ (upd H T (.tup [.int 0, v0])) fun σ2 H2 => tb { D with nx := P1, ct := P1, bk := D.nx } σ2 H2)
    (s1 : ∀ σ H T, P1 σ H → H T = none → g (.ref T) σ (upd H T (.tup [.int 1, v1])) fun σ2 H2 => tb { D with nx := P2, ct := P2, bk := D.nx } σ2 H2)
    (hd : ∀ σ H, P2 σ H → D.nx σ H) : ForW (Ite K a) g tb D σ H := by
  refine for_enum (K := K) (a := a) (xs := [v0, v1]) (fun i σ H => match i with | 0 => P0 σ H | 1 => P1 σ H | _ => P2 σ H) h0 ?_ ?_ hd
  · intro i σ H hi p
    match i, p with
    | 0, p => exact l0 σ H p
    | 1, p => exact l1 σ H p
    | n + 2, p => exact l2 σ H p
  · intro i x T σ H hx p hT
    match i, hx, p with
    | 0, hx, p =>
      have e : v0 = x := Option.some.inj hx
      subst e
      exact s0 σ H T p hT
    | 1, hx, p =>
      have e : v1 = x := Option.some.inj hx
      subst e
      exact s1 σ H T p hT
    | n + 2, hx, p => simp at hx
theorem ok_Line_carry (T : Txt K mg) : FnOk P w K mg base CX0 8 T.a_Line_carry T.fd_Line_carry P_Line_carry (sp_Line_carry T) := by
  have G_End_say := ok_End_say (P := P) (w := w) (base := base) T
  have G_End_hear := ok_End_hear (P := P) (w := w) (base := base) T
  refine T.F_Line_carry.ok sc_Line_carry (fun vs H Q E h => ?_) (fun cdv A outer s H vs Q E hr h => ?_)
  · obtain ⟨Z, x, s, pt, rfl, _⟩ := h
    rfl
  · obtain ⟨Z, x, sk, pt, rfl, M, hZ, AZ, ok, hpt, hov, kk⟩ := h
    have hu := hu_of hr
    refine ⟨_, (pss_cons (ps_cut (ps_setLc (i := 2) (own := [("end", 3)]) (g := (gName 3)) (tt := tYes) (te := (tMeth T.C_End "say" _ [] E0 (tVar 3) (tCons (tVar 1) tNil))) rfl sc_Line_carry.nd rfl rfl (sw_true rfl rfl rfl (by decide +kernel)) (pi_list (pe_fld (pv 0) rfl)) (blkOk_by (own := [("end", 3)]) (N := N_Line_carry) (sc := defScope s_Line_carry) (by decide +kernel)) (fun _ _ _ _ _ => (pg_name (i := 3) sc_Line_carry.nd rfl (by first | exact Or.inl rfl | exact Or.inr rfl))) (fun _ _ _ _ _ => pts_nil) (fun _ _ _ _ _ => (pe_meth (pv 3) T.cl_End T.m_End_say G_End_say (hr.mono (by decide)) T.b_End_say .nil passL (pa_cons (pv 1) pa_nil)))))
    (pss_one (ps_for PassesOwn.never rfl (pi_enum (by rfl) T.n_enumerate (pa_cons (pe_fld (pv 0) rfl) pa_nil)) (pg_tup rfl (pgs_cons (pg_name (i := 4) sc_Line_carry.nd rfl (by first | exact Or.inl rfl | exact Or.inr rfl)) (pgs_cons (pg_name (i := 3) sc_Line_carry.nd rfl (by first | exact Or.inl rfl | exact Or.inr rfl)) pgs_nil)))
      (pss_cons (ps_cut (ps_set (i := 5) sc_Line_carry.nd rfl (by first | exact Or.inl rfl | exact Or.inr rfl) (pe_and (pe_cmpR op_eq (pe_ix ix_tup (pe_ix ix_list (pv 2) pe_int (fun _ _ => rfl)) pe_int (fun _ _ => rfl)) (pe_ix ix_tup (pe_ix ix_list (pv 2) pe_int (fun _ _ => rfl)) pe_int (fun _ _ => rfl)) (nomark _)) (pe_one (pe_cmpR op_in_seq (pe_ix ix_tup (pe_ix ix_list (pv 2) (pv 4) (fun _ _ => rfl)) pe_int (fun _ _ => rfl)) (pe_ix ix_list (pe_fld (pv 0) rfl) (pv 4) (fun _ _ => rfl)) (by rfl))))))
      (pss_one (ps_expr (pe_meth (pv 3) T.cl_End T.m_End_hear G_End_hear (hr.mono (by decide)) T.b_End_hear .nil passL (pa_cons (pv 1) (pa_cons (pe_cut (pe_ifExp (PW.pt (pw_and (pt_val (pv 5)) (pw_and1 (pt_cmp (pc_dnotin hu (pe_tup (pa_cons (pv 1) (pa_cons (pv 4) pa_nil))) (pe_fld (pv 0) rfl)) (by rfl))))) (pe_ix ix_tup (pe_ix ix_list (pv 2) (pe_op op_sub pe_int (pv 4)) (fun _ _ => rfl)) pe_int (fun _ _ => rfl)) pe_non)) pa_nil))))))))), ?_⟩
    have mind : ∀ {e : EndS} {b : Bool} {m : SlowL}, EndOk e → when b (slowOf (refreshF e)) = some m → Can m.2.1.1 ∧ m.2.1.2.length ≤ 9 := fun {e b m} he hm => by
      rw [← (when_some hm).2]
      exact ⟨he.refresh.can, he.refresh.bad⟩
    rcases hpt with rfl | rfl
    · have pa0 : (refreshF sk.a).part = 0 := by rw [(refresh_same sk.a).2.2.2.2.2.2.2.2.2.2.2.2]; exact ok.pa
      have pb0 : (refreshF sk.b).part = 0 := by rw [(refresh_same sk.b).2.2.2.2.2.2.2.2.2.2.2.2]; exact ok.pb
      -- said
      refine ⟨fun σ' H' => ∃ (q t0 t1 : Addr) (q0 q1 : V), σ' = [some (V.ref x.o), some (.int 0), some (.ref q), none, none, none] ∧ LoAt T.C_Line T.C_End T.C_Marks Z H' x { sk with a := refreshF sk.a, b := refreshF sk.b } ∧ Frm x.all H H' ∧ H' q = some (.lst [.ref t0, .ref t1]) ∧ q ∉ x.all ∧ H' t0 = some (.tup [.int 0, q0]) ∧ H' t1 = some (.tup [.int 0, q1]) ∧ Im H' q0 (slowD (slowOf (refreshF sk.a))) ∧ Im H' q1 (slowD (slowOf (refreshF sk.b))), ?_, ?_⟩
      · obtain ⟨dx0, hob⟩ := M.ob
        refine ⟨_, rfl, _, T.C_Line, _, _, _, rfl, hob, T.cl_Line, T.no_Line_ends, zip_lookup liN_nd (i := 0) rfl rfl, x.es, rfl, ⟨_, SqL.of M.es⟩, fun D hD => ?_⟩
        have nDx := M.ne_new hD
        refine lc_say0L M ok.ea ok.eb ok.pa ok.pb hZ hD (fun v => rfl) (fun a dx fs H Q h1 h2 h3 => ⟨_, rfl, a, dx, fs, rfl, h1, h2, _, rfl, h3⟩) fun H4 y0 y1 M4 h4 i0 i1 f4 => ?_
        obtain ⟨t0, n0, q0, rfl, ht0, in0, iq0⟩ := im_two_inv i0
        obtain ⟨t1, n1, q1, rfl, ht1, in1, iq1⟩ := im_two_inv i1
        have := im_int_inv in0; subst this
        have := im_int_inv in1; subst this
        exact ⟨D, t0, t1, q0, q1, rfl, M4, f4, h4, fun z => nDx (x.sub_all _ z), ht0, ht1, iq0, iq1⟩
      rintro σ' H4 ⟨q, t0, t1, q0, q1, rfl, M4, F4, hq4, nqx, ht0, ht1, iq0, iq1⟩
      obtain ⟨dx4, hob4⟩ := M4.ob
      have eal : decide (V.int 0 = V.int 0) = decide ((0 : Int) = 0) := decide_eq_decide.mpr vint_inj
      have Q4 : ∀ {H' : Hp}, Frm x.all H4 H' → H' q = some (.lst [.ref t0, .ref t1]) ∧ H' t0 = some (.tup [.int 0, q0]) ∧ H' t1 = some (.tup [.int 0, q1]) ∧ Im H' q0 (slowD (slowOf (refreshF sk.a))) ∧ Im H' q1 (slowD (slowOf (refreshF sk.b))) := fun f => ⟨f _ _ hq4 nqx, f.tups _ _ ht0, f.tups _ _ ht1, iq0.frm f, iq1.frm f⟩
      have AZ4 := AZ.frm F4
      refine ⟨_, rfl, _, T.C_Line, _, _, _, rfl, hob4, T.cl_Line, T.no_Line_ends, zip_lookup liN_nd (i := 0) rfl rfl, x.es, _, rfl, SqL.of M4.es, for_enum2 (K := K) (a := x.es) (v0 := .ref x.a.e) (v1 := .ref x.b.e)
        (fun (σ' : L2.St) (H' : Hp) => (∃ v3 v4 v5 : Option V, σ' = [some (V.ref x.o), some (.int 0), some (.ref q), v3, v4, v5]) ∧ LoAt T.C_Line T.C_End T.C_Marks Z H' x { sk with a := refreshF sk.a, b := refreshF sk.b } ∧ Frm x.all H4 H')
        (fun (σ' : L2.St) (H' : Hp) => (∃ v3 v4 v5 : Option V, σ' = [some (V.ref x.o), some (.int 0), some (.ref q), v3, v4, v5]) ∧ LoAt T.C_Line T.C_End T.C_Marks Z H' x { sk with a := hearF0 (refreshF sk.a) (when (jo 0 0 sk.ps.1 sk.ls.1.1) (slowOf (refreshF sk.b))), b := refreshF sk.b } ∧ Frm x.all H4 H')
        (fun (σ' : L2.St) (H' : Hp) => (∃ v3 v4 v5 : Option V, σ' = [some (V.ref x.o), some (.int 0), some (.ref q), v3, v4, v5]) ∧ LoAt T.C_Line T.C_End T.C_Marks Z H' x (halfP sk) ∧ Frm x.all H4 H')
        ⟨⟨_, _, _, rfl⟩, M4, .refl _ _⟩ (fun σ H' h => SqL.of h.2.1.es) (fun σ H' h => SqL.of h.2.1.es) (fun σ H' h => SqL.of h.2.1.es) ?_ ?_ ?_⟩
      · rintro σ H5 T0 ⟨⟨v3, v4, v5, rfl⟩, M5, F5⟩ hT
        have sT := Same.upd_new (o := .tup [.int 0, .ref x.a.e]) hT
        refine ⟨T0, _, rfl, SqT.of upd_same, rfl, _, _, rfl, _, _, rfl, rfl, ?_⟩
        have M6 := M5.same sT
        have F6 := F5.trans (Frm.of_same sT)
        generalize (upd H5 T0 (.tup [.int 0, .ref x.a.e])) = H6 at M6 F6 ⊢
        obtain ⟨hq6, hs0, hs1, iq0, iq1⟩ := Q4 F6
        obtain ⟨dx6, hob6⟩ := M6.ob
        obtain ⟨p0, p1, hpg, hp0, hp1⟩ := M6.pg
        -- comes
        refine ⟨fun σ' H' => σ' = [some (V.ref x.o), some (.int 0), some (.ref q), some (.ref x.a.e), some (.int 0), some (.bl (decide ((0 : Int) = 0) && decide (0 ∈ sk.ps.1)))] ∧ H' = H6, ?_, ?_⟩
        · refine ⟨_, rfl, q, _, _, _, rfl, rfl, SqL.of hq6, rfl, t0, _, _, _, rfl, rfl, SqT.of hs0, rfl, _, rfl, q, _, _, _, rfl, rfl, SqL.of hq6, rfl, t1, _, _, _, rfl, rfl, SqT.of hs1, rfl, rfl, decide ((0 : Int) = 0), congrArg V.bl eal, iteB (fun g1 => ?_) (fun g1 => ⟨?_, rfl⟩)⟩
          · refine ⟨_, rfl, _, rfl, q, _, _, _, rfl, rfl, SqL.of hq6, rfl, t0, _, _, _, rfl, rfl, SqT.of hs0, rfl, _, rfl, _, T.C_Line, _, _, _, rfl, hob6, T.cl_Line, T.no_Line_passing, zip_lookup liN_nd (i := 1) rfl rfl, _, rfl, x.pg, _, _, _, rfl, rfl, SqL.of hpg, rfl, p0, _, rfl, .inr (SqT.of hp0), rfl, flat_ints _, ?_⟩
            have ein : inV (V.int 0) (sk.ps.1.map V.int) = decide (0 ∈ sk.ps.1) := inV_int _ _
            refine ⟨?_, rfl⟩
            rw [g1, Bool.true_and, ← ein]
            rfl
          · rw [g1, Bool.false_and]
            rfl
        rintro σ' H' ⟨rfl, eH⟩
        obtain rfl := eH.symm
        -- heard
        obtain ⟨kvs, hlo, hld⟩ := M6.lo
        obtain ⟨⟨dxe, _, _, _, hoe, _⟩, _⟩ := id M6.ea
        refine ⟨_, rfl, x.a.e, dxe, _, rfl, hoe, zip_no (by decide), _, rfl, fun z H' => Same H6 H' ∧ Im H' z (slowO (when (jo 0 0 sk.ps.1 sk.ls.1.1) (slowOf (refreshF sk.b)))), ?_, ?_⟩
        · have non : ∀ H' : Hp, (jo 0 0 sk.ps.1 sk.ls.1.1) = false → Im H' .non (slowO (when (jo 0 0 sk.ps.1 sk.ls.1.1) (slowOf (refreshF sk.b)))) := fun H' e => by rw [e]; exact .non
          refine ⟨_, rfl, _, rfl, iteB (fun g => ?_) (fun g => iteF ⟨.refl _, non _ (by unfold jo; rw [← Bool.and_assoc, g]; rfl)⟩)⟩
          refine ⟨_, rfl, _, rfl, (by show 2 ≤ sizeLine; decide), fun N hN => ?_⟩
          have sN := Same.upd_new (o := .tup [.int 0, .int 0]) hN
          have hN6 := upd_same (H := H6) (a := N) (o := .tup [.int 0, .int 0])
          generalize (upd H6 N (.tup [.int 0, .int 0])) = H7 at sN hN6 ⊢
          have hb : (valV kvs (lkey 0 0)).isSome = sk.ls.1.1 := hld.b 0 0 (by omega) (by omega)
          refine ⟨_, rfl, _, T.C_Line, _, _, _, rfl, sN _ _ hob6, T.cl_Line, T.no_Line_lost, zip_lookup liN_nd (i := 2) rfl rfl, x.lo, _, rfl, DGet.t (k := lkey 0 0) (sN _ _ hlo) hN6, _, rfl, ?_⟩
          rw [hb]
          refine iteB (fun g2 => ?_) (fun g2 => ⟨sN, non _ (by unfold jo; rw [← Bool.and_assoc, g, g2]; rfl)⟩)
          refine ⟨_, rfl, _, rfl, _, _, rfl, rfl, q, _, _, _, rfl, rfl, SqL.of (sN _ _ hq6), rfl, t1, _, _, _, rfl, rfl, SqT.of (sN _ _ hs1), rfl, sN, ?_⟩
          have e : (jo 0 0 sk.ps.1 sk.ls.1.1) = true := by unfold jo; rw [← Bool.and_assoc, g, g2]; rfl
          rw [e]
          exact iq1.same sN
        rintro z H7 ⟨s7, hz⟩
        exact hearA0L (Q := fun _ H8 => (∃ v3 v4 v5 : Option V, [some (V.ref x.o), some (.int 0), some (.ref q), some (.ref x.a.e), some (.int 0), some (.bl (decide ((0 : Int) = 0) && decide (0 ∈ sk.ps.1)))] = [some (V.ref x.o), some (.int 0), some (.ref q), v3, v4, v5]) ∧ LoAt T.C_Line T.C_End T.C_Marks Z H8 x { sk with a := hearF0 (refreshF sk.a) (when (jo 0 0 sk.ps.1 sk.ls.1.1) (slowOf (refreshF sk.b))), b := refreshF sk.b } ∧ Frm x.all H4 H8) (M6.same s7) ok.ea.refresh pa0 hZ ((AZ4.frm F6).frm (Frm.of_same (S := []) s7)) hz (fun mm hm => mind ok.eb hm) fun H8 M8 f8 => ⟨⟨_, _, _, rfl⟩, M8, (F6.trans (Frm.of_same s7)).trans f8⟩
      · rintro σ H5 T0 ⟨⟨v3, v4, v5, rfl⟩, M5, F5⟩ hT
        have sT := Same.upd_new (o := .tup [.int 1, .ref x.b.e]) hT
        refine ⟨T0, _, rfl, SqT.of upd_same, rfl, _, _, rfl, _, _, rfl, rfl, ?_⟩
        have M6 := M5.same sT
        have F6 := F5.trans (Frm.of_same sT)
        generalize (upd H5 T0 (.tup [.int 1, .ref x.b.e])) = H6 at M6 F6 ⊢
        obtain ⟨hq6, hs0, hs1, iq0, iq1⟩ := Q4 F6
        obtain ⟨dx6, hob6⟩ := M6.ob
        obtain ⟨p0, p1, hpg, hp0, hp1⟩ := M6.pg
        -- comes
        refine ⟨fun σ' H' => σ' = [some (V.ref x.o), some (.int 0), some (.ref q), some (.ref x.b.e), some (.int 1), some (.bl (decide ((0 : Int) = 0) && decide (0 ∈ sk.ps.2)))] ∧ H' = H6, ?_, ?_⟩
        · refine ⟨_, rfl, q, _, _, _, rfl, rfl, SqL.of hq6, rfl, t0, _, _, _, rfl, rfl, SqT.of hs0, rfl, _, rfl, q, _, _, _, rfl, rfl, SqL.of hq6, rfl, t1, _, _, _, rfl, rfl, SqT.of hs1, rfl, rfl, decide ((0 : Int) = 0), congrArg V.bl eal, iteB (fun g1 => ?_) (fun g1 => ⟨?_, rfl⟩)⟩
          · refine ⟨_, rfl, _, rfl, q, _, _, _, rfl, rfl, SqL.of hq6, rfl, t1, _, _, _, rfl, rfl, SqT.of hs1, rfl, _, rfl, _, T.C_Line, _, _, _, rfl, hob6, T.cl_Line, T.no_Line_passing, zip_lookup liN_nd (i := 1) rfl rfl, _, rfl, x.pg, _, _, _, rfl, rfl, SqL.of hpg, rfl, p1, _, rfl, .inr (SqT.of hp1), rfl, flat_ints _, ?_⟩
            have ein : inV (V.int 0) (sk.ps.2.map V.int) = decide (0 ∈ sk.ps.2) := inV_int _ _
            refine ⟨?_, rfl⟩
            rw [g1, Bool.true_and, ← ein]
            rfl
          · rw [g1, Bool.false_and]
            rfl
        rintro σ' H' ⟨rfl, eH⟩
        obtain rfl := eH.symm
        -- heard
        obtain ⟨kvs, hlo, hld⟩ := M6.lo
        obtain ⟨⟨dxe, _, _, _, hoe, _⟩, _⟩ := id M6.eb
        refine ⟨_, rfl, x.b.e, dxe, _, rfl, hoe, zip_no (by decide), _, rfl, fun z H' => Same H6 H' ∧ Im H' z (slowO (when (jo 0 0 sk.ps.2 sk.ls.1.2) (slowOf (refreshF sk.a)))), ?_, ?_⟩
        · have non : ∀ H' : Hp, (jo 0 0 sk.ps.2 sk.ls.1.2) = false → Im H' .non (slowO (when (jo 0 0 sk.ps.2 sk.ls.1.2) (slowOf (refreshF sk.a)))) := fun H' e => by rw [e]; exact .non
          refine ⟨_, rfl, _, rfl, iteB (fun g => ?_) (fun g => iteF ⟨.refl _, non _ (by unfold jo; rw [← Bool.and_assoc, g]; rfl)⟩)⟩
          refine ⟨_, rfl, _, rfl, (by show 2 ≤ sizeLine; decide), fun N hN => ?_⟩
          have sN := Same.upd_new (o := .tup [.int 0, .int 1]) hN
          have hN6 := upd_same (H := H6) (a := N) (o := .tup [.int 0, .int 1])
          generalize (upd H6 N (.tup [.int 0, .int 1])) = H7 at sN hN6 ⊢
          have hb : (valV kvs (lkey 0 1)).isSome = sk.ls.1.2 := hld.b 0 1 (by omega) (by omega)
          refine ⟨_, rfl, _, T.C_Line, _, _, _, rfl, sN _ _ hob6, T.cl_Line, T.no_Line_lost, zip_lookup liN_nd (i := 2) rfl rfl, x.lo, _, rfl, DGet.t (k := lkey 0 1) (sN _ _ hlo) hN6, _, rfl, ?_⟩
          rw [hb]
          refine iteB (fun g2 => ?_) (fun g2 => ⟨sN, non _ (by unfold jo; rw [← Bool.and_assoc, g, g2]; rfl)⟩)
          refine ⟨_, rfl, _, rfl, _, _, rfl, rfl, q, _, _, _, rfl, rfl, SqL.of (sN _ _ hq6), rfl, t0, _, _, _, rfl, rfl, SqT.of (sN _ _ hs0), rfl, sN, ?_⟩
          have e : (jo 0 0 sk.ps.2 sk.ls.1.2) = true := by unfold jo; rw [← Bool.and_assoc, g, g2]; rfl
          rw [e]
          exact iq0.same sN
        rintro z H7 ⟨s7, hz⟩
        exact hearB0L (Q := fun _ H8 => (∃ v3 v4 v5 : Option V, [some (V.ref x.o), some (.int 0), some (.ref q), some (.ref x.b.e), some (.int 1), some (.bl (decide ((0 : Int) = 0) && decide (0 ∈ sk.ps.2)))] = [some (V.ref x.o), some (.int 0), some (.ref q), v3, v4, v5]) ∧ LoAt T.C_Line T.C_End T.C_Marks Z H8 x (halfP sk) ∧ Frm x.all H4 H8) (M6.same s7) ok.eb.refresh pb0 hZ ((AZ4.frm F6).frm (Frm.of_same (S := []) s7)) hz (fun mm hm => mind ok.ea hm) fun H8 M8 f8 => ⟨⟨_, _, _, rfl⟩, M8, (F6.trans (Frm.of_same s7)).trans f8⟩
      · rintro σ H5 ⟨⟨v3, v4, v5, rfl⟩, M5, F5⟩
        exact kk H5 M5 (F4.trans F5)
    · skip
      -- said
      refine ⟨fun σ' H' => ∃ (q t0 t1 : Addr) (q0 q1 : V), σ' = [some (V.ref x.o), some (.int 1), some (.ref q), none, none, none] ∧ LoAt T.C_Line T.C_End T.C_Marks Z H' x sk ∧ Frm x.all H H' ∧ H' q = some (.lst [.ref t0, .ref t1]) ∧ q ∉ x.all ∧ H' t0 = some (.tup [.int sk.a.now, q0]) ∧ H' t1 = some (.tup [.int sk.b.now, q1]) ∧ Im H' q0 (fastD (fastOf sk.a)) ∧ Im H' q1 (fastD (fastOf sk.b)), ?_, ?_⟩
      · obtain ⟨dx0, hob⟩ := M.ob
        refine ⟨_, rfl, _, T.C_Line, _, _, _, rfl, hob, T.cl_Line, T.no_Line_ends, zip_lookup liN_nd (i := 0) rfl rfl, x.es, rfl, ⟨_, SqL.of M.es⟩, fun D hD => ?_⟩
        have nDx := M.ne_new hD
        refine lc_say1L M ok.ea ok.eb ok.pa ok.pb hZ hD (fun v => rfl) (fun a dx fs H Q h1 h2 h3 => ⟨_, rfl, a, dx, fs, rfl, h1, h2, _, rfl, h3⟩) fun H4 y0 y1 h4 i0 i1 s4 => ?_
        have M4 := M.same s4
        have f4 : Frm x.all H H4 := Frm.of_same s4
        obtain ⟨t0, n0, q0, rfl, ht0, in0, iq0⟩ := im_two_inv i0
        obtain ⟨t1, n1, q1, rfl, ht1, in1, iq1⟩ := im_two_inv i1
        have := im_int_inv in0; subst this
        have := im_int_inv in1; subst this
        exact ⟨D, t0, t1, q0, q1, rfl, M4, f4, h4, fun z => nDx (x.sub_all _ z), ht0, ht1, iq0, iq1⟩
      rintro σ' H4 ⟨q, t0, t1, q0, q1, rfl, M4, F4, hq4, nqx, ht0, ht1, iq0, iq1⟩
      obtain ⟨dx4, hob4⟩ := M4.ob
      have eal : decide (V.int sk.a.now = V.int sk.b.now) = decide ((sk.a.now : Int) = sk.b.now) := decide_eq_decide.mpr vint_inj
      have Q4 : ∀ {H' : Hp}, Frm x.all H4 H' → H' q = some (.lst [.ref t0, .ref t1]) ∧ H' t0 = some (.tup [.int sk.a.now, q0]) ∧ H' t1 = some (.tup [.int sk.b.now, q1]) ∧ Im H' q0 (fastD (fastOf sk.a)) ∧ Im H' q1 (fastD (fastOf sk.b)) := fun f => ⟨f _ _ hq4 nqx, f.tups _ _ ht0, f.tups _ _ ht1, iq0.frm f, iq1.frm f⟩
      have AZ4 := AZ.frm F4
      refine ⟨_, rfl, _, T.C_Line, _, _, _, rfl, hob4, T.cl_Line, T.no_Line_ends, zip_lookup liN_nd (i := 0) rfl rfl, x.es, _, rfl, SqL.of M4.es, for_enum2 (K := K) (a := x.es) (v0 := .ref x.a.e) (v1 := .ref x.b.e)
        (fun (σ' : L2.St) (H' : Hp) => (∃ v3 v4 v5 : Option V, σ' = [some (V.ref x.o), some (.int 1), some (.ref q), v3, v4, v5]) ∧ LoAt T.C_Line T.C_End T.C_Marks Z H' x sk ∧ Frm x.all H4 H')
        (fun (σ' : L2.St) (H' : Hp) => (∃ v3 v4 v5 : Option V, σ' = [some (V.ref x.o), some (.int 1), some (.ref q), v3, v4, v5]) ∧ LoAt T.C_Line T.C_End T.C_Marks Z H' x { sk with a := hearF1 sk.a (when (jo sk.a.now sk.b.now sk.ps.1 sk.ls.2.1) (fastOf sk.b)) } ∧ Frm x.all H4 H')
        (fun (σ' : L2.St) (H' : Hp) => (∃ v3 v4 v5 : Option V, σ' = [some (V.ref x.o), some (.int 1), some (.ref q), v3, v4, v5]) ∧ LoAt T.C_Line T.C_End T.C_Marks Z H' x (fastP sk) ∧ Frm x.all H4 H')
        ⟨⟨_, _, _, rfl⟩, M4, .refl _ _⟩ (fun σ H' h => SqL.of h.2.1.es) (fun σ H' h => SqL.of h.2.1.es) (fun σ H' h => SqL.of h.2.1.es) ?_ ?_ ?_⟩
      · rintro σ H5 T0 ⟨⟨v3, v4, v5, rfl⟩, M5, F5⟩ hT
        have sT := Same.upd_new (o := .tup [.int 0, .ref x.a.e]) hT
        refine ⟨T0, _, rfl, SqT.of upd_same, rfl, _, _, rfl, _, _, rfl, rfl, ?_⟩
        have M6 := M5.same sT
        have F6 := F5.trans (Frm.of_same sT)
        generalize (upd H5 T0 (.tup [.int 0, .ref x.a.e])) = H6 at M6 F6 ⊢
        obtain ⟨hq6, hs0, hs1, iq0, iq1⟩ := Q4 F6
        obtain ⟨dx6, hob6⟩ := M6.ob
        obtain ⟨p0, p1, hpg, hp0, hp1⟩ := M6.pg
        -- comes
        refine ⟨fun σ' H' => σ' = [some (V.ref x.o), some (.int 1), some (.ref q), some (.ref x.a.e), some (.int 0), some (.bl (decide ((sk.a.now : Int) = sk.b.now) && decide (sk.a.now ∈ sk.ps.1)))] ∧ H' = H6, ?_, ?_⟩
        · refine ⟨_, rfl, q, _, _, _, rfl, rfl, SqL.of hq6, rfl, t0, _, _, _, rfl, rfl, SqT.of hs0, rfl, _, rfl, q, _, _, _, rfl, rfl, SqL.of hq6, rfl, t1, _, _, _, rfl, rfl, SqT.of hs1, rfl, rfl, decide ((sk.a.now : Int) = sk.b.now), congrArg V.bl eal, iteB (fun g1 => ?_) (fun g1 => ⟨?_, rfl⟩)⟩
          · refine ⟨_, rfl, _, rfl, q, _, _, _, rfl, rfl, SqL.of hq6, rfl, t0, _, _, _, rfl, rfl, SqT.of hs0, rfl, _, rfl, _, T.C_Line, _, _, _, rfl, hob6, T.cl_Line, T.no_Line_passing, zip_lookup liN_nd (i := 1) rfl rfl, _, rfl, x.pg, _, _, _, rfl, rfl, SqL.of hpg, rfl, p0, _, rfl, .inr (SqT.of hp0), rfl, flat_ints _, ?_⟩
            have ein : inV (V.int sk.a.now) (sk.ps.1.map V.int) = decide (sk.a.now ∈ sk.ps.1) := inV_int _ _
            refine ⟨?_, rfl⟩
            rw [g1, Bool.true_and, ← ein]
            rfl
          · rw [g1, Bool.false_and]
            rfl
        rintro σ' H' ⟨rfl, eH⟩
        obtain rfl := eH.symm
        -- heard
        obtain ⟨kvs, hlo, hld⟩ := M6.lo
        obtain ⟨⟨dxe, _, _, _, hoe, _⟩, _⟩ := id M6.ea
        refine ⟨_, rfl, x.a.e, dxe, _, rfl, hoe, zip_no (by decide), _, rfl, fun z H' => Same H6 H' ∧ Im H' z (fastO (when (jo sk.a.now sk.b.now sk.ps.1 sk.ls.2.1) (fastOf sk.b))), ?_, ?_⟩
        · have non : ∀ H' : Hp, (jo sk.a.now sk.b.now sk.ps.1 sk.ls.2.1) = false → Im H' .non (fastO (when (jo sk.a.now sk.b.now sk.ps.1 sk.ls.2.1) (fastOf sk.b))) := fun H' e => by rw [e]; exact .non
          refine ⟨_, rfl, _, rfl, iteB (fun g => ?_) (fun g => iteF ⟨.refl _, non _ (by unfold jo; rw [← Bool.and_assoc, g]; rfl)⟩)⟩
          refine ⟨_, rfl, _, rfl, (by show 2 ≤ sizeLine; decide), fun N hN => ?_⟩
          have sN := Same.upd_new (o := .tup [.int 1, .int 0]) hN
          have hN6 := upd_same (H := H6) (a := N) (o := .tup [.int 1, .int 0])
          generalize (upd H6 N (.tup [.int 1, .int 0])) = H7 at sN hN6 ⊢
          have hb : (valV kvs (lkey 1 0)).isSome = sk.ls.2.1 := hld.b 1 0 (by omega) (by omega)
          refine ⟨_, rfl, _, T.C_Line, _, _, _, rfl, sN _ _ hob6, T.cl_Line, T.no_Line_lost, zip_lookup liN_nd (i := 2) rfl rfl, x.lo, _, rfl, DGet.t (k := lkey 1 0) (sN _ _ hlo) hN6, _, rfl, ?_⟩
          rw [hb]
          refine iteB (fun g2 => ?_) (fun g2 => ⟨sN, non _ (by unfold jo; rw [← Bool.and_assoc, g, g2]; rfl)⟩)
          refine ⟨_, rfl, _, rfl, _, _, rfl, rfl, q, _, _, _, rfl, rfl, SqL.of (sN _ _ hq6), rfl, t1, _, _, _, rfl, rfl, SqT.of (sN _ _ hs1), rfl, sN, ?_⟩
          have e : (jo sk.a.now sk.b.now sk.ps.1 sk.ls.2.1) = true := by unfold jo; rw [← Bool.and_assoc, g, g2]; rfl
          rw [e]
          exact iq1.same sN
        rintro z H7 ⟨s7, hz⟩
        exact hearA1L (Q := fun _ H8 => (∃ v3 v4 v5 : Option V, [some (V.ref x.o), some (.int 1), some (.ref q), some (.ref x.a.e), some (.int 0), some (.bl (decide ((sk.a.now : Int) = sk.b.now) && decide (sk.a.now ∈ sk.ps.1)))] = [some (V.ref x.o), some (.int 1), some (.ref q), v3, v4, v5]) ∧ LoAt T.C_Line T.C_End T.C_Marks Z H8 x { sk with a := hearF1 sk.a (when (jo sk.a.now sk.b.now sk.ps.1 sk.ls.2.1) (fastOf sk.b)) } ∧ Frm x.all H4 H8) (M6.same s7) ok.ea ok.pa hZ ((AZ4.frm F6).frm (Frm.of_same (S := []) s7)) hz (fun mm hm => by rw [← (when_some hm).2]; exact ok.da.waits) fun H8 M8 f8 => ⟨⟨_, _, _, rfl⟩, M8, (F6.trans (Frm.of_same s7)).trans f8⟩
      · rintro σ H5 T0 ⟨⟨v3, v4, v5, rfl⟩, M5, F5⟩ hT
        have sT := Same.upd_new (o := .tup [.int 1, .ref x.b.e]) hT
        refine ⟨T0, _, rfl, SqT.of upd_same, rfl, _, _, rfl, _, _, rfl, rfl, ?_⟩
        have M6 := M5.same sT
        have F6 := F5.trans (Frm.of_same sT)
        generalize (upd H5 T0 (.tup [.int 1, .ref x.b.e])) = H6 at M6 F6 ⊢
        obtain ⟨hq6, hs0, hs1, iq0, iq1⟩ := Q4 F6
        obtain ⟨dx6, hob6⟩ := M6.ob
        obtain ⟨p0, p1, hpg, hp0, hp1⟩ := M6.pg
        -- comes
        refine ⟨fun σ' H' => σ' = [some (V.ref x.o), some (.int 1), some (.ref q), some (.ref x.b.e), some (.int 1), some (.bl (decide ((sk.a.now : Int) = sk.b.now) && decide (sk.b.now ∈ sk.ps.2)))] ∧ H' = H6, ?_, ?_⟩
        · refine ⟨_, rfl, q, _, _, _, rfl, rfl, SqL.of hq6, rfl, t0, _, _, _, rfl, rfl, SqT.of hs0, rfl, _, rfl, q, _, _, _, rfl, rfl, SqL.of hq6, rfl, t1, _, _, _, rfl, rfl, SqT.of hs1, rfl, rfl, decide ((sk.a.now : Int) = sk.b.now), congrArg V.bl eal, iteB (fun g1 => ?_) (fun g1 => ⟨?_, rfl⟩)⟩
          · refine ⟨_, rfl, _, rfl, q, _, _, _, rfl, rfl, SqL.of hq6, rfl, t1, _, _, _, rfl, rfl, SqT.of hs1, rfl, _, rfl, _, T.C_Line, _, _, _, rfl, hob6, T.cl_Line, T.no_Line_passing, zip_lookup liN_nd (i := 1) rfl rfl, _, rfl, x.pg, _, _, _, rfl, rfl, SqL.of hpg, rfl, p1, _, rfl, .inr (SqT.of hp1), rfl, flat_ints _, ?_⟩
            have ein : inV (V.int sk.b.now) (sk.ps.2.map V.int) = decide (sk.b.now ∈ sk.ps.2) := inV_int _ _
            refine ⟨?_, rfl⟩
            rw [g1, Bool.true_and, ← ein]
            rfl
          · rw [g1, Bool.false_and]
            rfl
        rintro σ' H' ⟨rfl, eH⟩
        obtain rfl := eH.symm
        -- heard
        obtain ⟨kvs, hlo, hld⟩ := M6.lo
        obtain ⟨⟨dxe, _, _, _, hoe, _⟩, _⟩ := id M6.eb
        refine ⟨_, rfl, x.b.e, dxe, _, rfl, hoe, zip_no (by decide), _, rfl, fun z H' => Same H6 H' ∧ Im H' z (fastO (when (jo sk.a.now sk.b.now sk.ps.2 sk.ls.2.2) (fastOf sk.a))), ?_, ?_⟩
        · have non : ∀ H' : Hp, (jo sk.a.now sk.b.now sk.ps.2 sk.ls.2.2) = false → Im H' .non (fastO (when (jo sk.a.now sk.b.now sk.ps.2 sk.ls.2.2) (fastOf sk.a))) := fun H' e => by rw [e]; exact .non
          refine ⟨_, rfl, _, rfl, iteB (fun g => ?_) (fun g => iteF ⟨.refl _, non _ (by rw [jo_b, ← Bool.and_assoc, g]; rfl)⟩)⟩
          refine ⟨_, rfl, _, rfl, (by show 2 ≤ sizeLine; decide), fun N hN => ?_⟩
          have sN := Same.upd_new (o := .tup [.int 1, .int 1]) hN
          have hN6 := upd_same (H := H6) (a := N) (o := .tup [.int 1, .int 1])
          generalize (upd H6 N (.tup [.int 1, .int 1])) = H7 at sN hN6 ⊢
          have hb : (valV kvs (lkey 1 1)).isSome = sk.ls.2.2 := hld.b 1 1 (by omega) (by omega)
          refine ⟨_, rfl, _, T.C_Line, _, _, _, rfl, sN _ _ hob6, T.cl_Line, T.no_Line_lost, zip_lookup liN_nd (i := 2) rfl rfl, x.lo, _, rfl, DGet.t (k := lkey 1 1) (sN _ _ hlo) hN6, _, rfl, ?_⟩
          rw [hb]
          refine iteB (fun g2 => ?_) (fun g2 => ⟨sN, non _ (by rw [jo_b, ← Bool.and_assoc, g, g2]; rfl)⟩)
          refine ⟨_, rfl, _, rfl, _, _, rfl, rfl, q, _, _, _, rfl, rfl, SqL.of (sN _ _ hq6), rfl, t0, _, _, _, rfl, rfl, SqT.of (sN _ _ hs0), rfl, sN, ?_⟩
          have e : (jo sk.a.now sk.b.now sk.ps.2 sk.ls.2.2) = true := by rw [jo_b, ← Bool.and_assoc, g, g2]; rfl
          rw [e]
          exact iq0.same sN
        rintro z H7 ⟨s7, hz⟩
        exact hearB1L (Q := fun _ H8 => (∃ v3 v4 v5 : Option V, [some (V.ref x.o), some (.int 1), some (.ref q), some (.ref x.b.e), some (.int 1), some (.bl (decide ((sk.a.now : Int) = sk.b.now) && decide (sk.b.now ∈ sk.ps.2)))] = [some (V.ref x.o), some (.int 1), some (.ref q), v3, v4, v5]) ∧ LoAt T.C_Line T.C_End T.C_Marks Z H8 x (fastP sk) ∧ Frm x.all H4 H8) (M6.same s7) ok.eb ok.pb hZ ((AZ4.frm F6).frm (Frm.of_same (S := []) s7)) hz (fun mm hm => by rw [← (when_some hm).2]; exact ok.db.waits) fun H8 M8 f8 => ⟨⟨_, _, _, rfl⟩, M8, (F6.trans (Frm.of_same s7)).trans f8⟩
      · rintro σ H5 ⟨⟨v3, v4, v5, rfl⟩, M5, F5⟩
        exact kk H5 M5 (F4.trans F5)

end
end TL

namespace TL
open PySem PySem.Spec PyProof.Rows L2
section
variable {P : Program} {w : World} {K : PySem.W.Frag} {mg : Str → Option Value} {base : Heap}
def sp_Line_frame (T : Txt K mg) : Sp := fun vs H Q _ => ∃ (Z : List Addr) (x : LoAd) (s : PlS), vs = [.ref x.o] ∧ LoAt T.C_Line T.C_End T.C_Marks Z H x s ∧ (∀ z ∈ x.all, z ∈ Z) ∧ Alloc Z H ∧ LnOk 0 s.toLnS ∧ s.a.over < 1000000 ∧ s.log.length < 1000000 ∧
  ∀ (lo t : Addr) (H' : Hp), H lo = none → LoAt T.C_Line T.C_End T.C_Marks (lo :: Z) H' { x with lo := lo } (frameP s) → Frm x.all H H' → H' t = some (.tup (rowV (rowF s.ps s.ls (halfF s.ps s.ls s.toLnS)))) → Q (.ref t) H'
theorem ok_Line_frame (T : Txt K mg) : FnOk P w K mg base CX0 9 T.a_Line_frame T.fd_Line_frame P_Line_frame (sp_Line_frame T) := by
  have G_Line_carry := ok_Line_carry (P := P) (w := w) (base := base) T
  have G_End_stands := ok_End_stands (P := P) (w := w) (base := base) T
  refine T.F_Line_frame.ok sc_Line_frame (fun vs H Q E h => ?_) (fun cdv A outer s H vs Q E hr h => ?_)
  · obtain ⟨Z, x, s, rfl, _⟩ := h
    rfl
  · obtain ⟨Z, x, sk, rfl, M, hZ, AZ, ok, hov, hlog, k⟩ := h
    refine ⟨_, (pss_cons (ps_expr (pe_meth (pv 0) T.cl_Line T.m_Line_carry G_Line_carry (hr.mono (by decide)) T.b_Line_carry .nil pass0 (pa_cons (pe_glob (v := .int 0) rfl T.v_SLOW ⟨_, rfl⟩) pa_nil)))
    (pss_cons (ps_expr (pe_meth (pv 0) T.cl_Line T.m_Line_carry G_Line_carry (hr.mono (by decide)) T.b_Line_carry .nil pass0 (pa_cons (pe_glob (v := .int 1) rfl T.v_FAST ⟨_, rfl⟩) pa_nil)))
    (pss_cons (ps_fld (pv 0) pe_dnewT rfl)
    (pss_cons (ps_expr (pe_bm PySem.F.plainAttrs_list PySem.F.slot_list_append PySem.F.type_list_append mt_append (pe_fld (pv 0) rfl) (pa_cons (pe_op op_catA (pe_meth0 (pe_ix ix_list (pe_fld (pv 0) rfl) pe_int (fun _ _ => rfl)) T.cl_End T.m_End_stands G_End_stands (hr.mono (by decide)) T.b_End_stands .nil pass0) (pe_meth0 (pe_ix ix_list (pe_fld (pv 0) rfl) pe_int (fun _ _ => rfl)) T.cl_End T.m_End_stands G_End_stands (hr.mono (by decide)) T.b_End_stands .nil pass0)) pa_nil)))
    (pss_one (ps_ret (pe_ix ix_list (pe_fld (pv 0) rfl) (pe_un un_neg pe_int) (fun _ _ => rfl)))))))), ?_⟩
    obtain ⟨dx, ho⟩ := M.ob
    refine ⟨_, rfl, x.o, dx, _, rfl, ho, zip_no (by decide), Z, x, sk, 0, rfl, M, hZ, AZ, ok, .inl rfl, hov, fun H1 M1 f1 => ?_⟩
    have M1 : LoAt T.C_Line T.C_End T.C_Marks Z H1 x (halfP sk) := M1
    have ok1 : LnOk 1 (halfP sk).toLnS := ok.half _ _
    have hov1 : (halfP sk).a.over < 1000000 := by
      show (hearF0 _ _).over < _
      rw [(slow_parts _ _).2.2.1]
      exact hov
    obtain ⟨dx1, ho1⟩ := M1.ob
    refine ⟨_, rfl, x.o, dx1, _, rfl, ho1, zip_no (by decide), Z, x, halfP sk, 1, rfl, M1, hZ, AZ.frm f1, ok1, .inr rfl, hov1, fun H2 M2 f2 => ?_⟩
    have M2 : LoAt T.C_Line T.C_End T.C_Marks Z H2 x (fastP (halfP sk)) := M2
    -- nothing is lost any more
    intro lo hlo
    have s3 := Same.upd_new (o := .dT []) hlo
    have M3 := M2.same s3
    obtain ⟨dx3, ho3⟩ := M3.ob
    have loH : H lo = none := (f1.trans f2).free hlo
    refine ⟨_, rfl, x.o, T.C_Line, dx3, _, rfl, ho3, T.cl_Line, T.no_Line_lost, zip_small (by decide), ?_⟩
    have ezp : putF "lost" (V.ref lo) (liN.zip (liV x)) = liN.zip (liV { x with lo := lo }) := zip_put liN_nd (i := 2) rfl (by show 2 < 4; decide)
    rw [ezp]
    obtain ⟨M4, f4⟩ := M3.newLost (hZ _ (by simp [LoAd.all])) (l := lo) upd_same (M2.ne_new hlo) (H' := upd (upd H2 lo (.dT [])) x.o (.ins T.C_Line dx3 (liN.zip (liV { x with lo := lo })))) (fun dx' h' => by rw [ho3] at h'; cases h'; rfl)
    have F4 : Frm x.all H (upd (upd H2 lo (.dT [])) x.o (.ins T.C_Line dx3 (liN.zip (liV { x with lo := lo })))) := ((f1.trans f2).trans (Frm.of_same s3)).trans f4
    generalize (upd (upd H2 lo (.dT [])) x.o (.ins T.C_Line dx3 (liN.zip (liV { x with lo := lo })))) = H4 at M4 F4 ⊢
    -- the row
    obtain ⟨dx4, ho4⟩ := M4.ob
    obtain ⟨xs, hxs, hA⟩ := M4.rw
    have hxl := rows_len hA
    obtain ⟨⟨dxa, _, _, _, hoa, _⟩, _⟩ := id M4.ea
    refine ⟨_, rfl, _, T.C_Line, _, _, _, rfl, ho4, T.cl_Line, T.no_Line_rows, zip_lookup liN_nd (i := 3) rfl rfl, .inl ⟨rfl, _, SqL.of hxs⟩, ?_⟩
    refine ⟨_, rfl, _, T.C_Line, _, _, _, rfl, ho4, T.cl_Line, T.no_Line_ends, zip_lookup liN_nd (i := 0) rfl rfl, x.es, _, _, .ref x.a.e, rfl, rfl, SqL.of M4.es, rfl, x.a.e, dxa, _, rfl, hoa, zip_no (by decide), _, x.a, _, rfl, M4.ea, fun t0 ht0 => ?_⟩
    have s5 := Same.upd_new (o := .tup [.int (fastP (halfP sk)).a.now, .bl (fastP (halfP sk)).a.joined]) ht0
    have M5 := M4.same s5
    obtain ⟨dx5, ho5⟩ := M5.ob
    obtain ⟨⟨dxb, _, _, _, hob, _⟩, _⟩ := id M5.eb
    have ht05 := upd_same (H := H4) (a := t0) (o := .tup [.int (fastP (halfP sk)).a.now, .bl (fastP (halfP sk)).a.joined])
    refine ⟨_, rfl, _, T.C_Line, _, _, _, rfl, ho5, T.cl_Line, T.no_Line_ends, zip_lookup liN_nd (i := 0) rfl rfl, x.es, _, _, .ref x.b.e, rfl, rfl, SqL.of M5.es, rfl, x.b.e, dxb, _, rfl, hob, zip_no (by decide), _, x.b, _, rfl, M5.eb, fun t1 ht1 => ?_⟩
    have s6 := Same.upd_new (o := .tup [.int (fastP (halfP sk)).b.now, .bl (fastP (halfP sk)).b.joined]) ht1
    refine ⟨t0, t1, _, _, rfl, rfl, SqT.of (s6 _ _ ht05), SqT.of upd_same, (by show 2 + 2 ≤ sizeLine; decide), (fun z => by cases z), (fun _ z => by cases z), fun _ _ t ht => ?_⟩
    have s7 := Same.upd_new (o := .tup ([.int (fastP (halfP sk)).a.now, .bl (fastP (halfP sk)).a.joined] ++ [.int (fastP (halfP sk)).b.now, .bl (fastP (halfP sk)).b.joined])) ht
    have s47 := (s5.trans s6).trans s7
    have erow : ([.int (fastP (halfP sk)).a.now, .bl (fastP (halfP sk)).a.joined] ++ [.int (fastP (halfP sk)).b.now, .bl (fastP (halfP sk)).b.joined] : List V) = rowV (rowF sk.ps sk.ls (halfF sk.ps sk.ls sk.toLnS)) := by
      have e1 : (fastP (halfP sk)).a.now = (halfP sk).a.now := (fast_parts _ _).2.2.2.2.1
      have e2 : (fastP (halfP sk)).b.now = (halfP sk).b.now := (fast_parts _ _).2.2.2.2.1
      have e3 : (fastP (halfP sk)).a.joined = jo (halfP sk).a.now (halfP sk).b.now sk.ps.1 sk.ls.2.1 := by
        show (hearF1 _ _).joined = _
        rw [(fast_parts _ _).2.2.2.2.2.1]
        unfold when
        show (if jo (halfP sk).a.now (halfP sk).b.now sk.ps.1 sk.ls.2.1 = true then _ else _ : Option FastL).isSome = _
        cases jo (halfP sk).a.now (halfP sk).b.now sk.ps.1 sk.ls.2.1 <;> rfl
      have e4 : (fastP (halfP sk)).b.joined = jo (halfP sk).a.now (halfP sk).b.now sk.ps.2 sk.ls.2.2 := by
        show (hearF1 _ _).joined = _
        rw [(fast_parts _ _).2.2.2.2.2.1]
        unfold when
        show (if jo (halfP sk).a.now (halfP sk).b.now sk.ps.2 sk.ls.2.2 = true then _ else _ : Option FastL).isSome = _
        cases jo (halfP sk).a.now (halfP sk).b.now sk.ps.2 sk.ls.2.2 <;> rfl
      rw [e1, e2, e3, e4]
      rfl
    have ht7 := upd_same (H := (upd (upd H4 t0 (.tup [.int (fastP (halfP sk)).a.now, .bl (fastP (halfP sk)).a.joined])) t1 (.tup [.int (fastP (halfP sk)).b.now, .bl (fastP (halfP sk)).b.joined]))) (a := t) (o := .tup ([.int (fastP (halfP sk)).a.now, .bl (fastP (halfP sk)).a.joined] ++ [.int (fastP (halfP sk)).b.now, .bl (fastP (halfP sk)).b.joined]))
    rw [erow] at ht7 s7 s47 ⊢
    generalize (upd (upd (upd H4 t0 (.tup [.int (fastP (halfP sk)).a.now, .bl (fastP (halfP sk)).a.joined])) t1 (.tup [.int (fastP (halfP sk)).b.now, .bl (fastP (halfP sk)).b.joined])) t (.tup (rowV (rowF sk.ps sk.ls (halfF sk.ps sk.ls sk.toLnS))))) = H7 at ht7 s47 ⊢
    have M7 := M4.same s47
    refine ⟨x.rw, xs, _, rfl, rfl, s47 _ _ hxs, ?_, ?_⟩
    · rw [hxl]
      show sk.log.length < sizeLine
      exact Nat.lt_trans hlog (by decide)
    have hA8 : ImAll H7 (xs ++ [.ref t]) ((sk.log ++ [rowF sk.ps sk.ls (halfF sk.ps sk.ls sk.toLnS)]).map rowD) := by
      rw [List.map_append]
      exact (hA.same s47).append (.cons (im_row ht7) .nil)
    obtain ⟨M8, f8⟩ := M7.setRows (List.mem_cons_of_mem _ (hZ _ (by simp [LoAd.all]))) hA8
    have F8 : Frm x.all H (upd H7 x.rw (.lst (xs ++ [.ref t]))) := (F4.trans (Frm.of_same s47)).trans ((Frm.updL (s47 _ _ hxs)).mono fun y hy => by simp at hy; subst hy; simp [LoAd.all])
    obtain ⟨dx8, ho8⟩ := M8.ob
    refine ⟨_, rfl, _, T.C_Line, _, _, _, rfl, ho8, T.cl_Line, T.no_Line_rows, zip_lookup liN_nd (i := 3) rfl rfl, _, rfl, x.rw, _, _, .ref t, rfl, rfl, SqL.of upd_same, atI_last _ _, ?_⟩
    exact k lo t _ loH (M8.ghost ⟨rfl, rfl, rfl, rfl, rfl⟩) F8 (f8.tups _ _ ht7)

end
end TL

namespace TL
open PySem PySem.Spec PyProof.Rows L2
section
variable {P : Program} {w : World} {K : PySem.W.Frag} {mg : Str → Option Value} {base : Heap}
/-- a line and the law's own line go alike -/
structure G16 (T : Txt K mg) (Z : List Addr) (ρ : Addr → Nat) (H : Hp) (a : Ad16) (s : St16) (n : Nat) : Prop where
  A : A16 T.tl T.C_Line T.C_End T.C_Marks Z ρ H a s
  al : Alloc Z H
  ey : s.y = s.x.toLnS
  ep : s.p = s.x.ps
  el : s.l = s.x.ls
  ok : LnOk 0 s.x.toLnS
  ov : s.x.a.over ≤ n
  lg : s.x.log.length ≤ n
  sa : s.x.sa.length ≤ n
  sb : s.x.sb.length ≤ n
  wk : LnOk 0 s.w.toLnS
  wo : s.w.a.over ≤ n
  wl : s.w.log.length ≤ n
section
variable {T : Txt K mg} {Z : List Addr} {ρ : Addr → Nat} {H H' : Hp} {a : Ad16} {s : St16} {n : Nat}
theorem G16.same (h : G16 T Z ρ H a s n) (e : Same H H') : G16 T Z ρ H' a s n := ⟨h.A.same e, h.al.frm (Frm.of_same (S := []) e), h.ey, h.ep, h.el, h.ok, h.ov, h.lg, h.sa, h.sb, h.wk, h.wo, h.wl⟩
theorem G16.dice (h : G16 T Z ρ H a s n) (D : DiceAt H' a.d) (f : Frm [a.d] H H') : G16 T Z ρ H' a s n := ⟨h.A.dice D f, h.al.frm f, h.ey, h.ep, h.el, h.ok, h.ov, h.lg, h.sa, h.sb, h.wk, h.wo, h.wl⟩
theorem G16.mono (h : G16 T Z ρ H a s n) {m : Nat} (e : n ≤ m) : G16 T Z ρ H a s m := by
  have := h.ov
  have := h.lg
  have := h.sa
  have := h.sb
  have := h.wo
  have := h.wl
  exact ⟨h.A, h.al, h.ey, h.ep, h.el, h.ok, by omega, by omega, by omega, by omega, h.wk, by omega, by omega⟩
end
/-- a letter is noted as lost in the own lists -/
theorem A16.loseOwn {TL : List (Addr × Str)} {CL CE CM : Addr} {Z : List Addr} {ρ : Addr → Nat} {H : Hp} {a : Ad16} {s : St16} (h : A16 TL CL CE CM Z ρ H a s) {p e : Int} (hp : p = 0 ∨ p = 1) (he : e = 0 ∨ e = 1) :
    ∃ (c : Addr) (xs : List V) (n : Nat), atI [V.ref a.c0, .ref a.c1] p = some (.ref c) ∧ H c = some (.lst xs) ∧ ixN xs.length e = some n ∧ A16 TL CL CE CM Z ρ (upd H c (.lst (xs.set n (.bl true)))) a { s with l := setL s.l p e } ∧ Frm [c] H (upd H c (.lst (xs.set n (.bl true)))) := by
  rcases hp with rfl | rfl <;> rcases he with rfl | rfl
  · exact ⟨a.c0, _, 0, rfl, h.L0, rfl, (h.set0 true s.l.1.2).1, (h.set0 true s.l.1.2).2⟩
  · exact ⟨a.c0, _, 1, rfl, h.L0, rfl, (h.set0 s.l.1.1 true).1, (h.set0 s.l.1.1 true).2⟩
  · exact ⟨a.c1, _, 0, rfl, h.L1, rfl, (h.set1 true s.l.2.2).1, (h.set1 true s.l.2.2).2⟩
  · exact ⟨a.c1, _, 1, rfl, h.L1, rfl, (h.set1 s.l.2.1 true).1, (h.set1 s.l.2.1 true).2⟩
theorem G16.frame {T : Txt K mg} {Z Z' : List Addr} {ρ ρ' : Addr → Nat} {H H' : Hp} {a a' : Ad16} {s : St16} {n : Nat} (h : G16 T Z ρ H a s n) (hn : n ≤ 4000) (A : A16 T.tl T.C_Line T.C_End T.C_Marks Z' ρ' H' a' ⟨frameP s.x, frameF s.p s.l s.y, s.w, s.p, lno⟩) (al : Alloc Z' H') :
    G16 T Z' ρ' H' a' ⟨frameP s.x, frameF s.p s.l s.y, s.w, s.p, lno⟩ (n + 1) := by
  have hov := h.ov
  have hlg := h.lg
  have hsa := h.sa
  have hsb := h.sb
  have hwo := h.wo
  have hwl := h.wl
  refine ⟨A, al, ?_, h.ep, rfl, h.ok.frame _ _ (by omega), ?_, ?_, Nat.le_succ_of_le hsa, Nat.le_succ_of_le hsb, h.wk, (by show s.w.a.over ≤ _; omega), Nat.le_succ_of_le hwl⟩
  · show frameF s.p s.l s.y = frameF s.x.ps s.x.ls s.x.toLnS
    rw [h.ey, h.ep, h.el]
  · show (frameF s.x.ps s.x.ls s.x.toLnS).a.over ≤ _
    rw [frame_over]
    omega
  · show (frameF s.x.ps s.x.ls s.x.toLnS).log.length ≤ _
    rw [frame_log, List.length_append]
    show _ + 1 ≤ _
    omega
theorem G16.lose {T : Txt K mg} {Z : List Addr} {ρ : Addr → Nat} {H H' : Hp} {a : Ad16} {s : St16} {n : Nat} (h : G16 T Z ρ H a s n) {p e : Int} (A : A16 T.tl T.C_Line T.C_End T.C_Marks Z ρ H' a ⟨{ s.x with ls := setL s.x.ls p e }, s.y, s.w, s.p, setL s.l p e⟩) (al : Alloc Z H') :
    G16 T Z ρ H' a ⟨{ s.x with ls := setL s.x.ls p e }, s.y, s.w, s.p, setL s.l p e⟩ n :=
  ⟨A, al, h.ey, h.ep, by show setL s.l p e = setL s.x.ls p e; rw [h.el], h.ok, h.ov, h.lg, h.sa, h.sb, h.wk, h.wo, h.wl⟩
def sp__law_goes_on (T : Txt K mg) : Sp := fun vs H Q _ => ∃ (Z : List Addr) (ρ : Addr → Nat) (a : Ad16) (s : St16), vs = [.ref a.x.o, .ref a.y.l, .ref a.pl, .ref a.L] ∧ G16 T Z ρ H a s 200 ∧
  ∀ (Z' : List Addr) (ρ' : Addr → Nat) (a' : Ad16) (s' : St16) (H' : Hp), a'.x.o = a.x.o → a'.d = a.d → G16 T Z' ρ' H' a' s' 650 → Q (.bl true) H'
theorem ok__law_goes_on (T : Txt K mg) : FnOk P w K mg base CX0 10 T.a__law_goes_on T.fd__law_goes_on P__law_goes_on (sp__law_goes_on T) := by
  have G__law_alike := ok__law_alike (P := P) (w := w) (base := base) T 4
  have G__law_frame := ok__law_frame (P := P) (w := w) (base := base) T
  have G__law_none_lost := ok__law_none_lost (P := P) (w := w) (base := base) T
  have G_Line_frame := ok_Line_frame (P := P) (w := w) (base := base) T
  have G_Line_log := ok_Line_log (P := P) (w := w) (base := base) T
  have G_Line_lose := ok_Line_lose (P := P) (w := w) (base := base) T
  refine T.F__law_goes_on.ok sc__law_goes_on (fun vs H Q E h => ?_) (fun cdv A outer s H vs Q E hr h => ?_)
  · obtain ⟨Z, ρ, a, s, rfl, _⟩ := h
    rfl
  · obtain ⟨Z, ρ, a, sk, rfl, G0, k⟩ := h
    have hu := hu_of hr
    refine ⟨_, (pss_cons (ps_for PassesOwn.never rfl (pi_range1 rfl T.n_range (pa_cons pe_int pa_nil)) (pg_name (i := 4) sc__law_goes_on.nd rfl (by first | exact Or.inl rfl | exact Or.inr rfl))
      (pss_cons (ps_cut (ps_if (pt_cmpR op_eq (pe_op op_mod (pv 4) pe_int) pe_int (nomark _))
        (pss_cons (ps_asg pe_bl (pg_sub (pe_ix ix_list (pv 3) (pe_op op_mod (pv 4) pe_int) (fun _ _ => rfl)) (pe_op op_mod (pe_op op_fdiv (pv 4) pe_int) pe_int) set_list))
        (pss_one (ps_expr (pe_meth (pv 0) T.cl_Line T.m_Line_lose G_Line_lose (hr.mono (by decide)) T.b_Line_lose .nil passL (pa_cons (pe_op op_mod (pv 4) pe_int) (pa_cons (pe_op op_mod (pe_op op_fdiv (pv 4) pe_int) pe_int) pa_nil))))))
        pss_nil))
      (pss_cons (ps_expr (pe_call G__law_frame (hr.mono (by decide)) rfl T.g__law_frame T.F__law_frame.kp T.b__law_frame .nil pass0 (pa_cons (pv 1) (pa_cons (pv 2) (pa_cons (pv 3) pa_nil)))))
      (pss_cons (ps_set (i := 3) sc__law_goes_on.nd rfl (by first | exact Or.inl rfl | exact Or.inr rfl) (pe_call0 G__law_none_lost (hr.mono (by decide)) rfl T.g__law_none_lost T.F__law_none_lost.kp T.b__law_none_lost .nil pass0))
      (pss_one (ps_cut (ps_expr (pe_meth0 (pv 0) T.cl_Line T.m_Line_frame G_Line_frame (hr.mono (by decide)) T.b_Line_frame .nil pass0))))))))
    (pss_one (ps_ret (pe_call G__law_alike (hr.mono (by decide)) rfl T.g__law_alike T.F__law_alike.kp T.b__law_alike .nil pass0 (pa_cons (pe_meth0 (pv 0) T.cl_Line T.m_Line_log G_Line_log (hr.mono (by decide)) T.b_Line_log .nil pass0) (pa_cons (pe_dget hu (pv 1) pe_str (fun _ _ => rfl)) pa_nil)))))), ?_⟩
    refine ⟨450, rfl, by decide, by decide, for_range (lo := 0) (n := 450) (fun i σ H' => ∃ (Z' : List Addr) (ρ' : Addr → Nat) (a' : Ad16) (s' : St16) (v4 : Option V), σ = [some (V.ref a.x.o), some (.ref a.y.l), some (.ref a.pl), some (.ref a'.L), v4] ∧ a'.x.o = a.x.o ∧ a'.y.l = a.y.l ∧ a'.pl = a.pl ∧ a'.d = a.d ∧ G16 T Z' ρ' H' a' s' (200 + i))
      ⟨Z, ρ, a, sk, none, rfl, rfl, rfl, rfl, rfl, G0⟩ ?_ ?_⟩
    · rintro i σ H1 hi ⟨Z1, ρ1, a1, s1, v4, rfl, e1, e2, e3, e4, G1⟩
      have e0 : (0 : Int) + (i : Int) = (i : Nat) := by omega
      -- now and then a letter is lost
      refine ⟨fun σ' H' => ∃ s2 : St16, σ' = [some (V.ref a.x.o), some (.ref a.y.l), some (.ref a.pl), some (.ref a1.L), some (.int (0 + (i : Nat)))] ∧ G16 T Z1 ρ1 H' a1 s2 (200 + i), ?_, ?_⟩
      · refine ⟨_, rfl, _, _, rfl, rfl, (by show (0 : Int) < 60; decide), rfl, _, rfl, ?_⟩
        refine iteD (fun h59 => ?_) (fun _ => ⟨s1, rfl, G1⟩)
        have h59 := vint_inj.mp h59
        have ep : (0 + (i : Int)) % 2 = 1 := by omega
        have ee : (0 + (i : Int)) / 60 % 2 = 0 ∨ (0 + (i : Int)) / 60 % 2 = 1 := by omega
        obtain ⟨c, xs, m, hat, hc, hix, A2, f2⟩ := G1.A.loseOwn (p := (0 + (i : Int)) % 2) (e := (0 + (i : Int)) / 60 % 2) (.inr ep) ee
        refine ⟨_, rfl, _, rfl, _, _, rfl, rfl, (by show (0 : Int) < 2; decide), a1.L, _, _, _, rfl, rfl, SqL.of G1.A.L, hat, _, rfl, _, _, rfl, rfl, ⟨by decide, by decide⟩, _, _, rfl, rfl, (by show (0 : Int) < 2; decide), c, xs, _, m, rfl, rfl, hc, hix, ?_⟩
        have al2 := G1.al.frm f2
        obtain ⟨dx, hob⟩ := A2.X.ob
        rw [e1] at hob
        refine ⟨_, rfl, a.x.o, dx, _, rfl, hob, zip_no (N := liN) (by decide +kernel), _, rfl, _, _, rfl, rfl, (by show (0 : Int) < 2; decide), _, rfl, _, _, rfl, rfl, ⟨by decide, by decide⟩, _, _, rfl, rfl, (by show (0 : Int) < 2; decide), ?_⟩
        refine ⟨Z1, a1.x, s1.x, _, _, .int ((0 + (i : Int)) % 2), .int ((0 + (i : Int)) / 60 % 2), by rw [e1] <;> rfl, A2.X, A2.inZ.1, .int _, (fun ds z => by cases z), .int _, (fun ds z => by cases z), (fun z => ?_), (fun _ z => ?_), fun p e q1 q2 _ _ H3 X3 f3 => ?_⟩
        · rw [ep] at z; cases z
        · rcases ee with q | q <;> rw [q] at z <;> cases z
        · cases q1
          cases q2
          exact ⟨_, rfl, G1.lose (A2.stepX X3 f3) (al2.frm f3)⟩
      rintro σ' H2 ⟨s2, rfl, G2⟩
      -- both go a frame
      refine ⟨_, rfl, _, rfl, _, rfl, Z1, a1.y, s2.y, a1.pl, a1.L, s2.p, s2.l, by rw [e2, e3] <;> rfl, G2.A.Y, by rw [G2.ey]; exact G2.ok, G2.A.inZ.2.1, G2.al, ?_, ?_, G2.A.pass, G2.A.lost, fun H3 Y3 f3 => ?_⟩
      · rw [G2.ey]
        have := G2.ov
        show s2.x.a.over < _
        omega
      · rw [G2.ey]
        have := G2.lg
        show s2.x.log.length < _
        omega
      have A3 := G2.A.stepY Y3 f3
      have al3 := G2.al.frm f3
      refine ⟨rfl, fun L c0 c1 H4 hL h0 h1 n0 n1 n2 q q0 q1 s4 => ?_⟩
      have A4 := A3.newLost hL h0 h1 n0 n1 n2 q q0 q1 s4
      have al4 : Alloc (L :: c0 :: c1 :: Z1) H4 := alloc_cons (alloc_cons (alloc_cons (al3.frm (Frm.of_same (S := []) s4)) ⟨_, q1⟩) ⟨_, q0⟩) ⟨_, q⟩
      obtain ⟨dx, hob⟩ := A4.X.ob
      have hob : H4 a.x.o = some (.ins T.C_Line dx (liN.zip (liV a1.x))) := by rw [← e1]; exact hob
      refine ⟨fun σ' H' => σ' = [some (V.ref a.x.o), some (.ref a.y.l), some (.ref a.pl), some (.ref L), some (.int (0 + (i : Nat)))] ∧ ∃ (lo : Addr), H4 lo = none ∧ LoAt T.C_Line T.C_End T.C_Marks (lo :: L :: c0 :: c1 :: Z1) H' { a1.x with lo := lo } (frameP s2.x) ∧ Frm a1.x.all H4 H', ?_, ?_⟩
      · refine ⟨_, rfl, a.x.o, dx, _, rfl, hob, zip_no (N := liN) (by decide +kernel), _, a1.x, s2.x, by rw [e1] <;> rfl, A4.X, A4.inZ.1, al4, G2.ok, ?_, ?_, fun lo t H' hlo X' f' _ => ⟨rfl, lo, hlo, X', f'⟩⟩
        · have := G2.ov; omega
        · have := G2.lg; omega
      rintro σ' H5 ⟨rfl, lo, hlo, X5, f5⟩
      have A5 := A4.frameX hlo X5 f5
      have al5 : Alloc (lo :: L :: c0 :: c1 :: Z1) H5 := alloc_cons (al4.frm f5) (X5.there lo (by simp [LoAd.every, LoAd.base]))
      exact ⟨_, _, { { a1 with L := L, c0 := c0, c1 := c1 } with x := { a1.x with lo := lo } }, _, _, rfl, e1, e2, e3, e4, G2.frame (by omega) A5 al5⟩
    · rintro σ H1 ⟨Z1, ρ1, a1, s1, v4, rfl, e1, e2, e3, e4, G1⟩
      obtain ⟨dx, hob⟩ := G1.A.X.ob
      have hob : H1 a.x.o = some (.ins T.C_Line dx (liN.zip (liV a1.x))) := by rw [← e1]; exact hob
      refine ⟨_, rfl, a.x.o, dx, _, rfl, hob, zip_no (N := liN) (by decide +kernel), Z1, a1.x, s1.x, by rw [e1] <;> rfl, G1.A.X, fun l xs hl hA => ?_⟩
      have s2 := Same.upd_new (o := .lst xs) hl
      have q2 := upd_same (H := H1) (a := l) (o := .lst xs)
      have hA2 := hA.same s2
      generalize upd H1 l (.lst xs) = H2 at s2 q2 hA2 ⊢
      have G2 := G1.same s2
      obtain ⟨ys, hlg, hAy⟩ := G2.A.Y.lg
      have hg := G2.A.Y.get.2.2.2.1
      rw [e2] at hg
      refine ⟨_, rfl, a.y.l, _, rfl, hg, ?_⟩
      have hlog : s1.y.log = s1.x.log := by rw [G1.ey]
      rw [hlog] at hAy
      have := G1.lg
      refine ⟨.ref l, .ref a1.y.lg, .list (s1.x.log.map rowD), rfl, .lst (SqL.of q2) hA2.dp, .lst (SqL.of hlg) hAy.dp, lv_mono (lv_rows (by omega)), fun H3 s3 => ?_⟩
      exact k _ _ _ _ H3 e1 e4 (G2.same s3)

end
end TL

namespace TL
open PySem PySem.Spec PyProof.Rows L2
section
variable {P : Program} {w : World} {K : PySem.W.Frag} {mg : Str → Option Value} {base : Heap}
def sp_Line_init (T : Txt K mg) : Sp := fun vs H Q _ => ∃ (p dx t0 t1 : Addr) (ca cb : List Int), vs = [.ref p, .ref t0, .ref t1] ∧ H p = some (.ins T.C_Line dx []) ∧ H t0 = some (.tup (ca.map V.int)) ∧ H t1 = some (.tup (cb.map V.int)) ∧ Can ca ∧ Can cb ∧
  ∀ (x : LoAd) (H' : Hp), x.o = p → (∀ Z, LoAt T.C_Line T.C_End T.C_Marks Z H' x (.new ca cb)) → (∀ y ∈ x.every, y = p ∨ H y = none) → Frm [p] H H' → Q .non H'
theorem iniL {K : PySem.W.Frag} {P : Hp → Prop} {f : Str} {CE dx p : Addr} {H : Hp} {vs : List V} (v : V) (h : H p = some (.ins CE dx (liN.zip vs))) (cl : Cls K CE) (no : NoAttr K CE f) (hf : liN[vs.length]? = some f)
    (k : ∀ H', H' p = some (.ins CE dx (liN.zip (vs ++ [v]))) → Frm [p] H H' → P H') :
    ∃ (b C dx : Addr) (fs : List (Str × V)), V.ref p = .ref b ∧ H b = some (.ins C dx fs) ∧ Cls K C ∧ NoAttr K C f ∧ fs.length < 1000 ∧ P (upd H b (.ins C dx (putF f v fs))) := by
  refine ⟨p, CE, dx, _, rfl, h, cl, no, zip_small (by decide), ?_⟩
  rw [zip_add liN_nd hf]
  exact k _ upd_same (Frm.updI h)
theorem rg_ten : rgV 0 (9 + 1) = ten10.map V.int := by decide
theorem ok_Line_init (T : Txt K mg) : FnOk P w K mg base CX0 6 T.a_Line_init T.fd_Line_init P_Line_init (sp_Line_init T) := by
  have G_End_init := ok_End_init (P := P) (w := w) (base := base) T
  refine T.F_Line_init.ok sc_Line_init (fun vs H Q E h => ?_) (fun cdv A outer s H vs Q E hr h => ?_)
  · obtain ⟨p, dx, t0, t1, ca, cb, rfl, _⟩ := h
    rfl
  · obtain ⟨p, dx, t0, t1, ca, cb, rfl, hp, h0, h1, hca, hcb, k⟩ := h
    refine ⟨_, (pss_cons (ps_fld (pv 0) (pe_lst (pa_cons (pe_make T.M_End G_End_init (hr.mono (by decide)) rfl T.c_End T.b_End_init .nil passL (pa_cons (pv 1) pa_nil)) (pa_cons (pe_make T.M_End G_End_init (hr.mono (by decide)) rfl T.c_End T.b_End_init .nil passL (pa_cons (pv 2) pa_nil)) pa_nil))) rfl)
    (pss_cons (ps_fld (pv 0) (pe_op op_rep (pe_lst (pa_cons (pe_tupRg rfl (by rfl) T.n_tuple (prg_1 (by rfl) T.n_range (pe_op op_add (pe_glob (v := .int 9) rfl T.v_MOST ⟨_, rfl⟩) pe_int))) pa_nil)) pe_int) rfl)
    (pss_cons (ps_fld (pv 0) pe_dnewT rfl)
    (pss_one (ps_fld (pv 0) (pe_lst pa_nil) rfl))))), ?_⟩
    have inj : ∀ {a b : List Int}, a.map PyData.int = b.map PyData.int → a = b := fun {a b} e => List.map_inj_right (fun x y z => by cases z; rfl) |>.mp e
    have hp0 : H p = some (.ins T.C_Line dx (liN.zip [])) := hp
    -- the ends
    refine ⟨_, rfl, ?_⟩
    intro e0 d0 he0 hd0 nd0
    have sa : Same H (upd (upd H d0 (.own e0)) e0 (.ins T.C_End d0 [])) := (Same.upd_new hd0).trans (Same.upd_new (by rw [upd_ne (Ne.symm nd0)]; exact he0))
    have im0 : Im (upd (upd H d0 (.own e0)) e0 (.ins T.C_End d0 [])) (.ref t0) (canD ca) := (Im.tup h0 (im_ints _)).same sa
    refine ⟨e0, d0, .ref t0, canD ca, rfl, upd_same, im0.dp, mdat_ints hca.2.2.2, (fun z => absurd z (by show ¬ isMan (.tuple _) = false; rw [isMan_ints hca]; simp)), fun _ ms ems => ?_⟩
    obtain rfl := inj (by injection ems)
    refine ⟨im0, fun a H3 ha Ea fra fa => ⟨rfl, ?_⟩⟩
    have s3 : Same H H3 := ((Frm.of_same (S := []) sa).own he0 (ha ▸ fa)).same
    have fra2 : ∀ y ∈ a.every, H y = none := fun y hy => by
      rcases fra y hy with rfl | q
      · exact he0
      · exact (Frm.of_same (S := []) sa).free q
    have al3 : Alloc a.every H3 := fun z hz => (Ea []).there z hz
    have nA := (Ea []).nd
    refine ⟨_, rfl, ?_⟩
    intro e1 d1 he1 hd1 nd1
    have sb : Same H3 (upd (upd H3 d1 (.own e1)) e1 (.ins T.C_End d1 [])) := (Same.upd_new hd1).trans (Same.upd_new (by rw [upd_ne (Ne.symm nd1)]; exact he1))
    have im1 : Im (upd (upd H3 d1 (.own e1)) e1 (.ins T.C_End d1 [])) (.ref t1) (canD cb) := (Im.tup h1 (im_ints _)).same (s3.trans sb)
    refine ⟨e1, d1, .ref t1, canD cb, rfl, upd_same, im1.dp, mdat_ints hcb.2.2.2, (fun z => absurd z (by show ¬ isMan (.tuple _) = false; rw [isMan_ints hcb]; simp)), fun _ ms ems => ?_⟩
    obtain rfl := inj (by injection ems)
    refine ⟨im1, fun b H4 hb Eb frb fb => ⟨rfl, ?_⟩⟩
    have s4 : Same H3 H4 := ((Frm.of_same (S := []) sb).own he1 (hb ▸ fb)).same
    have frb2 : ∀ y ∈ b.every, H3 y = none := fun y hy => by
      rcases frb y hy with rfl | q
      · exact he1
      · exact (Frm.of_same (S := []) sb).free q
    have nB := (Eb []).nd
    have al4 : Alloc b.every H4 := fun z hz => (Eb []).there z hz
    subst ha hb
    have n1 : ([p] ++ a.every).Nodup := nd_snoc (by simp) (fun z hz => by simp at hz; subst hz; exact ⟨_, hp⟩) nA fra2
    have a1 : Alloc ([p] ++ a.every) H3 := Alloc.app (fun z hz => by simp at hz; subst hz; exact ⟨_, s3 _ _ hp⟩) al3
    have n2 := nd_snoc n1 a1 nB frb2
    have a2 := (a1.frm (Frm.of_same (S := []) s4)).app al4
    have Z4 : ∀ {Z}, EndAt T.C_End T.C_Marks Z H4 a (.new ca) := fun {Z} => (Ea Z).same s4
    have step : ∀ {L : List Addr} {K1 : Hp} {y : Addr} {o : HO}, L.Nodup → Alloc L K1 → K1 y = none → (L ++ [y]).Nodup ∧ Alloc (L ++ [y]) (upd K1 y o) := fun {L K1 y o} q1 q2 q3 =>
      ⟨nd_snoc q1 q2 (by simp) (by simp [q3]), (q2.frm (Frm.new (S := []) q3)).app fun z hz => by simp at hz; subst hz; exact ⟨_, upd_same⟩⟩
    -- ends, passing, lost, rows
    refine ⟨(by show 2 ≤ sizeLine; decide), fun es hes => ?_⟩
    obtain ⟨n3, a3⟩ := step (o := .lst [.ref a.e, .ref b.e]) n2 a2 hes
    have t5 := Same.upd_new (o := .lst [.ref a.e, .ref b.e]) hes
    have s5 := (s3.trans s4).trans t5
    have es5 := upd_same (H := H4) (a := es) (o := .lst [.ref a.e, .ref b.e])
    generalize (upd H4 es (.lst [.ref a.e, .ref b.e])) = H5 at t5 s5 es5 a3 ⊢
    have nes : es ≠ p := Ne.symm (fun e => by
      have q := n3
      rw [e] at q
      simp at q)
    refine ⟨_, rfl, iniL (.ref es) (s5 _ _ hp0) T.cl_Line T.no_Line_ends rfl fun H6 p6 f6 => ?_⟩
    have a6 := a3.frm f6
    refine ⟨_, _, rfl, rfl, _, rfl, RgOk.of_le (by decide) (by decide) (by decide) (by decide), fun t ht => ?_⟩
    have t7 := Same.upd_new (o := .tup (rgV 0 (9 + 1))) ht
    refine ⟨(by show 1 ≤ sizeLine; decide), fun l hl => ?_⟩
    have t8 := Same.upd_new (o := .lst [.ref t]) hl
    refine ⟨l, 2, _, rfl, rfl, upd_same, by decide, by decide, (by show 1 * 2 ≤ sizeLine; decide), fun pg hpg => ?_⟩
    have ht8 := t8 _ _ (upd_same (H := H6) (a := t) (o := .tup (rgV 0 (9 + 1))))
    have a8 := (a6.frm (Frm.of_same (S := []) t7)).frm (Frm.of_same (S := []) t8)
    have t78 := t7.trans t8
    generalize (upd (upd H6 t (.tup (rgV 0 (9 + 1)))) l (.lst [.ref t])) = H8 at hpg t8 t78 ht8 a8 ⊢
    obtain ⟨n4, a9⟩ := step (o := .lst [.ref t, .ref t]) n3 a8 hpg
    have t9 := Same.upd_new (o := .lst [.ref t, .ref t]) hpg
    have pg9 := upd_same (H := H8) (a := pg) (o := .lst [.ref t, .ref t])
    have e2 : (List.replicate (2 : Int).toNat [V.ref t]).flatten = [.ref t, .ref t] := rfl
    rw [e2]
    have ht9 := t9 _ _ ht8
    have es8 := t78 _ _ (f6 _ _ es5 (by simp [nes]))
    have p8 := t78 _ _ p6
    have npg : pg ≠ p := Ne.symm (ne_of_none p8 hpg)
    have es9 := t9 _ _ es8
    generalize (upd H8 pg (.lst [.ref t, .ref t])) = H9 at t9 pg9 a9 ht9 es9 ⊢
    refine ⟨_, rfl, iniL (.ref pg) (t9 _ _ p8) T.cl_Line T.no_Line_passing rfl fun H10 p10 f10 => ?_⟩
    have a10 := a9.frm f10
    intro lo hlo
    obtain ⟨n5, a11⟩ := step (o := .dT []) n4 a10 hlo
    have t11 := Same.upd_new (o := .dT []) hlo
    have lo11 := upd_same (H := H10) (a := lo) (o := .dT [])
    have nlo : lo ≠ p := Ne.symm (ne_of_none p10 hlo)
    generalize (upd H10 lo (.dT [])) = H11 at t11 lo11 a11 ⊢
    refine ⟨_, rfl, iniL (.ref lo) (t11 _ _ p10) T.cl_Line T.no_Line_lost rfl fun H12 p12 f12 => ?_⟩
    have a12 := a11.frm f12
    refine ⟨(by show 0 ≤ sizeLine; decide), fun rw hrw => ?_⟩
    obtain ⟨n6, a13⟩ := step (o := .lst []) n5 a12 hrw
    have t13 := Same.upd_new (o := .lst []) hrw
    have rw13 := upd_same (H := H12) (a := rw) (o := .lst [])
    have nrw : rw ≠ p := Ne.symm (ne_of_none p12 hrw)
    generalize (upd H12 rw (.lst [])) = H13 at t13 rw13 a13 ⊢
    refine ⟨_, rfl, iniL (.ref rw) (t13 _ _ p12) T.cl_Line T.no_Line_rows rfl fun H14 p14 f14 => ?_⟩
    -- all of it
    have F5 : Frm [p] H5 H14 := ((((f6.trans (Frm.of_same t78)).trans (Frm.of_same t9)).trans f10).trans ((Frm.of_same t11).trans f12)).trans ((Frm.of_same t13).trans f14)
    have F9 : Frm [p] H9 H14 := (f10.trans ((Frm.of_same t11).trans f12)).trans ((Frm.of_same t13).trans f14)
    have F11 : Frm [p] H11 H14 := f12.trans ((Frm.of_same t13).trans f14)
    have F4 : Frm [p] H4 H14 := (Frm.of_same t5).trans F5
    let x : LoAd := ⟨p, es, pg, rw, lo, a, b⟩
    have ndx : x.every.Nodup := by
      refine (List.Perm.nodup_iff ?_).mp n6
      show ([p] ++ a.every ++ b.every ++ [es] ++ [pg] ++ [lo] ++ [rw]).Perm (p :: es :: pg :: rw :: lo :: (a.every ++ b.every))
      have e1 : [p] ++ a.every ++ b.every ++ [es] ++ [pg] ++ [lo] ++ [rw] = p :: ((a.every ++ b.every) ++ [es, pg, lo, rw]) := by simp [List.append_assoc]
      rw [e1]
      refine List.Perm.cons p (List.perm_append_comm.trans ?_)
      show (es :: pg :: lo :: rw :: (a.every ++ b.every)).Perm _
      exact List.Perm.cons es (List.Perm.cons pg (List.Perm.swap rw lo _))
    have nin : ∀ {y}, y ∈ (es :: pg :: rw :: lo :: (a.every ++ b.every)) → y ∉ [p] := fun {y} hy z => by
      have : y = p := by simpa using z
      subst this
      exact (List.nodup_cons.mp ndx).1 hy
    have pt : H9 t = some (.tup (ten10.map V.int)) := by rw [← rg_ten]; exact ht9
    refine k x H14 rfl (fun Z => ⟨⟨dx, p14⟩, F9 _ _ es9 (nin (y := es) (by simp)), ⟨t, t, F9 _ _ pg9 (nin (y := pg) (by simp)), F9.tups _ _ pt, F9.tups _ _ pt⟩, ⟨[], F11 _ _ lo11 (nin (y := lo) (by simp)), LostD.nil⟩, ⟨[], f14 _ _ rw13 (nin (y := rw) (by simp)), .nil⟩, ?_, ?_, ndx⟩) ?_ (((Frm.of_same (s3.trans s4)).trans F4))
    · exact (((Ea (p :: Z)).same s4).frm F4 (fun y hy => by simp at hy; simp [hy]) fun y hy => nin (by simp [hy])).more fun y hy => .inl (List.mem_cons_of_mem _ hy)
    · exact ((Eb (p :: Z)).frm F4 (fun y hy => by simp at hy; simp [hy]) fun y hy => nin (by simp [hy])).more fun y hy => .inl (List.mem_cons_of_mem _ hy)
    · intro y hy
      have g4 : ∀ y, H4 y = none → H y = none := fun y q => (Frm.of_same (S := []) (s3.trans s4)).free q
      have g9 : ∀ {y}, y ∉ [p] → H9 y = none → H y = none := fun {y} n q => by
        refine g4 y ((Frm.of_same (S := []) t5).free ?_)
        exact ((f6.trans (Frm.of_same t78)).trans (Frm.of_same t9)).free q
      simp only [LoAd.every, LoAd.base, List.mem_append, List.mem_cons, List.not_mem_nil, or_false] at hy
      rcases hy with (rfl | rfl | rfl | rfl | rfl) | hy | hy
      · exact .inl rfl
      · exact .inr (g4 _ hes)
      · exact .inr (g4 _ ((Frm.of_same (S := []) t5).free ((f6.trans (Frm.of_same t78)).free hpg)))
      · exact .inr (g4 _ ((Frm.of_same (S := []) t5).free ((f6.trans (Frm.of_same t78)).free ((Frm.of_same (S := [p]) t9).free (f10.free ((Frm.of_same (S := [p]) t11).free (f12.free hrw)))))))
      · exact .inr (g4 _ ((Frm.of_same (S := []) t5).free ((f6.trans (Frm.of_same t78)).free ((Frm.of_same (S := [p]) t9).free (f10.free hlo)))))
      · exact .inr (fra2 y hy)
      · exact .inr ((Frm.of_same (S := []) s3).free (frb2 y hy))

end
end TL

namespace TL
open PySem PySem.Spec PyProof.Rows L2
section
variable {P : Program} {w : World} {K : PySem.W.Frag} {mg : Str → Option Value} {base : Heap}
def spLaw (K : PySem.W.Frag) (TL : List (Addr × Str)) : Sp := fun vs H Q _ => ∃ (a : Addr) (ns : List Int), vs = [.ref a] ∧ SqL K H a (ns.map V.int) ∧ ns.length ≤ 63 ∧ LamX.Tabs TL H ∧ ∀ H', Q (.bl true) H'
abbrev sp_law (T : Txt K mg) : Sp := spLaw K T.tl
/-! ### places by whom they belong to -/
def rhoL : List (List Addr × Nat) → Addr → Nat
  | [], _ => 0
  | (S, n) :: r, z => if z ∈ S then n else rhoL r z
structure Apart (H : Hp) (L : List (List Addr × Nat)) : Prop where
  al : ∀ p ∈ L, Alloc p.1 H
  at_ : ∀ p ∈ L, Reg (rhoL L) p.2 p.1
theorem Apart.nil {H : Hp} : Apart H [] := ⟨fun p hp => by simp at hp, fun p hp => by simp at hp⟩
theorem Apart.cons {H H' : Hp} {L : List (List Addr × Nat)} (h : Apart H L) {S : List Addr} {n : Nat} {R : List Addr} (f : Frm R H H') (fr : ∀ z ∈ S, H z = none) (al : Alloc S H') : Apart H' ((S, n) :: L) := by
  refine ⟨fun p hp => ?_, fun p hp z hz => ?_⟩
  · rcases List.mem_cons.mp hp with rfl | hp
    · exact al
    · exact (h.al p hp).frm f
  · rcases List.mem_cons.mp hp with rfl | hp
    · exact if_pos hz
    · have : z ∉ S := fun q => (h.al p hp).not (fr z q) hz
      exact (if_neg this).trans (h.at_ p hp z hz)
theorem Apart.add {H : Hp} {L : List (List Addr × Nat)} (h : Apart H L) {S : List Addr} {n : Nat} (dis : ∀ z ∈ S, ∀ p ∈ L, z ∉ p.1) (al : Alloc S H) : Apart H ((S, n) :: L) := by
  refine ⟨fun p hp => ?_, fun p hp z hz => ?_⟩
  · rcases List.mem_cons.mp hp with rfl | hp
    · exact al
    · exact h.al p hp
  · rcases List.mem_cons.mp hp with rfl | hp
    · exact if_pos hz
    · exact (if_neg fun q => dis z q p hp hz).trans (h.at_ p hp z hz)
theorem Apart.frm {H H' : Hp} {L : List (List Addr × Nat)} (h : Apart H L) {R : List Addr} (f : Frm R H H') : Apart H' L := ⟨fun p hp => (h.al p hp).frm f, h.at_⟩
theorem rho_in : ∀ {L : List (List Addr × Nat)} {z : Addr}, rhoL L z ≠ 0 → z ∈ (L.map (·.1)).flatten
  | [], _, h => absurd rfl h
  | (S, n) :: r, z, h => by
    rw [List.map_cons, List.flatten_cons, List.mem_append]
    by_cases e : z ∈ S
    · exact .inl e
    · have q : rhoL ((S, n) :: r) z = rhoL r z := if_neg e
      rw [q] at h
      exact .inr (rho_in h)
theorem Apart.alloc {H : Hp} {L : List (List Addr × Nat)} (h : Apart H L) : Alloc (L.map (·.1)).flatten H := fun z hz => by
  obtain ⟨S, hS, hz⟩ := List.mem_flatten.mp hz
  obtain ⟨p, hp, rfl⟩ := List.mem_map.mp hS
  exact h.al p hp z hz
/-! ### one of both ends -/
def adK (k : Int) (x : LnAd) : EAd := if k = 0 then x.a else x.b
def endK (k : Int) (s : LnS) : EndS := if k = 0 then s.a else s.b
section
variable {CE CM : Addr} {Z : List Addr} {H H' : Hp} {x : LnAd} {s : LnS} {k : Int}
theorem at_end (hk : k = 0 ∨ k = 1) : atI [V.ref x.a.e, .ref x.b.e] k = some (.ref (adK k x).e) := by rcases hk with rfl | rfl <;> rfl
theorem LineAt.endK (h : LineAt CE CM Z H x s) (hk : k = 0 ∨ k = 1) : EndAt CE CM Z H (adK k x) (endK k s) := by
  rcases hk with rfl | rfl
  · exact h.ea
  · exact h.eb
theorem adK_all (hk : k = 0 ∨ k = 1) : ∀ z ∈ (adK k x).all, z ∈ x.all := by
  rcases hk with rfl | rfl
  · exact x.a_all
  · exact x.b_all
theorem LineAt.sendK {s : PlS} (h : LineAt CE CM Z H x s.toLnS) (hk : k = 0 ∨ k = 1) {i : Int} (E : EndAt CE CM Z H' (adK k x) { TL.endK k s.toLnS with wait := (TL.endK k s.toLnS).wait ++ [i] }) (f : Frm (adK k x).all H H') (hZ : ∀ z ∈ x.all, z ∈ Z) : LineAt CE CM Z H' x (sendP s k i).toLnS ∧ Frm x.all H H' := by
  rcases hk with rfl | rfl
  · obtain ⟨a, b⟩ := h.setA E f hZ
    exact ⟨a.ghost ⟨rfl, rfl, rfl, rfl, rfl⟩, b⟩
  · obtain ⟨a, b⟩ := h.setB E f hZ
    exact ⟨a.ghost ⟨rfl, rfl, rfl, rfl, rfl⟩, b⟩
theorem endK_wait : (endK k s).wait = if k = 0 then s.a.wait else s.b.wait := by unfold endK; split <;> rfl
theorem endK_got : (endK k s).got = if k = 0 then s.a.got else s.b.got := by unfold endK; split <;> rfl
theorem LnOk.endK {pt : Int} (h : LnOk pt s) : EndOk (endK k s) := by
  unfold TL.endK
  split
  · exact h.ea
  · exact h.eb
end
theorem setL_idem (l : Lost) (p e : Int) : setL (setL l p e) p e = setL l p e := by
  unfold setL
  split <;> split <;> rfl
theorem iteNo {p A B : Prop} [Decidable p] (h : ¬ p) (a : A) : if (!decide p) = true then A else B := by
  rw [decide_eq_false h]
  exact iteT a
theorem iteYes {p A B : Prop} [Decidable p] (h : p) (a : B) : if (!decide p) = true then A else B := by
  rw [decide_eq_true h]
  exact iteF a
theorem rg10 : rgV 0 10 = ten10.map V.int := by decide
section
variable {TL : List (Addr × Str)} {CL CE CM : Addr} {Z : List Addr} {ρ : Addr → Nat} {H H' : Hp} {a : Ad16} {s : St16} {k : Int}
theorem A16.passK (h : A16 TL CL CE CM Z ρ H a s) (hk : k = 0 ∨ k = 1) {u : Addr} (hu : H u = none) (ms : List Int) : ∃ (m : Nat) (q0 q1 : Addr), ixN 2 k = some m ∧
    A16 TL CL CE CM (u :: Z) (setR ρ u 7) (upd (upd H u (.lst (ms.map .int))) a.pl (.lst ([V.ref a.a0, .ref a.a1].set m (.ref u)))) { a with a0 := q0, a1 := q1 } { s with p := setP s.p k ms } ∧ Frm [a.pl] (upd H u (.lst (ms.map .int))) (upd (upd H u (.lst (ms.map .int))) a.pl (.lst ([V.ref a.a0, .ref a.a1].set m (.ref u)))) := by
  have q : ∀ {y : Addr} {o : HO}, H y = some o → (upd H u (.lst (ms.map V.int))) y = some o := fun e => Same.upd_new hu _ _ e
  rcases hk with rfl | rfl
  · exact ⟨0, u, a.a1, rfl, h.setPass (p := setP s.p 0 ms) hu upd_same (q h.P1) (.inl rfl) (.inr h.rP1)⟩
  · exact ⟨1, a.a0, u, rfl, h.setPass (p := setP s.p 1 ms) hu (q h.P0) upd_same (.inr h.rP0) (.inl rfl)⟩
end
section
variable {T : Txt K mg} {Z : List Addr} {ρ : Addr → Nat} {H H' : Hp} {a : Ad16} {s : St16} {n : Nat} {k i : Int}
theorem sendP_ok {s : PlS} (h : LnOk 0 s.toLnS) (hk : k = 0 ∨ k = 1) (hi : 0 ≤ i) (h9 : i ≤ 999) (hw : (endK k s.toLnS).wait.length < 20) (la : s.sa.length < 899) (lb : s.sb.length < 899) :
    LnOk 0 (sendP s k i).toLnS ∧ (sendP s k i).sa.length ≤ s.sa.length + 1 ∧ (sendP s k i).sb.length ≤ s.sb.length + 1 ∧ (sendP s k i).a.over = s.a.over ∧ (sendP s k i).log = s.log ∧ (sendP s k i).ps = s.ps ∧ (sendP s k i).ls = s.ls := by
  rcases hk with rfl | rfl
  · obtain ⟨g1, g2, g3, g4, g5, _⟩ := h.sends (n := 0) (s' := (sendP s 0 i).toLnS) (by unfold Sends; rw [if_pos rfl]; exact .inr ⟨hw, i, hi, h9, rfl⟩) la lb
    exact ⟨g1, g2, g3, g4, g5, rfl, rfl⟩
  · obtain ⟨g1, g2, g3, g4, g5, _⟩ := h.sends (n := 1) (s' := (sendP s 1 i).toLnS) (by unfold Sends; rw [if_neg (by decide)]; exact .inr ⟨hw, i, hi, h9, rfl⟩) la lb
    exact ⟨g1, g2, g3, g4, g5, rfl, rfl⟩
theorem G16.send (h : G16 T Z ρ H a s n) (hn : n ≤ 200) (hk : k = 0 ∨ k = 1) (hi : 0 ≤ i) (h9 : i ≤ 999) (hw : (endK k s.x.toLnS).wait.length < 20) (A : A16 T.tl T.C_Line T.C_End T.C_Marks Z ρ H' a ⟨sendP s.x k i, (sendP s.x k i).toLnS, s.w, s.p, s.l⟩) (al : Alloc Z H') :
    G16 T Z ρ H' a ⟨sendP s.x k i, (sendP s.x k i).toLnS, s.w, s.p, s.l⟩ (n + 1) := by
  have hov := h.ov
  have hlg := h.lg
  have hsa := h.sa
  have hsb := h.sb
  have hwo := h.wo
  have hwl := h.wl
  obtain ⟨g1, g2, g3, g4, g5, g6, g7⟩ := sendP_ok h.ok hk hi h9 hw (by omega) (by omega)
  exact ⟨A, al, rfl, by show s.p = _; rw [g6]; exact h.ep, by show s.l = _; rw [g7]; exact h.el, g1, by show (sendP s.x k i).a.over ≤ _; omega, by show (sendP s.x k i).log.length ≤ _; rw [g5]; omega, by show (sendP s.x k i).sa.length ≤ _; omega, by show (sendP s.x k i).sb.length ≤ _; omega, h.wk, by show s.w.a.over ≤ _; omega, by show s.w.log.length ≤ _; omega⟩
theorem G16.other (h : G16 T Z ρ H a s n) (hn : n ≤ 4000) {Z' : List Addr} {ρ' : Addr → Nat} {a' : Ad16} (A : A16 T.tl T.C_Line T.C_End T.C_Marks Z' ρ' H' a' { s with w := frameP s.w }) (al : Alloc Z' H') : G16 T Z' ρ' H' a' { s with w := frameP s.w } (n + 1) := by
  have hov := h.ov
  have hlg := h.lg
  have hsa := h.sa
  have hsb := h.sb
  have hwo := h.wo
  have hwl := h.wl
  refine ⟨A, al, h.ey, h.ep, h.el, h.ok, (by show s.x.a.over ≤ _; omega), Nat.le_succ_of_le hlg, Nat.le_succ_of_le hsa, Nat.le_succ_of_le hsb, h.wk.frame _ _ (by omega), ?_, ?_⟩
  · show (frameF s.w.ps s.w.ls s.w.toLnS).a.over ≤ _
    rw [frame_over]
    omega
  · show (frameF s.w.ps s.w.ls s.w.toLnS).log.length ≤ _
    rw [frame_log, List.length_append]
    show _ + 1 ≤ _
    omega
theorem G16.lam (h : G16 T Z ρ H a s n) {p : Addr × Str} (hp : p ∈ T.tl) (tb : LamX.Tabs T.tl H') (f : Frm [p.1] H H') : G16 T Z ρ H' a s n := ⟨h.A.lam hp tb f, h.al.frm f, h.ey, h.ep, h.el, h.ok, h.ov, h.lg, h.sa, h.sb, h.wk, h.wo, h.wl⟩
theorem G16.pass (h : G16 T Z ρ H a s n) {Z' : List Addr} {ρ' : Addr → Nat} {a' : Ad16} {ms : List Int} (A : A16 T.tl T.C_Line T.C_End T.C_Marks Z' ρ' H' a' ⟨{ s.x with ps := setP s.x.ps k ms }, s.y, s.w, setP s.p k ms, s.l⟩) (al : Alloc Z' H') :
    G16 T Z' ρ' H' a' ⟨{ s.x with ps := setP s.x.ps k ms }, s.y, s.w, setP s.p k ms, s.l⟩ n :=
  ⟨A, al, h.ey, by show setP s.p k ms = setP s.x.ps k ms; rw [h.ep], h.el, h.ok, h.ov, h.lg, h.sa, h.sb, h.wk, h.wo, h.wl⟩
end
theorem ok_law (T : Txt K mg) (TB : LamX.TabB base mg T.lC T.lP) (TB__law_are_refused : LamX.TabB base mg T.lC__law_are_refused T.lP__law_are_refused) : FnOk P w K mg base CX0 13 T.a_law T.fd_law P_law (sp_law T) := by
  have G__law_dice := ok__law_dice (P := P) (w := w) (base := base) T
  have G__law_none_lost := ok__law_none_lost (P := P) (w := w) (base := base) T
  have G__law_are_refused := ok__law_are_refused (P := P) (w := w) (base := base) T TB__law_are_refused
  have G__law_can := ok__law_can (P := P) (w := w) (base := base) T
  have G_Line_init := ok_Line_init (P := P) (w := w) (base := base) T
  have G__law_line := ok__law_line (P := P) (w := w) (base := base) T
  have G__law_off := ok__law_off (P := P) (w := w) (base := base) T
  have G_Line_let_pass := ok_Line_let_pass (P := P) (w := w) (base := base) T
  have G_Line_log := ok_Line_log (P := P) (w := w) (base := base) T
  have G_End_got := ok_End_got (P := P) (w := w) (base := base) T
  have G_Line_got := ok_Line_got (P := P) (w := w) (base := base) T
  have G_End_left := ok_End_left (P := P) (w := w) (base := base) T
  have G_Line_left := ok_Line_left (P := P) (w := w) (base := base) T
  have G__law_alike := ok__law_alike (P := P) (w := w) (base := base) T 4
  have G__law_goes_on := ok__law_goes_on (P := P) (w := w) (base := base) T
  have G_Line_lose := ok_Line_lose (P := P) (w := w) (base := base) T
  have G_End_send := ok_End_send (P := P) (w := w) (base := base) T
  have G_Line_send := ok_Line_send (P := P) (w := w) (base := base) T
  have G_Line_frame := ok_Line_frame (P := P) (w := w) (base := base) T
  have G__law_frame := ok__law_frame (P := P) (w := w) (base := base) T
  have bnw := T.b__law_word
  obtain ⟨ocw, odw, kVw, dcw, pmw, anw, cdw, ctw, slw, efw, lkw, hcw⟩ := T.F__law_word.ex
  rw [efw] at lkw bnw
  refine T.fl.ok sc_law (fun vs H Q E h => ?_) (fun A outer s H vs Q E hr h => ?_)
  · obtain ⟨a, ns, rfl, _⟩ := h
    rfl
  · obtain ⟨a, ns, rfl, hS, hlen, tb0, k⟩ := h
    have hu64 : (A.deeper (envOfC "law" (defScope s_law) s.heap.objs.size T.a_law (.ref T.lC))).units + 64 < cLine := by have := hr.un; omega
    have hu := hu_of hr
    refine ⟨_, (pss_cons (ps_set (i := 1) sc_law.nd rfl (by first | exact Or.inl rfl | exact Or.inr rfl) (pe_call G__law_dice (hr.mono (by decide)) rfl T.g__law_dice T.F__law_dice.kp T.b__law_dice .nil pass0 (pa_cons (pv 0) (pa_cons pe_int pa_nil))))
    (pss_cons (ps_set (i := 2) sc_law.nd rfl (by first | exact Or.inl rfl | exact Or.inr rfl) (pe_lst (pa_cons (pe_call G__law_can (hr.mono (by decide)) rfl T.g__law_can T.F__law_can.kp T.b__law_can .nil pass0 (pa_cons (pv 1) pa_nil)) (pa_cons (pe_call G__law_can (hr.mono (by decide)) rfl T.g__law_can T.F__law_can.kp T.b__law_can .nil pass0 (pa_cons (pv 1) pa_nil)) pa_nil))))
    (pss_cons (ps_asg (pe_tup (pa_cons (pe_make T.M_Line G_Line_init (hr.mono (by decide)) rfl T.c_Line T.b_Line_init .nil pass0 (pa_cons (pe_ix ix_list (pv 2) pe_int (fun _ _ => rfl)) (pa_cons (pe_ix ix_list (pv 2) pe_int (fun _ _ => rfl)) pa_nil))) (pa_cons (pe_call G__law_line (hr.mono (by decide)) rfl T.g__law_line T.F__law_line.kp T.b__law_line .nil pass0 (pa_cons (pe_ix ix_list (pv 2) pe_int (fun _ _ => rfl)) (pa_cons (pe_ix ix_list (pv 2) pe_int (fun _ _ => rfl)) pa_nil))) (pa_cons (pe_make T.M_Line G_Line_init (hr.mono (by decide)) rfl T.c_Line T.b_Line_init .nil pass0 (pa_cons (pe_ix ix_list (pv 2) pe_int (fun _ _ => rfl)) (pa_cons (pe_ix ix_list (pv 2) pe_int (fun _ _ => rfl)) pa_nil))) pa_nil)))) (pg_tup rfl (pgs_cons (pg_name (i := 3) sc_law.nd rfl (by first | exact Or.inl rfl | exact Or.inr rfl)) (pgs_cons (pg_name (i := 4) sc_law.nd rfl (by first | exact Or.inl rfl | exact Or.inr rfl)) (pgs_cons (pg_name (i := 5) sc_law.nd rfl (by first | exact Or.inl rfl | exact Or.inr rfl)) pgs_nil)))))
    (pss_cons (ps_set (i := 6) sc_law.nd rfl (by first | exact Or.inl rfl | exact Or.inr rfl) (pe_lst (pa_cons (pe_listRg rfl (by rfl) T.n_list (prg_1 (by rfl) T.n_range pe_int)) (pa_cons (pe_listRg rfl (by rfl) T.n_list (prg_1 (by rfl) T.n_range pe_int)) pa_nil))))
    (pss_cons (ps_set (i := 7) sc_law.nd rfl (by first | exact Or.inl rfl | exact Or.inr rfl) (pe_call0 G__law_none_lost (hr.mono (by decide)) rfl T.g__law_none_lost T.F__law_none_lost.kp T.b__law_none_lost .nil pass0))
    (pss_cons (ps_for PassesOwn.never rfl (pi_range1 rfl T.n_range (pa_cons (pe_call G__law_off (hr.mono (by decide)) rfl T.g__law_off T.F__law_off.kp T.b__law_off .nil pass0 (pa_cons (pv 1) (pa_cons pe_int pa_nil))) pa_nil)) (pg_name (i := 8) sc_law.nd rfl (by first | exact Or.inl rfl | exact Or.inr rfl))
      (pss_cons (ps_asg (pe_tup (pa_cons (pe_call G__law_off (hr.mono (by decide)) rfl T.g__law_off T.F__law_off.kp T.b__law_off .nil pass0 (pa_cons (pv 1) (pa_cons pe_int pa_nil))) (pa_cons (pe_call G__law_off (hr.mono (by decide)) rfl T.g__law_off T.F__law_off.kp T.b__law_off .nil pass0 (pa_cons (pv 1) (pa_cons pe_int pa_nil))) pa_nil))) (pg_tup rfl (pgs_cons (pg_name (i := 9) sc_law.nd rfl (by first | exact Or.inl rfl | exact Or.inr rfl)) (pgs_cons (pg_name (i := 10) sc_law.nd rfl (by first | exact Or.inl rfl | exact Or.inr rfl)) pgs_nil))))
      (pss_cons (ps_cut (ps_if (pt_cmpR op_eq (pv 9) pe_int (nomark _))
        (pss_cons (ps_set (i := 11) sc_law.nd rfl (by first | exact Or.inl rfl | exact Or.inr rfl) (pe_call G__law_can (hr.mono (by decide)) rfl T.g__law_can T.F__law_can.kp T.b__law_can .nil pass0 (pa_cons (pv 1) pa_nil)))
        (pss_cons (ps_asg (pe_callTy call_list_of (by rfl) T.n_list (by decide +kernel) (pa_cons (pv 11) pa_nil)) (pg_sub (pv 6) (pv 10) set_list))
        (pss_one (ps_expr (pe_meth (pv 3) T.cl_Line T.m_Line_let_pass G_Line_let_pass (hr.mono (by decide)) T.b_Line_let_pass .nil passL (pa_cons (pv 10) (pa_cons (pv 11) pa_nil)))))))
        (pss_one (ps_if (pt_cmpR op_eq (pv 9) pe_int (nomark _))
          (pss_cons (ps_set (i := 12) sc_law.nd rfl (by first | exact Or.inl rfl | exact Or.inr rfl) (pe_call G__law_off (hr.mono (by decide)) rfl T.g__law_off T.F__law_off.kp T.b__law_off .nil pass0 (pa_cons (pv 1) (pa_cons pe_int pa_nil))))
          (pss_cons (ps_cut (ps_asg pe_bl (pg_sub (pe_ix ix_list (pv 7) (pv 12) (fun _ _ => rfl)) (pv 10) set_list)))
          (pss_one (ps_cut (ps_for PassesOwn.never rfl (pi_range1 rfl T.n_range (pa_cons (pe_op op_add pe_int (pe_call G__law_off (hr.mono (by decide)) rfl T.g__law_off T.F__law_off.kp T.b__law_off .nil pass0 (pa_cons (pv 1) (pa_cons pe_int pa_nil)))) pa_nil)) (pg_name (i := 13) sc_law.nd rfl (by first | exact Or.inl rfl | exact Or.inr rfl))
            (pss_one (ps_expr (pe_meth (pv 3) T.cl_Line T.m_Line_lose G_Line_lose (hr.mono (by decide)) T.b_Line_lose .nil passL (pa_cons (pv 12) (pa_cons (pv 10) pa_nil))))))))))
          (pss_one (ps_if (pt_cmpR op_eq (pv 9) pe_int (nomark _))
            (pss_cons (ps_set (i := 14) sc_law.nd rfl (by first | exact Or.inl rfl | exact Or.inr rfl) (pe_cmpR op_gt (pe_meth0 (pe_ix ix_list (pe_dget hu (pv 4) pe_str (fun _ _ => rfl)) (pv 10) (fun _ _ => rfl)) T.cl_End T.m_End_left G_End_left (hr.mono (by decide)) T.b_End_left .nil pass0) pe_int (nomark _)))
            (pss_cons (ps_cut (ps_if (pt_not (pt_val (pv 14)))
              (pss_one (ps_expr (pe_meth (pe_ix ix_list (pe_dget hu (pv 4) pe_str (fun _ _ => rfl)) (pv 10) (fun _ _ => rfl)) T.cl_End T.m_End_send G_End_send (hr.mono (by decide)) T.b_End_send .nil passL (pa_cons (pv 8) pa_nil))))
              pss_nil))
            (pss_one (ps_if (pt_cmpR (op_neD hu64) (pe_word (k := 11) (sel := id) known_def rfl T.g__law_word T.F__law_word.kp lkw hcw bnw sc__law_word rfl (.inl rfl) (fun q => gives__law_word T rfl rfl rfl rfl rfl q) (hr.mono (by decide)) (pe_lamF (T := T.tl) TB rfl T.tm T.tu (NdefX.ndef_free (fr := []) (by show NdefX.ndefB (defScope s_law) _ [] = true; decide +kernel)) rfl)) (pe_ifExp (pt_val (pv 14)) (pe_tup (pa_cons pe_str (pa_cons pe_int pa_nil))) pe_non) (nomark _))
              (pss_one (ps_ret pe_bl))
              pss_nil))))
            (pss_one (ps_if (pt_cmpR op_eq (pv 9) pe_int (nomark _))
              (pss_one (ps_expr (pe_meth0 (pv 5) T.cl_Line T.m_Line_frame G_Line_frame (hr.mono (by decide)) T.b_Line_frame .nil pass0)))
              (pss_cons (ps_expr (pe_call G__law_frame (hr.mono (by decide)) rfl T.g__law_frame T.F__law_frame.kp T.b__law_frame .nil pass0 (pa_cons (pv 4) (pa_cons (pv 6) (pa_cons (pv 7) pa_nil)))))
              (pss_cons (ps_set (i := 7) sc_law.nd rfl (by first | exact Or.inl rfl | exact Or.inr rfl) (pe_call0 G__law_none_lost (hr.mono (by decide)) rfl T.g__law_none_lost T.F__law_none_lost.kp T.b__law_none_lost .nil pass0))
              (pss_one (ps_cut (ps_if (pt_not (pt_val (pe_call G__law_alike (hr.mono (by decide)) rfl T.g__law_alike T.F__law_alike.kp T.b__law_alike .nil pass0 (pa_cons (pe_meth0 (pv 3) T.cl_Line T.m_Line_frame G_Line_frame (hr.mono (by decide)) T.b_Line_frame .nil pass0) (pa_cons (pe_ix ix_list (pe_dget hu (pv 4) pe_str (fun _ _ => rfl)) (pe_un un_neg pe_int) (fun _ _ => rfl)) pa_nil)))))
                (pss_one (ps_ret pe_bl))
                pss_nil)))))))))))))
      (pss_cons (ps_set (i := 15) sc_law.nd rfl (by first | exact Or.inl rfl | exact Or.inr rfl) (pe_lst (pa_cons (pe_meth0 (pv 3) T.cl_Line T.m_Line_log G_Line_log (hr.mono (by decide)) T.b_Line_log .nil pass0) (pa_cons (pe_meth (pv 3) T.cl_Line T.m_Line_got G_Line_got (hr.mono (by decide)) T.b_Line_got .nil passL (pa_cons (pv 10) pa_nil)) (pa_cons (pe_meth (pv 3) T.cl_Line T.m_Line_left G_Line_left (hr.mono (by decide)) T.b_Line_left .nil passL (pa_cons (pv 10) pa_nil)) pa_nil)))))
      (pss_cons (ps_cut (ps_if (pt_not (pt_val (pe_call G__law_alike (hr.mono (by decide)) rfl T.g__law_alike T.F__law_alike.kp T.b__law_alike .nil pass0 (pa_cons (pv 15) (pa_cons (pe_lst (pa_cons (pe_dget hu (pv 4) pe_str (fun _ _ => rfl)) (pa_cons (pe_meth0 (pe_ix ix_list (pe_dget hu (pv 4) pe_str (fun _ _ => rfl)) (pv 10) (fun _ _ => rfl)) T.cl_End T.m_End_got G_End_got (hr.mono (by decide)) T.b_End_got .nil pass0) (pa_cons (pe_meth0 (pe_ix ix_list (pe_dget hu (pv 4) pe_str (fun _ _ => rfl)) (pv 10) (fun _ _ => rfl)) T.cl_End T.m_End_left G_End_left (hr.mono (by decide)) T.b_End_left .nil pass0) pa_nil)))) pa_nil)))))
        (pss_one (ps_ret pe_bl))
        pss_nil))
      (pss_cons (ps_expr (pe_bm PySem.F.plainAttrs_list PySem.F.slot_list_append PySem.F.type_list_append mt_append (pe_ix ix_list (pv 15) pe_int (fun _ _ => rfl)) (pa_cons (pe_tup pa_nil) pa_nil)))
      (pss_one (ps_expr (pe_bm PySem.F.plainAttrs_list PySem.F.slot_list_append PySem.F.type_list_append mt_append (pe_ix ix_list (pv 15) pe_int (fun _ _ => rfl)) (pa_cons pe_int pa_nil))))))))))
    (pss_cons (ps_cut (ps_if (PW.pt (pw_and (pt_cmpR op_eq (pe_call G__law_off (hr.mono (by decide)) rfl T.g__law_off T.F__law_off.kp T.b__law_off .nil pass0 (pa_cons (pv 1) (pa_cons pe_int pa_nil))) pe_int (nomark _)) (pw_and1 (pt_not (pt_val (pe_call G__law_goes_on (hr.mono (by decide)) rfl T.g__law_goes_on T.F__law_goes_on.kp T.b__law_goes_on .nil pass0 (pa_cons (pv 3) (pa_cons (pv 4) (pa_cons (pv 6) (pa_cons (pv 7) pa_nil))))))))))
      (pss_one (ps_ret pe_bl))
      pss_nil))
    (pss_one (ps_ret (pe_call G__law_are_refused (hr.mono (by decide)) rfl T.g__law_are_refused T.F__law_are_refused.kp T.b__law_are_refused .nil pass0 (pa_cons (pv 1) (pa_cons (pv 3) pa_nil)))))))))))), ?_⟩
    refine ⟨_, rfl, a, ns, 0, rfl, hS, hlen, fun d H0 hd D0 s0 => ?_⟩
    have inj : ∀ {a b : List Int}, a.map PyData.int = b.map PyData.int → a = b := fun {a b} e => List.map_inj_right (fun x y z => by cases z; rfl) |>.mp e
    have one : ∀ {z : Addr} {H : Hp} {o : HO}, H z = some o → Alloc [z] H := fun e y hy => by rw [List.mem_singleton.mp hy]; exact ⟨_, e⟩
    have free1 : ∀ {z : Addr} {H : Hp}, H z = none → ∀ y ∈ [z], H y = none := fun e y hy => by rw [List.mem_singleton.mp hy]; exact e
    have P0 : Apart H0 [([d], 4), (T.tl.map (·.1), 5)] := by
      refine Apart.cons (H := H) (R := []) ⟨fun p hp => ?_, fun p hp z hz => ?_⟩ (Frm.of_same s0) (free1 hd) (by obtain ⟨ns, e, _⟩ := id D0; exact one e)
      · rw [List.mem_singleton.mp hp]
        intro z hz
        obtain ⟨p, hp, rfl⟩ := List.mem_map.mp hz
        obtain ⟨ps, e, _⟩ := tb0 p hp
        exact ⟨_, e⟩
      · have e := List.mem_singleton.mp hp
        subst e
        exact if_pos hz
    refine ⟨_, rfl, d, rfl, D0, fun t0 ca H1 hca ht0 D1 f1 => ?_⟩
    refine ⟨_, rfl, d, rfl, D1, fun t1 cb H2 hcb ht1 D2 f2 => ?_⟩
    have ht0 := f2.tups _ _ ht0
    refine ⟨(by show 2 ≤ sizeLine; decide), fun c hc => ?_⟩
    have s3 := Same.upd_new (o := .lst [.ref t0, .ref t1]) hc
    have hc3 := upd_same (H := H2) (a := c) (o := .lst [.ref t0, .ref t1])
    have D3 := D2.same s3
    have ht0 := s3 _ _ ht0
    have ht1 := s3 _ _ ht1
    have P3 := ((P0.frm f1).frm f2).frm (Frm.of_same (S := []) s3)
    have tb3 := tabs_same (tabs_dice (tabs_dice (tabs_same tb0 s0) D0 f1) D1 f2) s3
    generalize upd H2 c (.lst [.ref t0, .ref t1]) = H3 at s3 hc3 D3 ht0 ht1 P3 tb3 ⊢
    -- the line
    refine ⟨_, rfl, c, _, _, .ref t0, rfl, rfl, SqL.of hc3, rfl, _, rfl, c, _, _, .ref t1, rfl, rfl, SqL.of hc3, rfl, ?_⟩
    intro xo dx hx hdx ndx
    have sx : Same H3 (upd (upd H3 dx (.own xo)) xo (.ins T.C_Line dx [])) := (Same.upd_new hdx).trans (Same.upd_new (by rw [upd_ne (Ne.symm ndx)]; exact hx))
    refine ⟨xo, dx, t0, t1, ca, cb, rfl, upd_same, sx _ _ ht0, sx _ _ ht1, hca, hcb, fun x H4 hxo X4 frx fx => ⟨rfl, ?_⟩⟩
    subst hxo
    have s4 : Same H3 H4 := ((Frm.of_same (S := []) sx).own hx fx).same
    have frx : ∀ y ∈ x.every, H3 y = none := fun y hy => (frx y hy).elim (fun e => by rw [e]; exact hx) fun q => (Frm.of_same (S := []) sx).free q
    have P4 := P3.cons (n := 1) (Frm.of_same (S := []) s4) frx (X4 []).there
    -- the own one
    have hc4 := s4 _ _ hc3
    refine ⟨_, rfl, c, _, _, .ref t0, rfl, rfl, SqL.of hc4, rfl, _, rfl, c, _, _, .ref t1, rfl, rfl, SqL.of hc4, rfl, ?_⟩
    refine ⟨t0, t1, ca, cb, rfl, s4 _ _ ht0, s4 _ _ ht1, hca, hcb, fun y H5 _ _ fry Y5 s5 => ?_⟩
    have P5 := P4.cons (n := 2) (Frm.of_same (S := []) s5) fry (Y5 []).there
    -- the one beside
    have hc5 := s5 _ _ hc4
    refine ⟨_, rfl, c, _, _, .ref t1, rfl, rfl, SqL.of hc5, rfl, _, rfl, c, _, _, .ref t0, rfl, rfl, SqL.of hc5, rfl, ?_⟩
    intro wo dw hw hdw ndw
    have sw : Same H5 (upd (upd H5 dw (.own wo)) wo (.ins T.C_Line dw [])) := (Same.upd_new hdw).trans (Same.upd_new (by rw [upd_ne (Ne.symm ndw)]; exact hw))
    have s35 := s4.trans s5
    refine ⟨wo, dw, t1, t0, cb, ca, rfl, upd_same, sw _ _ (s35 _ _ ht1), sw _ _ (s35 _ _ ht0), hcb, hca, fun wb H6 hwo W6 frw fw => ⟨rfl, ?_⟩⟩
    subst hwo
    have s6 : Same H5 H6 := ((Frm.of_same (S := []) sw).own hw fw).same
    have frw : ∀ y ∈ wb.every, H5 y = none := fun y hy => (frw y hy).elim (fun e => by rw [e]; exact hw) fun q => (Frm.of_same (S := []) sw).free q
    have P6 := P5.cons (n := 3) (Frm.of_same (S := []) s6) frw (W6 []).there
    refine ⟨(by show 3 ≤ sizeLine; decide), fun pr hpr => ?_⟩
    have s7 := Same.upd_new (o := .tup [.ref x.o, .ref y.l, .ref wb.o]) hpr
    have q7 := upd_same (H := H6) (a := pr) (o := .tup [.ref x.o, .ref y.l, .ref wb.o])
    generalize upd H6 pr (.tup [.ref x.o, .ref y.l, .ref wb.o]) = H7 at s7 q7 ⊢
    have P7 := P6.frm (Frm.of_same (S := []) s7)
    refine ⟨pr, _, rfl, SqT.of q7, rfl, _, _, rfl, _, _, rfl, _, _, rfl, rfl, ?_⟩
    -- what passes
    refine ⟨10, rfl, RgOk.of_le (by decide) (by decide) (by decide) (by decide), fun p0 hp0 => ?_⟩
    rw [rg10]
    have s8 := Same.upd_new (o := .lst (ten10.map V.int)) hp0
    have q8 := upd_same (H := H7) (a := p0) (o := .lst (ten10.map V.int))
    generalize upd H7 p0 (.lst (ten10.map V.int)) = H8 at s8 q8 ⊢
    have P8 := P7.cons (n := 7) (Frm.of_same (S := []) s8) (free1 hp0) (one q8)
    refine ⟨10, rfl, RgOk.of_le (by decide) (by decide) (by decide) (by decide), fun p1 hp1 => ?_⟩
    rw [rg10]
    have s9 := Same.upd_new (o := .lst (ten10.map V.int)) hp1
    have q9 := upd_same (H := H8) (a := p1) (o := .lst (ten10.map V.int))
    generalize upd H8 p1 (.lst (ten10.map V.int)) = H9 at s9 q9 ⊢
    have P9 := P8.cons (n := 7) (Frm.of_same (S := []) s9) (free1 hp1) (one q9)
    refine ⟨(by show 2 ≤ sizeLine; decide), fun pl hpl => ?_⟩
    have s10 := Same.upd_new (o := .lst [.ref p0, .ref p1]) hpl
    have q10 := upd_same (H := H9) (a := pl) (o := .lst [.ref p0, .ref p1])
    generalize upd H9 pl (.lst [.ref p0, .ref p1]) = H10 at s10 q10 ⊢
    have P10 := P9.cons (n := 6) (Frm.of_same (S := []) s10) (free1 hpl) (one q10)
    -- nothing is lost
    refine ⟨rfl, fun L c0 c1 H11 hL h0 h1 n0 n1 n2 qL q0 q1 s11 => ?_⟩
    have P11 := P10.frm (Frm.of_same (S := []) s11)
    have nin : ∀ {z : Addr}, H10 z = none → ∀ u ∈ [z], ∀ p ∈ [([pl], 6), ([p1], 7), ([p0], 7), (wb.every, 3), (y.every, 2), (x.every, 1), ([d], 4), (T.tl.map (·.1), 5)], u ∉ p.1 := fun e u hy p hp => by
      rw [List.mem_singleton.mp hy]
      exact (P10.al p hp).not e
    have P12 := P11.add (S := [c1]) (n := 10) (nin h1) (one q1)
    have P13 := P12.add (S := [c0]) (n := 9) (fun z hz p hp => by
      rcases List.mem_cons.mp hp with rfl | hp
      · rw [List.mem_singleton.mp hz]
        exact fun q => n2 (List.mem_singleton.mp q)
      · exact nin h0 z hz p hp) (one q0)
    have P14 := P13.add (S := [L]) (n := 8) (fun z hz p hp => by
      rcases List.mem_cons.mp hp with rfl | hp
      · rw [List.mem_singleton.mp hz]
        exact fun q => n0 (List.mem_singleton.mp q)
      · rcases List.mem_cons.mp hp with rfl | hp
        · rw [List.mem_singleton.mp hz]
          exact fun q => n1 (List.mem_singleton.mp q)
        · exact nin hL z hz p hp) (one qL)
    have s1011 := s10.trans s11
    have s911 := s9.trans s1011
    have s711 := (s7.trans s8).trans s911
    have s611 := s6.trans s711
    have s411 := s5.trans s611
    have s311 := s4.trans s411
    obtain ⟨Zr, eZ⟩ : ∃ Zr : List (List Addr × Nat), [([L], 8), ([c0], 9), ([c1], 10), ([pl], 6), ([p1], 7), ([p0], 7), (wb.every, 3), (y.every, 2), (x.every, 1), ([d], 4), (T.tl.map (·.1), 5)] = Zr := ⟨_, rfl⟩
    have mem : ∀ {p : List Addr × Nat}, p ∈ [([L], 8), ([c0], 9), ([c1], 10), ([pl], 6), ([p1], 7), ([p0], 7), (wb.every, 3), (y.every, 2), (x.every, 1), ([d], 4), (T.tl.map (·.1), 5)] → p ∈ Zr := fun h => eZ ▸ h
    rw [eZ] at P14
    have G0 : G16 T (Zr.map (·.1)).flatten (rhoL Zr) H11 ⟨d, x, y, wb, pl, p0, p1, L, c0, c1⟩ ⟨.new ca cb, .new ca cb, .new cb ca, (ten10, ten10), lno⟩ 0 := by
      refine ⟨⟨⟨D3.same s311, tabs_same tb3 s311, fun z hz => rho_in hz, P14.at_ ([d], 4) (mem (.tail _ (.tail _ (.tail _ (.tail _ (.tail _ (.tail _ (.tail _ (.tail _ (.tail _ (.head _))))))))))) d (.head _), fun p hp => P14.at_ (T.tl.map (·.1), 5) (mem (.tail _ (.tail _ (.tail _ (.tail _ (.tail _ (.tail _ (.tail _ (.tail _ (.tail _ (.tail _ (.head _)))))))))))) p.1 (List.mem_map_of_mem hp)⟩, (X4 _).same s411, (Y5 _).same s611, (W6 _).same s711, P14.at_ (x.every, 1) (mem (.tail _ (.tail _ (.tail _ (.tail _ (.tail _ (.tail _ (.tail _ (.tail _ (.head _)))))))))), P14.at_ (y.every, 2) (mem (.tail _ (.tail _ (.tail _ (.tail _ (.tail _ (.tail _ (.tail _ (.head _))))))))), P14.at_ (wb.every, 3) (mem (.tail _ (.tail _ (.tail _ (.tail _ (.tail _ (.tail _ (.head _)))))))),
        s11 _ _ q10, s911 _ _ q8, s1011 _ _ q9, P14.at_ ([pl], 6) (mem (.tail _ (.tail _ (.tail _ (.head _))))) pl (.head _), P14.at_ ([p0], 7) (mem (.tail _ (.tail _ (.tail _ (.tail _ (.tail _ (.head _))))))) p0 (.head _), P14.at_ ([p1], 7) (mem (.tail _ (.tail _ (.tail _ (.tail _ (.head _)))))) p1 (.head _), qL, q0, q1, P14.at_ ([L], 8) (mem (.head _)) L (.head _), P14.at_ ([c0], 9) (mem (.tail _ (.head _))) c0 (.head _), P14.at_ ([c1], 10) (mem (.tail _ (.tail _ (.head _)))) c1 (.head _)⟩, P14.alloc, rfl, rfl, rfl, LnOk.new hca hcb, (by show (0 : Int) ≤ ((0 : Nat) : Int); decide), Nat.zero_le _, Nat.zero_le _, Nat.zero_le _, LnOk.new hcb hca, (by show (0 : Int) ≤ ((0 : Nat) : Int); decide), Nat.zero_le _⟩
    clear P0 P3 P4 P5 P6 P7 P8 P9 P10 P11 P12 P13 P14 nin
    -- the deeds
    refine ⟨_, rfl, d, 151, rfl, G0.A.W.D, by decide, by decide, fun n H12 n0 n151 D12 f12 => ?_⟩
    refine ⟨n, rfl, by omega, by omega, for_range (lo := 0) (n := n.toNat) (fun i σ H' => ∃ (Z : List Addr) (ρ : Addr → Nat) (a1 : Ad16) (s1 : St16) (v8 v9 v10 v11 v12 v13 v14 v15 : Option V), σ = [some (V.ref a), some (.ref a1.d), some (.ref c), some (.ref a1.x.o), some (.ref a1.y.l), some (.ref a1.w.o), some (.ref a1.pl), some (.ref a1.L), v8, v9, v10, v11, v12, v13, v14, v15] ∧ G16 T Z ρ H' a1 s1 i)
      ⟨_, _, _, _, _, _, _, _, _, _, _, _, rfl, G0.dice D12 f12⟩ ?_ ?_⟩
    · rintro i σ H1 hi ⟨Z1, ρ1, a1, ⟨sx, sy, sw, sp, sl⟩, v8, v9, v10, v11, v12, v13, v14, v15, rfl, G1⟩
      have hi151 : i ≤ 150 := by omega
      have ey : sy = sx.toLnS := G1.ey
      have ep : sp = sx.ps := G1.ep
      have el : sl = sx.ls := G1.el
      subst ey ep el
      refine ⟨_, rfl, a1.d, 9, rfl, G1.A.W.D, by decide, by decide, fun kd H2 kd0 kd9 D2 f2 => ?_⟩
      have G2 := G1.dice D2 f2
      refine ⟨_, rfl, a1.d, 2, rfl, G2.A.W.D, by decide, by decide, fun kk H3 kk0 kk2 D3 f3 => ⟨(by show 2 ≤ sizeLine; decide), fun t ht => ?_⟩⟩
      have G3 := G2.dice D3 f3
      have s4 := Same.upd_new (o := .tup [.int kd, .int kk]) ht
      have q4 := upd_same (H := H3) (a := t) (o := .tup [.int kd, .int kk])
      generalize upd H3 t (.tup [.int kd, .int kk]) = H4 at s4 q4 ⊢
      have G4 := G3.same s4
      have hk : kk = 0 ∨ kk = 1 := by omega
      have nok : between (.int kk) 0 1 ≠ false := fun z => by rcases hk with q | q <;> rw [q] at z <;> cases z
      clear G1 G2 G3
      refine ⟨t, _, rfl, SqT.of q4, rfl, _, _, rfl, _, _, rfl, rfl, ?_⟩
      refine ⟨fun σ' H' => ∃ (Z2 : List Addr) (ρ2 : Addr → Nat) (a2 : Ad16) (s2 : St16) (w11 w12 w13 w14 : Option V), σ' = [some (V.ref a), some (.ref a2.d), some (.ref c), some (.ref a2.x.o), some (.ref a2.y.l), some (.ref a2.w.o), some (.ref a2.pl), some (.ref a2.L), some (.int (0 + (i : Nat))), some (.int kd), some (.int kk), w11, w12, w13, w14, v15] ∧ G16 T Z2 ρ2 H' a2 s2 (i + 1), ?_, ?_⟩
      · obtain ⟨dx, hob⟩ := G4.A.X.ob
        have wa := G4.ok.ea.wait
        have wb := G4.ok.eb.wait
        have ww := (G4.ok.endK (k := kk)).wait
        have hov := G4.ov
        have hlg := G4.lg
        refine ⟨_, rfl, rfl, _, rfl, ?_⟩
        refine iteD (fun _ => ?_) (fun _ => ⟨_, rfl, rfl, _, rfl, iteD (fun _ => ?_) (fun _ => ⟨_, rfl, rfl, _, rfl, iteD (fun _ => ?_) (fun _ => ⟨_, rfl, rfl, _, rfl, iteD (fun _ => ?_) (fun _ => ?_)⟩)⟩)⟩)
        · -- what passes is another
          refine ⟨_, rfl, a1.d, rfl, G4.A.W.D, fun t ms H5 hms htm D5 f5 => ?_⟩
          have G5 := G4.dice D5 f5
          refine ⟨_, rfl, t, _, rfl, .inr (SqT.of htm), fun u hu => ?_⟩
          obtain ⟨m, b0, b1, hix, A6, f6⟩ := G5.A.passK hk hu ms
          refine ⟨_, rfl, _, rfl, a1.pl, _, _, m, rfl, rfl, (Same.upd_new hu) _ _ G5.A.P, hix, ?_⟩
          have al6 : Alloc (u :: Z1) _ := (alloc_cons (G5.al.frm (Frm.of_same (S := []) (Same.upd_new hu))) ⟨_, upd_same⟩).frm f6
          have ht6 := f6.tups _ _ (Same.upd_new hu _ _ htm)
          generalize upd (upd H5 u (.lst (ms.map .int))) a1.pl (.lst ([V.ref a1.a0, .ref a1.a1].set m (.ref u))) = H6 at A6 al6 ht6 ⊢
          obtain ⟨dx6, hob6⟩ := A6.X.ob
          refine ⟨_, rfl, a1.x.o, dx6, _, rfl, hob6, zip_no (N := liN) (by decide +kernel), _, rfl, _, rfl, _, a1.x, sx, .int kk, .ref t, .int kk, .tuple (ms.map .int), rfl, A6.X, A6.inZ.1, .int _, (fun ds z => by cases z), .tup ht6 (im_ints _), mdat_ints hms.2.2.2, (fun z => (nok z).elim), (fun _ z => ?_), fun e ms' q1 q2 _ _ H8 X8 f8 => ?_⟩
          · rw [isMan_ints hms] at z; cases z
          · cases q1
            have em : ms = ms' := inj (by injection q2)
            subst em
            exact ⟨_, _, { a1 with a0 := b0, a1 := b1 }, _, _, _, _, _, rfl, (G16.pass G5 (A6.stepX X8 f8) (al6.frm f8)).mono (Nat.le_succ _)⟩
        · -- a letter is lost
          refine ⟨_, rfl, a1.d, 2, rfl, G4.A.W.D, by decide, by decide, fun pp H5 pp0 pp2 D5 f5 => ?_⟩
          have G5 := G4.dice D5 f5
          have hp : pp = 0 ∨ pp = 1 := by omega
          have nop : between (.int pp) 0 1 ≠ false := fun z => by rcases hp with q | q <;> rw [q] at z <;> cases z
          obtain ⟨cc, xs, m, hat, hcc, hix, A6, f6⟩ := G5.A.loseOwn hp hk
          refine ⟨fun σ' H' => σ' = [some (V.ref a), some (.ref a1.d), some (.ref c), some (.ref a1.x.o), some (.ref a1.y.l), some (.ref a1.w.o), some (.ref a1.pl), some (.ref a1.L), some (.int (0 + (i : Nat))), some (.int kd), some (.int kk), v11, some (.int pp), v13, v14, v15] ∧ A16 T.tl T.C_Line T.C_End T.C_Marks Z1 ρ1 H' a1 ⟨sx, sx.toLnS, sw, sx.ps, setL sx.ls pp kk⟩ ∧ Alloc Z1 H', ⟨_, rfl, _, rfl, a1.L, _, _, _, rfl, rfl, SqL.of G5.A.L, hat, _, rfl, cc, xs, _, m, rfl, rfl, hcc, hix, rfl, A6, G5.al.frm f6⟩, ?_⟩
          rintro σ' H6 ⟨rfl, A6, al6⟩
          refine ⟨fun σ' H' => (∃ w13 : Option V, σ' = [some (V.ref a), some (.ref a1.d), some (.ref c), some (.ref a1.x.o), some (.ref a1.y.l), some (.ref a1.w.o), some (.ref a1.pl), some (.ref a1.L), some (.int (0 + (i : Nat))), some (.int kd), some (.int kk), v11, some (.int pp), w13, v14, v15]) ∧ A16 T.tl T.C_Line T.C_End T.C_Marks Z1 ρ1 H' a1 ⟨{ sx with ls := setL sx.ls pp kk }, sx.toLnS, sw, sx.ps, setL sx.ls pp kk⟩ ∧ Alloc Z1 H', ?_, ?_⟩
          · refine ⟨_, rfl, a1.d, 2, rfl, A6.W.D, by decide, by decide, fun r H7 r0 r2 D7 f7 => ?_⟩
            refine ⟨_, _, rfl, rfl, _, rfl, by omega, by omega, for_range (lo := 0) (n := (1 + r).toNat) (fun j σ H' => ∃ (w13 : Option V) (l2 : Lost), σ = [some (V.ref a), some (.ref a1.d), some (.ref c), some (.ref a1.x.o), some (.ref a1.y.l), some (.ref a1.w.o), some (.ref a1.pl), some (.ref a1.L), some (.int (0 + (i : Nat))), some (.int kd), some (.int kk), v11, some (.int pp), w13, v14, v15] ∧ (l2 = sx.ls ∧ j = 0 ∨ l2 = setL sx.ls pp kk) ∧ A16 T.tl T.C_Line T.C_End T.C_Marks Z1 ρ1 H' a1 ⟨{ sx with ls := l2 }, sx.toLnS, sw, sx.ps, setL sx.ls pp kk⟩ ∧ Alloc Z1 H')
              ⟨_, sx.ls, rfl, .inl ⟨rfl, rfl⟩, A6.dice D7 f7, al6.frm f7⟩ ?_ ?_⟩
            · rintro j σ H8 hj ⟨w13, l2, rfl, hl2, A8, al8⟩
              obtain ⟨dx8, hob8⟩ := A8.X.ob
              refine ⟨_, rfl, a1.x.o, dx8, _, rfl, hob8, zip_no (N := liN) (by decide +kernel), _, rfl, _, rfl, Z1, a1.x, _, .int pp, .int kk, .int pp, .int kk, rfl, A8.X, A8.inZ.1, .int _, (fun ds z => by cases z), .int _, (fun ds z => by cases z), (fun z => (nop z).elim), (fun _ z => (nok z).elim), fun p' e' q1 q2 _ _ H9 X9 f9 => ?_⟩
              cases q1
              cases q2
              refine ⟨_, setL l2 pp kk, rfl, .inr ?_, A8.stepX X9 f9, al8.frm f9⟩
              rcases hl2 with ⟨q, _⟩ | q
              · rw [q]
              · rw [q, setL_idem]
            · rintro σ H8 ⟨w13, l2, rfl, hl2, A8, al8⟩
              have e : l2 = setL sx.ls pp kk := hl2.resolve_left (fun q => by omega)
              subst e
              exact ⟨⟨_, rfl⟩, A8, al8⟩
          rintro σ' H7 ⟨⟨w13, rfl⟩, A7, al7⟩
          exact ⟨_, _, a1, _, _, _, _, _, rfl, (G16.lose G5 A7 al7).mono (Nat.le_succ _)⟩
        · -- an item is sent
          have E4 : EndAt T.C_End T.C_Marks Z1 H4 (adK kk a1.y) (endK kk sx.toLnS) := G4.A.Y.endK hk
          obtain ⟨⟨dxe, cv, mv, ov, ho, _⟩, _⟩ := id E4
          refine ⟨_, rfl, a1.y.l, _, rfl, G4.A.Y.get.2.1, _, rfl, a1.y.es, _, _, _, rfl, rfl, SqL.of G4.A.Y.es, at_end hk, (adK kk a1.y).e, dxe, _, rfl, ho, zip_no (by decide), Z1, adK kk a1.y, _, rfl, E4, _, _, rfl, rfl, ?_⟩
          by_cases hf : (endK kk sx.toLnS).wait.length < 20
          · refine ⟨fun σ' H' => σ' = [some (V.ref a), some (.ref a1.d), some (.ref c), some (.ref a1.x.o), some (.ref a1.y.l), some (.ref a1.w.o), some (.ref a1.pl), some (.ref a1.L), some (.int (0 + (i : Nat))), some (.int kd), some (.int kk), v11, v12, v13, some (.bl (decide ((19 : Int) < ((endK kk sx.toLnS).wait.length : Nat)))), v15] ∧ A16 T.tl T.C_Line T.C_End T.C_Marks Z1 ρ1 H' a1 ⟨sx, (sendP sx kk (0 + (i : Nat))).toLnS, sw, sx.ps, sx.ls⟩ ∧ Alloc Z1 H', ?_, ?_⟩
            · refine ⟨_, rfl, _, rfl, iteNo (by omega) ?_⟩
              refine ⟨_, rfl, a1.y.l, _, rfl, G4.A.Y.get.2.1, _, rfl, a1.y.es, _, _, _, rfl, rfl, SqL.of G4.A.Y.es, at_end hk, (adK kk a1.y).e, dxe, _, rfl, ho, zip_no (by decide), _, rfl, Z1, adK kk a1.y, endK kk sx.toLnS, .int (0 + (i : Nat)), .int (0 + (i : Nat)), rfl, E4, (fun z hz => G4.A.inZ.2.1 z (adK_all hk z hz)), .int _, (fun ds z => by cases z), ww, (fun z => ?_), (fun _ z => ?_), fun j q j0 j9 _ H5 E5 f5 => ?_⟩
              · simp [between] at z
                omega
              · omega
              cases q
              obtain ⟨Y6, f6⟩ := LineAt.sendK (s := sx) G4.A.Y hk E5 f5 G4.A.inZ.2.1
              exact ⟨rfl, G4.A.stepY Y6 f6, G4.al.frm f6⟩
            rintro σ' H5 ⟨rfl, A5, al5⟩
            refine ⟨A5.W.tb, fun g cg H6 e6 tb6 f6 gn gH cH => ⟨g, _, rfl, ready_of (js := [10, 8, 3]) (gH) (cH) (fun t z => by cases z) (lok_of (P := P) (w := w) (mg := mg) (base := base) (k := 10) (fr := ["_law_k", "_law_turn", "_law_line_here"]) (N := ["_law_k", "_law_turn", "_law_line_here"]) (ps := []) (vs := []) (tb := fun E => (tMeth T.C_Line "send" _ [] E (tVar 2) (tCons (tVar 0) (tCons (tVar 1) tNil)))) (NdefX.nscope_by (by dsimp only; decide +kernel)) rfl (fun s doc pm ctv _ => ⟨[], .nil, .of_eq rfl⟩) (fun A outer s H E hr => (pe_meth (pv 2) T.cl_Line T.m_Line_send G_Line_send (hr.mono (by decide)) T.b_Line_send .nil pass_ncx (pa_cons (pv 0) (pa_cons (pv 1) pa_nil))))) ⟨rfl, NdefX.ndef_free (fr := []) (by show NdefX.ndefB (defScope s_law) _ [] = true; dsimp only; decide +kernel), NdefX.ndef_fr (sc := defScope s_law) (by dsimp only; decide +kernel), rfl⟩, fun _ _ _ => False, ?_, fun cls d' H' z => z.elim⟩⟩
            have A6 := A5.lam T.tm tb6 f6
            have al6 := al5.frm f6
            obtain ⟨dx6, hob6⟩ := A6.X.ob
            refine ⟨gH, (fun t z => by cases z), _, rfl, a1.x.o, dx6, _, rfl, hob6, zip_no (N := liN) (by decide +kernel), _, rfl, _, rfl, Z1, a1.x, sx, .int kk, .int (0 + (i : Nat)), .int kk, .int (0 + (i : Nat)), rfl, A6.X, A6.inZ.1, .int _, (fun ds z => by cases z), .int _, (fun ds z => by cases z), wa, wb, (fun z => (nok z).elim), (fun _ z => ?_), (fun e q1 _ _ z => ?_), fun e j q1 q2 _ j0 j9 _ H7 X7 f7 => ?_⟩
            · simp [between] at z
              omega
            · cases q1
              rw [← endK_wait] at z
              omega
            cases q1
            cases q2
            refine ⟨_, rfl, _, rfl, iteD (fun z => absurd z (by omega)) (fun _ => ?_)⟩
            refine ⟨_, _, .non, .non, rfl, rfl, false, rfl, iteF ?_⟩
            exact ⟨_, _, a1, _, _, _, _, _, rfl, G16.send G4 (by omega) hk (by omega) (by omega) hf (A6.stepX X7 f7) (al6.frm f7)⟩
          · refine ⟨fun σ' H' => σ' = [some (V.ref a), some (.ref a1.d), some (.ref c), some (.ref a1.x.o), some (.ref a1.y.l), some (.ref a1.w.o), some (.ref a1.pl), some (.ref a1.L), some (.int (0 + (i : Nat))), some (.int kd), some (.int kk), v11, v12, v13, some (.bl (decide ((19 : Int) < ((endK kk sx.toLnS).wait.length : Nat)))), v15] ∧ H' = H4, ⟨_, rfl, _, rfl, iteYes (by omega) ⟨rfl, rfl⟩⟩, ?_⟩
            rintro σ' H5 ⟨rfl, rfl⟩
            refine ⟨G4.A.W.tb, fun g cg H6 e6 tb6 f6 gn gH cH => ⟨g, _, rfl, ready_of (js := [10, 8, 3]) (gH) (cH) (fun t z => by cases z) (lok_of (P := P) (w := w) (mg := mg) (base := base) (k := 10) (fr := ["_law_k", "_law_turn", "_law_line_here"]) (N := ["_law_k", "_law_turn", "_law_line_here"]) (ps := []) (vs := []) (tb := fun E => (tMeth T.C_Line "send" _ [] E (tVar 2) (tCons (tVar 0) (tCons (tVar 1) tNil)))) (NdefX.nscope_by (by dsimp only; decide +kernel)) rfl (fun s doc pm ctv _ => ⟨[], .nil, .of_eq rfl⟩) (fun A outer s H E hr => (pe_meth (pv 2) T.cl_Line T.m_Line_send G_Line_send (hr.mono (by decide)) T.b_Line_send .nil pass_ncx (pa_cons (pv 0) (pa_cons (pv 1) pa_nil))))) ⟨rfl, NdefX.ndef_free (fr := []) (by show NdefX.ndefB (defScope s_law) _ [] = true; dsimp only; decide +kernel), NdefX.ndef_fr (sc := defScope s_law) (by dsimp only; decide +kernel), rfl⟩, fun cls d' H' => cls = .ref T.C_Full ∧ d' = none ∧ H' = H6, ?_, ?_⟩⟩
            · have G6 := G4.lam T.tm tb6 f6
              obtain ⟨dx6, hob6⟩ := G6.A.X.ob
              refine ⟨gH, (fun t z => by cases z), _, rfl, a1.x.o, dx6, _, rfl, hob6, zip_no (N := liN) (by decide +kernel), _, rfl, _, rfl, Z1, a1.x, sx, .int kk, .int (0 + (i : Nat)), .int kk, .int (0 + (i : Nat)), rfl, G6.A.X, G6.A.inZ.1, .int _, (fun ds z => by cases z), .int _, (fun ds z => by cases z), wa, wb, (fun z => (nok z).elim), (fun _ z => ?_), (fun e q1 _ _ z => ⟨rfl, rfl, rfl⟩), fun e j q1 q2 _ j0 j9 z H7 X7 f7 => ?_⟩
              · simp [between] at z
                omega
              · cases q1
                rw [← endK_wait] at z
                exact absurd z hf
            · rintro cls d' H' ⟨rfl, rfl, rfl⟩
              have G6 := G4.lam T.tm tb6 f6
              refine ⟨4, 0, word_plain T.wk_Full (by decide) (by decide) (by decide) (by decide), fun u H7 s7 hu => ?_⟩
              have hu : H7 u = some (.tup [.str "full", .int 0]) := hu
              refine ⟨_, rfl, _, rfl, iteD (fun _ => ⟨(by show 2 ≤ sizeLine; decide), fun t2 ht2 => ?_⟩) (fun z => absurd z (by omega))⟩
              have s8 := Same.upd_new (o := .tup [.str "full", .int 0]) ht2
              have q8 := upd_same (H := H7) (a := t2) (o := .tup [.str "full", .int 0])
              generalize upd H7 t2 (.tup [.str "full", .int 0]) = H8 at s8 q8 ⊢
              have lvw : lv 1 (.tuple [.str "full", .int 0]) := lv_word (by decide +kernel) 0
              refine ⟨_, _, (im_word (s8 _ _ hu)).dp, (im_word q8).dp, shaped_lv lvw (by decide), shaped_lv lvw (by decide), false, congrArg V.bl (by rw [eqv_refl lvw]; rfl), iteF ?_⟩
              exact ⟨_, _, a1, _, _, _, _, _, rfl, ((G6.same s7).same s8).mono (Nat.le_succ _)⟩
        · -- the line beside goes a frame
          obtain ⟨dxw, how⟩ := G4.A.U.ob
          have hwo := G4.wo
          have hwl := G4.wl
          refine ⟨_, rfl, a1.w.o, dxw, _, rfl, how, zip_no (N := liN) (by decide +kernel), Z1, a1.w, sw, rfl, G4.A.U, G4.A.inZ.2.2, G4.al, G4.wk, (by show sw.a.over < _; have : sw.a.over ≤ i := hwo; omega), (by show sw.log.length < _; have : sw.log.length ≤ i := hwl; omega), fun lo t H5 hlo W5 f5 _ => ?_⟩
          exact ⟨_, _, { a1 with w := { a1.w with lo := lo } }, _, _, _, _, _, rfl, G16.other G4 (by omega) (G4.A.frameW hlo W5 f5) (alloc_cons (G4.al.frm f5) (W5.there lo (by simp [LoAd.every, LoAd.base])))⟩
        · -- both go a frame
          have hov : sx.a.over ≤ i := G4.ov
          have hlg : sx.log.length ≤ i := G4.lg
          refine ⟨_, rfl, _, rfl, _, rfl, Z1, a1.y, sx.toLnS, a1.pl, a1.L, sx.ps, sx.ls, rfl, G4.A.Y, G4.ok, G4.A.inZ.2.1, G4.al, (by omega), (by omega), G4.A.pass, G4.A.lost, fun H5 Y5 f5 => ?_⟩
          have A5 := G4.A.stepY Y5 f5
          have al5 := G4.al.frm f5
          refine ⟨rfl, fun L c0 c1 H6 hL h0 h1 n0 n1 n2 q q0 q1 s6 => ?_⟩
          have A6 := A5.newLost hL h0 h1 n0 n1 n2 q q0 q1 s6
          have al6 : Alloc (L :: c0 :: c1 :: Z1) H6 := alloc_cons (alloc_cons (alloc_cons (al5.frm (Frm.of_same (S := []) s6)) ⟨_, q1⟩) ⟨_, q0⟩) ⟨_, q⟩
          obtain ⟨dx6, hob6⟩ := A6.X.ob
          refine ⟨fun σ' H' => σ' = [some (V.ref a), some (.ref a1.d), some (.ref c), some (.ref a1.x.o), some (.ref a1.y.l), some (.ref a1.w.o), some (.ref a1.pl), some (.ref L), some (.int (0 + (i : Nat))), some (.int kd), some (.int kk), v11, v12, v13, v14, v15] ∧ ∃ (Z2 : List Addr) (ρ2 : Addr → Nat) (lo : Addr), G16 T Z2 ρ2 H' { { a1 with L := L, c0 := c0, c1 := c1 } with x := { a1.x with lo := lo } } ⟨frameP sx, frameF sx.ps sx.ls sx.toLnS, sw, sx.ps, lno⟩ (i + 1), ?_, ?_⟩
          · refine ⟨_, rfl, a1.x.o, dx6, _, rfl, hob6, zip_no (N := liN) (by decide +kernel), _, a1.x, sx, rfl, A6.X, A6.inZ.1, al6, G4.ok, (by omega), (by omega), fun lo t H7 hlo X7 f7 htr => ?_⟩
            have A7 := A6.frameX hlo X7 f7
            have al7 : Alloc (lo :: L :: c0 :: c1 :: Z1) H7 := alloc_cons (al6.frm f7) (X7.there lo (by simp [LoAd.every, LoAd.base]))
            have G7 := G16.frame G4 (by omega) A7 al7
            obtain ⟨ys, hlg7, hAy⟩ := G7.A.Y.lg
            obtain ⟨t2, hat, htr2⟩ := at_last hAy
            refine ⟨_, rfl, a1.y.l, _, rfl, G7.A.Y.get.2.2.2.1, _, rfl, a1.y.lg, ys, _, .ref t2, rfl, rfl, SqL.of hlg7, hat, ?_⟩
            exact ⟨.ref t, .ref t2, rowD (rowF sx.ps sx.ls (halfF sx.ps sx.ls sx.toLnS)), rfl, (im_row htr).dp, (im_row htr2).dp, lv_mono (lv_mono (lv_row _)), fun H8 s8 => ⟨_, rfl, iteF ⟨rfl, _, _, lo, G7.same s8⟩⟩⟩
          rintro σ' H7 ⟨rfl, Z2, ρ2, lo, G7⟩
          exact ⟨_, _, _, _, _, _, _, _, rfl, G7⟩
      rintro σ' H5 ⟨Z2, ρ2, a2, ⟨sx, sy, sw, sp, sl⟩, w11, w12, w13, w14, rfl, G5⟩
      have ey : sy = sx.toLnS := G5.ey
      subst ey
      have hlg : sx.log.length ≤ i + 1 := G5.lg
      have hgt : (endK kk sx.toLnS).got.length < 900 := (LnOk.endK (k := kk) G5.ok).got
      -- what is told
      obtain ⟨dx, hob⟩ := G5.A.X.ob
      refine ⟨_, rfl, a2.x.o, dx, _, rfl, hob, zip_no (N := liN) (by decide +kernel), Z2, a2.x, sx, rfl, G5.A.X, fun l1 xs hl1 hA1 => ?_⟩
      have s6 := Same.upd_new (o := .lst xs) hl1
      have q6 := upd_same (H := H5) (a := l1) (o := .lst xs)
      generalize upd H5 l1 (.lst xs) = H6 at s6 q6 ⊢
      have G6 := G5.same s6
      refine ⟨_, rfl, a2.x.o, dx, _, rfl, s6 _ _ hob, zip_no (N := liN) (by decide +kernel), _, rfl, Z2, a2.x, sx, _, _, rfl, G6.A.X, .int kk, (fun ds z => by cases z), (fun z => (nok z).elim), fun e ee _ l2 hl2 => ?_⟩
      cases ee
      rw [← endK_got]
      have s7 := Same.upd_new (o := .lst ((endK kk sx.toLnS).got.map V.int)) hl2
      have q7 := upd_same (H := H6) (a := l2) (o := .lst ((endK kk sx.toLnS).got.map V.int))
      generalize upd H6 l2 (.lst ((endK kk sx.toLnS).got.map V.int)) = H7 at s7 q7 ⊢
      have G7 := G6.same s7
      have s57 := s6.trans s7
      refine ⟨_, rfl, a2.x.o, dx, _, rfl, s57 _ _ hob, zip_no (N := liN) (by decide +kernel), _, rfl, Z2, a2.x, sx, _, _, rfl, G7.A.X, .int kk, (fun ds z => by cases z), (fun z => (nok z).elim), fun e ee _ => ⟨(by show 3 ≤ sizeLine; decide), fun F hF => ?_⟩⟩
      cases ee
      rw [← endK_wait]
      have s8 := Same.upd_new (o := .lst [.ref l1, .ref l2, .int ((endK kk sx.toLnS).wait.length : Nat)]) hF
      have q8 := upd_same (H := H7) (a := F) (o := .lst [.ref l1, .ref l2, .int ((endK kk sx.toLnS).wait.length : Nat)])
      generalize upd H7 F (.lst [.ref l1, .ref l2, .int ((endK kk sx.toLnS).wait.length : Nat)]) = H8 at s8 q8 ⊢
      have G8 := G7.same s8
      have s58 := s57.trans s8
      have s68 := s7.trans s8
      refine ⟨fun σ' H' => σ' = [some (V.ref a), some (.ref a2.d), some (.ref c), some (.ref a2.x.o), some (.ref a2.y.l), some (.ref a2.w.o), some (.ref a2.pl), some (.ref a2.L), some (.int (0 + (i : Nat))), some (.int kd), some (.int kk), w11, w12, w13, w14, some (.ref F)] ∧ Same H8 H', ?_, ?_⟩
      · have E8 : EndAt T.C_End T.C_Marks Z2 H8 (adK kk a2.y) (endK kk sx.toLnS) := G8.A.Y.endK hk
        obtain ⟨⟨dxe, cv, mv, ov, ho, _⟩, _⟩ := id E8
        obtain ⟨ys, hlg8, hAy⟩ := G8.A.Y.lg
        refine ⟨_, rfl, _, rfl, a2.y.l, _, rfl, G8.A.Y.get.2.2.2.1, _, rfl, a2.y.l, _, rfl, G8.A.Y.get.2.1, _, rfl, a2.y.es, _, _, _, rfl, rfl, SqL.of G8.A.Y.es, at_end hk, (adK kk a2.y).e, dxe, _, rfl, ho, zip_no (by decide), Z2, adK kk a2.y, _, rfl, E8, fun l3 hl3 => ?_⟩
        have s9 := Same.upd_new (o := .lst ((endK kk sx.toLnS).got.map V.int)) hl3
        have q9 := upd_same (H := H8) (a := l3) (o := .lst ((endK kk sx.toLnS).got.map V.int))
        generalize upd H8 l3 (.lst ((endK kk sx.toLnS).got.map V.int)) = H9 at s9 q9 ⊢
        have G9 := G8.same s9
        refine ⟨_, rfl, a2.y.l, _, rfl, G9.A.Y.get.2.1, _, rfl, a2.y.es, _, _, _, rfl, rfl, SqL.of G9.A.Y.es, at_end hk, (adK kk a2.y).e, dxe, _, rfl, s9 _ _ ho, zip_no (by decide), Z2, adK kk a2.y, _, rfl, E8.same s9, (by show 3 ≤ sizeLine; decide), fun F2 hF2 => ?_⟩
        have s10 := Same.upd_new (o := .lst [.ref a2.y.lg, .ref l3, .int ((endK kk sx.toLnS).wait.length : Nat)]) hF2
        have q10 := upd_same (H := H9) (a := F2) (o := .lst [.ref a2.y.lg, .ref l3, .int ((endK kk sx.toLnS).wait.length : Nat)])
        generalize upd H9 F2 (.lst [.ref a2.y.lg, .ref l3, .int ((endK kk sx.toLnS).wait.length : Nat)]) = H10 at s10 q10 ⊢
        have s810 := s9.trans s10
        have lvt : lv 3 (.list [.list (sx.log.map rowD), .list ((endK kk sx.toLnS).got.map .int), .int ((endK kk sx.toLnS).wait.length : Nat)]) := by
          refine ⟨(by show 3 ≤ 100000; decide), fun y hy => ?_⟩
          simp only [List.mem_cons, List.not_mem_nil, or_false] at hy
          rcases hy with rfl | rfl | rfl
          · exact lv_rows (by omega)
          · exact lv_mono (lv_ints (by omega))
          · trivial
        refine ⟨.ref F, .ref F2, _, rfl, .lst (SqL.of (s810 _ _ q8)) (.cons (.lst (SqL.of (s810 _ _ (s68 _ _ q6))) (hA1.same (s58.trans s810)).dp) (.cons (.lst (SqL.of (s810 _ _ (s8 _ _ q7))) (dp_ints _)) (.cons (.int _) .nil))),
          .lst (SqL.of q10) (.cons (.lst (SqL.of (s810 _ _ hlg8)) (hAy.same s810).dp) (.cons (.lst (SqL.of (s10 _ _ q9)) (dp_ints _)) (.cons (.int _) .nil))), lvt, fun H11 s11 => ⟨_, rfl, iteF ⟨rfl, s810.trans s11⟩⟩⟩
      rintro σ' H9 ⟨rfl, s9⟩
      have s69 := s68.trans s9
      have s79 := s8.trans s9
      have s59 := s58.trans s9
      have n12 : l1 ≠ l2 := ne_of_none q6 hl2
      -- lists told are changed
      have qF := s9 _ _ q8
      have q1 := s69 _ _ q6
      refine ⟨_, rfl, F, _, _, .ref l1, rfl, rfl, SqL.of qF, rfl, .inl ⟨rfl, _, SqL.of q1⟩, (by show 0 ≤ sizeLine; decide), fun e he => ?_⟩
      have s10 := Same.upd_new (o := .tup []) he
      have q1 := s10 _ _ q1
      have q2 := s10 _ _ (s79 _ _ q7)
      have qF := s10 _ _ qF
      have s510 := s59.trans s10
      generalize upd H9 e (.tup []) = H10 at s10 q1 q2 qF s510 ⊢
      have hxl := rows_len hA1
      refine ⟨l1, _, _, rfl, rfl, q1, small1000 (by omega), ?_⟩
      have f11 := (Frm.of_same (S := []) s510).own hl1 (Frm.updL q1 : Frm [l1] H10 (upd H10 l1 (.lst (xs ++ [.ref e]))))
      have nF1 : F ≠ l1 := Ne.symm (ne_of_none (s7 _ _ q6) hF)
      have nF2 : F ≠ l2 := Ne.symm (ne_of_none q7 hF)
      have q2' : (upd H10 l1 (.lst (xs ++ [.ref e]))) l2 = some (.lst ((endK kk sx.toLnS).got.map V.int)) := by rw [upd_ne (Ne.symm n12)]; exact q2
      have qF' : (upd H10 l1 (.lst (xs ++ [.ref e]))) F = some (.lst [.ref l1, .ref l2, .int ((endK kk sx.toLnS).wait.length : Nat)]) := by rw [upd_ne nF1]; exact qF
      refine ⟨_, rfl, F, _, _, .ref l2, rfl, rfl, SqL.of qF', rfl, .inl ⟨rfl, _, SqL.of q2'⟩, l2, _, _, rfl, rfl, q2', small1000 (by rw [List.length_map]; omega), ?_⟩
      have s12 := (f11.own ((Frm.of_same (S := []) s6).free hl2) (Frm.updL q2' : Frm [l2] _ (upd (upd H10 l1 (.lst (xs ++ [.ref e]))) l2 (.lst ((endK kk sx.toLnS).got.map V.int ++ [.int 0]))))).same
      exact ⟨Z2, ρ2, a2, _, _, _, _, _, _, _, _, _, rfl, G5.same s12⟩
    · rintro σ H1 ⟨Z1, ρ1, a1, s1, v8, v9, v10, v11, v12, v13, v14, v15, rfl, G1⟩
      refine ⟨fun σ' H' => σ' = [some (V.ref a), some (.ref a1.d), some (.ref c), some (.ref a1.x.o), some (.ref a1.y.l), some (.ref a1.w.o), some (.ref a1.pl), some (.ref a1.L), v8, v9, v10, v11, v12, v13, v14, v15] ∧ ∃ (Z2 : List Addr) (ρ2 : Addr → Nat) (a2 : Ad16) (s2 : St16), a2.x.o = a1.x.o ∧ a2.d = a1.d ∧ G16 T Z2 ρ2 H' a2 s2 650, ?_, ?_⟩
      · refine ⟨_, rfl, a1.d, 4, rfl, G1.A.W.D, by decide, by decide, fun r H2 r0 r4 D2 f2 => ⟨rfl, _, rfl, ?_⟩⟩
        have G2 := G1.dice D2 f2
        refine iteD (fun _ => ?_) (fun _ => ⟨rfl, _, _, a1, s1, rfl, rfl, G2.mono (by omega)⟩)
        exact ⟨_, rfl, _, rfl, _, rfl, _, rfl, Z1, ρ1, a1, s1, rfl, G2.mono (by omega), fun Z' ρ' a' s' H' e1 e2 G' => ⟨_, rfl, iteF ⟨rfl, Z', ρ', a', s', e1, e2, G'⟩⟩⟩
      rintro σ' H2 ⟨rfl, Z2, ρ2, a2, s2, e1, e2, G2⟩
      have hlg := G2.lg
      have hgt := G2.ok.ea.got
      exact ⟨_, rfl, _, rfl, Z2, ρ2, a2.d, a2.x, s2.x, by rw [e1, e2] <;> rfl, ⟨G2.A.W, G2.A.X, G2.A.rx⟩, G2.ok.ea.wait, G2.ok.eb.wait, by omega, by omega, fun H' => k H'⟩

end
end TL

namespace TL
open PySem L2
/-! ### what the top has written; the last theorem -/
theorem all_mk {l : PySem.W.OpenLaw} {w : World} {K : PySem.W.Frag} {h : Heap} {mg : Str → Option Value} {fa : Addr} (X : K.In h) (G : h.Ns mainGlobals mg) (hfa : mg "law" = some (.ref fa)) (own : OwnTabs K mg ["law", "_law_are_refused"] h) {C_LineError C_BadManners C_BadItem C_Full C_BadPart C_BadCount C_BadEnd C_BadStep C_BadLog C_BadText C_Marks C_End C_Line a_is_between a_are_manners a_need_manners a_chosen a_need_manner a_need_end a__law_dice a__law_off a__law_alike a__law_word a__law_can a__law_line a__law_frame a__law_none_lost a__law_are_refused a__law_goes_on a_law a_Marks_init a_Marks_note a_Marks_bad a_End_init a_End_need_part a_End_refresh a_End_take a_End_say a_End_hear a_End_hear_slow a_End_hear_fast a_End_send a_End_got a_End_left a_End_stands a_Line_init a_Line_let_pass a_Line_lose a_Line_send a_Line_carry a_Line_frame a_Line_log a_Line_got a_Line_left lC lP lC__law_are_refused lP__law_are_refused : Addr}
    {od_is_between an_is_between od_are_manners an_are_manners od_need_manners an_need_manners od_chosen an_chosen od_need_manner an_need_manner od_need_end an_need_end od__law_dice an__law_dice od__law_off an__law_off od__law_alike an__law_alike od__law_word an__law_word od__law_can an__law_can od__law_line an__law_line od__law_frame an__law_frame od__law_none_lost an__law_none_lost od__law_are_refused an__law_are_refused od__law_goes_on an__law_goes_on od_law an_law od_Marks_init an_Marks_init od_Marks_note an_Marks_note od_Marks_bad an_Marks_bad od_End_init an_End_init od_End_need_part an_End_need_part od_End_refresh an_End_refresh od_End_take an_End_take od_End_say an_End_say od_End_hear an_End_hear od_End_hear_slow an_End_hear_slow od_End_hear_fast an_End_hear_fast od_End_send an_End_send od_End_got an_End_got od_End_left an_End_left od_End_stands an_End_stands od_Line_init an_Line_init od_Line_let_pass an_Line_let_pass od_Line_lose an_Line_lose od_Line_send an_Line_send od_Line_carry an_Line_carry od_Line_frame an_Line_frame od_Line_log an_Line_log od_Line_got an_Line_got od_Line_left an_Line_left : Option Addr} {sl_is_between sl_are_manners sl_need_manners sl_chosen sl_need_manner sl_need_end sl__law_dice sl__law_off sl__law_alike sl__law_word sl__law_can sl__law_line sl__law_frame sl__law_none_lost sl__law_are_refused sl__law_goes_on sl_law sl_Marks_init sl_Marks_note sl_Marks_bad sl_End_init sl_End_need_part sl_End_refresh sl_End_take sl_End_say sl_End_hear sl_End_hear_slow sl_End_hear_fast sl_End_send sl_End_got sl_End_left sl_End_stands sl_Line_init sl_Line_let_pass sl_Line_lose sl_Line_send sl_Line_carry sl_Line_frame sl_Line_log sl_Line_got sl_Line_left : Array (Option Value)} {oc_is_between kV_is_between dc_is_between pm_is_between cd_is_between ct_is_between oc_are_manners kV_are_manners dc_are_manners pm_are_manners cd_are_manners ct_are_manners oc_need_manners kV_need_manners dc_need_manners pm_need_manners cd_need_manners ct_need_manners oc_chosen kV_chosen dc_chosen pm_chosen cd_chosen ct_chosen oc_need_manner kV_need_manner dc_need_manner pm_need_manner cd_need_manner ct_need_manner oc_need_end kV_need_end dc_need_end pm_need_end cd_need_end ct_need_end oc__law_dice kV__law_dice dc__law_dice pm__law_dice cd__law_dice ct__law_dice oc__law_off kV__law_off dc__law_off pm__law_off cd__law_off ct__law_off oc__law_alike kV__law_alike dc__law_alike pm__law_alike cd__law_alike ct__law_alike oc__law_word kV__law_word dc__law_word pm__law_word cd__law_word ct__law_word oc__law_can kV__law_can dc__law_can pm__law_can cd__law_can ct__law_can oc__law_line kV__law_line dc__law_line pm__law_line cd__law_line ct__law_line oc__law_frame kV__law_frame dc__law_frame pm__law_frame cd__law_frame ct__law_frame oc__law_none_lost kV__law_none_lost dc__law_none_lost pm__law_none_lost cd__law_none_lost ct__law_none_lost oc__law_are_refused kV__law_are_refused dc__law_are_refused pm__law_are_refused ct__law_are_refused oc__law_goes_on kV__law_goes_on dc__law_goes_on pm__law_goes_on cd__law_goes_on ct__law_goes_on oc_law kV_law dc_law pm_law ct_law oc_Marks_init kV_Marks_init dc_Marks_init pm_Marks_init cd_Marks_init ct_Marks_init oc_Marks_note kV_Marks_note dc_Marks_note pm_Marks_note cd_Marks_note ct_Marks_note oc_Marks_bad kV_Marks_bad dc_Marks_bad pm_Marks_bad cd_Marks_bad ct_Marks_bad oc_End_init kV_End_init dc_End_init pm_End_init cd_End_init ct_End_init oc_End_need_part kV_End_need_part dc_End_need_part pm_End_need_part cd_End_need_part ct_End_need_part oc_End_refresh kV_End_refresh dc_End_refresh pm_End_refresh cd_End_refresh ct_End_refresh oc_End_take kV_End_take dc_End_take pm_End_take cd_End_take ct_End_take oc_End_say kV_End_say dc_End_say pm_End_say cd_End_say ct_End_say oc_End_hear kV_End_hear dc_End_hear pm_End_hear cd_End_hear ct_End_hear oc_End_hear_slow kV_End_hear_slow dc_End_hear_slow pm_End_hear_slow cd_End_hear_slow ct_End_hear_slow oc_End_hear_fast kV_End_hear_fast dc_End_hear_fast pm_End_hear_fast cd_End_hear_fast ct_End_hear_fast oc_End_send kV_End_send dc_End_send pm_End_send cd_End_send ct_End_send oc_End_got kV_End_got dc_End_got pm_End_got cd_End_got ct_End_got oc_End_left kV_End_left dc_End_left pm_End_left cd_End_left ct_End_left oc_End_stands kV_End_stands dc_End_stands pm_End_stands cd_End_stands ct_End_stands oc_Line_init kV_Line_init dc_Line_init pm_Line_init cd_Line_init ct_Line_init oc_Line_let_pass kV_Line_let_pass dc_Line_let_pass pm_Line_let_pass cd_Line_let_pass ct_Line_let_pass oc_Line_lose kV_Line_lose dc_Line_lose pm_Line_lose cd_Line_lose ct_Line_lose oc_Line_send kV_Line_send dc_Line_send pm_Line_send cd_Line_send ct_Line_send oc_Line_carry kV_Line_carry dc_Line_carry pm_Line_carry cd_Line_carry ct_Line_carry oc_Line_frame kV_Line_frame dc_Line_frame pm_Line_frame cd_Line_frame ct_Line_frame oc_Line_log kV_Line_log dc_Line_log pm_Line_log cd_Line_log ct_Line_log oc_Line_got kV_Line_got dc_Line_got pm_Line_got cd_Line_got ct_Line_got oc_Line_left kV_Line_left dc_Line_left pm_Line_left cd_Line_left ct_Line_left : Value} {tk_MOST tk_FIRST tk_LONGEST tk_STAYS tk_LOST tk_LAST tk_MOST_FRAME tk_SLOW tk_FAST tk_MOST_ITEMS tk_MOST_ITEM : Tok} {te : Value} {td : Option Addr} {tv : Array Value} {tsl : Array (Option Value)} {te__law_are_refused : Value} {td__law_are_refused : Option Addr} {tv__law_are_refused : Array Value} {tsl__law_are_refused : Array (Option Value)}
    (hC_LineError : PySem.W.nsIn K mainGlobals "LineError" = some (some (.ref C_LineError)))
    (hC_BadManners : PySem.W.nsIn K mainGlobals "BadManners" = some (some (.ref C_BadManners)))
    (hC_BadItem : PySem.W.nsIn K mainGlobals "BadItem" = some (some (.ref C_BadItem)))
    (hC_Full : PySem.W.nsIn K mainGlobals "Full" = some (some (.ref C_Full)))
    (hC_BadPart : PySem.W.nsIn K mainGlobals "BadPart" = some (some (.ref C_BadPart)))
    (hC_BadCount : PySem.W.nsIn K mainGlobals "BadCount" = some (some (.ref C_BadCount)))
    (hC_BadEnd : PySem.W.nsIn K mainGlobals "BadEnd" = some (some (.ref C_BadEnd)))
    (hC_BadStep : PySem.W.nsIn K mainGlobals "BadStep" = some (some (.ref C_BadStep)))
    (hC_BadLog : PySem.W.nsIn K mainGlobals "BadLog" = some (some (.ref C_BadLog)))
    (hC_BadText : PySem.W.nsIn K mainGlobals "BadText" = some (some (.ref C_BadText)))
    (hC_Marks : PySem.W.nsIn K mainGlobals "Marks" = some (some (.ref C_Marks)))
    (hC_End : PySem.W.nsIn K mainGlobals "End" = some (some (.ref C_End)))
    (hC_Line : PySem.W.nsIn K mainGlobals "Line" = some (some (.ref C_Line)))
    (hg_is_between : PySem.W.nsIn K mainGlobals "is_between" = some (some (.ref a_is_between)))
    (hl_is_between : K.lookup a_is_between = some ⟨oc_is_between, od_is_between, .func (PySem.W.fnOf "is_between" "is_between" (defArgs s_is_between) (defBody s_is_between) (defScope s_is_between) .none kV_is_between dc_is_between pm_is_between an_is_between cd_is_between ct_is_between), sl_is_between⟩)
    (hc_is_between : PySem.W.codeIn K cd_is_between "is_between" = true)
    (hk_is_between : PySem.W.keepIn K (.ref a_is_between) = true)
    (hg_are_manners : PySem.W.nsIn K mainGlobals "are_manners" = some (some (.ref a_are_manners)))
    (hl_are_manners : K.lookup a_are_manners = some ⟨oc_are_manners, od_are_manners, .func (PySem.W.fnOf "are_manners" "are_manners" (defArgs s_are_manners) (defBody s_are_manners) (defScope s_are_manners) .none kV_are_manners dc_are_manners pm_are_manners an_are_manners cd_are_manners ct_are_manners), sl_are_manners⟩)
    (hc_are_manners : PySem.W.codeIn K cd_are_manners "are_manners" = true)
    (hk_are_manners : PySem.W.keepIn K (.ref a_are_manners) = true)
    (hg_need_manners : PySem.W.nsIn K mainGlobals "need_manners" = some (some (.ref a_need_manners)))
    (hl_need_manners : K.lookup a_need_manners = some ⟨oc_need_manners, od_need_manners, .func (PySem.W.fnOf "need_manners" "need_manners" (defArgs s_need_manners) (defBody s_need_manners) (defScope s_need_manners) .none kV_need_manners dc_need_manners pm_need_manners an_need_manners cd_need_manners ct_need_manners), sl_need_manners⟩)
    (hc_need_manners : PySem.W.codeIn K cd_need_manners "need_manners" = true)
    (hk_need_manners : PySem.W.keepIn K (.ref a_need_manners) = true)
    (hg_chosen : PySem.W.nsIn K mainGlobals "chosen" = some (some (.ref a_chosen)))
    (hl_chosen : K.lookup a_chosen = some ⟨oc_chosen, od_chosen, .func (PySem.W.fnOf "chosen" "chosen" (defArgs s_chosen) (defBody s_chosen) (defScope s_chosen) .none kV_chosen dc_chosen pm_chosen an_chosen cd_chosen ct_chosen), sl_chosen⟩)
    (hc_chosen : PySem.W.codeIn K cd_chosen "chosen" = true)
    (hk_chosen : PySem.W.keepIn K (.ref a_chosen) = true)
    (hg_need_manner : PySem.W.nsIn K mainGlobals "need_manner" = some (some (.ref a_need_manner)))
    (hl_need_manner : K.lookup a_need_manner = some ⟨oc_need_manner, od_need_manner, .func (PySem.W.fnOf "need_manner" "need_manner" (defArgs s_need_manner) (defBody s_need_manner) (defScope s_need_manner) .none kV_need_manner dc_need_manner pm_need_manner an_need_manner cd_need_manner ct_need_manner), sl_need_manner⟩)
    (hc_need_manner : PySem.W.codeIn K cd_need_manner "need_manner" = true)
    (hk_need_manner : PySem.W.keepIn K (.ref a_need_manner) = true)
    (hg_need_end : PySem.W.nsIn K mainGlobals "need_end" = some (some (.ref a_need_end)))
    (hl_need_end : K.lookup a_need_end = some ⟨oc_need_end, od_need_end, .func (PySem.W.fnOf "need_end" "need_end" (defArgs s_need_end) (defBody s_need_end) (defScope s_need_end) .none kV_need_end dc_need_end pm_need_end an_need_end cd_need_end ct_need_end), sl_need_end⟩)
    (hc_need_end : PySem.W.codeIn K cd_need_end "need_end" = true)
    (hk_need_end : PySem.W.keepIn K (.ref a_need_end) = true)
    (hg__law_dice : PySem.W.nsIn K mainGlobals "_law_dice" = some (some (.ref a__law_dice)))
    (hl__law_dice : K.lookup a__law_dice = some ⟨oc__law_dice, od__law_dice, .func (PySem.W.fnOf "_law_dice" "_law_dice" (defArgs s__law_dice) (defBody s__law_dice) (defScope s__law_dice) .none kV__law_dice dc__law_dice pm__law_dice an__law_dice cd__law_dice ct__law_dice), sl__law_dice⟩)
    (hc__law_dice : PySem.W.codeIn K cd__law_dice "_law_dice" = true)
    (hk__law_dice : PySem.W.keepIn K (.ref a__law_dice) = true)
    (hg__law_off : PySem.W.nsIn K mainGlobals "_law_off" = some (some (.ref a__law_off)))
    (hl__law_off : K.lookup a__law_off = some ⟨oc__law_off, od__law_off, .func (PySem.W.fnOf "_law_off" "_law_off" (defArgs s__law_off) (defBody s__law_off) (defScope s__law_off) .none kV__law_off dc__law_off pm__law_off an__law_off cd__law_off ct__law_off), sl__law_off⟩)
    (hc__law_off : PySem.W.codeIn K cd__law_off "_law_off" = true)
    (hk__law_off : PySem.W.keepIn K (.ref a__law_off) = true)
    (hg__law_alike : PySem.W.nsIn K mainGlobals "_law_alike" = some (some (.ref a__law_alike)))
    (hl__law_alike : K.lookup a__law_alike = some ⟨oc__law_alike, od__law_alike, .func (PySem.W.fnOf "_law_alike" "_law_alike" (defArgs s__law_alike) (defBody s__law_alike) (defScope s__law_alike) .none kV__law_alike dc__law_alike pm__law_alike an__law_alike cd__law_alike ct__law_alike), sl__law_alike⟩)
    (hc__law_alike : PySem.W.codeIn K cd__law_alike "_law_alike" = true)
    (hk__law_alike : PySem.W.keepIn K (.ref a__law_alike) = true)
    (hg__law_word : PySem.W.nsIn K mainGlobals "_law_word" = some (some (.ref a__law_word)))
    (hl__law_word : K.lookup a__law_word = some ⟨oc__law_word, od__law_word, .func (PySem.W.fnOf "_law_word" "_law_word" (defArgs s__law_word) (defBody s__law_word) (defScope s__law_word) .none kV__law_word dc__law_word pm__law_word an__law_word cd__law_word ct__law_word), sl__law_word⟩)
    (hc__law_word : PySem.W.codeIn K cd__law_word "_law_word" = true)
    (hk__law_word : PySem.W.keepIn K (.ref a__law_word) = true)
    (hg__law_can : PySem.W.nsIn K mainGlobals "_law_can" = some (some (.ref a__law_can)))
    (hl__law_can : K.lookup a__law_can = some ⟨oc__law_can, od__law_can, .func (PySem.W.fnOf "_law_can" "_law_can" (defArgs s__law_can) (defBody s__law_can) (defScope s__law_can) .none kV__law_can dc__law_can pm__law_can an__law_can cd__law_can ct__law_can), sl__law_can⟩)
    (hc__law_can : PySem.W.codeIn K cd__law_can "_law_can" = true)
    (hk__law_can : PySem.W.keepIn K (.ref a__law_can) = true)
    (hg__law_line : PySem.W.nsIn K mainGlobals "_law_line" = some (some (.ref a__law_line)))
    (hl__law_line : K.lookup a__law_line = some ⟨oc__law_line, od__law_line, .func (PySem.W.fnOf "_law_line" "_law_line" (defArgs s__law_line) (defBody s__law_line) (defScope s__law_line) .none kV__law_line dc__law_line pm__law_line an__law_line cd__law_line ct__law_line), sl__law_line⟩)
    (hc__law_line : PySem.W.codeIn K cd__law_line "_law_line" = true)
    (hk__law_line : PySem.W.keepIn K (.ref a__law_line) = true)
    (hg__law_frame : PySem.W.nsIn K mainGlobals "_law_frame" = some (some (.ref a__law_frame)))
    (hl__law_frame : K.lookup a__law_frame = some ⟨oc__law_frame, od__law_frame, .func (PySem.W.fnOf "_law_frame" "_law_frame" (defArgs s__law_frame) (defBody s__law_frame) (defScope s__law_frame) .none kV__law_frame dc__law_frame pm__law_frame an__law_frame cd__law_frame ct__law_frame), sl__law_frame⟩)
    (hc__law_frame : PySem.W.codeIn K cd__law_frame "_law_frame" = true)
    (hk__law_frame : PySem.W.keepIn K (.ref a__law_frame) = true)
    (hg__law_none_lost : PySem.W.nsIn K mainGlobals "_law_none_lost" = some (some (.ref a__law_none_lost)))
    (hl__law_none_lost : K.lookup a__law_none_lost = some ⟨oc__law_none_lost, od__law_none_lost, .func (PySem.W.fnOf "_law_none_lost" "_law_none_lost" (defArgs s__law_none_lost) (defBody s__law_none_lost) (defScope s__law_none_lost) .none kV__law_none_lost dc__law_none_lost pm__law_none_lost an__law_none_lost cd__law_none_lost ct__law_none_lost), sl__law_none_lost⟩)
    (hc__law_none_lost : PySem.W.codeIn K cd__law_none_lost "_law_none_lost" = true)
    (hk__law_none_lost : PySem.W.keepIn K (.ref a__law_none_lost) = true)
    (hg__law_are_refused : PySem.W.nsIn K mainGlobals "_law_are_refused" = some (some (.ref a__law_are_refused)))
    (hl__law_are_refused : K.lookup a__law_are_refused = some ⟨oc__law_are_refused, od__law_are_refused, .func (PySem.W.fnOf "_law_are_refused" "_law_are_refused" (defArgs s__law_are_refused) (defBody s__law_are_refused) (defScope s__law_are_refused) .none kV__law_are_refused dc__law_are_refused pm__law_are_refused an__law_are_refused (.ref lC__law_are_refused) ct__law_are_refused), sl__law_are_refused⟩)
    (hc__law_are_refused : PySem.W.codeIn K (.ref lC__law_are_refused) "_law_are_refused" = true)
    (hk__law_are_refused : PySem.W.keepIn K (.ref a__law_are_refused) = true)
    (hg__law_goes_on : PySem.W.nsIn K mainGlobals "_law_goes_on" = some (some (.ref a__law_goes_on)))
    (hl__law_goes_on : K.lookup a__law_goes_on = some ⟨oc__law_goes_on, od__law_goes_on, .func (PySem.W.fnOf "_law_goes_on" "_law_goes_on" (defArgs s__law_goes_on) (defBody s__law_goes_on) (defScope s__law_goes_on) .none kV__law_goes_on dc__law_goes_on pm__law_goes_on an__law_goes_on cd__law_goes_on ct__law_goes_on), sl__law_goes_on⟩)
    (hc__law_goes_on : PySem.W.codeIn K cd__law_goes_on "_law_goes_on" = true)
    (hk__law_goes_on : PySem.W.keepIn K (.ref a__law_goes_on) = true)
    (hg_law : PySem.W.nsIn K mainGlobals "law" = some (some (.ref a_law)))
    (hl_law : K.lookup a_law = some ⟨oc_law, od_law, .func (PySem.W.fnOf "law" "law" (defArgs s_law) (defBody s_law) (defScope s_law) .none kV_law dc_law pm_law an_law (.ref lC) ct_law), sl_law⟩)
    (hc_law : PySem.W.codeIn K (.ref lC) "law" = true)
    (hk_law : PySem.W.keepIn K (.ref a_law) = true)
    (hg_Marks_init : PySem.W.findIn K (.ref C_Marks) "__init__" = some (some (.ref a_Marks_init)))
    (hi_Marks_init : PySem.W.isFn K (.ref a_Marks_init) = true)
    (hl_Marks_init : K.lookup a_Marks_init = some ⟨oc_Marks_init, od_Marks_init, .func (PySem.W.fnOf "__init__" "Marks.__init__" (defArgs s_Marks_init) (defBody s_Marks_init) (defScope s_Marks_init) .none kV_Marks_init dc_Marks_init pm_Marks_init an_Marks_init cd_Marks_init ct_Marks_init), sl_Marks_init⟩)
    (hc_Marks_init : PySem.W.codeIn K cd_Marks_init "Marks.__init__" = true)
    (hk_Marks_init : PySem.W.keepIn K (.ref a_Marks_init) = true)
    (hg_Marks_note : PySem.W.findIn K (.ref C_Marks) "note" = some (some (.ref a_Marks_note)))
    (hi_Marks_note : PySem.W.isFn K (.ref a_Marks_note) = true)
    (hl_Marks_note : K.lookup a_Marks_note = some ⟨oc_Marks_note, od_Marks_note, .func (PySem.W.fnOf "note" "Marks.note" (defArgs s_Marks_note) (defBody s_Marks_note) (defScope s_Marks_note) .none kV_Marks_note dc_Marks_note pm_Marks_note an_Marks_note cd_Marks_note ct_Marks_note), sl_Marks_note⟩)
    (hc_Marks_note : PySem.W.codeIn K cd_Marks_note "Marks.note" = true)
    (hk_Marks_note : PySem.W.keepIn K (.ref a_Marks_note) = true)
    (hg_Marks_bad : PySem.W.findIn K (.ref C_Marks) "bad" = some (some (.ref a_Marks_bad)))
    (hi_Marks_bad : PySem.W.isFn K (.ref a_Marks_bad) = true)
    (hl_Marks_bad : K.lookup a_Marks_bad = some ⟨oc_Marks_bad, od_Marks_bad, .func (PySem.W.fnOf "bad" "Marks.bad" (defArgs s_Marks_bad) (defBody s_Marks_bad) (defScope s_Marks_bad) .none kV_Marks_bad dc_Marks_bad pm_Marks_bad an_Marks_bad cd_Marks_bad ct_Marks_bad), sl_Marks_bad⟩)
    (hc_Marks_bad : PySem.W.codeIn K cd_Marks_bad "Marks.bad" = true)
    (hk_Marks_bad : PySem.W.keepIn K (.ref a_Marks_bad) = true)
    (hg_End_init : PySem.W.findIn K (.ref C_End) "__init__" = some (some (.ref a_End_init)))
    (hi_End_init : PySem.W.isFn K (.ref a_End_init) = true)
    (hl_End_init : K.lookup a_End_init = some ⟨oc_End_init, od_End_init, .func (PySem.W.fnOf "__init__" "End.__init__" (defArgs s_End_init) (defBody s_End_init) (defScope s_End_init) .none kV_End_init dc_End_init pm_End_init an_End_init cd_End_init ct_End_init), sl_End_init⟩)
    (hc_End_init : PySem.W.codeIn K cd_End_init "End.__init__" = true)
    (hk_End_init : PySem.W.keepIn K (.ref a_End_init) = true)
    (hg_End_need_part : PySem.W.findIn K (.ref C_End) "need_part" = some (some (.ref a_End_need_part)))
    (hi_End_need_part : PySem.W.isFn K (.ref a_End_need_part) = true)
    (hl_End_need_part : K.lookup a_End_need_part = some ⟨oc_End_need_part, od_End_need_part, .func (PySem.W.fnOf "need_part" "End.need_part" (defArgs s_End_need_part) (defBody s_End_need_part) (defScope s_End_need_part) .none kV_End_need_part dc_End_need_part pm_End_need_part an_End_need_part cd_End_need_part ct_End_need_part), sl_End_need_part⟩)
    (hc_End_need_part : PySem.W.codeIn K cd_End_need_part "End.need_part" = true)
    (hk_End_need_part : PySem.W.keepIn K (.ref a_End_need_part) = true)
    (hg_End_refresh : PySem.W.findIn K (.ref C_End) "refresh" = some (some (.ref a_End_refresh)))
    (hi_End_refresh : PySem.W.isFn K (.ref a_End_refresh) = true)
    (hl_End_refresh : K.lookup a_End_refresh = some ⟨oc_End_refresh, od_End_refresh, .func (PySem.W.fnOf "refresh" "End.refresh" (defArgs s_End_refresh) (defBody s_End_refresh) (defScope s_End_refresh) .none kV_End_refresh dc_End_refresh pm_End_refresh an_End_refresh cd_End_refresh ct_End_refresh), sl_End_refresh⟩)
    (hc_End_refresh : PySem.W.codeIn K cd_End_refresh "End.refresh" = true)
    (hk_End_refresh : PySem.W.keepIn K (.ref a_End_refresh) = true)
    (hg_End_take : PySem.W.findIn K (.ref C_End) "take" = some (some (.ref a_End_take)))
    (hi_End_take : PySem.W.isFn K (.ref a_End_take) = true)
    (hl_End_take : K.lookup a_End_take = some ⟨oc_End_take, od_End_take, .func (PySem.W.fnOf "take" "End.take" (defArgs s_End_take) (defBody s_End_take) (defScope s_End_take) .none kV_End_take dc_End_take pm_End_take an_End_take cd_End_take ct_End_take), sl_End_take⟩)
    (hc_End_take : PySem.W.codeIn K cd_End_take "End.take" = true)
    (hk_End_take : PySem.W.keepIn K (.ref a_End_take) = true)
    (hg_End_say : PySem.W.findIn K (.ref C_End) "say" = some (some (.ref a_End_say)))
    (hi_End_say : PySem.W.isFn K (.ref a_End_say) = true)
    (hl_End_say : K.lookup a_End_say = some ⟨oc_End_say, od_End_say, .func (PySem.W.fnOf "say" "End.say" (defArgs s_End_say) (defBody s_End_say) (defScope s_End_say) .none kV_End_say dc_End_say pm_End_say an_End_say cd_End_say ct_End_say), sl_End_say⟩)
    (hc_End_say : PySem.W.codeIn K cd_End_say "End.say" = true)
    (hk_End_say : PySem.W.keepIn K (.ref a_End_say) = true)
    (hg_End_hear : PySem.W.findIn K (.ref C_End) "hear" = some (some (.ref a_End_hear)))
    (hi_End_hear : PySem.W.isFn K (.ref a_End_hear) = true)
    (hl_End_hear : K.lookup a_End_hear = some ⟨oc_End_hear, od_End_hear, .func (PySem.W.fnOf "hear" "End.hear" (defArgs s_End_hear) (defBody s_End_hear) (defScope s_End_hear) .none kV_End_hear dc_End_hear pm_End_hear an_End_hear cd_End_hear ct_End_hear), sl_End_hear⟩)
    (hc_End_hear : PySem.W.codeIn K cd_End_hear "End.hear" = true)
    (hk_End_hear : PySem.W.keepIn K (.ref a_End_hear) = true)
    (hg_End_hear_slow : PySem.W.findIn K (.ref C_End) "hear_slow" = some (some (.ref a_End_hear_slow)))
    (hi_End_hear_slow : PySem.W.isFn K (.ref a_End_hear_slow) = true)
    (hl_End_hear_slow : K.lookup a_End_hear_slow = some ⟨oc_End_hear_slow, od_End_hear_slow, .func (PySem.W.fnOf "hear_slow" "End.hear_slow" (defArgs s_End_hear_slow) (defBody s_End_hear_slow) (defScope s_End_hear_slow) .none kV_End_hear_slow dc_End_hear_slow pm_End_hear_slow an_End_hear_slow cd_End_hear_slow ct_End_hear_slow), sl_End_hear_slow⟩)
    (hc_End_hear_slow : PySem.W.codeIn K cd_End_hear_slow "End.hear_slow" = true)
    (hk_End_hear_slow : PySem.W.keepIn K (.ref a_End_hear_slow) = true)
    (hg_End_hear_fast : PySem.W.findIn K (.ref C_End) "hear_fast" = some (some (.ref a_End_hear_fast)))
    (hi_End_hear_fast : PySem.W.isFn K (.ref a_End_hear_fast) = true)
    (hl_End_hear_fast : K.lookup a_End_hear_fast = some ⟨oc_End_hear_fast, od_End_hear_fast, .func (PySem.W.fnOf "hear_fast" "End.hear_fast" (defArgs s_End_hear_fast) (defBody s_End_hear_fast) (defScope s_End_hear_fast) .none kV_End_hear_fast dc_End_hear_fast pm_End_hear_fast an_End_hear_fast cd_End_hear_fast ct_End_hear_fast), sl_End_hear_fast⟩)
    (hc_End_hear_fast : PySem.W.codeIn K cd_End_hear_fast "End.hear_fast" = true)
    (hk_End_hear_fast : PySem.W.keepIn K (.ref a_End_hear_fast) = true)
    (hg_End_send : PySem.W.findIn K (.ref C_End) "send" = some (some (.ref a_End_send)))
    (hi_End_send : PySem.W.isFn K (.ref a_End_send) = true)
    (hl_End_send : K.lookup a_End_send = some ⟨oc_End_send, od_End_send, .func (PySem.W.fnOf "send" "End.send" (defArgs s_End_send) (defBody s_End_send) (defScope s_End_send) .none kV_End_send dc_End_send pm_End_send an_End_send cd_End_send ct_End_send), sl_End_send⟩)
    (hc_End_send : PySem.W.codeIn K cd_End_send "End.send" = true)
    (hk_End_send : PySem.W.keepIn K (.ref a_End_send) = true)
    (hg_End_got : PySem.W.findIn K (.ref C_End) "got" = some (some (.ref a_End_got)))
    (hi_End_got : PySem.W.isFn K (.ref a_End_got) = true)
    (hl_End_got : K.lookup a_End_got = some ⟨oc_End_got, od_End_got, .func (PySem.W.fnOf "got" "End.got" (defArgs s_End_got) (defBody s_End_got) (defScope s_End_got) .none kV_End_got dc_End_got pm_End_got an_End_got cd_End_got ct_End_got), sl_End_got⟩)
    (hc_End_got : PySem.W.codeIn K cd_End_got "End.got" = true)
    (hk_End_got : PySem.W.keepIn K (.ref a_End_got) = true)
    (hg_End_left : PySem.W.findIn K (.ref C_End) "left" = some (some (.ref a_End_left)))
    (hi_End_left : PySem.W.isFn K (.ref a_End_left) = true)
    (hl_End_left : K.lookup a_End_left = some ⟨oc_End_left, od_End_left, .func (PySem.W.fnOf "left" "End.left" (defArgs s_End_left) (defBody s_End_left) (defScope s_End_left) .none kV_End_left dc_End_left pm_End_left an_End_left cd_End_left ct_End_left), sl_End_left⟩)
    (hc_End_left : PySem.W.codeIn K cd_End_left "End.left" = true)
    (hk_End_left : PySem.W.keepIn K (.ref a_End_left) = true)
    (hg_End_stands : PySem.W.findIn K (.ref C_End) "stands" = some (some (.ref a_End_stands)))
    (hi_End_stands : PySem.W.isFn K (.ref a_End_stands) = true)
    (hl_End_stands : K.lookup a_End_stands = some ⟨oc_End_stands, od_End_stands, .func (PySem.W.fnOf "stands" "End.stands" (defArgs s_End_stands) (defBody s_End_stands) (defScope s_End_stands) .none kV_End_stands dc_End_stands pm_End_stands an_End_stands cd_End_stands ct_End_stands), sl_End_stands⟩)
    (hc_End_stands : PySem.W.codeIn K cd_End_stands "End.stands" = true)
    (hk_End_stands : PySem.W.keepIn K (.ref a_End_stands) = true)
    (hg_Line_init : PySem.W.findIn K (.ref C_Line) "__init__" = some (some (.ref a_Line_init)))
    (hi_Line_init : PySem.W.isFn K (.ref a_Line_init) = true)
    (hl_Line_init : K.lookup a_Line_init = some ⟨oc_Line_init, od_Line_init, .func (PySem.W.fnOf "__init__" "Line.__init__" (defArgs s_Line_init) (defBody s_Line_init) (defScope s_Line_init) .none kV_Line_init dc_Line_init pm_Line_init an_Line_init cd_Line_init ct_Line_init), sl_Line_init⟩)
    (hc_Line_init : PySem.W.codeIn K cd_Line_init "Line.__init__" = true)
    (hk_Line_init : PySem.W.keepIn K (.ref a_Line_init) = true)
    (hg_Line_let_pass : PySem.W.findIn K (.ref C_Line) "let_pass" = some (some (.ref a_Line_let_pass)))
    (hi_Line_let_pass : PySem.W.isFn K (.ref a_Line_let_pass) = true)
    (hl_Line_let_pass : K.lookup a_Line_let_pass = some ⟨oc_Line_let_pass, od_Line_let_pass, .func (PySem.W.fnOf "let_pass" "Line.let_pass" (defArgs s_Line_let_pass) (defBody s_Line_let_pass) (defScope s_Line_let_pass) .none kV_Line_let_pass dc_Line_let_pass pm_Line_let_pass an_Line_let_pass cd_Line_let_pass ct_Line_let_pass), sl_Line_let_pass⟩)
    (hc_Line_let_pass : PySem.W.codeIn K cd_Line_let_pass "Line.let_pass" = true)
    (hk_Line_let_pass : PySem.W.keepIn K (.ref a_Line_let_pass) = true)
    (hg_Line_lose : PySem.W.findIn K (.ref C_Line) "lose" = some (some (.ref a_Line_lose)))
    (hi_Line_lose : PySem.W.isFn K (.ref a_Line_lose) = true)
    (hl_Line_lose : K.lookup a_Line_lose = some ⟨oc_Line_lose, od_Line_lose, .func (PySem.W.fnOf "lose" "Line.lose" (defArgs s_Line_lose) (defBody s_Line_lose) (defScope s_Line_lose) .none kV_Line_lose dc_Line_lose pm_Line_lose an_Line_lose cd_Line_lose ct_Line_lose), sl_Line_lose⟩)
    (hc_Line_lose : PySem.W.codeIn K cd_Line_lose "Line.lose" = true)
    (hk_Line_lose : PySem.W.keepIn K (.ref a_Line_lose) = true)
    (hg_Line_send : PySem.W.findIn K (.ref C_Line) "send" = some (some (.ref a_Line_send)))
    (hi_Line_send : PySem.W.isFn K (.ref a_Line_send) = true)
    (hl_Line_send : K.lookup a_Line_send = some ⟨oc_Line_send, od_Line_send, .func (PySem.W.fnOf "send" "Line.send" (defArgs s_Line_send) (defBody s_Line_send) (defScope s_Line_send) .none kV_Line_send dc_Line_send pm_Line_send an_Line_send cd_Line_send ct_Line_send), sl_Line_send⟩)
    (hc_Line_send : PySem.W.codeIn K cd_Line_send "Line.send" = true)
    (hk_Line_send : PySem.W.keepIn K (.ref a_Line_send) = true)
    (hg_Line_carry : PySem.W.findIn K (.ref C_Line) "carry" = some (some (.ref a_Line_carry)))
    (hi_Line_carry : PySem.W.isFn K (.ref a_Line_carry) = true)
    (hl_Line_carry : K.lookup a_Line_carry = some ⟨oc_Line_carry, od_Line_carry, .func (PySem.W.fnOf "carry" "Line.carry" (defArgs s_Line_carry) (defBody s_Line_carry) (defScope s_Line_carry) .none kV_Line_carry dc_Line_carry pm_Line_carry an_Line_carry cd_Line_carry ct_Line_carry), sl_Line_carry⟩)
    (hc_Line_carry : PySem.W.codeIn K cd_Line_carry "Line.carry" = true)
    (hk_Line_carry : PySem.W.keepIn K (.ref a_Line_carry) = true)
    (hg_Line_frame : PySem.W.findIn K (.ref C_Line) "frame" = some (some (.ref a_Line_frame)))
    (hi_Line_frame : PySem.W.isFn K (.ref a_Line_frame) = true)
    (hl_Line_frame : K.lookup a_Line_frame = some ⟨oc_Line_frame, od_Line_frame, .func (PySem.W.fnOf "frame" "Line.frame" (defArgs s_Line_frame) (defBody s_Line_frame) (defScope s_Line_frame) .none kV_Line_frame dc_Line_frame pm_Line_frame an_Line_frame cd_Line_frame ct_Line_frame), sl_Line_frame⟩)
    (hc_Line_frame : PySem.W.codeIn K cd_Line_frame "Line.frame" = true)
    (hk_Line_frame : PySem.W.keepIn K (.ref a_Line_frame) = true)
    (hg_Line_log : PySem.W.findIn K (.ref C_Line) "log" = some (some (.ref a_Line_log)))
    (hi_Line_log : PySem.W.isFn K (.ref a_Line_log) = true)
    (hl_Line_log : K.lookup a_Line_log = some ⟨oc_Line_log, od_Line_log, .func (PySem.W.fnOf "log" "Line.log" (defArgs s_Line_log) (defBody s_Line_log) (defScope s_Line_log) .none kV_Line_log dc_Line_log pm_Line_log an_Line_log cd_Line_log ct_Line_log), sl_Line_log⟩)
    (hc_Line_log : PySem.W.codeIn K cd_Line_log "Line.log" = true)
    (hk_Line_log : PySem.W.keepIn K (.ref a_Line_log) = true)
    (hg_Line_got : PySem.W.findIn K (.ref C_Line) "got" = some (some (.ref a_Line_got)))
    (hi_Line_got : PySem.W.isFn K (.ref a_Line_got) = true)
    (hl_Line_got : K.lookup a_Line_got = some ⟨oc_Line_got, od_Line_got, .func (PySem.W.fnOf "got" "Line.got" (defArgs s_Line_got) (defBody s_Line_got) (defScope s_Line_got) .none kV_Line_got dc_Line_got pm_Line_got an_Line_got cd_Line_got ct_Line_got), sl_Line_got⟩)
    (hc_Line_got : PySem.W.codeIn K cd_Line_got "Line.got" = true)
    (hk_Line_got : PySem.W.keepIn K (.ref a_Line_got) = true)
    (hg_Line_left : PySem.W.findIn K (.ref C_Line) "left" = some (some (.ref a_Line_left)))
    (hi_Line_left : PySem.W.isFn K (.ref a_Line_left) = true)
    (hl_Line_left : K.lookup a_Line_left = some ⟨oc_Line_left, od_Line_left, .func (PySem.W.fnOf "left" "Line.left" (defArgs s_Line_left) (defBody s_Line_left) (defScope s_Line_left) .none kV_Line_left dc_Line_left pm_Line_left an_Line_left cd_Line_left ct_Line_left), sl_Line_left⟩)
    (hc_Line_left : PySem.W.codeIn K cd_Line_left "Line.left" = true)
    (hk_Line_left : PySem.W.keepIn K (.ref a_Line_left) = true)
    (pg_Marks : PySem.W.plainGet K C_Marks Str.empty = true)
    (hd_Marks : PySem.W.hasDictIn K C_Marks = true)
    (po_Marks : PySem.W.plainOver K C_Marks = true)
    (mk_Marks : PySem.W.makesIn K C_Marks = true)
    (kc_Marks : PySem.W.keepIn K (.ref C_Marks) = true)
    (sa_Marks : PySem.W.findIn K (.ref C_Marks) "__setattr__" = some (some (.builtin "object.__setattr__")))
    (no_Marks_waits : PySem.W.findIn K (.ref C_Marks) "waits" = some none)
    (no_Marks_until : PySem.W.findIn K (.ref C_Marks) "until" = some none)
    (no_Marks_runs : PySem.W.findIn K (.ref C_Marks) "runs" = some none)
    (no_Marks_tries : PySem.W.findIn K (.ref C_Marks) "tries" = some none)
    (pg_End : PySem.W.plainGet K C_End Str.empty = true)
    (hd_End : PySem.W.hasDictIn K C_End = true)
    (po_End : PySem.W.plainOver K C_End = true)
    (mk_End : PySem.W.makesIn K C_End = true)
    (kc_End : PySem.W.keepIn K (.ref C_End) = true)
    (sa_End : PySem.W.findIn K (.ref C_End) "__setattr__" = some (some (.builtin "object.__setattr__")))
    (no_End_can : PySem.W.findIn K (.ref C_End) "can" = some none)
    (no_End_marks : PySem.W.findIn K (.ref C_End) "marks" = some none)
    (no_End_over : PySem.W.findIn K (.ref C_End) "over" = some none)
    (no_End_version : PySem.W.findIn K (.ref C_End) "version" = some none)
    (no_End_mind : PySem.W.findIn K (.ref C_End) "mind" = some none)
    (no_End_other : PySem.W.findIn K (.ref C_End) "other" = some none)
    (no_End_seen : PySem.W.findIn K (.ref C_End) "seen" = some none)
    (no_End_known : PySem.W.findIn K (.ref C_End) "known" = some none)
    (no_End_ready : PySem.W.findIn K (.ref C_End) "ready" = some none)
    (no_End_now : PySem.W.findIn K (.ref C_End) "now" = some none)
    (no_End_joined : PySem.W.findIn K (.ref C_End) "joined" = some none)
    (no_End_waiting : PySem.W.findIn K (.ref C_End) "waiting" = some none)
    (no_End_count : PySem.W.findIn K (.ref C_End) "count" = some none)
    (no_End_gathered : PySem.W.findIn K (.ref C_End) "gathered" = some none)
    (no_End_part : PySem.W.findIn K (.ref C_End) "part" = some none)
    (pg_Line : PySem.W.plainGet K C_Line Str.empty = true)
    (hd_Line : PySem.W.hasDictIn K C_Line = true)
    (po_Line : PySem.W.plainOver K C_Line = true)
    (mk_Line : PySem.W.makesIn K C_Line = true)
    (kc_Line : PySem.W.keepIn K (.ref C_Line) = true)
    (sa_Line : PySem.W.findIn K (.ref C_Line) "__setattr__" = some (some (.builtin "object.__setattr__")))
    (no_Line_ends : PySem.W.findIn K (.ref C_Line) "ends" = some none)
    (no_Line_passing : PySem.W.findIn K (.ref C_Line) "passing" = some none)
    (no_Line_lost : PySem.W.findIn K (.ref C_Line) "lost" = some none)
    (no_Line_rows : PySem.W.findIn K (.ref C_Line) "rows" = some none)
    (x_LineError : PySem.W.excIn K C_LineError [.type "ValueError", .type "Exception", .type "BaseException", .type "object"] "ValueError.__new__" = true)
    (k_LineError : PySem.W.keepIn K (.ref C_LineError) = true)
    (s_LineError : PySem.W.subIn K (.ref C_LineError) (.type "BaseException") = some true)
    (t_LineError : PySem.W.typeIn K (.ref C_LineError) = some (.type "type"))
    (x_BadManners : PySem.W.excIn K C_BadManners [.type "ValueError", .type "Exception", .type "BaseException", .type "object"] "ValueError.__new__" = true)
    (k_BadManners : PySem.W.keepIn K (.ref C_BadManners) = true)
    (s_BadManners : PySem.W.subIn K (.ref C_BadManners) (.type "BaseException") = some true)
    (t_BadManners : PySem.W.typeIn K (.ref C_BadManners) = some (.type "type"))
    (x_BadItem : PySem.W.excIn K C_BadItem [.type "ValueError", .type "Exception", .type "BaseException", .type "object"] "ValueError.__new__" = true)
    (k_BadItem : PySem.W.keepIn K (.ref C_BadItem) = true)
    (s_BadItem : PySem.W.subIn K (.ref C_BadItem) (.type "BaseException") = some true)
    (t_BadItem : PySem.W.typeIn K (.ref C_BadItem) = some (.type "type"))
    (x_Full : PySem.W.excIn K C_Full [.type "ValueError", .type "Exception", .type "BaseException", .type "object"] "ValueError.__new__" = true)
    (k_Full : PySem.W.keepIn K (.ref C_Full) = true)
    (s_Full : PySem.W.subIn K (.ref C_Full) (.type "BaseException") = some true)
    (t_Full : PySem.W.typeIn K (.ref C_Full) = some (.type "type"))
    (x_BadPart : PySem.W.excIn K C_BadPart [.type "ValueError", .type "Exception", .type "BaseException", .type "object"] "ValueError.__new__" = true)
    (k_BadPart : PySem.W.keepIn K (.ref C_BadPart) = true)
    (s_BadPart : PySem.W.subIn K (.ref C_BadPart) (.type "BaseException") = some true)
    (t_BadPart : PySem.W.typeIn K (.ref C_BadPart) = some (.type "type"))
    (x_BadCount : PySem.W.excIn K C_BadCount [.type "ValueError", .type "Exception", .type "BaseException", .type "object"] "ValueError.__new__" = true)
    (k_BadCount : PySem.W.keepIn K (.ref C_BadCount) = true)
    (s_BadCount : PySem.W.subIn K (.ref C_BadCount) (.type "BaseException") = some true)
    (t_BadCount : PySem.W.typeIn K (.ref C_BadCount) = some (.type "type"))
    (x_BadEnd : PySem.W.excIn K C_BadEnd [.type "ValueError", .type "Exception", .type "BaseException", .type "object"] "ValueError.__new__" = true)
    (k_BadEnd : PySem.W.keepIn K (.ref C_BadEnd) = true)
    (s_BadEnd : PySem.W.subIn K (.ref C_BadEnd) (.type "BaseException") = some true)
    (t_BadEnd : PySem.W.typeIn K (.ref C_BadEnd) = some (.type "type"))
    (k_BadStep : PySem.W.keepIn K (.ref C_BadStep) = true)
    (s_BadStep : PySem.W.subIn K (.ref C_BadStep) (.type "BaseException") = some true)
    (t_BadStep : PySem.W.typeIn K (.ref C_BadStep) = some (.type "type"))
    (k_BadLog : PySem.W.keepIn K (.ref C_BadLog) = true)
    (s_BadLog : PySem.W.subIn K (.ref C_BadLog) (.type "BaseException") = some true)
    (t_BadLog : PySem.W.typeIn K (.ref C_BadLog) = some (.type "type"))
    (k_BadText : PySem.W.keepIn K (.ref C_BadText) = true)
    (s_BadText : PySem.W.subIn K (.ref C_BadText) (.type "BaseException") = some true)
    (t_BadText : PySem.W.typeIn K (.ref C_BadText) = some (.type "type"))
    (gs_LE : PySem.W.specialIn K (.ref C_LineError) "__getattribute__" = some (some (.builtin "type.__getattribute__")))
    (rd_LE : PySem.W.readsIn K C_LineError (.type "type") = true)
    (fi_LE : PySem.W.findCls K (.ref C_LineError) (.type "type") "__init__" = some (.val (.builtin "ValueError.__init__")))
    (gx_n : PySem.W.specialIn K (.builtin "object.__class__") "__get__" = some (some (.builtin "getset_descriptor.__get__")))
    (gx_t : PySem.W.takesIn K (.builtin "object.__class__") = some true)
    (ga_BadManners : PySem.W.findIn K (.ref C_BadManners) "__getattribute__" = some (some (.builtin "BaseException.__getattribute__")))
    (gg_BadManners : PySem.W.findIn K (.ref C_BadManners) "__getattr__" = some none)
    (hx_BadManners : PySem.W.hasDictIn K C_BadManners = true)
    (ga_BadItem : PySem.W.findIn K (.ref C_BadItem) "__getattribute__" = some (some (.builtin "BaseException.__getattribute__")))
    (gg_BadItem : PySem.W.findIn K (.ref C_BadItem) "__getattr__" = some none)
    (hx_BadItem : PySem.W.hasDictIn K C_BadItem = true)
    (ga_Full : PySem.W.findIn K (.ref C_Full) "__getattribute__" = some (some (.builtin "BaseException.__getattribute__")))
    (gg_Full : PySem.W.findIn K (.ref C_Full) "__getattr__" = some none)
    (hx_Full : PySem.W.hasDictIn K C_Full = true)
    (ga_BadPart : PySem.W.findIn K (.ref C_BadPart) "__getattribute__" = some (some (.builtin "BaseException.__getattribute__")))
    (gg_BadPart : PySem.W.findIn K (.ref C_BadPart) "__getattr__" = some none)
    (hx_BadPart : PySem.W.hasDictIn K C_BadPart = true)
    (ga_BadEnd : PySem.W.findIn K (.ref C_BadEnd) "__getattribute__" = some (some (.builtin "BaseException.__getattribute__")))
    (gg_BadEnd : PySem.W.findIn K (.ref C_BadEnd) "__getattr__" = some none)
    (hx_BadEnd : PySem.W.hasDictIn K C_BadEnd = true)
    (gc_BadManners : PySem.W.findIn K (.ref C_BadManners) "__class__" = some (some (.builtin "object.__class__")))
    (gm_BadManners : PySem.W.mroIn K C_BadManners (.type "object") = some true)
    (ik_BadManners_0 : PySem.W.kitOne K (.ref C_BadManners) (.ref C_BadManners) = some true)
    (ik_BadManners_1 : PySem.W.kitOne K (.ref C_BadManners) (.ref C_BadCount) = some false)
    (ik_BadManners_2 : PySem.W.kitOne K (.ref C_BadManners) (.ref C_BadPart) = some false)
    (ik_BadManners_3 : PySem.W.kitOne K (.ref C_BadManners) (.ref C_BadItem) = some false)
    (ik_BadManners_4 : PySem.W.kitOne K (.ref C_BadManners) (.ref C_Full) = some false)
    (ik_BadManners_5 : PySem.W.kitOne K (.ref C_BadManners) (.ref C_BadLog) = some false)
    (ik_BadManners_6 : PySem.W.kitOne K (.ref C_BadManners) (.ref C_BadText) = some false)
    (ik_BadManners_7 : PySem.W.kitOne K (.ref C_BadManners) (.ref C_BadEnd) = some false)
    (ik_BadManners_8 : PySem.W.kitOne K (.ref C_BadManners) (.ref C_BadStep) = some false)
    (iv_BadManners : PySem.W.kitOne K (.ref C_BadManners) (.type "ValueError") = some true)
    (xm_BadManners : PySem.W.exmOne K (.ref C_BadManners) (.ref C_LineError) = some true)
    (gc_BadItem : PySem.W.findIn K (.ref C_BadItem) "__class__" = some (some (.builtin "object.__class__")))
    (gm_BadItem : PySem.W.mroIn K C_BadItem (.type "object") = some true)
    (ik_BadItem_0 : PySem.W.kitOne K (.ref C_BadItem) (.ref C_BadManners) = some false)
    (ik_BadItem_1 : PySem.W.kitOne K (.ref C_BadItem) (.ref C_BadCount) = some false)
    (ik_BadItem_2 : PySem.W.kitOne K (.ref C_BadItem) (.ref C_BadPart) = some false)
    (ik_BadItem_3 : PySem.W.kitOne K (.ref C_BadItem) (.ref C_BadItem) = some true)
    (ik_BadItem_4 : PySem.W.kitOne K (.ref C_BadItem) (.ref C_Full) = some false)
    (ik_BadItem_5 : PySem.W.kitOne K (.ref C_BadItem) (.ref C_BadLog) = some false)
    (ik_BadItem_6 : PySem.W.kitOne K (.ref C_BadItem) (.ref C_BadText) = some false)
    (ik_BadItem_7 : PySem.W.kitOne K (.ref C_BadItem) (.ref C_BadEnd) = some false)
    (ik_BadItem_8 : PySem.W.kitOne K (.ref C_BadItem) (.ref C_BadStep) = some false)
    (iv_BadItem : PySem.W.kitOne K (.ref C_BadItem) (.type "ValueError") = some true)
    (xm_BadItem : PySem.W.exmOne K (.ref C_BadItem) (.ref C_LineError) = some true)
    (gc_Full : PySem.W.findIn K (.ref C_Full) "__class__" = some (some (.builtin "object.__class__")))
    (gm_Full : PySem.W.mroIn K C_Full (.type "object") = some true)
    (ik_Full_0 : PySem.W.kitOne K (.ref C_Full) (.ref C_BadManners) = some false)
    (ik_Full_1 : PySem.W.kitOne K (.ref C_Full) (.ref C_BadCount) = some false)
    (ik_Full_2 : PySem.W.kitOne K (.ref C_Full) (.ref C_BadPart) = some false)
    (ik_Full_3 : PySem.W.kitOne K (.ref C_Full) (.ref C_BadItem) = some false)
    (ik_Full_4 : PySem.W.kitOne K (.ref C_Full) (.ref C_Full) = some true)
    (ik_Full_5 : PySem.W.kitOne K (.ref C_Full) (.ref C_BadLog) = some false)
    (ik_Full_6 : PySem.W.kitOne K (.ref C_Full) (.ref C_BadText) = some false)
    (ik_Full_7 : PySem.W.kitOne K (.ref C_Full) (.ref C_BadEnd) = some false)
    (ik_Full_8 : PySem.W.kitOne K (.ref C_Full) (.ref C_BadStep) = some false)
    (iv_Full : PySem.W.kitOne K (.ref C_Full) (.type "ValueError") = some true)
    (xm_Full : PySem.W.exmOne K (.ref C_Full) (.ref C_LineError) = some true)
    (gc_BadPart : PySem.W.findIn K (.ref C_BadPart) "__class__" = some (some (.builtin "object.__class__")))
    (gm_BadPart : PySem.W.mroIn K C_BadPart (.type "object") = some true)
    (ik_BadPart_0 : PySem.W.kitOne K (.ref C_BadPart) (.ref C_BadManners) = some false)
    (ik_BadPart_1 : PySem.W.kitOne K (.ref C_BadPart) (.ref C_BadCount) = some false)
    (ik_BadPart_2 : PySem.W.kitOne K (.ref C_BadPart) (.ref C_BadPart) = some true)
    (ik_BadPart_3 : PySem.W.kitOne K (.ref C_BadPart) (.ref C_BadItem) = some false)
    (ik_BadPart_4 : PySem.W.kitOne K (.ref C_BadPart) (.ref C_Full) = some false)
    (ik_BadPart_5 : PySem.W.kitOne K (.ref C_BadPart) (.ref C_BadLog) = some false)
    (ik_BadPart_6 : PySem.W.kitOne K (.ref C_BadPart) (.ref C_BadText) = some false)
    (ik_BadPart_7 : PySem.W.kitOne K (.ref C_BadPart) (.ref C_BadEnd) = some false)
    (ik_BadPart_8 : PySem.W.kitOne K (.ref C_BadPart) (.ref C_BadStep) = some false)
    (iv_BadPart : PySem.W.kitOne K (.ref C_BadPart) (.type "ValueError") = some true)
    (xm_BadPart : PySem.W.exmOne K (.ref C_BadPart) (.ref C_LineError) = some true)
    (gc_BadEnd : PySem.W.findIn K (.ref C_BadEnd) "__class__" = some (some (.builtin "object.__class__")))
    (gm_BadEnd : PySem.W.mroIn K C_BadEnd (.type "object") = some true)
    (ik_BadEnd_0 : PySem.W.kitOne K (.ref C_BadEnd) (.ref C_BadManners) = some false)
    (ik_BadEnd_1 : PySem.W.kitOne K (.ref C_BadEnd) (.ref C_BadCount) = some false)
    (ik_BadEnd_2 : PySem.W.kitOne K (.ref C_BadEnd) (.ref C_BadPart) = some false)
    (ik_BadEnd_3 : PySem.W.kitOne K (.ref C_BadEnd) (.ref C_BadItem) = some false)
    (ik_BadEnd_4 : PySem.W.kitOne K (.ref C_BadEnd) (.ref C_Full) = some false)
    (ik_BadEnd_5 : PySem.W.kitOne K (.ref C_BadEnd) (.ref C_BadLog) = some false)
    (ik_BadEnd_6 : PySem.W.kitOne K (.ref C_BadEnd) (.ref C_BadText) = some false)
    (ik_BadEnd_7 : PySem.W.kitOne K (.ref C_BadEnd) (.ref C_BadEnd) = some true)
    (ik_BadEnd_8 : PySem.W.kitOne K (.ref C_BadEnd) (.ref C_BadStep) = some false)
    (iv_BadEnd : PySem.W.kitOne K (.ref C_BadEnd) (.type "ValueError") = some true)
    (xm_BadEnd : PySem.W.exmOne K (.ref C_BadEnd) (.ref C_LineError) = some true)
    (tb_1 : K.lookup lC = some ⟨te, td, .fields tv, tsl⟩)
    (tb_2 : tv[11]? = some (.ref lP))
    (tb_3 : K.lookup lP = none)
    (tb_4 : PySem.W.codeHdIn K lC lP = true)
    (tb_1__law_are_refused : K.lookup lC__law_are_refused = some ⟨te__law_are_refused, td__law_are_refused, .fields tv__law_are_refused, tsl__law_are_refused⟩)
    (tb_2__law_are_refused : tv__law_are_refused[11]? = some (.ref lP__law_are_refused))
    (tb_3__law_are_refused : K.lookup lP__law_are_refused = none)
    (tb_4__law_are_refused : PySem.W.codeHdIn K lC__law_are_refused lP__law_are_refused = true)
    (nP__law_are_refused : lP ≠ lP__law_are_refused)
    (hv_MOST : PySem.W.nsIn K mainGlobals "MOST" = some (some (.int 9 tk_MOST)))
    (hv_FIRST : PySem.W.nsIn K mainGlobals "FIRST" = some (some (.int 16 tk_FIRST)))
    (hv_LONGEST : PySem.W.nsIn K mainGlobals "LONGEST" = some (some (.int 256 tk_LONGEST)))
    (hv_STAYS : PySem.W.nsIn K mainGlobals "STAYS" = some (some (.int 32 tk_STAYS)))
    (hv_LOST : PySem.W.nsIn K mainGlobals "LOST" = some (some (.int 3 tk_LOST)))
    (hv_LAST : PySem.W.nsIn K mainGlobals "LAST" = some (some (.int 6 tk_LAST)))
    (hv_MOST_FRAME : PySem.W.nsIn K mainGlobals "MOST_FRAME" = some (some (.int 1000000 tk_MOST_FRAME)))
    (hv_SLOW : PySem.W.nsIn K mainGlobals "SLOW" = some (some (.int 0 tk_SLOW)))
    (hv_FAST : PySem.W.nsIn K mainGlobals "FAST" = some (some (.int 1 tk_FAST)))
    (hv_MOST_ITEMS : PySem.W.nsIn K mainGlobals "MOST_ITEMS" = some (some (.int 20 tk_MOST_ITEMS)))
    (hv_MOST_ITEM : PySem.W.nsIn K mainGlobals "MOST_ITEM" = some (some (.int 999 tk_MOST_ITEM)))
    (z_ValueError : PySem.W.nsIn K mainGlobals "ValueError" = some none)
    (z_abs : PySem.W.nsIn K mainGlobals "abs" = some none)
    (z_all : PySem.W.nsIn K mainGlobals "all" = some none)
    (z_bool : PySem.W.nsIn K mainGlobals "bool" = some none)
    (z_enumerate : PySem.W.nsIn K mainGlobals "enumerate" = some none)
    (z_int : PySem.W.nsIn K mainGlobals "int" = some none)
    (z_isinstance : PySem.W.nsIn K mainGlobals "isinstance" = some none)
    (z_len : PySem.W.nsIn K mainGlobals "len" = some none)
    (z_list : PySem.W.nsIn K mainGlobals "list" = some none)
    (z_max : PySem.W.nsIn K mainGlobals "max" = some none)
    (z_min : PySem.W.nsIn K mainGlobals "min" = some none)
    (z_range : PySem.W.nsIn K mainGlobals "range" = some none)
    (z_set : PySem.W.nsIn K mainGlobals "set" = some none)
    (z_sorted : PySem.W.nsIn K mainGlobals "sorted" = some none)
    (z_str : PySem.W.nsIn K mainGlobals "str" = some none)
    (z_tuple : PySem.W.nsIn K mainGlobals "tuple" = some none) :
    LamX.LawAtS l w K CX0 13 63 "_law_script" mg fa h := by
  have e := hfa.symm.trans (PySem.W.mg_of X G hg_law)
  cases e
  let T : Txt K mg := {
    a_is_between := a_is_between
    fd_is_between := _
    F_is_between := fun_mk (st := s_is_between) hl_is_between hc_is_between hk_is_between
    g_is_between := PySem.W.mg_of X G hg_is_between
    b_is_between := (fun_mk (st := s_is_between) hl_is_between hc_is_between hk_is_between).binds (ps := P_is_between) (fun _ _ _ _ _ _ us hl => match us, hl with | [_, _, _], _ => rfl)
    a_are_manners := a_are_manners
    fd_are_manners := _
    F_are_manners := fun_mk (st := s_are_manners) hl_are_manners hc_are_manners hk_are_manners
    g_are_manners := PySem.W.mg_of X G hg_are_manners
    b_are_manners := (fun_mk (st := s_are_manners) hl_are_manners hc_are_manners hk_are_manners).binds (ps := P_are_manners) (fun _ _ _ _ _ _ us hl => match us, hl with | [_], _ => rfl)
    a_need_manners := a_need_manners
    fd_need_manners := _
    F_need_manners := fun_mk (st := s_need_manners) hl_need_manners hc_need_manners hk_need_manners
    g_need_manners := PySem.W.mg_of X G hg_need_manners
    b_need_manners := (fun_mk (st := s_need_manners) hl_need_manners hc_need_manners hk_need_manners).binds (ps := P_need_manners) (fun _ _ _ _ _ _ us hl => match us, hl with | [_], _ => rfl)
    a_chosen := a_chosen
    fd_chosen := _
    F_chosen := fun_mk (st := s_chosen) hl_chosen hc_chosen hk_chosen
    g_chosen := PySem.W.mg_of X G hg_chosen
    b_chosen := (fun_mk (st := s_chosen) hl_chosen hc_chosen hk_chosen).binds (ps := P_chosen) (fun _ _ _ _ _ _ us hl => match us, hl with | [_, _, _], _ => rfl)
    a_need_manner := a_need_manner
    fd_need_manner := _
    F_need_manner := fun_mk (st := s_need_manner) hl_need_manner hc_need_manner hk_need_manner
    g_need_manner := PySem.W.mg_of X G hg_need_manner
    b_need_manner := (fun_mk (st := s_need_manner) hl_need_manner hc_need_manner hk_need_manner).binds (ps := P_need_manner) (fun _ _ _ _ _ _ us hl => match us, hl with | [_], _ => rfl)
    a_need_end := a_need_end
    fd_need_end := _
    F_need_end := fun_mk (st := s_need_end) hl_need_end hc_need_end hk_need_end
    g_need_end := PySem.W.mg_of X G hg_need_end
    b_need_end := (fun_mk (st := s_need_end) hl_need_end hc_need_end hk_need_end).binds (ps := P_need_end) (fun _ _ _ _ _ _ us hl => match us, hl with | [_], _ => rfl)
    a__law_dice := a__law_dice
    fd__law_dice := _
    F__law_dice := fun_mk (st := s__law_dice) hl__law_dice hc__law_dice hk__law_dice
    g__law_dice := PySem.W.mg_of X G hg__law_dice
    b__law_dice := (fun_mk (st := s__law_dice) hl__law_dice hc__law_dice hk__law_dice).binds (ps := P__law_dice) (fun _ _ _ _ _ _ us hl => match us, hl with | [_, _], _ => rfl)
    a__law_off := a__law_off
    fd__law_off := _
    F__law_off := fun_mk (st := s__law_off) hl__law_off hc__law_off hk__law_off
    g__law_off := PySem.W.mg_of X G hg__law_off
    b__law_off := (fun_mk (st := s__law_off) hl__law_off hc__law_off hk__law_off).binds (ps := P__law_off) (fun _ _ _ _ _ _ us hl => match us, hl with | [_, _], _ => rfl)
    a__law_alike := a__law_alike
    fd__law_alike := _
    F__law_alike := fun_mk (st := s__law_alike) hl__law_alike hc__law_alike hk__law_alike
    g__law_alike := PySem.W.mg_of X G hg__law_alike
    b__law_alike := (fun_mk (st := s__law_alike) hl__law_alike hc__law_alike hk__law_alike).binds (ps := P__law_alike) (fun _ _ _ _ _ _ us hl => match us, hl with | [_, _], _ => rfl)
    a__law_word := a__law_word
    fd__law_word := _
    F__law_word := fun_mk (st := s__law_word) hl__law_word hc__law_word hk__law_word
    g__law_word := PySem.W.mg_of X G hg__law_word
    b__law_word := (fun_mk (st := s__law_word) hl__law_word hc__law_word hk__law_word).binds (ps := P__law_word) (fun _ _ _ _ _ _ us hl => match us, hl with | [_], _ => rfl)
    a__law_can := a__law_can
    fd__law_can := _
    F__law_can := fun_mk (st := s__law_can) hl__law_can hc__law_can hk__law_can
    g__law_can := PySem.W.mg_of X G hg__law_can
    b__law_can := (fun_mk (st := s__law_can) hl__law_can hc__law_can hk__law_can).binds (ps := P__law_can) (fun _ _ _ _ _ _ us hl => match us, hl with | [_], _ => rfl)
    a__law_line := a__law_line
    fd__law_line := _
    F__law_line := fun_mk (st := s__law_line) hl__law_line hc__law_line hk__law_line
    g__law_line := PySem.W.mg_of X G hg__law_line
    b__law_line := (fun_mk (st := s__law_line) hl__law_line hc__law_line hk__law_line).binds (ps := P__law_line) (fun _ _ _ _ _ _ us hl => match us, hl with | [_, _], _ => rfl)
    a__law_frame := a__law_frame
    fd__law_frame := _
    F__law_frame := fun_mk (st := s__law_frame) hl__law_frame hc__law_frame hk__law_frame
    g__law_frame := PySem.W.mg_of X G hg__law_frame
    b__law_frame := (fun_mk (st := s__law_frame) hl__law_frame hc__law_frame hk__law_frame).binds (ps := P__law_frame) (fun _ _ _ _ _ _ us hl => match us, hl with | [_, _, _], _ => rfl)
    a__law_none_lost := a__law_none_lost
    fd__law_none_lost := _
    F__law_none_lost := fun_mk (st := s__law_none_lost) hl__law_none_lost hc__law_none_lost hk__law_none_lost
    g__law_none_lost := PySem.W.mg_of X G hg__law_none_lost
    b__law_none_lost := (fun_mk (st := s__law_none_lost) hl__law_none_lost hc__law_none_lost hk__law_none_lost).binds (ps := P__law_none_lost) (fun _ _ _ _ _ _ us hl => match us, hl with | [], _ => rfl)
    a__law_are_refused := a__law_are_refused
    fd__law_are_refused := _
    F__law_are_refused := fun_mk (st := s__law_are_refused) hl__law_are_refused hc__law_are_refused hk__law_are_refused
    g__law_are_refused := PySem.W.mg_of X G hg__law_are_refused
    b__law_are_refused := (fun_mk (st := s__law_are_refused) hl__law_are_refused hc__law_are_refused hk__law_are_refused).binds (ps := P__law_are_refused) (fun _ _ _ _ _ _ us hl => match us, hl with | [_, _], _ => rfl)
    a__law_goes_on := a__law_goes_on
    fd__law_goes_on := _
    F__law_goes_on := fun_mk (st := s__law_goes_on) hl__law_goes_on hc__law_goes_on hk__law_goes_on
    g__law_goes_on := PySem.W.mg_of X G hg__law_goes_on
    b__law_goes_on := (fun_mk (st := s__law_goes_on) hl__law_goes_on hc__law_goes_on hk__law_goes_on).binds (ps := P__law_goes_on) (fun _ _ _ _ _ _ us hl => match us, hl with | [_, _, _, _], _ => rfl)
    a_law := fa
    fd_law := _
    F_law := fun_mk (st := s_law) hl_law hc_law hk_law
    g_law := PySem.W.mg_of X G hg_law
    b_law := (fun_mk (st := s_law) hl_law hc_law hk_law).binds (ps := P_law) (fun _ _ _ _ _ _ us hl => match us, hl with | [_], _ => rfl)
    a_Marks_init := a_Marks_init
    fd_Marks_init := _
    F_Marks_init := fun_mk (st := s_Marks_init) hl_Marks_init hc_Marks_init hk_Marks_init
    b_Marks_init := (fun_mk (st := s_Marks_init) hl_Marks_init hc_Marks_init hk_Marks_init).binds (ps := P_Marks_init) (fun _ _ _ _ _ _ us hl => match us, hl with | [_], _ => rfl)
    a_Marks_note := a_Marks_note
    fd_Marks_note := _
    F_Marks_note := fun_mk (st := s_Marks_note) hl_Marks_note hc_Marks_note hk_Marks_note
    b_Marks_note := (fun_mk (st := s_Marks_note) hl_Marks_note hc_Marks_note hk_Marks_note).binds (ps := P_Marks_note) (fun _ _ _ _ _ _ us hl => match us, hl with | [_, _, _, _], _ => rfl)
    a_Marks_bad := a_Marks_bad
    fd_Marks_bad := _
    F_Marks_bad := fun_mk (st := s_Marks_bad) hl_Marks_bad hc_Marks_bad hk_Marks_bad
    b_Marks_bad := (fun_mk (st := s_Marks_bad) hl_Marks_bad hc_Marks_bad hk_Marks_bad).binds (ps := P_Marks_bad) (fun _ _ _ _ _ _ us hl => match us, hl with | [_, _], _ => rfl)
    a_End_init := a_End_init
    fd_End_init := _
    F_End_init := fun_mk (st := s_End_init) hl_End_init hc_End_init hk_End_init
    b_End_init := (fun_mk (st := s_End_init) hl_End_init hc_End_init hk_End_init).binds (ps := P_End_init) (fun _ _ _ _ _ _ us hl => match us, hl with | [_, _], _ => rfl)
    a_End_need_part := a_End_need_part
    fd_End_need_part := _
    F_End_need_part := fun_mk (st := s_End_need_part) hl_End_need_part hc_End_need_part hk_End_need_part
    b_End_need_part := (fun_mk (st := s_End_need_part) hl_End_need_part hc_End_need_part hk_End_need_part).binds (ps := P_End_need_part) (fun _ _ _ _ _ _ us hl => match us, hl with | [_, _], _ => rfl)
    a_End_refresh := a_End_refresh
    fd_End_refresh := _
    F_End_refresh := fun_mk (st := s_End_refresh) hl_End_refresh hc_End_refresh hk_End_refresh
    b_End_refresh := (fun_mk (st := s_End_refresh) hl_End_refresh hc_End_refresh hk_End_refresh).binds (ps := P_End_refresh) (fun _ _ _ _ _ _ us hl => match us, hl with | [_], _ => rfl)
    a_End_take := a_End_take
    fd_End_take := _
    F_End_take := fun_mk (st := s_End_take) hl_End_take hc_End_take hk_End_take
    b_End_take := (fun_mk (st := s_End_take) hl_End_take hc_End_take hk_End_take).binds (ps := P_End_take) (fun _ _ _ _ _ _ us hl => match us, hl with | [_], _ => rfl)
    a_End_say := a_End_say
    fd_End_say := _
    F_End_say := fun_mk (st := s_End_say) hl_End_say hc_End_say hk_End_say
    b_End_say := (fun_mk (st := s_End_say) hl_End_say hc_End_say hk_End_say).binds (ps := P_End_say) (fun _ _ _ _ _ _ us hl => match us, hl with | [_, _], _ => rfl)
    a_End_hear := a_End_hear
    fd_End_hear := _
    F_End_hear := fun_mk (st := s_End_hear) hl_End_hear hc_End_hear hk_End_hear
    b_End_hear := (fun_mk (st := s_End_hear) hl_End_hear hc_End_hear hk_End_hear).binds (ps := P_End_hear) (fun _ _ _ _ _ _ us hl => match us, hl with | [_, _, _], _ => rfl)
    a_End_hear_slow := a_End_hear_slow
    fd_End_hear_slow := _
    F_End_hear_slow := fun_mk (st := s_End_hear_slow) hl_End_hear_slow hc_End_hear_slow hk_End_hear_slow
    b_End_hear_slow := (fun_mk (st := s_End_hear_slow) hl_End_hear_slow hc_End_hear_slow hk_End_hear_slow).binds (ps := P_End_hear_slow) (fun _ _ _ _ _ _ us hl => match us, hl with | [_, _], _ => rfl)
    a_End_hear_fast := a_End_hear_fast
    fd_End_hear_fast := _
    F_End_hear_fast := fun_mk (st := s_End_hear_fast) hl_End_hear_fast hc_End_hear_fast hk_End_hear_fast
    b_End_hear_fast := (fun_mk (st := s_End_hear_fast) hl_End_hear_fast hc_End_hear_fast hk_End_hear_fast).binds (ps := P_End_hear_fast) (fun _ _ _ _ _ _ us hl => match us, hl with | [_, _], _ => rfl)
    a_End_send := a_End_send
    fd_End_send := _
    F_End_send := fun_mk (st := s_End_send) hl_End_send hc_End_send hk_End_send
    b_End_send := (fun_mk (st := s_End_send) hl_End_send hc_End_send hk_End_send).binds (ps := P_End_send) (fun _ _ _ _ _ _ us hl => match us, hl with | [_, _], _ => rfl)
    a_End_got := a_End_got
    fd_End_got := _
    F_End_got := fun_mk (st := s_End_got) hl_End_got hc_End_got hk_End_got
    b_End_got := (fun_mk (st := s_End_got) hl_End_got hc_End_got hk_End_got).binds (ps := P_End_got) (fun _ _ _ _ _ _ us hl => match us, hl with | [_], _ => rfl)
    a_End_left := a_End_left
    fd_End_left := _
    F_End_left := fun_mk (st := s_End_left) hl_End_left hc_End_left hk_End_left
    b_End_left := (fun_mk (st := s_End_left) hl_End_left hc_End_left hk_End_left).binds (ps := P_End_left) (fun _ _ _ _ _ _ us hl => match us, hl with | [_], _ => rfl)
    a_End_stands := a_End_stands
    fd_End_stands := _
    F_End_stands := fun_mk (st := s_End_stands) hl_End_stands hc_End_stands hk_End_stands
    b_End_stands := (fun_mk (st := s_End_stands) hl_End_stands hc_End_stands hk_End_stands).binds (ps := P_End_stands) (fun _ _ _ _ _ _ us hl => match us, hl with | [_], _ => rfl)
    a_Line_init := a_Line_init
    fd_Line_init := _
    F_Line_init := fun_mk (st := s_Line_init) hl_Line_init hc_Line_init hk_Line_init
    b_Line_init := (fun_mk (st := s_Line_init) hl_Line_init hc_Line_init hk_Line_init).binds (ps := P_Line_init) (fun _ _ _ _ _ _ us hl => match us, hl with | [_, _, _], _ => rfl)
    a_Line_let_pass := a_Line_let_pass
    fd_Line_let_pass := _
    F_Line_let_pass := fun_mk (st := s_Line_let_pass) hl_Line_let_pass hc_Line_let_pass hk_Line_let_pass
    b_Line_let_pass := (fun_mk (st := s_Line_let_pass) hl_Line_let_pass hc_Line_let_pass hk_Line_let_pass).binds (ps := P_Line_let_pass) (fun _ _ _ _ _ _ us hl => match us, hl with | [_, _, _], _ => rfl)
    a_Line_lose := a_Line_lose
    fd_Line_lose := _
    F_Line_lose := fun_mk (st := s_Line_lose) hl_Line_lose hc_Line_lose hk_Line_lose
    b_Line_lose := (fun_mk (st := s_Line_lose) hl_Line_lose hc_Line_lose hk_Line_lose).binds (ps := P_Line_lose) (fun _ _ _ _ _ _ us hl => match us, hl with | [_, _, _], _ => rfl)
    a_Line_send := a_Line_send
    fd_Line_send := _
    F_Line_send := fun_mk (st := s_Line_send) hl_Line_send hc_Line_send hk_Line_send
    b_Line_send := (fun_mk (st := s_Line_send) hl_Line_send hc_Line_send hk_Line_send).binds (ps := P_Line_send) (fun _ _ _ _ _ _ us hl => match us, hl with | [_, _, _], _ => rfl)
    a_Line_carry := a_Line_carry
    fd_Line_carry := _
    F_Line_carry := fun_mk (st := s_Line_carry) hl_Line_carry hc_Line_carry hk_Line_carry
    b_Line_carry := (fun_mk (st := s_Line_carry) hl_Line_carry hc_Line_carry hk_Line_carry).binds (ps := P_Line_carry) (fun _ _ _ _ _ _ us hl => match us, hl with | [_, _], _ => rfl)
    a_Line_frame := a_Line_frame
    fd_Line_frame := _
    F_Line_frame := fun_mk (st := s_Line_frame) hl_Line_frame hc_Line_frame hk_Line_frame
    b_Line_frame := (fun_mk (st := s_Line_frame) hl_Line_frame hc_Line_frame hk_Line_frame).binds (ps := P_Line_frame) (fun _ _ _ _ _ _ us hl => match us, hl with | [_], _ => rfl)
    a_Line_log := a_Line_log
    fd_Line_log := _
    F_Line_log := fun_mk (st := s_Line_log) hl_Line_log hc_Line_log hk_Line_log
    b_Line_log := (fun_mk (st := s_Line_log) hl_Line_log hc_Line_log hk_Line_log).binds (ps := P_Line_log) (fun _ _ _ _ _ _ us hl => match us, hl with | [_], _ => rfl)
    a_Line_got := a_Line_got
    fd_Line_got := _
    F_Line_got := fun_mk (st := s_Line_got) hl_Line_got hc_Line_got hk_Line_got
    b_Line_got := (fun_mk (st := s_Line_got) hl_Line_got hc_Line_got hk_Line_got).binds (ps := P_Line_got) (fun _ _ _ _ _ _ us hl => match us, hl with | [_, _], _ => rfl)
    a_Line_left := a_Line_left
    fd_Line_left := _
    F_Line_left := fun_mk (st := s_Line_left) hl_Line_left hc_Line_left hk_Line_left
    b_Line_left := (fun_mk (st := s_Line_left) hl_Line_left hc_Line_left hk_Line_left).binds (ps := P_Line_left) (fun _ _ _ _ _ _ us hl => match us, hl with | [_, _], _ => rfl)
    C_Marks := C_Marks
    c_Marks := PySem.W.mg_of X G hC_Marks
    cl_Marks := ⟨pg_Marks, hd_Marks, po_Marks, sa_Marks⟩
    no_Marks_waits := no_Marks_waits
    no_Marks_until := no_Marks_until
    no_Marks_runs := no_Marks_runs
    no_Marks_tries := no_Marks_tries
    M_Marks := ⟨mk_Marks, hg_Marks_init, hi_Marks_init, kc_Marks⟩
    m_Marks_note := ⟨hg_Marks_note, hi_Marks_note, hk_Marks_note⟩
    m_Marks_bad := ⟨hg_Marks_bad, hi_Marks_bad, hk_Marks_bad⟩
    C_End := C_End
    c_End := PySem.W.mg_of X G hC_End
    cl_End := ⟨pg_End, hd_End, po_End, sa_End⟩
    no_End_can := no_End_can
    no_End_marks := no_End_marks
    no_End_over := no_End_over
    no_End_version := no_End_version
    no_End_mind := no_End_mind
    no_End_other := no_End_other
    no_End_seen := no_End_seen
    no_End_known := no_End_known
    no_End_ready := no_End_ready
    no_End_now := no_End_now
    no_End_joined := no_End_joined
    no_End_waiting := no_End_waiting
    no_End_count := no_End_count
    no_End_gathered := no_End_gathered
    no_End_part := no_End_part
    M_End := ⟨mk_End, hg_End_init, hi_End_init, kc_End⟩
    m_End_need_part := ⟨hg_End_need_part, hi_End_need_part, hk_End_need_part⟩
    m_End_refresh := ⟨hg_End_refresh, hi_End_refresh, hk_End_refresh⟩
    m_End_take := ⟨hg_End_take, hi_End_take, hk_End_take⟩
    m_End_say := ⟨hg_End_say, hi_End_say, hk_End_say⟩
    m_End_hear := ⟨hg_End_hear, hi_End_hear, hk_End_hear⟩
    m_End_hear_slow := ⟨hg_End_hear_slow, hi_End_hear_slow, hk_End_hear_slow⟩
    m_End_hear_fast := ⟨hg_End_hear_fast, hi_End_hear_fast, hk_End_hear_fast⟩
    m_End_send := ⟨hg_End_send, hi_End_send, hk_End_send⟩
    m_End_got := ⟨hg_End_got, hi_End_got, hk_End_got⟩
    m_End_left := ⟨hg_End_left, hi_End_left, hk_End_left⟩
    m_End_stands := ⟨hg_End_stands, hi_End_stands, hk_End_stands⟩
    C_Line := C_Line
    c_Line := PySem.W.mg_of X G hC_Line
    cl_Line := ⟨pg_Line, hd_Line, po_Line, sa_Line⟩
    no_Line_ends := no_Line_ends
    no_Line_passing := no_Line_passing
    no_Line_lost := no_Line_lost
    no_Line_rows := no_Line_rows
    M_Line := ⟨mk_Line, hg_Line_init, hi_Line_init, kc_Line⟩
    m_Line_let_pass := ⟨hg_Line_let_pass, hi_Line_let_pass, hk_Line_let_pass⟩
    m_Line_lose := ⟨hg_Line_lose, hi_Line_lose, hk_Line_lose⟩
    m_Line_send := ⟨hg_Line_send, hi_Line_send, hk_Line_send⟩
    m_Line_carry := ⟨hg_Line_carry, hi_Line_carry, hk_Line_carry⟩
    m_Line_frame := ⟨hg_Line_frame, hi_Line_frame, hk_Line_frame⟩
    m_Line_log := ⟨hg_Line_log, hi_Line_log, hk_Line_log⟩
    m_Line_got := ⟨hg_Line_got, hi_Line_got, hk_Line_got⟩
    m_Line_left := ⟨hg_Line_left, hi_Line_left, hk_Line_left⟩
    C_LineError := C_LineError
    c_LineError := PySem.W.mg_of X G hC_LineError
    k_LineError := k_LineError
    s_LineError := s_LineError
    t_LineError := t_LineError
    x_LineError := x_LineError
    C_BadManners := C_BadManners
    c_BadManners := PySem.W.mg_of X G hC_BadManners
    k_BadManners := k_BadManners
    s_BadManners := s_BadManners
    t_BadManners := t_BadManners
    x_BadManners := x_BadManners
    C_BadItem := C_BadItem
    c_BadItem := PySem.W.mg_of X G hC_BadItem
    k_BadItem := k_BadItem
    s_BadItem := s_BadItem
    t_BadItem := t_BadItem
    x_BadItem := x_BadItem
    C_Full := C_Full
    c_Full := PySem.W.mg_of X G hC_Full
    k_Full := k_Full
    s_Full := s_Full
    t_Full := t_Full
    x_Full := x_Full
    C_BadPart := C_BadPart
    c_BadPart := PySem.W.mg_of X G hC_BadPart
    k_BadPart := k_BadPart
    s_BadPart := s_BadPart
    t_BadPart := t_BadPart
    x_BadPart := x_BadPart
    C_BadCount := C_BadCount
    c_BadCount := PySem.W.mg_of X G hC_BadCount
    k_BadCount := k_BadCount
    s_BadCount := s_BadCount
    t_BadCount := t_BadCount
    x_BadCount := x_BadCount
    C_BadEnd := C_BadEnd
    c_BadEnd := PySem.W.mg_of X G hC_BadEnd
    k_BadEnd := k_BadEnd
    s_BadEnd := s_BadEnd
    t_BadEnd := t_BadEnd
    x_BadEnd := x_BadEnd
    C_BadStep := C_BadStep
    c_BadStep := PySem.W.mg_of X G hC_BadStep
    k_BadStep := k_BadStep
    s_BadStep := s_BadStep
    t_BadStep := t_BadStep
    C_BadLog := C_BadLog
    c_BadLog := PySem.W.mg_of X G hC_BadLog
    k_BadLog := k_BadLog
    s_BadLog := s_BadLog
    t_BadLog := t_BadLog
    C_BadText := C_BadText
    c_BadText := PySem.W.mg_of X G hC_BadText
    k_BadText := k_BadText
    s_BadText := s_BadText
    t_BadText := t_BadText
    bc_LineError := ⟨gs_LE, rd_LE, fi_LE, k_LineError⟩
    wk_BadManners := ⟨⟨ga_BadManners, gg_BadManners, s_BadManners, hx_BadManners, gc_BadManners, gx_n, gx_t, gm_BadManners⟩, kinds9 ik_BadManners_0 ik_BadManners_1 ik_BadManners_2 ik_BadManners_3 ik_BadManners_4 ik_BadManners_5 ik_BadManners_6 ik_BadManners_7 ik_BadManners_8 (by decide), iv_BadManners, xm_BadManners⟩
    wk_BadItem := ⟨⟨ga_BadItem, gg_BadItem, s_BadItem, hx_BadItem, gc_BadItem, gx_n, gx_t, gm_BadItem⟩, kinds9 ik_BadItem_0 ik_BadItem_1 ik_BadItem_2 ik_BadItem_3 ik_BadItem_4 ik_BadItem_5 ik_BadItem_6 ik_BadItem_7 ik_BadItem_8 (by decide), iv_BadItem, xm_BadItem⟩
    wk_Full := ⟨⟨ga_Full, gg_Full, s_Full, hx_Full, gc_Full, gx_n, gx_t, gm_Full⟩, kinds9 ik_Full_0 ik_Full_1 ik_Full_2 ik_Full_3 ik_Full_4 ik_Full_5 ik_Full_6 ik_Full_7 ik_Full_8 (by decide), iv_Full, xm_Full⟩
    wk_BadPart := ⟨⟨ga_BadPart, gg_BadPart, s_BadPart, hx_BadPart, gc_BadPart, gx_n, gx_t, gm_BadPart⟩, kinds9 ik_BadPart_0 ik_BadPart_1 ik_BadPart_2 ik_BadPart_3 ik_BadPart_4 ik_BadPart_5 ik_BadPart_6 ik_BadPart_7 ik_BadPart_8 (by decide), iv_BadPart, xm_BadPart⟩
    wk_BadEnd := ⟨⟨ga_BadEnd, gg_BadEnd, s_BadEnd, hx_BadEnd, gc_BadEnd, gx_n, gx_t, gm_BadEnd⟩, kinds9 ik_BadEnd_0 ik_BadEnd_1 ik_BadEnd_2 ik_BadEnd_3 ik_BadEnd_4 ik_BadEnd_5 ik_BadEnd_6 ik_BadEnd_7 ik_BadEnd_8 (by decide), iv_BadEnd, xm_BadEnd⟩
    lC := lC
    lP := lP
    fl := ⟨_, _, _, _, _, _, _, _, rfl, hl_law, hc_law⟩
    lC__law_are_refused := lC__law_are_refused
    lP__law_are_refused := lP__law_are_refused
    fl__law_are_refused := ⟨_, _, _, _, _, _, _, _, rfl, hl__law_are_refused, hc__law_are_refused⟩
    nP__law_are_refused := nP__law_are_refused
    tk_MOST := tk_MOST
    v_MOST := PySem.W.mg_of X G hv_MOST
    tk_FIRST := tk_FIRST
    v_FIRST := PySem.W.mg_of X G hv_FIRST
    tk_LONGEST := tk_LONGEST
    v_LONGEST := PySem.W.mg_of X G hv_LONGEST
    tk_STAYS := tk_STAYS
    v_STAYS := PySem.W.mg_of X G hv_STAYS
    tk_LOST := tk_LOST
    v_LOST := PySem.W.mg_of X G hv_LOST
    tk_LAST := tk_LAST
    v_LAST := PySem.W.mg_of X G hv_LAST
    tk_MOST_FRAME := tk_MOST_FRAME
    v_MOST_FRAME := PySem.W.mg_of X G hv_MOST_FRAME
    tk_SLOW := tk_SLOW
    v_SLOW := PySem.W.mg_of X G hv_SLOW
    tk_FAST := tk_FAST
    v_FAST := PySem.W.mg_of X G hv_FAST
    tk_MOST_ITEMS := tk_MOST_ITEMS
    v_MOST_ITEMS := PySem.W.mg_of X G hv_MOST_ITEMS
    tk_MOST_ITEM := tk_MOST_ITEM
    v_MOST_ITEM := PySem.W.mg_of X G hv_MOST_ITEM
    n_ValueError := PySem.W.mg_none_of X G z_ValueError
    n_abs := PySem.W.mg_none_of X G z_abs
    n_all := PySem.W.mg_none_of X G z_all
    n_bool := PySem.W.mg_none_of X G z_bool
    n_enumerate := PySem.W.mg_none_of X G z_enumerate
    n_int := PySem.W.mg_none_of X G z_int
    n_isinstance := PySem.W.mg_none_of X G z_isinstance
    n_len := PySem.W.mg_none_of X G z_len
    n_list := PySem.W.mg_none_of X G z_list
    n_max := PySem.W.mg_none_of X G z_max
    n_min := PySem.W.mg_none_of X G z_min
    n_range := PySem.W.mg_none_of X G z_range
    n_set := PySem.W.mg_none_of X G z_set
    n_sorted := PySem.W.mg_none_of X G z_sorted
    n_str := PySem.W.mg_none_of X G z_str
    n_tuple := PySem.W.mg_none_of X G z_tuple }
  refine ⟨_, [(lC, lP), (lC__law_are_refused, lP__law_are_refused)], spLaw K [(lP, lamQ), (lP__law_are_refused, lamQ__law_are_refused)], ?_, ?_, ?_, fun s v => .of_eq rfl, fun H a ns hn _ hT hS => ⟨a, ns, rfl, hS, hn, ?_, fun _ => rfl⟩, fun base _ _ hB => ok_law T (hB _ (.head _)) (hB _ (.tail _ (.head _)))⟩
  · exact fun p hp => by
      simp only [List.mem_cons, List.not_mem_nil, or_false] at hp
      rcases hp with rfl | rfl
      · exact own "law" _ (.head _) (PySem.W.mg_of X G hg_law) lC lP _ _ _ _ _ _ hl_law rfl rfl tb_1 tb_2
      · exact own "_law_are_refused" _ (.tail _ (.head _)) (PySem.W.mg_of X G hg__law_are_refused) lC__law_are_refused lP__law_are_refused _ _ _ _ _ _ hl__law_are_refused rfl rfl tb_1__law_are_refused tb_2__law_are_refused
  · exact fun p hp => by
      simp only [List.mem_cons, List.not_mem_nil, or_false] at hp
      rcases hp with rfl | rfl
      · exact tb_3
      · exact tb_3__law_are_refused
  · exact fun p hp => by
      simp only [List.mem_cons, List.not_mem_nil, or_false] at hp
      rcases hp with rfl | rfl
      · exact PySem.W.codeHd_of_K X tb_4
      · exact PySem.W.codeHd_of_K X tb_4__law_are_refused
  · exact fun p hp => by
      simp only [List.mem_cons, List.not_mem_nil, or_false] at hp
      rcases hp with rfl | rfl
      · exact LamX.TabS.nil (hT _ (.head _))
      · exact LamX.TabS.nil (hT _ (.tail _ (.head _)))
theorem walk {l : PySem.W.OpenLaw} {q : Program} {loose : List Str} {XP : (Str → Option Value) → Heap → Prop} {YP : World → Heap → Prop} {d : DefRec} {K : Params → PySem.W.Frag} (hn : l.most = some 63) (hdf : d.params.defaults = []) (hrec : ∀ y ∈ (["law", "_law_are_refused"] : List Str), ((PyProof.Rows.recsOf q).any fun e => e.name == y) = true)
    (hY : ∀ (w : World) (h : Heap), YP w h → (K w.params).In h)
    (F : ∀ (w : World) (mg : Str → Option Value) (fa : Addr) (h : Heap), YP w h → (K w.params).In h → h.Ns mainGlobals mg → mg d.name = some (.ref fa) → OwnTabs (K w.params) mg ["law", "_law_are_refused"] h → LamX.LawAtS l w (K w.params) CX0 13 63 "_law_script" mg fa h) :
    PySem.W.WalkO q loose XP YP l.row.toRowW d [] (fun f vs => PySem.call f vs) :=
  walk_tabs (n := 63) (k := 13) (x := "_law_script") (CX := fun _ => CX0) hn (by decide) hdf ⟨rfl, by decide, by decide⟩ hrec hY F fun _ _ _ _ _ z => z
end TL
open PySem PySem.W PyProof.Rows
set_option maxRecDepth 100000 in
set_option maxHeartbeats 0 in
theorem PySem.Challenge.cw_trainline_k16_lines_frame_by_frame_holds : PySem.Challenge.rw_trainline_k16_lines_frame_by_frame.Holds := by
  w_on; o_law; k_head; (case hw => w_witness2)
  k_fill
  refine TL.walk (l := PySem.Challenge.rw_trainline_k16_lines_frame_by_frame) rfl rfl (fun y hy => by simp only [List.mem_cons, List.not_mem_nil, or_false] at hy; rcases hy with rfl | rfl <;> rfl) (fun w h Y => PySem.W.km_in_of Y) ?F
  case F =>
    intro w mg fa h Y KX G hmg own
    refine' TL.all_mk KX G hmg own ?hC_LineError ?hC_BadManners ?hC_BadItem ?hC_Full ?hC_BadPart ?hC_BadCount ?hC_BadEnd ?hC_BadStep ?hC_BadLog ?hC_BadText ?hC_Marks ?hC_End ?hC_Line ?hg_is_between ?hl_is_between ?hc_is_between ?hk_is_between ?hg_are_manners ?hl_are_manners ?hc_are_manners ?hk_are_manners ?hg_need_manners ?hl_need_manners ?hc_need_manners ?hk_need_manners ?hg_chosen ?hl_chosen ?hc_chosen ?hk_chosen ?hg_need_manner ?hl_need_manner ?hc_need_manner ?hk_need_manner ?hg_need_end ?hl_need_end ?hc_need_end ?hk_need_end ?hg__law_dice ?hl__law_dice ?hc__law_dice ?hk__law_dice ?hg__law_off ?hl__law_off ?hc__law_off ?hk__law_off ?hg__law_alike ?hl__law_alike ?hc__law_alike ?hk__law_alike ?hg__law_word ?hl__law_word ?hc__law_word ?hk__law_word ?hg__law_can ?hl__law_can ?hc__law_can ?hk__law_can ?hg__law_line ?hl__law_line ?hc__law_line ?hk__law_line ?hg__law_frame ?hl__law_frame ?hc__law_frame ?hk__law_frame ?hg__law_none_lost ?hl__law_none_lost ?hc__law_none_lost ?hk__law_none_lost ?hg__law_are_refused ?hl__law_are_refused ?hc__law_are_refused ?hk__law_are_refused ?hg__law_goes_on ?hl__law_goes_on ?hc__law_goes_on ?hk__law_goes_on ?hg_law ?hl_law ?hc_law ?hk_law ?hg_Marks_init ?hi_Marks_init ?hl_Marks_init ?hc_Marks_init ?hk_Marks_init ?hg_Marks_note ?hi_Marks_note ?hl_Marks_note ?hc_Marks_note ?hk_Marks_note ?hg_Marks_bad ?hi_Marks_bad ?hl_Marks_bad ?hc_Marks_bad ?hk_Marks_bad ?hg_End_init ?hi_End_init ?hl_End_init ?hc_End_init ?hk_End_init ?hg_End_need_part ?hi_End_need_part ?hl_End_need_part ?hc_End_need_part ?hk_End_need_part ?hg_End_refresh ?hi_End_refresh ?hl_End_refresh ?hc_End_refresh ?hk_End_refresh ?hg_End_take ?hi_End_take ?hl_End_take ?hc_End_take ?hk_End_take ?hg_End_say ?hi_End_say ?hl_End_say ?hc_End_say ?hk_End_say ?hg_End_hear ?hi_End_hear ?hl_End_hear ?hc_End_hear ?hk_End_hear ?hg_End_hear_slow ?hi_End_hear_slow ?hl_End_hear_slow ?hc_End_hear_slow ?hk_End_hear_slow ?hg_End_hear_fast ?hi_End_hear_fast ?hl_End_hear_fast ?hc_End_hear_fast ?hk_End_hear_fast ?hg_End_send ?hi_End_send ?hl_End_send ?hc_End_send ?hk_End_send ?hg_End_got ?hi_End_got ?hl_End_got ?hc_End_got ?hk_End_got ?hg_End_left ?hi_End_left ?hl_End_left ?hc_End_left ?hk_End_left ?hg_End_stands ?hi_End_stands ?hl_End_stands ?hc_End_stands ?hk_End_stands ?hg_Line_init ?hi_Line_init ?hl_Line_init ?hc_Line_init ?hk_Line_init ?hg_Line_let_pass ?hi_Line_let_pass ?hl_Line_let_pass ?hc_Line_let_pass ?hk_Line_let_pass ?hg_Line_lose ?hi_Line_lose ?hl_Line_lose ?hc_Line_lose ?hk_Line_lose ?hg_Line_send ?hi_Line_send ?hl_Line_send ?hc_Line_send ?hk_Line_send ?hg_Line_carry ?hi_Line_carry ?hl_Line_carry ?hc_Line_carry ?hk_Line_carry ?hg_Line_frame ?hi_Line_frame ?hl_Line_frame ?hc_Line_frame ?hk_Line_frame ?hg_Line_log ?hi_Line_log ?hl_Line_log ?hc_Line_log ?hk_Line_log ?hg_Line_got ?hi_Line_got ?hl_Line_got ?hc_Line_got ?hk_Line_got ?hg_Line_left ?hi_Line_left ?hl_Line_left ?hc_Line_left ?hk_Line_left ?pg_Marks ?hd_Marks ?po_Marks ?mk_Marks ?kc_Marks ?sa_Marks ?no_Marks_waits ?no_Marks_until ?no_Marks_runs ?no_Marks_tries ?pg_End ?hd_End ?po_End ?mk_End ?kc_End ?sa_End ?no_End_can ?no_End_marks ?no_End_over ?no_End_version ?no_End_mind ?no_End_other ?no_End_seen ?no_End_known ?no_End_ready ?no_End_now ?no_End_joined ?no_End_waiting ?no_End_count ?no_End_gathered ?no_End_part ?pg_Line ?hd_Line ?po_Line ?mk_Line ?kc_Line ?sa_Line ?no_Line_ends ?no_Line_passing ?no_Line_lost ?no_Line_rows ?x_LineError ?k_LineError ?s_LineError ?t_LineError ?x_BadManners ?k_BadManners ?s_BadManners ?t_BadManners ?x_BadItem ?k_BadItem ?s_BadItem ?t_BadItem ?x_Full ?k_Full ?s_Full ?t_Full ?x_BadPart ?k_BadPart ?s_BadPart ?t_BadPart ?x_BadCount ?k_BadCount ?s_BadCount ?t_BadCount ?x_BadEnd ?k_BadEnd ?s_BadEnd ?t_BadEnd ?k_BadStep ?s_BadStep ?t_BadStep ?k_BadLog ?s_BadLog ?t_BadLog ?k_BadText ?s_BadText ?t_BadText ?gs_LE ?rd_LE ?fi_LE ?gx_n ?gx_t ?ga_BadManners ?gg_BadManners ?hx_BadManners ?ga_BadItem ?gg_BadItem ?hx_BadItem ?ga_Full ?gg_Full ?hx_Full ?ga_BadPart ?gg_BadPart ?hx_BadPart ?ga_BadEnd ?gg_BadEnd ?hx_BadEnd ?gc_BadManners ?gm_BadManners ?ik_BadManners_0 ?ik_BadManners_1 ?ik_BadManners_2 ?ik_BadManners_3 ?ik_BadManners_4 ?ik_BadManners_5 ?ik_BadManners_6 ?ik_BadManners_7 ?ik_BadManners_8 ?iv_BadManners ?xm_BadManners ?gc_BadItem ?gm_BadItem ?ik_BadItem_0 ?ik_BadItem_1 ?ik_BadItem_2 ?ik_BadItem_3 ?ik_BadItem_4 ?ik_BadItem_5 ?ik_BadItem_6 ?ik_BadItem_7 ?ik_BadItem_8 ?iv_BadItem ?xm_BadItem ?gc_Full ?gm_Full ?ik_Full_0 ?ik_Full_1 ?ik_Full_2 ?ik_Full_3 ?ik_Full_4 ?ik_Full_5 ?ik_Full_6 ?ik_Full_7 ?ik_Full_8 ?iv_Full ?xm_Full ?gc_BadPart ?gm_BadPart ?ik_BadPart_0 ?ik_BadPart_1 ?ik_BadPart_2 ?ik_BadPart_3 ?ik_BadPart_4 ?ik_BadPart_5 ?ik_BadPart_6 ?ik_BadPart_7 ?ik_BadPart_8 ?iv_BadPart ?xm_BadPart ?gc_BadEnd ?gm_BadEnd ?ik_BadEnd_0 ?ik_BadEnd_1 ?ik_BadEnd_2 ?ik_BadEnd_3 ?ik_BadEnd_4 ?ik_BadEnd_5 ?ik_BadEnd_6 ?ik_BadEnd_7 ?ik_BadEnd_8 ?iv_BadEnd ?xm_BadEnd ?tb_1 ?tb_2 ?tb_3 ?tb_4 ?tb_1__law_are_refused ?tb_2__law_are_refused ?tb_3__law_are_refused ?tb_4__law_are_refused ?nP__law_are_refused ?hv_MOST ?hv_FIRST ?hv_LONGEST ?hv_STAYS ?hv_LOST ?hv_LAST ?hv_MOST_FRAME ?hv_SLOW ?hv_FAST ?hv_MOST_ITEMS ?hv_MOST_ITEM ?z_ValueError ?z_abs ?z_all ?z_bool ?z_enumerate ?z_int ?z_isinstance ?z_len ?z_list ?z_max ?z_min ?z_range ?z_set ?z_sorted ?z_str ?z_tuple
    (case hC_LineError => first | k_is | rfl)
    (case hC_BadManners => first | k_is | rfl)
    (case hC_BadItem => first | k_is | rfl)
    (case hC_Full => first | k_is | rfl)
    (case hC_BadPart => first | k_is | rfl)
    (case hC_BadCount => first | k_is | rfl)
    (case hC_BadEnd => first | k_is | rfl)
    (case hC_BadStep => first | k_is | rfl)
    (case hC_BadLog => first | k_is | rfl)
    (case hC_BadText => first | k_is | rfl)
    (case hC_Marks => first | k_is | rfl)
    (case hC_End => first | k_is | rfl)
    (case hC_Line => first | k_is | rfl)
    (case hg_is_between => first | k_is | rfl)
    (case hl_is_between => first | k_is | rfl)
    (case hc_is_between => first | k_is | rfl)
    (case hk_is_between => first | k_is | rfl)
    (case hg_are_manners => first | k_is | rfl)
    (case hl_are_manners => first | k_is | rfl)
    (case hc_are_manners => first | k_is | rfl)
    (case hk_are_manners => first | k_is | rfl)
    (case hg_need_manners => first | k_is | rfl)
    (case hl_need_manners => first | k_is | rfl)
    (case hc_need_manners => first | k_is | rfl)
    (case hk_need_manners => first | k_is | rfl)
    (case hg_chosen => first | k_is | rfl)
    (case hl_chosen => first | k_is | rfl)
    (case hc_chosen => first | k_is | rfl)
    (case hk_chosen => first | k_is | rfl)
    (case hg_need_manner => first | k_is | rfl)
    (case hl_need_manner => first | k_is | rfl)
    (case hc_need_manner => first | k_is | rfl)
    (case hk_need_manner => first | k_is | rfl)
    (case hg_need_end => first | k_is | rfl)
    (case hl_need_end => first | k_is | rfl)
    (case hc_need_end => first | k_is | rfl)
    (case hk_need_end => first | k_is | rfl)
    (case hg__law_dice => first | k_is | rfl)
    (case hl__law_dice => first | k_is | rfl)
    (case hc__law_dice => first | k_is | rfl)
    (case hk__law_dice => first | k_is | rfl)
    (case hg__law_off => first | k_is | rfl)
    (case hl__law_off => first | k_is | rfl)
    (case hc__law_off => first | k_is | rfl)
    (case hk__law_off => first | k_is | rfl)
    (case hg__law_alike => first | k_is | rfl)
    (case hl__law_alike => first | k_is | rfl)
    (case hc__law_alike => first | k_is | rfl)
    (case hk__law_alike => first | k_is | rfl)
    (case hg__law_word => first | k_is | rfl)
    (case hl__law_word => first | k_is | rfl)
    (case hc__law_word => first | k_is | rfl)
    (case hk__law_word => first | k_is | rfl)
    (case hg__law_can => first | k_is | rfl)
    (case hl__law_can => first | k_is | rfl)
    (case hc__law_can => first | k_is | rfl)
    (case hk__law_can => first | k_is | rfl)
    (case hg__law_line => first | k_is | rfl)
    (case hl__law_line => first | k_is | rfl)
    (case hc__law_line => first | k_is | rfl)
    (case hk__law_line => first | k_is | rfl)
    (case hg__law_frame => first | k_is | rfl)
    (case hl__law_frame => first | k_is | rfl)
    (case hc__law_frame => first | k_is | rfl)
    (case hk__law_frame => first | k_is | rfl)
    (case hg__law_none_lost => first | k_is | rfl)
    (case hl__law_none_lost => first | k_is | rfl)
    (case hc__law_none_lost => first | k_is | rfl)
    (case hk__law_none_lost => first | k_is | rfl)
    (case hg__law_are_refused => first | k_is | rfl)
    (case hl__law_are_refused => first | k_is | rfl)
    (case hc__law_are_refused => first | k_is | rfl)
    (case hk__law_are_refused => first | k_is | rfl)
    (case hg__law_goes_on => first | k_is | rfl)
    (case hl__law_goes_on => first | k_is | rfl)
    (case hc__law_goes_on => first | k_is | rfl)
    (case hk__law_goes_on => first | k_is | rfl)
    (case hg_law => first | k_is | rfl)
    (case hl_law => first | k_is | rfl)
    (case hc_law => first | k_is | rfl)
    (case hk_law => first | k_is | rfl)
    (case hg_Marks_init => first | k_is | rfl)
    (case hi_Marks_init => first | k_is | rfl)
    (case hl_Marks_init => first | k_is | rfl)
    (case hc_Marks_init => first | k_is | rfl)
    (case hk_Marks_init => first | k_is | rfl)
    (case hg_Marks_note => first | k_is | rfl)
    (case hi_Marks_note => first | k_is | rfl)
    (case hl_Marks_note => first | k_is | rfl)
    (case hc_Marks_note => first | k_is | rfl)
    (case hk_Marks_note => first | k_is | rfl)
    (case hg_Marks_bad => first | k_is | rfl)
    (case hi_Marks_bad => first | k_is | rfl)
    (case hl_Marks_bad => first | k_is | rfl)
    (case hc_Marks_bad => first | k_is | rfl)
    (case hk_Marks_bad => first | k_is | rfl)
    (case hg_End_init => first | k_is | rfl)
    (case hi_End_init => first | k_is | rfl)
    (case hl_End_init => first | k_is | rfl)
    (case hc_End_init => first | k_is | rfl)
    (case hk_End_init => first | k_is | rfl)
    (case hg_End_need_part => first | k_is | rfl)
    (case hi_End_need_part => first | k_is | rfl)
    (case hl_End_need_part => first | k_is | rfl)
    (case hc_End_need_part => first | k_is | rfl)
    (case hk_End_need_part => first | k_is | rfl)
    (case hg_End_refresh => first | k_is | rfl)
    (case hi_End_refresh => first | k_is | rfl)
    (case hl_End_refresh => first | k_is | rfl)
    (case hc_End_refresh => first | k_is | rfl)
    (case hk_End_refresh => first | k_is | rfl)
    (case hg_End_take => first | k_is | rfl)
    (case hi_End_take => first | k_is | rfl)
    (case hl_End_take => first | k_is | rfl)
    (case hc_End_take => first | k_is | rfl)
    (case hk_End_take => first | k_is | rfl)
    (case hg_End_say => first | k_is | rfl)
    (case hi_End_say => first | k_is | rfl)
    (case hl_End_say => first | k_is | rfl)
    (case hc_End_say => first | k_is | rfl)
    (case hk_End_say => first | k_is | rfl)
    (case hg_End_hear => first | k_is | rfl)
    (case hi_End_hear => first | k_is | rfl)
    (case hl_End_hear => first | k_is | rfl)
    (case hc_End_hear => first | k_is | rfl)
    (case hk_End_hear => first | k_is | rfl)
    (case hg_End_hear_slow => first | k_is | rfl)
    (case hi_End_hear_slow => first | k_is | rfl)
    (case hl_End_hear_slow => first | k_is | rfl)
    (case hc_End_hear_slow => first | k_is | rfl)
    (case hk_End_hear_slow => first | k_is | rfl)
    (case hg_End_hear_fast => first | k_is | rfl)
    (case hi_End_hear_fast => first | k_is | rfl)
    (case hl_End_hear_fast => first | k_is | rfl)
    (case hc_End_hear_fast => first | k_is | rfl)
    (case hk_End_hear_fast => first | k_is | rfl)
    (case hg_End_send => first | k_is | rfl)
    (case hi_End_send => first | k_is | rfl)
    (case hl_End_send => first | k_is | rfl)
    (case hc_End_send => first | k_is | rfl)
    (case hk_End_send => first | k_is | rfl)
    (case hg_End_got => first | k_is | rfl)
    (case hi_End_got => first | k_is | rfl)
    (case hl_End_got => first | k_is | rfl)
    (case hc_End_got => first | k_is | rfl)
    (case hk_End_got => first | k_is | rfl)
    (case hg_End_left => first | k_is | rfl)
    (case hi_End_left => first | k_is | rfl)
    (case hl_End_left => first | k_is | rfl)
    (case hc_End_left => first | k_is | rfl)
    (case hk_End_left => first | k_is | rfl)
    (case hg_End_stands => first | k_is | rfl)
    (case hi_End_stands => first | k_is | rfl)
    (case hl_End_stands => first | k_is | rfl)
    (case hc_End_stands => first | k_is | rfl)
    (case hk_End_stands => first | k_is | rfl)
    (case hg_Line_init => first | k_is | rfl)
    (case hi_Line_init => first | k_is | rfl)
    (case hl_Line_init => first | k_is | rfl)
    (case hc_Line_init => first | k_is | rfl)
    (case hk_Line_init => first | k_is | rfl)
    (case hg_Line_let_pass => first | k_is | rfl)
    (case hi_Line_let_pass => first | k_is | rfl)
    (case hl_Line_let_pass => first | k_is | rfl)
    (case hc_Line_let_pass => first | k_is | rfl)
    (case hk_Line_let_pass => first | k_is | rfl)
    (case hg_Line_lose => first | k_is | rfl)
    (case hi_Line_lose => first | k_is | rfl)
    (case hl_Line_lose => first | k_is | rfl)
    (case hc_Line_lose => first | k_is | rfl)
    (case hk_Line_lose => first | k_is | rfl)
    (case hg_Line_send => first | k_is | rfl)
    (case hi_Line_send => first | k_is | rfl)
    (case hl_Line_send => first | k_is | rfl)
    (case hc_Line_send => first | k_is | rfl)
    (case hk_Line_send => first | k_is | rfl)
    (case hg_Line_carry => first | k_is | rfl)
    (case hi_Line_carry => first | k_is | rfl)
    (case hl_Line_carry => first | k_is | rfl)
    (case hc_Line_carry => first | k_is | rfl)
    (case hk_Line_carry => first | k_is | rfl)
    (case hg_Line_frame => first | k_is | rfl)
    (case hi_Line_frame => first | k_is | rfl)
    (case hl_Line_frame => first | k_is | rfl)
    (case hc_Line_frame => first | k_is | rfl)
    (case hk_Line_frame => first | k_is | rfl)
    (case hg_Line_log => first | k_is | rfl)
    (case hi_Line_log => first | k_is | rfl)
    (case hl_Line_log => first | k_is | rfl)
    (case hc_Line_log => first | k_is | rfl)
    (case hk_Line_log => first | k_is | rfl)
    (case hg_Line_got => first | k_is | rfl)
    (case hi_Line_got => first | k_is | rfl)
    (case hl_Line_got => first | k_is | rfl)
    (case hc_Line_got => first | k_is | rfl)
    (case hk_Line_got => first | k_is | rfl)
    (case hg_Line_left => first | k_is | rfl)
    (case hi_Line_left => first | k_is | rfl)
    (case hl_Line_left => first | k_is | rfl)
    (case hc_Line_left => first | k_is | rfl)
    (case hk_Line_left => first | k_is | rfl)
    (case pg_Marks => first | k_is | rfl)
    (case hd_Marks => first | k_is | rfl)
    (case po_Marks => first | k_is | rfl)
    (case mk_Marks => first | k_is | rfl)
    (case kc_Marks => first | k_is | rfl)
    (case sa_Marks => first | k_is | rfl)
    (case no_Marks_waits => first | k_is | rfl)
    (case no_Marks_until => first | k_is | rfl)
    (case no_Marks_runs => first | k_is | rfl)
    (case no_Marks_tries => first | k_is | rfl)
    (case pg_End => first | k_is | rfl)
    (case hd_End => first | k_is | rfl)
    (case po_End => first | k_is | rfl)
    (case mk_End => first | k_is | rfl)
    (case kc_End => first | k_is | rfl)
    (case sa_End => first | k_is | rfl)
    (case no_End_can => first | k_is | rfl)
    (case no_End_marks => first | k_is | rfl)
    (case no_End_over => first | k_is | rfl)
    (case no_End_version => first | k_is | rfl)
    (case no_End_mind => first | k_is | rfl)
    (case no_End_other => first | k_is | rfl)
    (case no_End_seen => first | k_is | rfl)
    (case no_End_known => first | k_is | rfl)
    (case no_End_ready => first | k_is | rfl)
    (case no_End_now => first | k_is | rfl)
    (case no_End_joined => first | k_is | rfl)
    (case no_End_waiting => first | k_is | rfl)
    (case no_End_count => first | k_is | rfl)
    (case no_End_gathered => first | k_is | rfl)
    (case no_End_part => first | k_is | rfl)
    (case pg_Line => first | k_is | rfl)
    (case hd_Line => first | k_is | rfl)
    (case po_Line => first | k_is | rfl)
    (case mk_Line => first | k_is | rfl)
    (case kc_Line => first | k_is | rfl)
    (case sa_Line => first | k_is | rfl)
    (case no_Line_ends => first | k_is | rfl)
    (case no_Line_passing => first | k_is | rfl)
    (case no_Line_lost => first | k_is | rfl)
    (case no_Line_rows => first | k_is | rfl)
    (case x_LineError => k_exc)
    (case k_LineError => first | k_is | rfl)
    (case s_LineError => first | k_is | rfl)
    (case t_LineError => first | k_is | rfl)
    (case x_BadManners => k_exc)
    (case k_BadManners => first | k_is | rfl)
    (case s_BadManners => first | k_is | rfl)
    (case t_BadManners => first | k_is | rfl)
    (case x_BadItem => k_exc)
    (case k_BadItem => first | k_is | rfl)
    (case s_BadItem => first | k_is | rfl)
    (case t_BadItem => first | k_is | rfl)
    (case x_Full => k_exc)
    (case k_Full => first | k_is | rfl)
    (case s_Full => first | k_is | rfl)
    (case t_Full => first | k_is | rfl)
    (case x_BadPart => k_exc)
    (case k_BadPart => first | k_is | rfl)
    (case s_BadPart => first | k_is | rfl)
    (case t_BadPart => first | k_is | rfl)
    (case x_BadCount => k_exc)
    (case k_BadCount => first | k_is | rfl)
    (case s_BadCount => first | k_is | rfl)
    (case t_BadCount => first | k_is | rfl)
    (case x_BadEnd => k_exc)
    (case k_BadEnd => first | k_is | rfl)
    (case s_BadEnd => first | k_is | rfl)
    (case t_BadEnd => first | k_is | rfl)
    (case k_BadStep => first | k_is | rfl)
    (case s_BadStep => first | k_is | rfl)
    (case t_BadStep => first | k_is | rfl)
    (case k_BadLog => first | k_is | rfl)
    (case s_BadLog => first | k_is | rfl)
    (case t_BadLog => first | k_is | rfl)
    (case k_BadText => first | k_is | rfl)
    (case s_BadText => first | k_is | rfl)
    (case t_BadText => first | k_is | rfl)
    (case gs_LE => first | k_is | rfl)
    (case rd_LE => first | k_is | rfl)
    (case fi_LE => first | k_is | rfl)
    (case gx_n => first | k_is | rfl)
    (case gx_t => first | k_is | rfl)
    (case ga_BadManners => first | k_is | rfl)
    (case gg_BadManners => first | k_is | rfl)
    (case hx_BadManners => first | k_is | rfl)
    (case ga_BadItem => first | k_is | rfl)
    (case gg_BadItem => first | k_is | rfl)
    (case hx_BadItem => first | k_is | rfl)
    (case ga_Full => first | k_is | rfl)
    (case gg_Full => first | k_is | rfl)
    (case hx_Full => first | k_is | rfl)
    (case ga_BadPart => first | k_is | rfl)
    (case gg_BadPart => first | k_is | rfl)
    (case hx_BadPart => first | k_is | rfl)
    (case ga_BadEnd => first | k_is | rfl)
    (case gg_BadEnd => first | k_is | rfl)
    (case hx_BadEnd => first | k_is | rfl)
    (case gc_BadManners => first | k_is | rfl)
    (case gm_BadManners => first | k_is | rfl)
    (case ik_BadManners_0 => first | k_is | rfl)
    (case ik_BadManners_1 => first | k_is | rfl)
    (case ik_BadManners_2 => first | k_is | rfl)
    (case ik_BadManners_3 => first | k_is | rfl)
    (case ik_BadManners_4 => first | k_is | rfl)
    (case ik_BadManners_5 => first | k_is | rfl)
    (case ik_BadManners_6 => first | k_is | rfl)
    (case ik_BadManners_7 => first | k_is | rfl)
    (case ik_BadManners_8 => first | k_is | rfl)
    (case iv_BadManners => first | k_is | rfl)
    (case xm_BadManners => first | k_is | rfl)
    (case gc_BadItem => first | k_is | rfl)
    (case gm_BadItem => first | k_is | rfl)
    (case ik_BadItem_0 => first | k_is | rfl)
    (case ik_BadItem_1 => first | k_is | rfl)
    (case ik_BadItem_2 => first | k_is | rfl)
    (case ik_BadItem_3 => first | k_is | rfl)
    (case ik_BadItem_4 => first | k_is | rfl)
    (case ik_BadItem_5 => first | k_is | rfl)
    (case ik_BadItem_6 => first | k_is | rfl)
    (case ik_BadItem_7 => first | k_is | rfl)
    (case ik_BadItem_8 => first | k_is | rfl)
    (case iv_BadItem => first | k_is | rfl)
    (case xm_BadItem => first | k_is | rfl)
    (case gc_Full => first | k_is | rfl)
    (case gm_Full => first | k_is | rfl)
    (case ik_Full_0 => first | k_is | rfl)
    (case ik_Full_1 => first | k_is | rfl)
    (case ik_Full_2 => first | k_is | rfl)
    (case ik_Full_3 => first | k_is | rfl)
    (case ik_Full_4 => first | k_is | rfl)
    (case ik_Full_5 => first | k_is | rfl)
    (case ik_Full_6 => first | k_is | rfl)
    (case ik_Full_7 => first | k_is | rfl)
    (case ik_Full_8 => first | k_is | rfl)
    (case iv_Full => first | k_is | rfl)
    (case xm_Full => first | k_is | rfl)
    (case gc_BadPart => first | k_is | rfl)
    (case gm_BadPart => first | k_is | rfl)
    (case ik_BadPart_0 => first | k_is | rfl)
    (case ik_BadPart_1 => first | k_is | rfl)
    (case ik_BadPart_2 => first | k_is | rfl)
    (case ik_BadPart_3 => first | k_is | rfl)
    (case ik_BadPart_4 => first | k_is | rfl)
    (case ik_BadPart_5 => first | k_is | rfl)
    (case ik_BadPart_6 => first | k_is | rfl)
    (case ik_BadPart_7 => first | k_is | rfl)
    (case ik_BadPart_8 => first | k_is | rfl)
    (case iv_BadPart => first | k_is | rfl)
    (case xm_BadPart => first | k_is | rfl)
    (case gc_BadEnd => first | k_is | rfl)
    (case gm_BadEnd => first | k_is | rfl)
    (case ik_BadEnd_0 => first | k_is | rfl)
    (case ik_BadEnd_1 => first | k_is | rfl)
    (case ik_BadEnd_2 => first | k_is | rfl)
    (case ik_BadEnd_3 => first | k_is | rfl)
    (case ik_BadEnd_4 => first | k_is | rfl)
    (case ik_BadEnd_5 => first | k_is | rfl)
    (case ik_BadEnd_6 => first | k_is | rfl)
    (case ik_BadEnd_7 => first | k_is | rfl)
    (case ik_BadEnd_8 => first | k_is | rfl)
    (case iv_BadEnd => first | k_is | rfl)
    (case xm_BadEnd => first | k_is | rfl)
    (case tb_1 => first | k_is | rfl)
    (case tb_2 => first | k_is | rfl)
    (case tb_3 => first | k_is | rfl)
    (case tb_4 => first | k_is | rfl)
    (case tb_1__law_are_refused => first | k_is | rfl)
    (case tb_2__law_are_refused => first | k_is | rfl)
    (case tb_3__law_are_refused => first | k_is | rfl)
    (case tb_4__law_are_refused => first | k_is | rfl)
    (case nP__law_are_refused => decide)
    (case hv_MOST => first | k_is | rfl)
    (case hv_FIRST => first | k_is | rfl)
    (case hv_LONGEST => first | k_is | rfl)
    (case hv_STAYS => first | k_is | rfl)
    (case hv_LOST => first | k_is | rfl)
    (case hv_LAST => first | k_is | rfl)
    (case hv_MOST_FRAME => first | k_is | rfl)
    (case hv_SLOW => first | k_is | rfl)
    (case hv_FAST => first | k_is | rfl)
    (case hv_MOST_ITEMS => first | k_is | rfl)
    (case hv_MOST_ITEM => first | k_is | rfl)
    (case z_ValueError => first | k_is | rfl)
    (case z_abs => first | k_is | rfl)
    (case z_all => first | k_is | rfl)
    (case z_bool => first | k_is | rfl)
    (case z_enumerate => first | k_is | rfl)
    (case z_int => first | k_is | rfl)
    (case z_isinstance => first | k_is | rfl)
    (case z_len => first | k_is | rfl)
    (case z_list => first | k_is | rfl)
    (case z_max => first | k_is | rfl)
    (case z_min => first | k_is | rfl)
    (case z_range => first | k_is | rfl)
    (case z_set => first | k_is | rfl)
    (case z_sorted => first | k_is | rfl)
    (case z_str => first | k_is | rfl)
    (case z_tuple => first | k_is | rfl)
