import PyProof.Rows.All
import Wide.All
import OpenK.AllK
import Wide.FinOn
import HandS.ForMost
import HandS.Exc
import HandS.TryOnly
import HandS.ExcOwn
import HandS.WordsExc
import HandS.IsInst
import HandS.TupAny
import HandS.SetFor
import HandS.Strs
import HandS.Steps
import HandS.Style
import HandS.Deep
import HandS.Conv
import HandS.More
import HandS.HeadHook3
import KE.GoesNew
import KE.KExcIs
import HandS.ExcIs
import HandS.ExcField
import HandS.ExcInit
import HandS.Lambda
import HandS.EndOwn
import HandS.Nested
import KE.KDflt
import PySem.Challenge.RW_trainline_k01_refused
set_option Elab.async false
set_option linter.all false
set_option maxRecDepth 100000
set_option maxHeartbeats 4000000
namespace TL
open PySem PySem.Spec PyProof.Rows L2
/-! ### heaps -/
/-- what was tracked and isn't in S stays; tuples stay; nothing goes -/
structure Frm (S : List Addr) (H H' : Hp) : Prop where
  keep : ∀ b o, H b = some o → b ∉ S → H' b = some o
  tups : ∀ b ys, H b = some (.tup ys) → H' b = some (.tup ys)
  there : ∀ b o, H b = some o → ∃ o', H' b = some o'
instance {S : List Addr} {H H' : Hp} : CoeFun (Frm S H H') (fun _ => ∀ b o, H b = some o → b ∉ S → H' b = some o) := ⟨Frm.keep⟩
theorem Frm.refl (S : List Addr) (H : Hp) : Frm S H H := ⟨fun _ _ e _ => e, fun _ _ e => e, fun _ o e => ⟨o, e⟩⟩
theorem Frm.trans {S : List Addr} {H H1 H2 : Hp} (a : Frm S H H1) (b : Frm S H1 H2) : Frm S H H2 := ⟨fun c o e h => b.keep c o (a.keep c o e h) h, fun c o e => b.tups c o (a.tups c o e), fun c o e => let ⟨o', e'⟩ := a.there c o e; b.there c o' e'⟩
theorem Frm.mono {S S' : List Addr} {H H1 : Hp} (a : Frm S H H1) (h : ∀ x ∈ S, x ∈ S') : Frm S' H H1 := ⟨fun c o e hn => a.keep c o e fun z => hn (h _ z), a.tups, a.there⟩
theorem Frm.of_same {S : List Addr} {H H1 : Hp} (a : Same H H1) : Frm S H H1 := ⟨fun c o e _ => a c o e, fun c o e => a c _ e, fun c o e => ⟨o, a c o e⟩⟩
theorem Frm.same {H H1 : Hp} (a : Frm [] H H1) : Same H H1 := fun c o e => a.keep c o e (by simp)
theorem upd_there {H : Hp} {d b : Addr} {o u : HO} (e : H b = some u) : ∃ o', L2.upd H d o b = some o' := by
  by_cases h : b = d
  · subst h; exact ⟨o, upd_same⟩
  · exact ⟨u, by rw [upd_ne h]; exact e⟩
/-- something that is no tuple is written -/
theorem Frm.updN {H : Hp} {d : Addr} {o : HO} (n : ∀ ys, H d ≠ some (.tup ys)) : Frm [d] H (L2.upd H d o) := ⟨fun b u e h => by
  rw [upd_ne (fun z => h (by simp [z]))]
  exact e, fun b ys e => by
  rw [upd_ne (fun z => by rw [z] at e; exact n ys e)]
  exact e, fun b u e => upd_there e⟩
theorem Frm.updL {H : Hp} {d : Addr} {o : HO} {xs : List V} (h : H d = some (.lst xs)) : Frm [d] H (L2.upd H d o) := Frm.updN fun ys z => by rw [h] at z; cases z
theorem Frm.updI {H : Hp} {d C dx : Addr} {o : HO} {fs : List (Str × V)} (h : H d = some (.ins C dx fs)) : Frm [d] H (L2.upd H d o) := Frm.updN fun ys z => by rw [h] at z; cases z
theorem Frm.updK {H : Hp} {d : Addr} {o : HO} {kvs : List (Key × V)} (h : H d = some (.dK kvs)) : Frm [d] H (L2.upd H d o) := Frm.updN fun ys z => by rw [h] at z; cases z
theorem Frm.new {S : List Addr} {H : Hp} {p : Addr} {o : HO} (n : H p = none) : Frm S H (L2.upd H p o) := ⟨fun b u e _ => by
  rw [upd_ne (ne_of_none e n)]
  exact e, fun b u e => by
  rw [upd_ne (ne_of_none e n)]
  exact e, fun b u e => upd_there e⟩
/-- what is written was made since: all that stood ahead stands -/
theorem Frm.own {S : List Addr} {H H1 H2 : Hp} (a : Frm S H H1) {l : Addr} (hl : H l = none) (b : Frm [l] H1 H2) : Frm S H H2 := ⟨fun c o e h => b.keep c o (a.keep c o e h) (by
  simp only [List.mem_singleton]
  exact ne_of_none e hl), fun c o e => b.tups c o (a.tups c o e), fun c o e => let ⟨o', e'⟩ := a.there c o e; b.there c o' e'⟩
theorem Frm.free {S : List Addr} {H H1 : Hp} (a : Frm S H H1) {l : Addr} (h : H1 l = none) : H l = none := by
  cases q : H l with
  | none => rfl
  | some o =>
    obtain ⟨o', e⟩ := a.there l o q
    rw [e] at h
    cases h
/-- all that S names stands -/
def Alloc (S : List Addr) (H : Hp) : Prop := ∀ z ∈ S, ∃ o, H z = some o
theorem Alloc.frm {S Z : List Addr} {H H' : Hp} (a : Alloc Z H) (f : Frm S H H') : Alloc Z H' := fun z hz => let ⟨o, e⟩ := a z hz; f.there z o e
theorem Alloc.not {Z : List Addr} {H : Hp} (a : Alloc Z H) {l : Addr} (h : H l = none) : l ∉ Z := fun z => by
  obtain ⟨o, e⟩ := a l z
  rw [h] at e
  cases e
/-! ### attributes by their places -/
theorem zip_lookup : ∀ {N : List Str} {vs : List V} {i : Nat} {f : Str} {v : V}, N.Nodup → N[i]? = some f → vs[i]? = some v → (N.zip vs).lookup f = some v
  | [], _, _, _, _, _, h, _ => by simp at h
  | _ :: _, [], _, _, _, _, _, h => by simp at h
  | n :: N, x :: vs, 0, f, v, nd, h, g => by
    simp at h g
    subst h g
    simp [List.lookup]
  | n :: N, x :: vs, i + 1, f, v, nd, h, g => by
    rw [List.nodup_cons] at nd
    simp at h g
    have hne : (f == n) = false := by
      rw [beq_eq_false_iff_ne]
      rintro rfl
      exact nd.1 (List.mem_of_getElem? h)
    rw [List.zip_cons_cons, List.lookup, hne]
    exact zip_lookup nd.2 h g
theorem zip_no : ∀ {N : List Str} {vs : List V} {f : Str}, f ∉ N → (N.zip vs).lookup f = none
  | [], _, _, _ => rfl
  | _ :: _, [], _, _ => rfl
  | n :: N, x :: vs, f, h => by
    simp at h
    have hne : (f == n) = false := by rw [beq_eq_false_iff_ne]; exact h.1
    rw [List.zip_cons_cons, List.lookup, hne]
    exact zip_no h.2
/-- an attribute is stored again -/
theorem zip_put : ∀ {N : List Str} {vs : List V} {i : Nat} {f : Str} {v : V}, N.Nodup → N[i]? = some f → i < vs.length → putF f v (N.zip vs) = N.zip (vs.set i v)
  | [], _, _, _, _, _, h, _ => by simp at h
  | _ :: _, [], _, _, _, _, _, h => by simp at h
  | n :: N, x :: vs, 0, f, v, nd, h, g => by
    simp at h
    subst h
    simp [putF]
  | n :: N, x :: vs, i + 1, f, v, nd, h, g => by
    rw [List.nodup_cons] at nd
    simp at h g
    have hne : ¬ n = f := by
      rintro rfl
      exact nd.1 (List.mem_of_getElem? h)
    rw [List.zip_cons_cons]
    show (if n = f then _ else _) = _
    rw [if_neg hne, zip_put nd.2 h g]
    rfl
/-- an attribute is stored for the first time, the next by its place -/
theorem zip_add : ∀ {N : List Str} {vs : List V} {f : Str} {v : V}, N.Nodup → N[vs.length]? = some f → putF f v (N.zip vs) = N.zip (vs ++ [v])
  | [], _, _, _, _, h => by simp at h
  | n :: N, [], f, v, nd, h => by
    simp at h
    subst h
    simp [putF]
  | n :: N, x :: vs, f, v, nd, h => by
    rw [List.nodup_cons] at nd
    simp at h
    have hne : ¬ n = f := by
      rintro rfl
      exact nd.1 (List.mem_of_getElem? h)
    rw [List.zip_cons_cons]
    show (if n = f then _ else _) = _
    rw [if_neg hne, zip_add nd.2 h]
    rfl
theorem zip_small {N : List Str} {vs : List V} (h : N.length < 1000) : (N.zip vs).length < 1000 := by
  rw [List.length_zip]
  omega
theorem Same.upd_new {H : Hp} {p : Addr} {o : HO} (n : H p = none) : Same H (L2.upd H p o) := fun b u e => by
  rw [upd_ne (ne_of_none e n)]
  exact e
/-- a tuple isn't among what may be written -/
theorem iteD {p A B : Prop} [Decidable p] (h1 : p → A) (h2 : ¬ p → B) : if decide p = true then A else B := by
  by_cases h : p
  · rw [if_pos (decide_eq_true h)]
    exact h1 h
  · rw [if_neg (by simp [h])]
    exact h2 h
theorem iteN {p A B : Prop} [Decidable p] (h1 : ¬ p → A) (h2 : p → B) : if (!decide p) = true then A else B := by
  by_cases h : p
  · rw [if_neg (by simp [h])]
    exact h2 h
  · rw [if_pos (by simp [h])]
    exact h1 h
theorem iteB {b : Bool} {A B : Prop} (h1 : b = true → A) (h2 : b = false → B) : if b = true then A else B := by
  cases b
  · rw [if_neg (by simp)]; exact h2 rfl
  · rw [if_pos rfl]; exact h1 rfl
theorem vint_inj {i j : Int} : (V.int i = V.int j) ↔ i = j := ⟨fun h => by cases h; rfl, fun h => by rw [h]⟩
theorem getmap {α : Type} {f : α → V} {ns : List α} {i : Nat} {y : V} (h : (ns.map f)[i]? = some y) : ∃ z, ns[i]? = some z ∧ y = f z := by
  rw [List.getElem?_map] at h
  cases e : ns[i]? with
  | none => rw [e] at h; cases h
  | some z => rw [e] at h; exact ⟨z, rfl, (Option.some.inj h).symm⟩
theorem take_more {α : Type} : ∀ {l : List α} {i : Nat} {x : α}, l[i]? = some x → l.take (i + 1) = l.take i ++ [x]
  | [], i, x, h => by simp at h
  | a :: l, 0, x, h => by
    have e : a = x := Option.some.inj h
    subst e
    rfl
  | a :: l, i + 1, x, h => by
    have ih := take_more (l := l) (i := i) (x := x) h
    show a :: l.take (i + 1) = a :: l.take i ++ [x]
    rw [ih]
    rfl
/-! ### loops over enumerate(..) -/
/-- the invariant of a for over J -/
abbrev ForW (J : It) (g : TG) (tb : TS) (D : Ends) (σ : L2.St) (H : Hp) : Prop :=
  ∃ W : Nat → Nat → L2.St → Hp → Prop, (∃ m, W 0 m σ H) ∧ ∀ i m σ H, W i m σ H → (J.stop i H ∧ D.nx σ H) ∨
    (J.go i H ∧ ∃ N : L2.St → Hp → Prop, (∀ σ' H', N σ' H' → ∃ m', m' < m ∧ W (i + 1) m' σ' H') ∧ ∀ x H', J.yld i H x H' → g x σ H' fun σ2 H2 => tb { D with nx := N, ct := N, bk := D.nx } σ2 H2)
abbrev LcW (J : It) (g : TG) (tt : TT) (te : TE) (vs : List Nat) (σ : L2.St) (H1 : Hp) (D : Addr) (Qd : Hp → Prop) : Prop :=
  ∃ W : Nat → Nat → Hp → Prop, (∃ m, W 0 m (upd H1 D (.lst []))) ∧ ∀ i m H, W i m H → (J.stop i H ∧ Qd H) ∨
    (J.go i H ∧ ∃ Nx : Hp → Prop, (∀ H', Nx H' → ∃ m', m' < m ∧ W (i + 1) m' H') ∧ ∀ x H', J.yld i H x H' → g x (wipe σ vs) H' fun σ2 H2 => wipe σ2 vs = wipe σ vs ∧ tt σ2 H2 fun b H3 =>
      if b = true then te σ2 H3 fun y H4 => ∃ acc, H4 D = some (.lst acc) ∧ acc.length < sizeLine ∧ Nx (upd H4 D (.lst (acc ++ [y]))) else Nx H3)
theorem for_enum {K : PySem.W.Frag} {a : Addr} {xs : List V} {g : TG} {tb : TS} {D : Ends} {σ : L2.St} {H : Hp} (Pv : Nat → L2.St → Hp → Prop) (h0 : Pv 0 σ H) (hl : ∀ i σ H, i ≤ xs.length → Pv i σ H → SqL K H a xs)
    (hs : ∀ (i : Nat) (x : V) (T : Addr) (σ : L2.St) (H : Hp), xs[i]? = some x → Pv i σ H → H T = none → g (.ref T) σ (upd H T (.tup [.int (i : Nat), x])) fun σ2 H2 => tb { D with nx := Pv (i + 1), ct := Pv (i + 1), bk := D.nx } σ2 H2)
    (hd : ∀ σ H, Pv xs.length σ H → D.nx σ H) : ForW (Ite K a) g tb D σ H := by
  refine ⟨fun i m σ H => m = xs.length - i ∧ i ≤ xs.length ∧ Pv i σ H, ⟨_, rfl, Nat.zero_le _, h0⟩, fun i m σ H hw => ?_⟩
  obtain ⟨rfl, hi, p⟩ := hw
  have q := hl i σ H hi p
  rcases Nat.lt_or_ge i xs.length with hlt | hge
  · refine .inr ⟨⟨xs, xs[i], q, by simp [hlt]⟩, Pv (i + 1), fun σ' H' p' => ⟨xs.length - (i + 1), by omega, rfl, hlt, p'⟩, fun v H' y => ?_⟩
    obtain ⟨T, x, rfl, hT, rfl, hx⟩ := y
    exact hs i x T σ H (hx xs q) p hT
  · have e : i = xs.length := by omega
    subst e
    exact .inl ⟨⟨xs, q, Nat.le_refl _⟩, hd σ H p⟩
theorem lc_enum {K : PySem.W.Frag} {a : Addr} {xs : List V} {g : TG} {tt : TT} {te : TE} {vs : List Nat} {σ : L2.St} {H1 : Hp} {D : Addr} {Qd : Hp → Prop} (Pv : Nat → Hp → Prop) (h0 : Pv 0 (upd H1 D (.lst []))) (hl : ∀ i H, i ≤ xs.length → Pv i H → SqL K H a xs)
    (hs : ∀ (i : Nat) (x : V) (T : Addr) (H : Hp), xs[i]? = some x → Pv i H → H T = none → g (.ref T) (wipe σ vs) (upd H T (.tup [.int (i : Nat), x])) fun σ2 H2 => wipe σ2 vs = wipe σ vs ∧ tt σ2 H2 fun b H3 =>
      if b = true then te σ2 H3 fun y H4 => ∃ acc, H4 D = some (.lst acc) ∧ acc.length < sizeLine ∧ Pv (i + 1) (upd H4 D (.lst (acc ++ [y]))) else Pv (i + 1) H3)
    (hd : ∀ H, Pv xs.length H → Qd H) : LcW (Ite K a) g tt te vs σ H1 D Qd := by
  refine ⟨fun i m H => m = xs.length - i ∧ i ≤ xs.length ∧ Pv i H, ⟨_, rfl, Nat.zero_le _, h0⟩, fun i m H hw => ?_⟩
  obtain ⟨rfl, hi, p⟩ := hw
  have q := hl i H hi p
  rcases Nat.lt_or_ge i xs.length with hlt | hge
  · refine .inr ⟨⟨xs, xs[i], q, by simp [hlt]⟩, Pv (i + 1), fun H' p' => ⟨xs.length - (i + 1), by omega, rfl, hlt, p'⟩, fun v H' y => ?_⟩
    obtain ⟨T, x, rfl, hT, rfl, hx⟩ := y
    exact hs i x T H (hx xs q) p hT
  · have e : i = xs.length := by omega
    subst e
    exact .inl ⟨⟨xs, q, Nat.le_refl _⟩, hd H p⟩
/-! ### o.f as one of several targets -/
def gFld (K : PySem.W.Frag) (to : TE) (f : Str) : TG := fun v σ H Q => to σ H fun x H1 => ∃ a C dx fs, x = .ref a ∧ H1 a = some (.ins C dx fs) ∧ Cls K C ∧ NoAttr K C f ∧ fs.length < 1000 ∧ Q σ (upd H1 a (.ins C dx (putF f v fs)))
theorem pg_fld {X : Cx} {o : Expr} {f : Str} {pos : Pos} {to : TE} (ho : PE X o to) : PG X (.Attribute o f pos) (gFld X.K to f) := by
  refine ⟨fun pins s σ H v u Q I r h => ?_⟩
  rw [assign_Attribute]
  refine wpAny_bind (wpAny_holding (thn (ho.run pins s σ H _ I h) fun ov s1 ⟨x, H1, I1, rx, a, C, dx, fs, ex, ea, c, n, l, q⟩ => ?_))
  subst ex
  obtain rfl : ov = Value.ref a := rx
  refine wpAny_bind (wpAny_standAt (wpAny_bind (wpAny_holding (setattr_ok I1 ea c n l r fun s2 I2 => ?_))))
  exact wpAny_release ⟨σ, _, I2, q⟩
/-! ### a comprehension within a comprehension -/
def FrIn (sc : Scope) : List Str → Prop
  | [] => True
  | n :: r => (sc.names.lookup n = some .cell ∨ sc.names.lookup n = some .free) ∧ FrIn sc r
def frees (scope : Scope) : List Str := (scope.names.filter fun y => y.2 == .free).map (·.1)
def blkD (N : List Str) (scope : Scope) (own : List (Str × Nat)) : Bool :=
  (match scope.kind with | .function => true | _ => false) && (scope.names.all fun y => decide (scope.names.lookup y.1 = some y.2)) && (own.all fun p => decide (N[p.2]? = some p.1)) &&
    (scope.names.all fun y => match y.2 with
      | .local => decide (y.1 ∈ own.map (·.1)) || decide (y.1 ∉ N)
      | .cell => decide (y.1 ∈ own.map (·.1)) || decide (y.1 ∉ N)
      | _ => true)
theorem FrIn.of {sc : Scope} : ∀ {l : List Str} {n : Str}, FrIn sc l → n ∈ l → sc.names.lookup n = some .cell ∨ sc.names.lookup n = some .free
  | [], _, _, h => by simp at h
  | a :: r, n, f, h => by
    rcases List.mem_cons.mp h with rfl | h
    · exact f.1
    · exact FrIn.of f.2 h
theorem blkOk_in {N : List Str} {sc scope : Scope} {own : List (Str × Nat)} (h : blkD N scope own = true) (hf : FrIn sc (frees scope)) : BlkOk N sc scope own := by
  unfold blkD at h
  simp only [Bool.and_eq_true, List.all_eq_true, decide_eq_true_eq] at h
  obtain ⟨⟨⟨h1, h2⟩, h3⟩, h4⟩ := h
  refine ⟨?_, h2, h3, fun y hy e => ?_, fun y hy e => ?_⟩
  · split at h1
    · assumption
    · cases h1
  · refine hf.of ?_
    unfold frees
    rw [List.mem_map]
    exact ⟨y, by rw [List.mem_filter]; exact ⟨hy, by rw [e]; rfl⟩, rfl⟩
  · have q := h4 y hy
    rcases e with e | e
    · rw [e] at q
      simpa using q
    · rw [e] at q
      simpa using q
/-- a comprehension over a list of two -/
theorem lc_two {K : PySem.W.Frag} {a : Addr} {v0 v1 : V} {g : TG} {tt : TT} {te : TE} {vs : List Nat} {σ : L2.St} {H1 : Hp} {D : Addr} {Qd : Hp → Prop} (P0 P1 P2 : Hp → Prop) (h0 : P0 (upd H1 D (.lst []))) (l0 : ∀ H, P0 H → SqL K H a [v0, v1]) (l1 : ∀ H, P1 H → SqL K H a [v0, v1]) (l2 : ∀ H, P2 H → SqL K H a [v0, v1])
    (s0 : ∀ H, P0 H → g v0 (wipe σ vs) H fun σ2 H2 => wipe σ2 vs = wipe σ vs ∧ tt σ2 H2 fun b H3 => if b = true then te σ2 H3 fun y H4 => ∃ acc, H4 D = some (.lst acc) ∧ acc.length < sizeLine ∧ P1 (upd H4 D (.lst (acc ++ [y]))) else P1 H3)
    (s1 : ∀ H, P1 H → g v1 (wipe σ vs) H fun σ2 H2 => wipe σ2 vs = wipe σ vs ∧ tt σ2 H2 fun b H3 => if b = true then te σ2 H3 fun y H4 => ∃ acc, H4 D = some (.lst acc) ∧ acc.length < sizeLine ∧ P2 (upd H4 D (.lst (acc ++ [y]))) else P2 H3)
    (hd : ∀ H, P2 H → Qd H) : LcW (Itl K a) g tt te vs σ H1 D Qd := by
  refine lc_list (K := K) (a := a) (xs := [v0, v1]) (fun i H => match i with | 0 => P0 H | 1 => P1 H | _ => P2 H) h0 ?_ ?_ hd
  · intro i H hi p
    match i, p with
    | 0, p => exact l0 H p
    | 1, p => exact l1 H p
    | _ + 2, p => exact l2 H p
  · intro i x H hx p
    match i, hx, p with
    | 0, hx, p =>
      have e : v0 = x := Option.some.inj hx
      subst e
      exact s0 H p
    | 1, hx, p =>
      have e : v1 = x := Option.some.inj hx
      subst e
      exact s1 H p
    | n + 2, hx, p => simp at hx
/-- a loop over 0, 1 -/
theorem for_two {g : TG} {tb : TS} {D : Ends} {σ : L2.St} {H : Hp} (P0 P1 P2 : L2.St → Hp → Prop) (h0 : P0 σ H)
    (s0 : ∀ σ H, P0 σ H → g (.int 0) σ H fun σ2 H2 => tb { D with nx := P1, ct := P1, bk := D.nx } σ2 H2)
    (s1 : ∀ σ H, P1 σ H → g (.int 1) σ H fun σ2 H2 => tb { D with nx := P2, ct := P2, bk := D.nx } σ2 H2)
    (hd : ∀ σ H, P2 σ H → D.nx σ H) : ForW (Itr 0 2) g tb D σ H := by
  refine for_range (lo := 0) (n := 2) (fun i σ H => match i with | 0 => P0 σ H | 1 => P1 σ H | _ => P2 σ H) h0 ?_ hd
  intro i σ H hi p
  match i, hi, p with
  | 0, _, p => exact s0 σ H p
  | 1, _, p => exact s1 σ H p
/-! ### where ways come together -/
/-- behind t N holds, and from N on the rest goes -/
def tCut (t : TS) : TS := fun D σ H => ∃ N : L2.St → Hp → Prop, t { D with nx := N } σ H ∧ ∀ σ' H', N σ' H' → D.nx σ' H'
theorem ps_cut {X : Cx} {st : Stmt} {t : TS} (h : PS X st t) : PS X st (tCut t) := ⟨fun pins s σ H D I ⟨N, h1, h2⟩ => thn (h.run pins s σ H { D with nx := N } I h1) fun f s' q => by
  cases f with
  | next =>
    obtain ⟨σ', H', I', n⟩ := q
    exact ⟨σ', H', I', h2 _ _ n⟩
  | brk => exact q
  | cont => exact q
  | ret u => exact q⟩
/-- the same of an expression: its value, and of a test -/
def tCutE (t : TE) : TE := fun σ H Q => ∃ N : VK, t σ H N ∧ ∀ v H', N v H' → Q v H'
theorem pe_cut {X : Cx} {e : Expr} {t : TE} (h : PE X e t) : PE X e (tCutE t) := ⟨fun pins s σ H Q I ⟨N, h1, h2⟩ => thn (h.run pins s σ H N I h1) fun u s' ⟨x, H', I', r, n⟩ => ⟨x, H', I', r, h2 _ _ n⟩⟩
def tCutT (t : TT) : TT := fun σ H Q => ∃ N : Bool → Hp → Prop, t σ H N ∧ ∀ b H', N b H' → Q b H'
theorem pt_cut {X : Cx} {e : Expr} {t : TT} (h : PT X e t) : PT X e (tCutT t) := ⟨fun pins s σ H Q I ⟨N, h1, h2⟩ => thn (h.run pins s σ H N I h1) fun c s' ⟨H', I', n⟩ => ⟨H', I', h2 _ _ n⟩⟩
/-! ### set(t), t a tuple of whole numbers -/
section
variable {X : Cx}
def rSetT (K : PySem.W.Frag) (w : World) : List V → Hp → VK → Prop := fun xs H Q => ∃ (p : Addr) (ns : List Int), xs = [.ref p] ∧ SqT K H p (ns.map V.int) ∧ ns.length ≤ 1000 ∧
  ∀ (q : Addr) (c : Nat), H q = none → c ≤ ns.length → Q (.ref q) (upd H q (SetO w q (fun j => decide (j ∈ ns)) c))
theorem cr_setT (hc : X.calm = true) : CallR X (.type "set") (rSetT X.K X.w) := by
  intro pins s σ H xs us Q I rv h
  obtain ⟨p0, ns, rfl, hq, hl, q⟩ := h
  cases rv with
  | cons r rr =>
    cases rr
    cases r
    obtain ⟨its, rv, pt, hz⟩ := I.tuple hq
    have hi : IntsAre its.toArray.toList ns := ints_of_vals rv
    refine call_set_tupI ns (I.ok.hd hc) (show s.heap.IsTuple p0 its.toArray from pt) hi (by unfold scanBound; omega) fun h' tk c R1 hcn k => ?_
    exact ⟨.ref _, upd H s.heap.objs.size (SetO X.w s.heap.objs.size (fun j => decide (j ∈ ns)) c), I.laid (t' := tk) k (Nat.le_refl _) (setO_new R1), rfl, q _ _ (I.hok.fresh (Nat.le_refl _)) hcn⟩
/-! ### xs.count(y), flat items -/
def rCountF (K : PySem.W.Frag) : V → List V → Hp → VK → Prop := fun x xs H Q => ∃ (p : Addr) (ys : List V) (y : V), x = .ref p ∧ xs = [y] ∧ SqL K H p ys ∧ flatV y = true ∧ ys.all flatV = true ∧ Q (.int (ys.countP (fun z => eqV z y) : Nat)) H
theorem countP_eqU {y : V} : ∀ {ys : List V} {us : List Value}, Vals ys us → ys.all flatV = true → us.countP (eqU y) = ys.countP (fun z => eqV z y)
  | _, _, .nil, _ => rfl
  | _, _, .cons r t, f => by
    simp only [List.all_cons, Bool.and_eq_true] at f
    rw [List.countP_cons, List.countP_cons, countP_eqU t f.2, eqU_of r f.1]
theorem mt_countF : MtR X "list.count" (rCountF X.K) := by
  intro pins s σ H x xs v us Q I rx rxs h
  obtain ⟨p, ys, y, rfl, rfl, hs, fy, fys, q⟩ := h
  cases rx
  obtain ⟨u, rfl, ru⟩ := rxs.one
  obtain ⟨its, rv, ⟨⟨cls, dd, data, sl⟩, n, ho, hc, hdn, hd⟩, hlen⟩ := I.list hs
  simp only at hc hd
  subst hc hd
  refine call_meets PySem.F.slot_list_count ⟨_, ho, rfl⟩ PySem.F.entry_list_count (PySem.F.args_list_count_2 _ _)
    (SeqAt.list_countAt p its.toArray n dd sl u (eqU y)) ⟨ho, fun z hz => mem_eqAt ru fy rv fys z (by simpa using hz), ?_⟩
  have ec : its.toArray.toList.countP (eqU y) = ys.countP (fun z => eqV z y) := countP_eqU rv fys
  refine ⟨.int (ys.countP (fun z => eqV z y) : Nat), H, I.tok _, ⟨s.toks, ?_⟩, q⟩
  show Value.int ((its.toArray.toList.countP (eqU y) : Nat) : Int) s.toks = Value.int ((ys.countP (fun z => eqV z y) : Nat) : Int) s.toks
  rw [ec]
end
theorem count_int (ns : List Int) (k : Int) : (ns.map V.int).countP (fun z => eqV z (.int k)) = ns.count k := by
  induction ns with
  | nil => rfl
  | cons a r ih =>
    rw [List.map_cons, List.countP_cons, ih, List.count_cons]
    rfl
/-! ### data and ints -/
theorem flat_ints (ns : List Int) : (ns.map V.int).all flatV = true := by
  rw [List.all_map, List.all_eq_true]
  intro _ _
  rfl
theorem inV_int (k : Int) (ns : List Int) : inV (.int k) (ns.map V.int) = decide (k ∈ ns) := by
  unfold inV
  rw [List.any_map]
  induction ns with
  | nil => rfl
  | cons a r ih =>
    rw [List.any_cons, ih]
    show (a == k || decide (k ∈ r)) = _
    by_cases e : a = k
    · subst e; simp
    · have e' : ¬ k = a := fun z => e z.symm
      simp [e, e']
end TL

namespace L2
open PySem PySem.Spec PyProof.Rows
mutual
theorem Dp.same {K : PySem.W.Frag} {H H' : Hp} (e : Same H H') : ∀ {x : V} {d : PyData}, Dp K H x d → Dp K H' x d
  | _, _, .non => .non
  | _, _, .bl b => .bl b
  | _, _, .int i => .int i
  | _, _, .str z => .str z
  | _, _, .lst h a => .lst (e.seq h) (DpAll.same e a)
  | _, _, .tup h a => .tup (by
      rcases h with (h | ⟨o, h⟩) | h
      · exact .inl (.inl (e _ _ h))
      · exact .inl (.inr ⟨o, e _ _ h⟩)
      · exact .inr h) (DpAll.same e a)
theorem DpAll.same {K : PySem.W.Frag} {H H' : Hp} (e : Same H H') : ∀ {xs : List V} {ds : List PyData}, DpAll K H xs ds → DpAll K H' xs ds
  | _, _, .nil => .nil
  | _, _, .cons h t => .cons (Dp.same e h) (DpAll.same e t)
end
theorem SqT_same {K : PySem.W.Frag} {H H' : Hp} {a : Addr} {xs : List V} (e : Same H H') (h : SqT K H a xs) : SqT K H' a xs := by
  rcases h with (h | ⟨o, h⟩) | h
  · exact .inl (.inl (e _ _ h))
  · exact .inl (.inr ⟨o, e _ _ h⟩)
  · exact .inr h
theorem DpAll.length {K : PySem.W.Frag} {H : Hp} : ∀ {xs : List V} {ds : List PyData}, DpAll K H xs ds → xs.length = ds.length
  | _, _, .nil => rfl
  | _, _, .cons _ t => by rw [List.length_cons, List.length_cons, DpAll.length t]
theorem DpAll.get {K : PySem.W.Frag} {H : Hp} : ∀ {xs : List V} {ds : List PyData} {i : Nat} {d : PyData}, DpAll K H xs ds → ds[i]? = some d → ∃ x, xs[i]? = some x ∧ Dp K H x d
  | _, _, i, d, .nil, e => by simp at e
  | _, _, 0, d, .cons h t, e => by simp at e; subst e; exact ⟨_, rfl, h⟩
  | _, _, i + 1, d, .cons h t, e => by
    obtain ⟨x, h1, h2⟩ := DpAll.get (i := i) (d := d) t (by simpa using e)
    exact ⟨x, by simpa using h1, h2⟩
theorem dp_ints {K : PySem.W.Frag} {H : Hp} : ∀ ns : List Int, DpAll K H (ns.map V.int) (ns.map PyData.int)
  | [] => .nil
  | n :: r => .cons (.int n) (dp_ints r)
theorem DpAll.append {K : PySem.W.Frag} {H : Hp} : ∀ {xs ys : List V} {ds es : List PyData}, DpAll K H xs ds → DpAll K H ys es → DpAll K H (xs ++ ys) (ds ++ es)
  | _, _, _, _, .nil, b => b
  | _, _, _, _, .cons h t, b => .cons h (DpAll.append t b)
theorem DpAll.get' {K : PySem.W.Frag} {H : Hp} : ∀ {xs : List V} {ds : List PyData} {i : Nat} {x : V}, DpAll K H xs ds → xs[i]? = some x → ∃ d, ds[i]? = some d ∧ Dp K H x d
  | _, _, i, d, .nil, e => by simp at e
  | _, _, 0, d, .cons h t, e => by simp at e; subst e; exact ⟨_, rfl, h⟩
  | _, _, i + 1, d, .cons h t, e => by
    obtain ⟨x, h1, h2⟩ := DpAll.get' (i := i) (x := d) t (by simpa using e)
    exact ⟨x, by simpa using h1, h2⟩
theorem DpAll.ints_inv {K : PySem.W.Frag} {H : Hp} : ∀ {xs : List V} {ns : List Int}, DpAll K H xs (ns.map .int) → xs = ns.map V.int
  | _, [], .nil => rfl
  | _, n :: r, .cons h t => by
    cases h
    rw [List.map_cons, DpAll.ints_inv t]
end L2
namespace TL
open PySem PySem.Spec PyProof.Rows L2
/-! ### isinstance, by the kinds -/
theorem kb_ii : kitB "int" "int" = some true := by decide +kernel
theorem kb_ib : kitB "int" "bool" = some false := by decide +kernel
theorem kb_is : kitB "int" "str" = some false := by decide +kernel
theorem kb_it : kitB "int" "tuple" = some false := by decide +kernel
theorem kb_il : kitB "int" "list" = some false := by decide +kernel
theorem kb_bi : kitB "bool" "int" = some true := by decide +kernel
theorem kb_bb : kitB "bool" "bool" = some true := by decide +kernel
theorem kb_bt : kitB "bool" "tuple" = some false := by decide +kernel
theorem kb_bs : kitB "bool" "str" = some false := by decide +kernel
theorem kb_si : kitB "str" "int" = some false := by decide +kernel
theorem kb_sb : kitB "str" "bool" = some false := by decide +kernel
theorem kb_ss : kitB "str" "str" = some true := by decide +kernel
theorem kb_st : kitB "str" "tuple" = some false := by decide +kernel
theorem kb_ni : kitB "NoneType" "int" = some false := by decide +kernel
theorem kb_nb : kitB "NoneType" "bool" = some false := by decide +kernel
theorem kb_nt : kitB "NoneType" "tuple" = some false := by decide +kernel
theorem kb_ns : kitB "NoneType" "str" = some false := by decide +kernel
theorem kb_ti : kitB "tuple" "int" = some false := by decide +kernel
theorem kb_tb : kitB "tuple" "bool" = some false := by decide +kernel
theorem kb_ts : kitB "tuple" "str" = some false := by decide +kernel
theorem kb_tt : kitB "tuple" "tuple" = some true := by decide +kernel
theorem kb_tl : kitB "tuple" "list" = some false := by decide +kernel
theorem kb_li : kitB "list" "int" = some false := by decide +kernel
theorem kb_lb : kitB "list" "bool" = some false := by decide +kernel
theorem kb_ls : kitB "list" "str" = some false := by decide +kernel
theorem kb_lt : kitB "list" "tuple" = some false := by decide +kernel
theorem kb_ll : kitB "list" "list" = some true := by decide +kernel
theorem tyx_L {K : PySem.W.Frag} {H : Hp} {a : Addr} {xs : List V} (h : SqL K H a xs) : TyX K H (.ref a) (.type "list") := by
  rcases h with (h | ⟨o, h⟩) | ⟨o, its, n, hk, hc, _⟩
  · exact .base (.lst h)
  · exact .base (.frz h)
  · exact .kList hk hc
theorem tyx_T {K : PySem.W.Frag} {H : Hp} {a : Addr} {xs : List V} (h : SqT K H a xs) : TyX K H (.ref a) (.type "tuple") := by
  rcases h with (h | ⟨o, h⟩) | ⟨o, its, n, hk, hc, _⟩
  · exact .base (.tup h)
  · exact .fTuple h
  · exact .kTuple hk hc
/-- what is, by its kind: the type that isinstance asks -/
def kty : PyData → String
  | .none => "NoneType" | .bool _ => "bool" | .int _ => "int" | .str _ => "str" | .list _ => "list" | .tuple _ => "tuple" | .dict _ => "dict"
theorem tyx_D {K : PySem.W.Frag} {H : Hp} {x : V} {d : PyData} (h : Dp K H x d) : TyX K H x (.type (kty d)) := by
  cases h with
  | non => exact .base .non
  | bl b => exact .base (.bl b)
  | int i => exact .base (.int i)
  | str z => exact .base (.str z)
  | lst h _ => exact tyx_L h
  | tup h _ => exact tyx_T h
/-- isinstance(x, c) of data -/
theorem isi_D {K : PySem.W.Frag} {H : Hp} {x : V} {d : PyData} {c : String} {b : Bool} {Q : VK} (h : Dp K H x d) (k : kitB (kty d) c = some b) (q : Q (.bl b) H) : rIsi K [x, .ty c] H Q :=
  ⟨x, .ty c, _, _, b, rfl, .ty c, tyx_D h, kit_ty k, q⟩
/-- numbers, texts, truths, None, lists and tuples of these, nested no more than n deep -/
def lv : Nat → PyData → Prop
  | _, .none => True | _, .bool _ => True | _, .int _ => True | _, .str x => (PyData.str x).canLay0 = true
  | n + 1, .list ds => ds.length ≤ 100000 ∧ ∀ d ∈ ds, lv n d
  | n + 1, .tuple ds => ds.length ≤ 100000 ∧ ∀ d ∈ ds, lv n d
  | _, _ => False
/-- such data are laid out and compared -/
theorem lv_ok : ∀ (n : Nat) (d : PyData), lv n d → d.canLay0 = true ∧ d.depth ≤ n
  | _, .none, _ => ⟨rfl, by simp [PyData.depth]⟩
  | _, .bool _, _ => ⟨rfl, by simp [PyData.depth]⟩
  | _, .int _, _ => ⟨rfl, by simp [PyData.depth]⟩
  | _, .str _, h => ⟨by simpa [lv] using h, by simp [PyData.depth]⟩
  | 0, .list _, h => by simp [lv] at h
  | 0, .tuple _, h => by simp [lv] at h
  | n + 1, .list ds, h => by
    simp only [lv] at h
    have q : ∀ es : List PyData, (∀ d ∈ es, lv n d) → PyData.canLayAll0 es = true ∧ PyData.depthAll es ≤ n := by
      intro es
      induction es with
      | nil => intro _; exact ⟨rfl, by simp [PyData.depthAll]⟩
      | cons e r ih =>
        intro z
        obtain ⟨a1, a2⟩ := lv_ok n e (z e (by simp))
        obtain ⟨b1, b2⟩ := ih fun d hd => z d (by simp [hd])
        exact ⟨by simp [PyData.canLayAll0, a1, b1], by simp only [PyData.depthAll]; omega⟩
    obtain ⟨q1, q2⟩ := q ds h.2
    exact ⟨by simpa [PyData.canLay0] using q1, by simp only [PyData.depth]; omega⟩
  | n + 1, .tuple ds, h => by
    simp only [lv] at h
    have q : ∀ es : List PyData, (∀ d ∈ es, lv n d) → PyData.canLayAll0 es = true ∧ PyData.depthAll es ≤ n := by
      intro es
      induction es with
      | nil => intro _; exact ⟨rfl, by simp [PyData.depthAll]⟩
      | cons e r ih =>
        intro z
        obtain ⟨a1, a2⟩ := lv_ok n e (z e (by simp))
        obtain ⟨b1, b2⟩ := ih fun d hd => z d (by simp [hd])
        exact ⟨by simp [PyData.canLayAll0, a1, b1], by simp only [PyData.depthAll]; omega⟩
    obtain ⟨q1, q2⟩ := q ds h.2
    exact ⟨by simpa [PyData.canLay0] using q1, by simp only [PyData.depth]; omega⟩
  | 0, .dict _, h => by simp [lv] at h
  | _ + 1, .dict _, h => by simp [lv] at h
theorem shaped_lv {n : Nat} {d : PyData} (h : lv n d) (hn : n ≤ 64) : SeqAt.shaped d = true := by
  obtain ⟨a, b⟩ := lv_ok n d h
  unfold SeqAt.shaped
  rw [a, decide_eq_true (Nat.le_trans b hn)]
  rfl
theorem eqvAll_ints : ∀ ns ms : List Int, PyData.eqvAll (ns.map .int) (ms.map .int) = decide (ns = ms)
  | [], [] => rfl
  | [], _ :: _ => rfl
  | _ :: _, [] => rfl
  | a :: r, b :: s => by
    rw [List.map_cons, List.map_cons]
    show (PyData.eqv (.int a) (.int b) && PyData.eqvAll _ _) = _
    rw [eqvAll_ints r s]
    show ((a == b) && decide (r = s)) = _
    by_cases h : a = b
    · subst h; simp
    · simp [h]
theorem canLay_ints (ns : List Int) : (PyData.list (ns.map .int)).canLay0 = true := by
  induction ns with
  | nil => rfl
  | cons a r ih => exact ih
theorem depth_ints (ns : List Int) : (PyData.list (ns.map .int)).depth ≤ 2 := by
  induction ns with
  | nil => decide
  | cons a r ih =>
    revert ih
    simp only [PyData.depth, PyData.depthAll, List.map_cons]
    omega
theorem shaped_ints (ns : List Int) : SeqAt.shaped (.list (ns.map .int)) = true := by
  unfold SeqAt.shaped
  rw [canLay_ints, decide_eq_true (Nat.le_trans (depth_ints ns) (by decide))]
  rfl
/-! ### what can't be changed: numbers, texts, truths, None, tuples of these -/
mutual
inductive Im (H : Hp) : V → PyData → Prop
  | non : Im H .non .none
  | bl (b : Bool) : Im H (.bl b) (.bool b)
  | int (i : Int) : Im H (.int i) (.int i)
  | str (x : Str) : Im H (.str x) (.str x)
  | tup {a : Addr} {xs : List V} {ds : List PyData} : H a = some (.tup xs) → ImAll H xs ds → Im H (.ref a) (.tuple ds)
inductive ImAll (H : Hp) : List V → List PyData → Prop
  | nil : ImAll H [] []
  | cons {v : V} {vs : List V} {d : PyData} {ds : List PyData} : Im H v d → ImAll H vs ds → ImAll H (v :: vs) (d :: ds)
end
mutual
theorem Im.dp {K : PySem.W.Frag} {H : Hp} : ∀ {x : V} {d : PyData}, Im H x d → Dp K H x d
  | _, _, .non => .non
  | _, _, .bl b => .bl b
  | _, _, .int i => .int i
  | _, _, .str z => .str z
  | _, _, .tup h a => .tup (SqT.of h) (ImAll.dp a)
theorem ImAll.dp {K : PySem.W.Frag} {H : Hp} : ∀ {xs : List V} {ds : List PyData}, ImAll H xs ds → DpAll K H xs ds
  | _, _, .nil => .nil
  | _, _, .cons h t => .cons (Im.dp h) (ImAll.dp t)
end
mutual
theorem Im.frm {S : List Addr} {H H' : Hp} (e : Frm S H H') : ∀ {x : V} {d : PyData}, Im H x d → Im H' x d
  | _, _, .non => .non
  | _, _, .bl b => .bl b
  | _, _, .int i => .int i
  | _, _, .str z => .str z
  | _, _, .tup h a => .tup (e.tups _ _ h) (ImAll.frm e a)
theorem ImAll.frm {S : List Addr} {H H' : Hp} (e : Frm S H H') : ∀ {xs : List V} {ds : List PyData}, ImAll H xs ds → ImAll H' xs ds
  | _, _, .nil => .nil
  | _, _, .cons h t => .cons (Im.frm e h) (ImAll.frm e t)
end
theorem ImAll.same {H H' : Hp} {xs : List V} {ds : List PyData} (h : ImAll H xs ds) (e : Same H H') : ImAll H' xs ds := h.frm (S := []) (.of_same e)
theorem Im.same {H H' : Hp} {x : V} {d : PyData} (h : Im H x d) (e : Same H H') : Im H' x d := h.frm (S := []) (.of_same e)
theorem ImAll.new {H : Hp} {xs : List V} {ds : List PyData} {p : Addr} {o : HO} (h : ImAll H xs ds) (n : H p = none) : ImAll (upd H p o) xs ds := h.same (Same.upd_new n)
theorem Im.new {H : Hp} {x : V} {d : PyData} {p : Addr} {o : HO} (h : Im H x d) (n : H p = none) : Im (upd H p o) x d := h.same (Same.upd_new n)
theorem ImAll.updL {H : Hp} {xs : List V} {ds : List PyData} {p : Addr} {o : HO} {ys : List V} (h : ImAll H xs ds) (n : H p = some (.lst ys)) : ImAll (upd H p o) xs ds := h.frm (Frm.updL n)
theorem Im.updL {H : Hp} {x : V} {d : PyData} {p : Addr} {o : HO} {ys : List V} (h : Im H x d) (n : H p = some (.lst ys)) : Im (upd H p o) x d := h.frm (Frm.updL n)
theorem ImAll.length {H : Hp} : ∀ {xs : List V} {ds : List PyData}, ImAll H xs ds → xs.length = ds.length
  | _, _, .nil => rfl
  | _, _, .cons _ t => by rw [List.length_cons, List.length_cons, ImAll.length t]
theorem ImAll.append {H : Hp} : ∀ {xs ys : List V} {ds es : List PyData}, ImAll H xs ds → ImAll H ys es → ImAll H (xs ++ ys) (ds ++ es)
  | _, _, _, _, .nil, b => b
  | _, _, _, _, .cons h t, b => .cons h (ImAll.append t b)
theorem ImAll.get {H : Hp} : ∀ {xs : List V} {ds : List PyData} {i : Nat} {d : PyData}, ImAll H xs ds → ds[i]? = some d → ∃ x, xs[i]? = some x ∧ Im H x d
  | _, _, i, d, .nil, e => by simp at e
  | _, _, 0, d, .cons h t, e => by simp at e; subst e; exact ⟨_, rfl, h⟩
  | _, _, i + 1, d, .cons h t, e => by
    obtain ⟨x, h1, h2⟩ := ImAll.get (i := i) (d := d) t (by simpa using e)
    exact ⟨x, by simpa using h1, h2⟩
theorem ImAll.get' {H : Hp} : ∀ {xs : List V} {ds : List PyData} {i : Nat} {x : V}, ImAll H xs ds → xs[i]? = some x → ∃ d, ds[i]? = some d ∧ Im H x d
  | _, _, i, d, .nil, e => by simp at e
  | _, _, 0, d, .cons h t, e => by simp at e; subst e; exact ⟨_, rfl, h⟩
  | _, _, i + 1, d, .cons h t, e => by
    obtain ⟨x, h1, h2⟩ := ImAll.get' (i := i) (x := d) t (by simpa using e)
    exact ⟨x, by simpa using h1, h2⟩
theorem ImAll.take {H : Hp} : ∀ {xs : List V} {ds : List PyData} (n : Nat), ImAll H xs ds → ImAll H (xs.take n) (ds.take n)
  | _, _, 0, _ => .nil
  | _, _, n + 1, .nil => .nil
  | _, _, n + 1, .cons h t => .cons h (ImAll.take n t)
theorem ImAll.drop {H : Hp} : ∀ {xs : List V} {ds : List PyData} (n : Nat), ImAll H xs ds → ImAll H (xs.drop n) (ds.drop n)
  | _, _, 0, h => h
  | _, _, n + 1, .nil => .nil
  | _, _, n + 1, .cons h t => ImAll.drop n t
theorem ImAll.set {H : Hp} {x : V} {d : PyData} (h : Im H x d) : ∀ {xs : List V} {ds : List PyData} (n : Nat), ImAll H xs ds → ImAll H (xs.set n x) (ds.set n d)
  | _, _, _, .nil => .nil
  | _, _, 0, .cons _ t => .cons h t
  | _, _, n + 1, .cons g t => .cons g (ImAll.set h n t)
theorem ImAll.rep {H : Hp} {xs : List V} {ds : List PyData} (h : ImAll H xs ds) : ∀ n : Nat, ImAll H (List.replicate n xs).flatten (List.replicate n ds).flatten
  | 0 => .nil
  | n + 1 => by
    rw [List.replicate_succ, List.replicate_succ, List.flatten_cons, List.flatten_cons]
    exact h.append (ImAll.rep h n)
theorem im_ints {H : Hp} : ∀ ns : List Int, ImAll H (ns.map V.int) (ns.map PyData.int)
  | [] => .nil
  | n :: r => .cons (.int n) (im_ints r)
mutual
theorem eqv_refl : ∀ {n : Nat} {d : PyData}, lv n d → PyData.eqv d d = true
  | _, .none, _ => rfl
  | _, .bool b, _ => by simp [PyData.eqv]
  | _, .int i, _ => by simp [PyData.eqv]
  | _, .str z, _ => by simp [PyData.eqv]
  | 0, .list _, h => by simp [lv] at h
  | 0, .tuple _, h => by simp [lv] at h
  | n + 1, .list ds, h => by
    simp only [lv] at h
    simp only [PyData.eqv]
    exact eqvAll_refl h.2
  | n + 1, .tuple ds, h => by
    simp only [lv] at h
    simp only [PyData.eqv]
    exact eqvAll_refl h.2
  | 0, .dict _, h => by simp [lv] at h
  | _ + 1, .dict _, h => by simp [lv] at h
theorem eqvAll_refl : ∀ {n : Nat} {ds : List PyData}, (∀ d ∈ ds, lv n d) → PyData.eqvAll ds ds = true
  | _, [], _ => rfl
  | n, d :: r, h => by
    simp only [PyData.eqvAll, Bool.and_eq_true]
    exact ⟨eqv_refl (h d (by simp)), eqvAll_refl (n := n) fun x hx => h x (by simp [hx])⟩
end
theorem lv_mono : ∀ {n : Nat} {d : PyData}, lv n d → lv (n + 1) d
  | _, .none, _ => by simp [lv]
  | _, .bool b, _ => by simp [lv]
  | _, .int i, _ => by simp [lv]
  | _, .str z, h => by simpa [lv] using h
  | 0, .list _, h => by simp [lv] at h
  | 0, .tuple _, h => by simp [lv] at h
  | n + 1, .list ds, h => by
    simp only [lv] at h ⊢
    exact ⟨h.1, fun d hd => lv_mono (h.2 d hd)⟩
  | n + 1, .tuple ds, h => by
    simp only [lv] at h ⊢
    exact ⟨h.1, fun d hd => lv_mono (h.2 d hd)⟩
  | 0, .dict _, h => by simp [lv] at h
  | _ + 1, .dict _, h => by simp [lv] at h
end TL

namespace TL
open PySem PySem.Spec PyProof.Rows L2
/-- the dice: a list of whole numbers, two at least -/
def DiceAt (H : Hp) (d : Addr) : Prop := ∃ ns : List Int, H d = some (.lst (ns.map V.int)) ∧ 2 ≤ ns.length ∧ ns.length ≤ 65
theorem DiceAt.frm {S : List Addr} {H H' : Hp} {d : Addr} (h : DiceAt H d) (e : Frm S H H') (n : d ∉ S) : DiceAt H' d := by
  obtain ⟨ns, h1, h2⟩ := h
  exact ⟨ns, e _ _ h1 n, h2⟩
theorem DiceAt.upd_ne {H : Hp} {d l : Addr} {o : HO} (h : DiceAt H d) (n : d ≠ l) : DiceAt (upd H l o) d := by
  obtain ⟨ns, h1, h2⟩ := h
  exact ⟨ns, by rw [L2.upd_ne n]; exact h1, h2⟩
theorem DiceAt.same {H H' : Hp} {d : Addr} (h : DiceAt H d) (e : Same H H') : DiceAt H' d := by
  obtain ⟨ns, h1, h2⟩ := h
  exact ⟨ns, e _ _ h1, h2⟩
theorem DiceAt.new {H : Hp} {d l : Addr} {o : HO} (h : DiceAt H d) (n : H l = none) : DiceAt (upd H l o) d := h.same (Same.upd_new n)
theorem DiceAt.ne_new {H : Hp} {d l : Addr} (h : DiceAt H d) (n : H l = none) : l ≠ d := by
  obtain ⟨ns, h1, h2⟩ := h
  exact fun e => by rw [e, h1] at n; cases n
theorem DiceAt.ne_tup {H : Hp} {d t : Addr} {xs : List V} (h : DiceAt H d) (e : H t = some (.tup xs)) : t ≠ d := by
  obtain ⟨ns, h1, h2⟩ := h
  exact ne_of e h1 (by intro q; cases q)
/-! ### manners -/
def intOf : PyData → Int
  | .int i => i
  | _ => 0
/-- a number within bounds -/
def between : PyData → Int → Int → Bool
  | .int i, lo, hi => decide (lo ≤ i) && decide (i ≤ hi)
  | _, _, _ => false
def isMan : PyData → Bool
  | .tuple ds => ds.all (fun e => between e 0 9) && (decide ((ds.map intOf).Pairwise (· < ·)) && decide (0 ∈ ds.map intOf))
  | _ => false
/-- what may be handed in in the place of manners -/
def mdat : PyData → Prop
  | .list _ => False
  | .dict _ => False
  | .str x => (PyData.str x).canLay0 = true
  | .tuple ds => ds.length ≤ 60 ∧ ∀ e ∈ ds, (∀ l, e ≠ .list l) ∧ lv 1 e
  | _ => True
theorem mdat.nolist {d : PyData} (h : mdat d) : ∀ ds, d ≠ .list ds := fun ds e => by subst e; exact h
theorem ints_of_between : ∀ {ds : List PyData}, ds.all (fun e => between e 0 9) = true → ds = (ds.map intOf).map .int
  | [], _ => rfl
  | d :: r, h => by
    rw [List.all_cons, Bool.and_eq_true] at h
    rw [List.map_cons, List.map_cons, ← ints_of_between h.2]
    cases d with
    | int i => rfl
    | _ => exact absurd h.1 (by simp [between])
theorem between_of {ds : List PyData} (h : ds.all (fun e => between e 0 9) = true) : ∀ i ∈ ds.map intOf, 0 ≤ i ∧ i ≤ 9 := fun i hi => by
  obtain ⟨d, hd, rfl⟩ := List.mem_map.mp hi
  have q := List.all_eq_true.mp h d hd
  cases d with
  | int j => simpa [between, intOf] using q
  | _ => exact absurd q (by simp [between])
/-- manners as numbers -/
def Can (ms : List Int) : Prop := (∀ i ∈ ms, 0 ≤ i ∧ i ≤ 9) ∧ ms.Pairwise (· < ·) ∧ 0 ∈ ms ∧ ms.length ≤ 60
theorem isMan_ints {ms : List Int} (h : Can ms) : isMan (.tuple (ms.map .int)) = true := by
  have e : (ms.map PyData.int).map intOf = ms := by
    rw [List.map_map]
    have : (intOf ∘ PyData.int) = id := rfl
    rw [this, List.map_id]
  simp only [isMan]
  rw [e, decide_eq_true h.2.1, decide_eq_true h.2.2.1]
  simp only [Bool.and_true, List.all_map, List.all_eq_true]
  intro i hi
  have := h.1 i hi
  simp [between, this]
theorem mdat_ints {ms : List Int} (h : ms.length ≤ 60) : mdat (.tuple (ms.map .int)) := by
  refine ⟨by rw [List.length_map]; exact h, fun e he => ?_⟩
  obtain ⟨i, _, rfl⟩ := List.mem_map.mp he
  exact ⟨fun l z => PyData.noConfusion z, trivial⟩
theorem sorted_ext : ∀ {a b : List Int}, a.Pairwise (· < ·) → b.Pairwise (· < ·) → (∀ k, k ∈ a ↔ k ∈ b) → a = b
  | [], [], _, _, _ => rfl
  | [], y :: s, _, _, h => absurd ((h y).mpr (by simp)) (by simp)
  | x :: r, [], _, _, h => absurd ((h x).mp (by simp)) (by simp)
  | x :: r, y :: s, ha, hb, h => by
    rw [List.pairwise_cons] at ha hb
    have hxy : x = y := by
      rcases List.mem_cons.mp ((h x).mp (by simp)) with e | e
      · exact e
      · rcases List.mem_cons.mp ((h y).mpr (by simp)) with e' | e'
        · exact e'.symm
        · have := ha.1 y e'
          have := hb.1 x e
          omega
    subst hxy
    rw [sorted_ext ha.2 hb.2 fun k => ?_]
    constructor
    · intro hk
      rcases List.mem_cons.mp ((h k).mp (by simp [hk])) with e | e
      · have := ha.1 k hk
        omega
      · exact e
    · intro hk
      rcases List.mem_cons.mp ((h k).mpr (by simp [hk])) with e | e
      · have := hb.1 k hk
        omega
      · exact e
/-- the greatest that both can and that isn't bad -/
def chosenF (one other bad : List Int) : Int := (one.filter fun m => decide (m ∈ other) && !decide (m ∈ bad)).foldl max 0
def IsChosen (one other bad : List Int) (m : Int) : Prop := (m = 0 ∨ (m ∈ one ∧ m ∈ other ∧ m ∉ bad)) ∧ 0 ≤ m ∧ ∀ y ∈ one, y ∈ other → y ∉ bad → y ≤ m
theorem foldl_max : ∀ (l : List Int) (a : Int), a ≤ l.foldl max a ∧ (∀ y ∈ l, y ≤ l.foldl max a) ∧ (l.foldl max a = a ∨ l.foldl max a ∈ l)
  | [], a => ⟨Int.le_refl _, by simp, .inl rfl⟩
  | x :: r, a => by
    obtain ⟨h1, h2, h3⟩ := foldl_max r (max a x)
    rw [List.foldl_cons]
    refine ⟨by omega, fun y hy => ?_, ?_⟩
    · rcases List.mem_cons.mp hy with rfl | hy
      · omega
      · exact h2 y hy
    · rcases h3 with h3 | h3
      · rw [h3]
        by_cases hax : a ≤ x
        · right
          rw [Int.max_eq_right hax]
          simp
        · left
          exact Int.max_eq_left (by omega)
      · right
        exact List.mem_cons_of_mem _ h3
theorem isChosen_F (one other bad : List Int) : IsChosen one other bad (chosenF one other bad) := by
  obtain ⟨h1, h2, h3⟩ := foldl_max (one.filter fun m => decide (m ∈ other) && !decide (m ∈ bad)) 0
  refine ⟨?_, h1, fun y h4 h5 h6 => h2 y ?_⟩
  · rcases h3 with h3 | h3
    · exact .inl h3
    · right
      have := List.mem_filter.mp h3
      simp only [Bool.and_eq_true, decide_eq_true_eq, Bool.not_eq_true', decide_eq_false_iff_not] at this
      exact this
  · rw [List.mem_filter]
    simp [h4, h5, h6]
theorem IsChosen.unique {one other bad : List Int} {m k : Int} (a : IsChosen one other bad m) (b : IsChosen one other bad k) : m = k := by
  have h1 : m ≤ k := by
    rcases a.1 with e | ⟨e1, e2, e3⟩
    · rw [e]; exact b.2.1
    · exact b.2.2 m e1 e2 e3
  have h2 : k ≤ m := by
    rcases b.1 with e | ⟨e1, e2, e3⟩
    · rw [e]; exact a.2.1
    · exact a.2.2 k e1 e2 e3
  omega
theorem IsChosen.eq {one other bad : List Int} {m : Int} (a : IsChosen one other bad m) : m = chosenF one other bad := a.unique (isChosen_F _ _ _)
theorem IsChosen.symm {one other bad : List Int} {m : Int} (a : IsChosen one other bad m) : IsChosen other one bad m :=
  ⟨a.1.imp id fun h => ⟨h.2.1, h.1, h.2.2⟩, a.2.1, fun y h1 h2 h3 => a.2.2 y h2 h1 h3⟩
theorem IsChosen.congr {one other bad bad' : List Int} {m : Int} (a : IsChosen one other bad m) (h : ∀ x, x ∈ bad ↔ x ∈ bad') : IsChosen one other bad' m :=
  ⟨a.1.imp id fun z => ⟨z.1, z.2.1, fun q => z.2.2 ((h _).mpr q)⟩, a.2.1, fun y h1 h2 h3 => a.2.2 y h1 h2 fun q => h3 ((h _).mp q)⟩
theorem man_tuple {d : PyData} (h : isMan d = true) : ∃ ns : List Int, d = .tuple (ns.map .int) ∧ (∀ i ∈ ns, 0 ≤ i ∧ i ≤ 9) := by
  cases d with
  | tuple ds =>
    simp only [isMan, Bool.and_eq_true] at h
    exact ⟨ds.map intOf, by rw [← ints_of_between h.1], between_of h.1⟩
  | _ => exact absurd h (by simp [isMan])
end TL

namespace TL
open PySem PySem.Spec PyProof.Rows L2
/-! ### rows of a log -/
abbrev Row := Int × Bool × Int × Bool
def rowV (r : Row) : List V := [.int r.1, .bl r.2.1, .int r.2.2.1, .bl r.2.2.2]
def rowD (r : Row) : PyData := .tuple [.int r.1, .bool r.2.1, .int r.2.2.1, .bool r.2.2.2]
def okRow (r : Row) : Prop := (0 ≤ r.1 ∧ r.1 ≤ 9) ∧ 0 ≤ r.2.2.1 ∧ r.2.2.1 ≤ 9
theorem im_row {H : Hp} {t : Addr} {r : Row} (h : H t = some (.tup (rowV r))) : Im H (.ref t) (rowD r) :=
  .tup h (.cons (.int _) (.cons (.bl _) (.cons (.int _) (.cons (.bl _) .nil))))
theorem im_row_inv {H : Hp} {x : V} {r : Row} (h : Im H x (rowD r)) : ∃ t, x = .ref t ∧ H t = some (.tup (rowV r)) := by
  obtain ⟨a, b, c, d⟩ := r
  generalize e : rowD (a, b, c, d) = dd at h
  cases h with
  | tup ht ha =>
    rename_i t xs ds
    injection e with e
    subst e
    cases ha with
    | cons h1 ha => cases h1; cases ha with
      | cons h1 ha => cases h1; cases ha with
        | cons h1 ha => cases h1; cases ha with
          | cons h1 ha => cases h1; cases ha; exact ⟨t, rfl, ht⟩
  | _ => exact PyData.noConfusion e
theorem rows_get {H : Hp} {xs : List V} {rs : List Row} {i : Nat} {r : Row} (h : ImAll H xs (rs.map rowD)) (e : rs[i]? = some r) : ∃ t, xs[i]? = some (.ref t) ∧ H t = some (.tup (rowV r)) := by
  obtain ⟨x, h1, h2⟩ := h.get (i := i) (d := rowD r) (by rw [List.getElem?_map, e]; rfl)
  obtain ⟨t, rfl, h3⟩ := im_row_inv h2
  exact ⟨t, h1, h3⟩
theorem rows_get' {H : Hp} {xs : List V} {rs : List Row} {i : Nat} {x : V} (h : ImAll H xs (rs.map rowD)) (e : xs[i]? = some x) : ∃ t r, rs[i]? = some r ∧ x = .ref t ∧ H t = some (.tup (rowV r)) := by
  obtain ⟨d, h1, h2⟩ := h.get' e
  rw [List.getElem?_map] at h1
  cases q : rs[i]? with
  | none => rw [q] at h1; cases h1
  | some r =>
    rw [q] at h1
    have h1' : rowD r = d := Option.some.inj h1
    subst h1'
    obtain ⟨t, h3, h4⟩ := im_row_inv h2
    exact ⟨t, r, rfl, h3, h4⟩
theorem rows_len {H : Hp} {xs : List V} {rs : List Row} (h : ImAll H xs (rs.map rowD)) : xs.length = rs.length := by
  rw [h.length, List.length_map]
theorem lv_row (r : Row) : lv 1 (rowD r) := by
  refine ⟨by show 4 ≤ 100000; decide, fun d hd => ?_⟩
  simp at hd
  rcases hd with rfl | rfl | rfl | rfl <;> exact trivial
theorem lv_rows {rs : List Row} (h : rs.length ≤ 100000) : lv 2 (.list (rs.map rowD)) := by
  refine ⟨by rw [List.length_map]; exact h, fun d hd => ?_⟩
  obtain ⟨r, _, rfl⟩ := List.mem_map.mp hd
  exact lv_row r
theorem eqv_rows_nil (rs : List Row) : PyData.eqv (.list (rs.map rowD)) (.list []) = decide (rs = []) := by
  cases rs with
  | nil => rfl
  | cons a r => rfl
/-! ### what is a row -/
def isB : PyData → Bool
  | .bool _ => true
  | _ => false
def isRowD : PyData → Bool
  | .tuple [a, b, c, d] => between a 0 9 && (between c 0 9 && (isB b && isB d))
  | _ => false
theorem isRow_row {r : Row} (h : okRow r) : isRowD (rowD r) = true := by
  obtain ⟨⟨h1, h2⟩, h3, h4⟩ := h
  simp [isRowD, rowD, between, isB, h1, h2, h3, h4]
/-- what may be handed in as a row -/
def rdat : PyData → Prop
  | .list _ => False
  | .dict _ => False
  | .tuple ds => ∀ e ∈ ds, ∀ l, e ≠ .list l
  | _ => True
theorem rdat_row (r : Row) : rdat (rowD r) := by
  intro e he l
  simp at he
  rcases he with rfl | rfl | rfl | rfl <;> exact fun z => PyData.noConfusion z
theorem rdat.nolist {d : PyData} (h : rdat d) : ∀ ds, d ≠ .list ds := fun ds e => by subst e; exact h
/-! ### stretches -/
/-- the manner by which both were joined -/
def mark (r : Row) : Option Int := if r.2.1 = true ∧ r.2.2.2 = true ∧ r.1 = r.2.2.1 then some r.1 else none
abbrev Str3 := Int × Int × Int
def strV (s : Str3) : List V := [.int s.1, .int s.2.1, .int s.2.2]
def strD (s : Str3) : PyData := .tuple [.int s.1, .int s.2.1, .int s.2.2]
theorem im_str {H : Hp} {t : Addr} {s : Str3} (h : H t = some (.tup (strV s))) : Im H (.ref t) (strD s) := .tup h (.cons (.int _) (.cons (.int _) (.cons (.int _) .nil)))
theorem im_str_inv {H : Hp} {x : V} {s : Str3} (h : Im H x (strD s)) : ∃ t, x = .ref t ∧ H t = some (.tup (strV s)) := by
  obtain ⟨a, b, c⟩ := s
  generalize e : strD (a, b, c) = dd at h
  cases h with
  | tup ht ha =>
    rename_i t xs ds
    injection e with e
    subst e
    cases ha with
    | cons h1 ha => cases h1; cases ha with
      | cons h1 ha => cases h1; cases ha with
        | cons h1 ha => cases h1; cases ha; exact ⟨t, rfl, ht⟩
  | _ => exact PyData.noConfusion e
/-- one row more: the last stretch grows, or a new one begins -/
def stStep (acc : List Str3) (i : Nat) (m : Option Int) : List Str3 :=
  match m with
  | none => acc
  | some m => match acc.getLast? with
    | some (k, s, e) => if k = m ∧ e = (i : Int) then acc.dropLast ++ [(m, s, (i : Int) + 1)] else acc ++ [(m, (i : Int), (i : Int) + 1)]
    | none => acc ++ [(m, (i : Int), (i : Int) + 1)]
/-- the stretches of the first i rows -/
def stTo (ms : List (Option Int)) : Nat → List Str3
  | 0 => []
  | i + 1 => stStep (stTo ms i) i (ms.getD i none)
theorem stTo_len (ms : List (Option Int)) : ∀ i, (stTo ms i).length ≤ i
  | 0 => Nat.le_refl _
  | i + 1 => by
    have ih := stTo_len ms i
    unfold stTo stStep
    cases ms.getD i none with
    | none => exact Nat.le_succ_of_le ih
    | some m =>
      cases h : (stTo ms i).getLast? with
      | none => simp; omega
      | some k =>
        obtain ⟨k, s, e⟩ := k
        simp only
        split
        · simp; omega
        · simp; omega
/-- no stretch ends behind what was gone through -/
theorem stTo_end (ms : List (Option Int)) : ∀ i (x : Str3), (stTo ms i).getLast? = some x → x.2.2 ≤ i
  | 0, x, h => by simp [stTo] at h
  | i + 1, x, h => by
    have ih := stTo_end ms i
    unfold stTo stStep at h
    cases hm : ms.getD i none with
    | none =>
      rw [hm] at h
      have := ih x h
      omega
    | some m =>
      rw [hm] at h
      cases hl : (stTo ms i).getLast? with
      | none =>
        rw [hl] at h
        simp at h
        subst h
        simp
      | some k =>
        obtain ⟨k, s, e⟩ := k
        rw [hl] at h
        simp only at h
        split at h
        · simp at h
          subst h
          simp
        · simp at h
          subst h
          simp
/-- at i a new stretch begins, if one does -/
def Fresh (ms : List (Option Int)) (i : Nat) : Prop := ∀ k s e, (stTo ms i).getLast? = some (k, s, e) → e = (i : Int) → ms.getD i none ≠ some k
theorem stTo_none {ms : List (Option Int)} {i : Nat} (h : ms.getD i none = none) : stTo ms (i + 1) = stTo ms i := by
  show stStep _ _ _ = _
  rw [h]
  rfl
theorem stTo_first {ms : List (Option Int)} {i : Nat} {m : Int} (h : ms.getD i none = some m) (f : Fresh ms i) : stTo ms (i + 1) = stTo ms i ++ [(m, (i : Int), (i : Int) + 1)] := by
  show stStep _ _ _ = _
  rw [h]
  unfold stStep
  cases hl : (stTo ms i).getLast? with
  | none => rfl
  | some k =>
    obtain ⟨k, s, e⟩ := k
    simp only
    rw [if_neg]
    rintro ⟨rfl, h2⟩
    exact f _ _ _ hl h2 h
theorem stTo_more {ms : List (Option Int)} {a j : Nat} {m : Int} (h : ms.getD j none = some m) (e : stTo ms j = stTo ms a ++ [(m, (a : Int), (j : Int))]) : stTo ms (j + 1) = stTo ms a ++ [(m, (a : Int), (j : Int) + 1)] := by
  show stStep _ _ _ = _
  rw [h, e]
  unfold stStep
  simp
def markV : Option Int → V
  | none => .non
  | some m => .int m
theorem lv_strs (l : List Str3) (h : l.length ≤ 100000) : lv 3 (.list (l.map strD)) := by
  refine lv_mono ⟨by rw [List.length_map]; exact h, fun d hd => ?_⟩
  obtain ⟨s, _, rfl⟩ := List.mem_map.mp hd
  refine ⟨by show 3 ≤ 100000; decide, fun d hd => ?_⟩
  simp at hd
  rcases hd with rfl | rfl | rfl <;> exact trivial
/-- what stands within a turn: the dice, the rows at p -/
structure Got (H : Hp) (d p : Addr) (xs : List V) (rs : List Row) : Prop where
  D : DiceAt H d
  L : H p = some (.lst xs)
  A : ImAll H xs (rs.map rowD)
  ok : ∀ r ∈ rs, okRow r
  len : rs.length ≤ 300
  np : p ≠ d
theorem Got.same {H H' : Hp} {d p : Addr} {xs : List V} {rs : List Row} (g : Got H d p xs rs) (e : Same H H') : Got H' d p xs rs := ⟨g.D.same e, e _ _ g.L, g.A.same e, g.ok, g.len, g.np⟩
/-- another list is written -/
theorem Got.updL {H : Hp} {d p : Addr} {xs : List V} {rs : List Row} (g : Got H d p xs rs) {l : Addr} {ys : List V} {o : HO} (h : H l = some (.lst ys)) (n1 : l ≠ d) (n2 : l ≠ p) : Got (upd H l o) d p xs rs :=
  ⟨g.D.upd_ne (Ne.symm n1), by rw [upd_ne (Ne.symm n2)]; exact g.L, g.A.updL h, g.ok, g.len, g.np⟩
/-- whether a row can be -/
def unl (ca cb : List Int) (m : Int) : Bool := !decide (m ∈ ca) || !decide (m ∈ cb)
def goodRow (ca cb : List Int) (r : Row) : Bool := !(unl ca cb r.1) && (!(unl ca cb r.2.2.1) && !((r.2.1 || r.2.2.2) && !decide (r.1 = r.2.2.1)))
end TL

namespace TL
open PySem PySem.Spec PyProof.Rows L2
/-! ### marks: the mirror -/
structure MkS where
  wait : Int → Option Int
  untl : Int → Option Int
  run : Int → Option Int
  tries : Int → Option (List Bool)
def MkS.new : MkS := ⟨fun _ => none, fun _ => none, fun _ => none, fun _ => none⟩
def setA {α : Type} (f : Int → Option α) (i : Int) (v : α) : Int → Option α := fun j => if j = i then some v else f j
def last6 {α : Type} (l : List α) : List α := l.drop (l.length - 6)
/-- what a note leaves: the tries and runs; the wait -/
def triesOf (s : MkS) (m : Int) (p : Bool) : List Bool := last6 ((s.tries m).getD [] ++ [p])
def runOf (s : MkS) (m : Int) (p : Bool) : Int := if p = true then (s.run m).getD 0 + 1 else 0
def waitsOf (s : MkS) (m : Int) (p : Bool) : Int → Option Int := if runOf s m p = 32 then setA s.wait m 16 else s.wait
def isMarked (s : MkS) (m : Int) (p : Bool) : Bool := !decide (((triesOf s m p).count false : Int) < 3)
def noteF (s : MkS) (m : Int) (p : Bool) (f : Int) : MkS :=
  if isMarked s m p = true then
    { wait := setA (waitsOf s m p) m (min 256 (2 * ((waitsOf s m p) m).getD 16)), untl := setA s.untl m (max ((s.untl m).getD 0) (f + ((waitsOf s m p) m).getD 16)), run := setA s.run m (runOf s m p), tries := setA s.tries m [] }
  else { s with wait := waitsOf s m p, run := setA s.run m (runOf s m p), tries := setA s.tries m (triesOf s m p) }
def nine : List Int := [1, 2, 3, 4, 5, 6, 7, 8, 9]
def badF (s : MkS) (f : Int) : List Int := nine.filter fun i => match s.untl i with | some u => decide (f ≤ u) | none => false
/-! ### a dict whose keys are manners -/
def DictM (H : Hp) (a : Addr) (f : Int → Option V) : Prop :=
  ∃ kvs : List (Key × V), H a = some (.dK kvs) ∧ (kvs.map (·.1)).Nodup ∧ (∀ kv ∈ kvs, ∃ i : Int, kv.1 = .inl i ∧ 1 ≤ i ∧ i ≤ 9) ∧ ∀ i : Int, valV kvs (.inl i) = f i
theorem DictM.new {H : Hp} {a : Addr} (h : H a = some (.dK [])) : DictM H a fun _ => none := ⟨[], h, List.nodup_nil, by simp, fun _ => rfl⟩
theorem DictM.frm {S : List Addr} {H H' : Hp} {a : Addr} {f : Int → Option V} (h : DictM H a f) (e : Frm S H H') (n : a ∉ S) : DictM H' a f := by
  obtain ⟨kvs, h1, h2⟩ := h
  exact ⟨kvs, e _ _ h1 n, h2⟩
theorem pig : ∀ (n : Nat) (l : List Int), l.Nodup → (∀ x ∈ l, 1 ≤ x ∧ x ≤ n) → l.length ≤ n
  | 0, l, _, h => by
    match l with
    | [] => simp
    | x :: r => have := h x (by simp); omega
  | n + 1, l, nd, h => by
    by_cases hm : ((n + 1 : Nat) : Int) ∈ l
    · have h1 := pig n (l.erase ((n + 1 : Nat) : Int)) (nd.erase _) fun x hx => by
        have hx' := (nd.mem_erase_iff).mp hx
        have := h x hx'.2
        have := hx'.1
        omega
      rw [List.length_erase_of_mem hm] at h1
      omega
    · have h1 := pig n l nd fun x hx => by
        have := h x hx
        have hne : x ≠ ((n + 1 : Nat) : Int) := fun e => hm (by rw [← e]; exact hx)
        omega
      omega
theorem keys_int {kvs : List (Key × V)} (h : ∀ kv ∈ kvs, ∃ i : Int, kv.1 = .inl i ∧ 1 ≤ i ∧ i ≤ 9) : ∃ ks : List Int, kvs.map (·.1) = ks.map Sum.inl ∧ ∀ k ∈ ks, 1 ≤ k ∧ k ≤ 9 := by
  induction kvs with
  | nil => exact ⟨[], rfl, by simp⟩
  | cons a r ih =>
    obtain ⟨ks, e, hk⟩ := ih fun kv hkv => h kv (by simp [hkv])
    obtain ⟨i, hi, h1, h9⟩ := h a (by simp)
    refine ⟨i :: ks, by simp [hi, e], fun k hk' => ?_⟩
    rcases List.mem_cons.mp hk' with rfl | hk'
    · exact ⟨h1, h9⟩
    · exact hk k hk'
theorem nodup_inl {ks : List Int} (h : (ks.map (Sum.inl : Int → Key)).Nodup) : ks.Nodup := by
  rw [List.nodup_iff_pairwise_ne, List.pairwise_map] at h
  rw [List.nodup_iff_pairwise_ne]
  exact h.imp fun hne e => hne (by rw [e])
theorem dict_len {kvs : List (Key × V)} (nd : (kvs.map (·.1)).Nodup) (h : ∀ kv ∈ kvs, ∃ i : Int, kv.1 = .inl i ∧ 1 ≤ i ∧ i ≤ 9) : kvs.length ≤ 9 := by
  obtain ⟨ks, e, hk⟩ := keys_int h
  rw [e] at nd
  have := pig 9 ks (nodup_inl nd) hk
  have hl : kvs.length = ks.length := by
    have := congrArg List.length e
    simpa using this
  omega
theorem mem_key {kvs : List (Key × V)} {k : Key} : (valV kvs k).isSome = true ↔ k ∈ kvs.map (·.1) := by
  rw [← valV_any, List.any_eq_true, List.mem_map]
  constructor
  · rintro ⟨p, hp, h⟩
    exact ⟨p, hp, by simpa using h⟩
  · rintro ⟨p, hp, h⟩
    exact ⟨p, hp, by simpa using h⟩
theorem putK_keys {kvs : List (Key × V)} {k : Key} {v : V} : ((putK kvs k v).map (·.1)) = if (valV kvs k).isSome = true then kvs.map (·.1) else kvs.map (·.1) ++ [k] := by
  unfold putK
  rw [valV_any]
  by_cases h : (valV kvs k).isSome = true
  · rw [if_pos h, if_pos h, List.map_map]
    apply List.map_congr_left
    intro p _
    simp only [Function.comp]
    split
    · rfl
    · rfl
  · rw [if_neg h, if_neg h, List.map_append]
    rfl
/-- d[i] = v -/
theorem DictM.put {H : Hp} {a : Addr} {f : Int → Option V} (h : DictM H a f) {i : Int} (h1 : 1 ≤ i) (h9 : i ≤ 9) (v : V) : ∃ H', DPut H a (.int i) v H' ∧ DictM H' a (setA f i v) ∧ Frm [a] H H' := by
  obtain ⟨kvs, e, nd, hk, hv⟩ := h
  have hl := dict_len nd hk
  refine ⟨_, DPut.k (k := Sum.inl i) e (small1000 (by omega)), ⟨_, upd_same, ?_, ?_, fun j => ?_⟩, Frm.updK e⟩
  · rw [putK_keys]
    split
    · exact nd
    · rename_i hn
      rw [List.nodup_append]
      exact ⟨nd, by simp, fun x hx y hy => by simp at hy; subst hy; rintro rfl; exact hn (mem_key.mpr hx)⟩
  · intro kv hkv
    have hm : kv.1 ∈ (putK kvs (Sum.inl i : Key) v).map (·.1) := List.mem_map_of_mem hkv
    rw [putK_keys] at hm
    have hin : kv.1 ∈ kvs.map (·.1) ∨ kv.1 = Sum.inl i := by
      split at hm
      · exact .inl hm
      · rcases List.mem_append.mp hm with q | q
        · exact .inl q
        · exact .inr (by simpa using q)
    rcases hin with q | q
    · obtain ⟨p, hp, hpe⟩ := List.mem_map.mp q
      rw [← hpe]
      exact hk p hp
    · exact ⟨i, q, h1, h9⟩
  · rw [valV_put, hv]
    unfold setA
    by_cases q : j = i
    · subst q; simp
    · rw [if_neg (fun z => q (Sum.inl.inj z)), if_neg q]
theorem DictM.get {H : Hp} {a : Addr} {f : Int → Option V} (h : DictM H a f) (i : Int) : DGet H a (.int i) (f i) := by
  obtain ⟨kvs, e, nd, hk, hv⟩ := h
  rw [← hv i]
  exact DGet.k (k := Sum.inl i) e
theorem DictM.isD {H : Hp} {a : Addr} {f : Int → Option V} (h : DictM H a f) : IsD H a := by
  obtain ⟨kvs, e, _⟩ := h
  exact .inl ⟨kvs, Rd.of e⟩
theorem DictM.at_ {H : Hp} {a : Addr} {f : Int → Option V} (h : DictM H a f) : ∃ o, H a = some o := by
  obtain ⟨kvs, e, _⟩ := h
  exact ⟨_, e⟩
/-! ### marks in the heap -/
structure MAd where
  m : Addr
  w : Addr
  u : Addr
  r : Addr
  t : Addr
def MAd.all (a : MAd) : List Addr := [a.w, a.u, a.r, a.t]
abbrev mkN : List Str := ["waits", "until", "runs", "tries"]
theorem mkN_nd : mkN.Nodup := by decide +kernel
def mkV (a : MAd) : List V := [.ref a.w, .ref a.u, .ref a.r, .ref a.t]
/-- C: the class; Z: what may be written, of all that stands -/
structure MarksAt (C : Addr) (Z : List Addr) (H : Hp) (a : MAd) (s : MkS) : Prop where
  ob : ∃ dx, H a.m = some (.ins C dx (mkN.zip (mkV a)))
  w : DictM H a.w fun i => (s.wait i).map V.int
  u : DictM H a.u fun i => (s.untl i).map V.int
  r : DictM H a.r fun i => (s.run i).map V.int
  t : ∃ ta : Int → Option Addr, DictM H a.t (fun i => (ta i).map V.ref) ∧ ∀ i, (ta i = none ∧ s.tries i = none) ∨ ∃ l bs, ta i = some l ∧ s.tries i = some bs ∧ H l = some (.lst (bs.map V.bl)) ∧ l ∉ Z ∧ bs.length ≤ 6
  nd : a.w ≠ a.u ∧ a.w ≠ a.r ∧ a.w ≠ a.t ∧ a.u ≠ a.r ∧ a.u ≠ a.t ∧ a.r ≠ a.t
theorem MarksAt.frm {C : Addr} {Z S : List Addr} {H H' : Hp} {a : MAd} {s : MkS} (h : MarksAt C Z H a s) (e : Frm S H H') (hS : ∀ x ∈ S, x ∈ Z) (hm : a.m ∉ S) (hd : ∀ x ∈ a.all, x ∉ S) : MarksAt C Z H' a s := by
  obtain ⟨⟨dx, h0⟩, hw, hu, hr, ⟨ta, ht, hl⟩, nd⟩ := h
  refine ⟨⟨dx, e _ _ h0 hm⟩, hw.frm e (hd _ (by simp [MAd.all])), hu.frm e (hd _ (by simp [MAd.all])), hr.frm e (hd _ (by simp [MAd.all])), ⟨ta, ht.frm e (hd _ (by simp [MAd.all])), fun i => ?_⟩, nd⟩
  rcases hl i with q | ⟨l, bs, h1, h2, h3, h4⟩
  · exact .inl q
  · exact .inr ⟨l, bs, h1, h2, e _ _ h3 fun z => h4.1 (hS _ z), h4⟩
theorem MarksAt.same {C : Addr} {Z : List Addr} {H H' : Hp} {a : MAd} {s : MkS} (h : MarksAt C Z H a s) (e : Same H H') : MarksAt C Z H' a s := h.frm (S := []) (.of_same e) (by simp) (by simp) (by simp)
/-- something new may be written, too -/
theorem MarksAt.more {C : Addr} {Z Z' : List Addr} {H : Hp} {a : MAd} {s : MkS} (h : MarksAt C Z H a s) (hz : ∀ x ∈ Z', x ∈ Z ∨ ∀ bs, H x ≠ some (.lst bs)) : MarksAt C Z' H a s := by
  obtain ⟨h0, hw, hu, hr, ⟨ta, ht, hl⟩, nd⟩ := h
  refine ⟨h0, hw, hu, hr, ⟨ta, ht, fun i => ?_⟩, nd⟩
  rcases hl i with q | ⟨l, bs, h1, h2, h3, h4⟩
  · exact .inl q
  · exact .inr ⟨l, bs, h1, h2, h3, fun z => (hz l z).elim h4.1 fun q => q _ h3, h4.2⟩
theorem MarksAt.out {C : Addr} {Z : List Addr} {H : Hp} {a : MAd} {s : MkS} (h : MarksAt C Z H a s) : ∀ x ∈ a.all, x ≠ a.m ∧ ∃ o, H x = some o := by
  obtain ⟨⟨dx, h0⟩, ⟨_, hw, _⟩, ⟨_, hu, _⟩, ⟨_, hr, _⟩, ⟨ta, ⟨_, ht, _⟩, hl⟩, nd⟩ := h
  intro x hx
  simp [MAd.all] at hx
  rcases hx with rfl | rfl | rfl | rfl
  · exact ⟨ne_of hw h0 (by intro z; cases z), _, hw⟩
  · exact ⟨ne_of hu h0 (by intro z; cases z), _, hu⟩
  · exact ⟨ne_of hr h0 (by intro z; cases z), _, hr⟩
  · exact ⟨ne_of ht h0 (by intro z; cases z), _, ht⟩
theorem MAd.mem (a : MAd) : a.w ∈ a.all ∧ a.u ∈ a.all ∧ a.r ∈ a.all ∧ a.t ∈ a.all := by simp [MAd.all]
/-- one of the dicts is written -/
theorem MarksAt.lists {C : Addr} {Z : List Addr} {H H' : Hp} {a : MAd} {ta : Int → Option Addr} {tr : Int → Option (List Bool)} {d : Addr} (hl : ∀ i, (ta i = none ∧ tr i = none) ∨ ∃ l bs, ta i = some l ∧ tr i = some bs ∧ H l = some (.lst (bs.map V.bl)) ∧ l ∉ Z ∧ bs.length ≤ 6)
    (e : Frm [d] H H') {f : Int → Option V} (hd : DictM H d f) : ∀ i, (ta i = none ∧ tr i = none) ∨ ∃ l bs, ta i = some l ∧ tr i = some bs ∧ H' l = some (.lst (bs.map V.bl)) ∧ l ∉ Z ∧ bs.length ≤ 6 := fun i => by
  rcases hl i with q | ⟨l, bs, h1, h2, h3, h4⟩
  · exact .inl q
  · obtain ⟨kvs, h5, _⟩ := hd
    exact .inr ⟨l, bs, h1, h2, e _ _ h3 (by simp only [List.mem_singleton]; exact ne_of h3 h5 (by intro z; cases z)), h4⟩
theorem setA_map (f : Int → Option Int) (i v : Int) : (fun j => (setA f i v j).map V.int) = setA (fun j => (f j).map V.int) i (.int v) := by
  funext j
  unfold setA
  split <;> rfl
theorem MarksAt.obk {C : Addr} {Z : List Addr} {H H' : Hp} {a : MAd} {s : MkS} (h : MarksAt C Z H a s) {d : Addr} (hd : d ∈ a.all) (e : Frm [d] H H') : ∃ dx, H' a.m = some (.ins C dx (mkN.zip (mkV a))) := by
  have ho := (h.out d hd).1
  obtain ⟨⟨dx, h0⟩, _⟩ := h
  exact ⟨dx, e _ _ h0 (by simp only [List.mem_singleton]; exact Ne.symm ho)⟩
theorem Frm.sub {S : List Addr} {H H' : Hp} {d : Addr} (e : Frm [d] H H') (h : d ∈ S) : Frm S H H' := e.mono fun x hx => by simp at hx; subst hx; exact h
theorem MarksAt.put_w {C : Addr} {Z : List Addr} {H : Hp} {a : MAd} {s : MkS} (h : MarksAt C Z H a s) {i : Int} (h1 : 1 ≤ i) (h9 : i ≤ 9) (v : Int) : ∃ H', DPut H a.w (.int i) (.int v) H' ∧ MarksAt C Z H' a { s with wait := setA s.wait i v } ∧ Frm a.all H H' := by
  obtain ⟨H', h2, h3, h4⟩ := h.w.put h1 h9 (.int v)
  have ob := h.obk a.mem.1 h4
  obtain ⟨n1, n2, n3, n4, n5, n6⟩ := h.nd
  obtain ⟨ta, ht, hl⟩ := h.t
  refine ⟨H', h2, ⟨ob, by rw [setA_map]; exact h3, h.u.frm h4 (by simp [Ne.symm n1]), h.r.frm h4 (by simp [Ne.symm n2]), ⟨ta, ht.frm h4 (by simp [Ne.symm n3]), MarksAt.lists (C := C) (a := a) hl h4 h.w⟩, h.nd⟩, h4.sub a.mem.1⟩
theorem MarksAt.put_u {C : Addr} {Z : List Addr} {H : Hp} {a : MAd} {s : MkS} (h : MarksAt C Z H a s) {i : Int} (h1 : 1 ≤ i) (h9 : i ≤ 9) (v : Int) : ∃ H', DPut H a.u (.int i) (.int v) H' ∧ MarksAt C Z H' a { s with untl := setA s.untl i v } ∧ Frm a.all H H' := by
  obtain ⟨H', h2, h3, h4⟩ := h.u.put h1 h9 (.int v)
  have ob := h.obk a.mem.2.1 h4
  obtain ⟨n1, n2, n3, n4, n5, n6⟩ := h.nd
  obtain ⟨ta, ht, hl⟩ := h.t
  refine ⟨H', h2, ⟨ob, h.w.frm h4 (by simp [n1]), by rw [setA_map]; exact h3, h.r.frm h4 (by simp [Ne.symm n4]), ⟨ta, ht.frm h4 (by simp [Ne.symm n5]), MarksAt.lists (C := C) (a := a) hl h4 h.u⟩, h.nd⟩, h4.sub a.mem.2.1⟩
theorem MarksAt.put_r {C : Addr} {Z : List Addr} {H : Hp} {a : MAd} {s : MkS} (h : MarksAt C Z H a s) {i : Int} (h1 : 1 ≤ i) (h9 : i ≤ 9) (v : Int) : ∃ H', DPut H a.r (.int i) (.int v) H' ∧ MarksAt C Z H' a { s with run := setA s.run i v } ∧ Frm a.all H H' := by
  obtain ⟨H', h2, h3, h4⟩ := h.r.put h1 h9 (.int v)
  have ob := h.obk a.mem.2.2.1 h4
  obtain ⟨n1, n2, n3, n4, n5, n6⟩ := h.nd
  obtain ⟨ta, ht, hl⟩ := h.t
  refine ⟨H', h2, ⟨ob, h.w.frm h4 (by simp [n2]), h.u.frm h4 (by simp [n4]), by rw [setA_map]; exact h3, ⟨ta, ht.frm h4 (by simp [Ne.symm n6]), MarksAt.lists (C := C) (a := a) hl h4 h.r⟩, h.nd⟩, h4.sub a.mem.2.2.1⟩
/-- a list of tries, made since -/
theorem MarksAt.put_t {C : Addr} {Z : List Addr} {H : Hp} {a : MAd} {s : MkS} (h : MarksAt C Z H a s) {i : Int} (h1 : 1 ≤ i) (h9 : i ≤ 9) {l : Addr} {bs : List Bool} (hl : H l = some (.lst (bs.map V.bl))) (hz : l ∉ Z) (hb : bs.length ≤ 6) :
    ∃ H', DPut H a.t (.int i) (.ref l) H' ∧ MarksAt C Z H' a { s with tries := setA s.tries i bs } ∧ Frm a.all H H' ∧ H' l = some (.lst (bs.map V.bl)) := by
  obtain ⟨n1, n2, n3, n4, n5, n6⟩ := h.nd
  obtain ⟨ta, ht, hls⟩ := id h.t
  obtain ⟨H', h2, h3, h4⟩ := ht.put h1 h9 (.ref l)
  have ob := h.obk a.mem.2.2.2 h4
  have hl' : H' l = some (.lst (bs.map V.bl)) := h4 _ _ hl (by
    obtain ⟨kvs, h5, _⟩ := ht
    simp only [List.mem_singleton]
    exact ne_of hl h5 (by intro z; cases z))
  refine ⟨H', h2, ⟨ob, h.w.frm h4 (by simp [n3]), h.u.frm h4 (by simp [n5]), h.r.frm h4 (by simp [n6]), ⟨setA ta i l, ?_, fun j => ?_⟩, h.nd⟩, h4.sub a.mem.2.2.2, hl'⟩
  · have e : (fun j => (setA ta i l j).map V.ref) = setA (fun j => (ta j).map V.ref) i (.ref l) := by
      funext j
      unfold setA
      split <;> rfl
    rw [e]
    exact h3
  · show (setA ta i l j = none ∧ setA s.tries i bs j = none) ∨ ∃ l' bs', setA ta i l j = some l' ∧ setA s.tries i bs j = some bs' ∧ H' l' = some (.lst (bs'.map V.bl)) ∧ l' ∉ Z ∧ bs'.length ≤ 6
    by_cases q : j = i
    · have e1 : setA ta i l j = some l := if_pos q
      have e2 : setA s.tries i bs j = some bs := if_pos q
      rw [e1, e2]
      exact .inr ⟨l, bs, rfl, rfl, hl', hz, hb⟩
    · have e1 : setA ta i l j = ta j := if_neg q
      have e2 : setA s.tries i bs j = s.tries j := if_neg q
      rw [e1, e2]
      exact MarksAt.lists (C := C) (a := a) hls h4 ht j
theorem last6_len {α : Type} (l : List α) : (last6 l).length ≤ 6 := by
  unfold last6
  rw [List.length_drop]
  omega
theorem cut6 (xs : List V) : cutV xs (some (0 - 6)) none = last6 xs := by
  unfold cutV last6
  have e1 : HT.sIx xs.length 0 (some (0 - 6)) = xs.length - 6 := by
    show (if (0 - 6 : Int) < 0 then ((0 - 6 : Int) + (xs.length : Nat)).toNat else min (0 - 6 : Int).toNat xs.length) = _
    rw [if_pos (by decide)]
    omega
  rw [e1, HT.sIx_none]
  apply List.take_of_length_le
  rw [List.length_drop]
  omega
theorem last6_map {α β : Type} (f : α → β) (l : List α) : last6 (l.map f) = (last6 l).map f := by
  unfold last6
  rw [List.length_map, List.map_drop]
theorem count_bl (bs : List Bool) (b : Bool) : (bs.map V.bl).countP (fun z => eqV z (.bl b)) = bs.count b := by
  induction bs with
  | nil => rfl
  | cons a r ih =>
    rw [List.map_cons, List.countP_cons, ih, List.count_cons]
    rfl
theorem flat_bls (bs : List Bool) : (bs.map V.bl).all flatV = true := by
  rw [List.all_map, List.all_eq_true]
  intro _ _
  rfl
/-- the marked ones, rising -/
theorem until_keys {H : Hp} {a : Addr} {f : Int → Option Int} (h : DictM H a fun i => (f i).map V.int) : ∃ (kvs : List (Key × V)) (ks : List Int), H a = some (.dK kvs) ∧ kvs.map (·.1) = ks.map Sum.inl ∧ ks.length < 64 ∧
    ∀ ys : List Int, ys.Perm ks → ys.Pairwise (· ≤ ·) → ys = nine.filter fun i => (f i).isSome := by
  obtain ⟨kvs, e, nd, hk, hv⟩ := h
  obtain ⟨ks, ek, h19⟩ := keys_int hk
  have ndk := nodup_inl (by rw [← ek]; exact nd)
  refine ⟨kvs, ks, e, ek, by have := pig 9 ks ndk h19; omega, fun ys hp hs => ?_⟩
  have ndy := hp.nodup_iff.mpr ndk
  refine sorted_ext ?_ ?_ fun k => ?_
  · rw [List.nodup_iff_pairwise_ne] at ndy
    exact hs.imp₂ (fun _ _ h1 h2 => by omega) ndy
  · exact List.Pairwise.filter _ (by decide)
  · rw [hp.mem_iff, List.mem_filter]
    have h1 : k ∈ ks ↔ (f k).isSome = true := by
      have h2 : (Sum.inl k : Key) ∈ kvs.map (·.1) ↔ k ∈ ks := by
        rw [ek, List.mem_map]
        exact ⟨fun ⟨x, hx, q⟩ => by cases q; exact hx, fun hx => ⟨k, hx, rfl⟩⟩
      rw [← h2, ← mem_key, hv k]
      show ((f k).map V.int).isSome = true ↔ _
      cases f k <;> simp
    rw [h1]
    refine ⟨fun q => ⟨?_, q⟩, fun q => q.2⟩
    have := h19 k (h1.mpr q)
    have : k = 1 ∨ k = 2 ∨ k = 3 ∨ k = 4 ∨ k = 5 ∨ k = 6 ∨ k = 7 ∨ k = 8 ∨ k = 9 := by omega
    simp [nine, this]
end TL

namespace TL
open PySem PySem.Spec PyProof.Rows L2
/-! ### an end: the mirror -/
abbrev Mind := List Int × List Int
abbrev SlowL := Int × Mind × Int
abbrev FastL := Int × Option Int × Int
structure EndS where
  can : List Int
  mks : MkS
  over : Int
  ver : Int
  bad : List Int
  oth : Option Mind
  seen : Int
  known : Int
  ready : Bool
  now : Int
  joined : Bool
  wait : List Int
  count : Int
  got : List Int
  part : Int
def EndS.new (can : List Int) : EndS := ⟨can, .new, 0, 1, [], none, 0, 0, false, 0, false, [], 0, [], 0⟩
def refreshF (s : EndS) : EndS := if badF s.mks s.over = s.bad then s else { s with bad := badF s.mks s.over, ver := s.ver + 1 }
def takeF (s : EndS) : Int := match s.oth with
  | none => 0
  | some m => chosenF s.can m.1 (s.bad ++ m.2)
def slowOf (s : EndS) : SlowL := (s.ver, (s.can, s.bad), s.seen)
def fastOf (s : EndS) : FastL := (s.count, s.wait.head?, (s.got.length : Nat))
/-- what is told, ahead of the walk of the fast letter -/
def heardS (s : EndS) (l : Option SlowL) : EndS := match l with
  | none => { s with ready := false }
  | some l => { s with seen := l.1, oth := some l.2.1, known := l.2.2, ready := decide (l.2.2 = s.ver) }
def hearSlowF (s : EndS) (l : Option SlowL) : EndS := { heardS (refreshF s) l with now := takeF (heardS (refreshF s) l) }
def notedF (s : EndS) (j : Bool) : EndS := if 0 < s.now ∧ (j = true ∨ s.ready = true) then { s with joined := j, mks := noteF s.mks s.now j s.over } else { s with joined := j }
def gatherF (s : EndS) (number : Int) (item : Option Int) : EndS := match item with
  | none => s
  | some i => if number = (s.got.length : Nat) then { s with got := s.got ++ [i] } else s
def knowF (s : EndS) (came : Int) : EndS := if s.count < came then { s with count := came, wait := s.wait.tail } else s
def hearFastF (s : EndS) (l : Option FastL) : EndS := match l with
  | none => notedF s false
  | some l => knowF (gatherF (notedF s true) l.1 l.2.1) l.2.2
/-! ### letters as data -/
def canD (ms : List Int) : PyData := .tuple (ms.map .int)
def mindD (m : Mind) : PyData := .tuple [canD m.1, canD m.2]
def othD : Option Mind → PyData
  | none => .none
  | some m => mindD m
def slowD (l : SlowL) : PyData := .tuple [.int l.1, mindD l.2.1, .int l.2.2]
def optD : Option Int → PyData
  | none => .none
  | some i => .int i
def fastD (l : FastL) : PyData := .tuple [.int l.1, optD l.2.1, .int l.2.2]
def slowO : Option SlowL → PyData
  | none => .none
  | some l => slowD l
def fastO : Option FastL → PyData
  | none => .none
  | some l => fastD l
theorem lv_can {ms : List Int} (h : ms.length ≤ 60) (n : Nat) : lv (n + 1) (canD ms) := by
  unfold canD
  simp only [lv]
  exact ⟨by rw [List.length_map]; omega, fun d hd => by
    obtain ⟨i, _, rfl⟩ := List.mem_map.mp hd
    cases n <;> trivial⟩
theorem lv_mind {m : Mind} (h1 : m.1.length ≤ 60) (h2 : m.2.length ≤ 60) (n : Nat) : lv (n + 2) (mindD m) := by
  unfold mindD
  simp only [lv]
  refine ⟨by simp, fun d hd => ?_⟩
  rcases List.mem_cons.mp hd with rfl | hd
  · exact lv_can h1 n
  · rw [List.mem_singleton] at hd
    subst hd
    exact lv_can h2 n
theorem eqv_mind (m k : Mind) : PyData.eqv (mindD m) (mindD k) = decide (m = k) := by
  show (PyData.eqvAll (m.1.map .int) (k.1.map .int) && (PyData.eqvAll (m.2.map .int) (k.2.map .int) && true)) = _
  rw [eqvAll_ints, eqvAll_ints, Bool.and_true]
  obtain ⟨a, b⟩ := m
  obtain ⟨c, d⟩ := k
  by_cases h1 : a = c <;> by_cases h2 : b = d <;> simp [h1, h2]
/-! ### an end in the heap -/
structure EAd where
  e : Addr
  w : Addr
  g : Addr
  mks : MAd
/-- what an end's methods write -/
def EAd.all (a : EAd) : List Addr := [a.e, a.w, a.g, a.mks.w, a.mks.u, a.mks.r, a.mks.t]
def EAd.every (a : EAd) : List Addr := a.mks.m :: a.all
abbrev enN : List Str := ["can", "marks", "over", "version", "mind", "other", "seen", "known", "ready", "now", "joined", "waiting", "count", "gathered", "part"]
theorem enN_nd : enN.Nodup := by decide +kernel
def enV (a : EAd) (s : EndS) (cv mv ov : V) : List V := [cv, .ref a.mks.m, .int s.over, .int s.ver, mv, ov, .int s.seen, .int s.known, .bl s.ready, .int s.now, .bl s.joined, .ref a.w, .int s.count, .ref a.g, .int s.part]
structure EndAt (CE CM : Addr) (Z : List Addr) (H : Hp) (a : EAd) (s : EndS) : Prop where
  ob : ∃ dx cv mv ov, H a.e = some (.ins CE dx (enN.zip (enV a s cv mv ov))) ∧ Im H cv (canD s.can) ∧ Im H mv (mindD (s.can, s.bad)) ∧ Im H ov (othD s.oth)
  mks : MarksAt CM Z H a.mks s.mks
  wt : H a.w = some (.lst (s.wait.map V.int))
  gt : H a.g = some (.lst (s.got.map V.int))
  nd : a.every.Nodup
section
variable {CE CM : Addr} {Z S : List Addr} {H H' : Hp} {a : EAd} {s : EndS}
theorem EAd.mk_all (a : EAd) : ∀ x ∈ a.mks.all, x ∈ a.all := by
  intro x hx
  simp [MAd.all] at hx
  simp [EAd.all]
  rcases hx with h | h | h | h <;> simp [h]
theorem EAd.all_every (a : EAd) : ∀ x ∈ a.all, x ∈ a.every := fun x hx => List.mem_cons_of_mem _ hx
theorem EndAt.frm (h : EndAt CE CM Z H a s) (e : Frm S H H') (hS : ∀ x ∈ S, x ∈ Z) (hd : ∀ x ∈ a.every, x ∉ S) : EndAt CE CM Z H' a s := by
  obtain ⟨⟨dx, cv, mv, ov, h1, h2, h3, h4⟩, M, hw, hg, nd⟩ := h
  exact ⟨⟨dx, cv, mv, ov, e _ _ h1 (hd _ (by simp [EAd.every, EAd.all])), h2.frm e, h3.frm e, h4.frm e⟩,
    M.frm e hS (hd _ (by simp [EAd.every])) (fun x hx => hd x (a.all_every _ (a.mk_all x hx))), e _ _ hw (hd _ (by simp [EAd.every, EAd.all])), e _ _ hg (hd _ (by simp [EAd.every, EAd.all])), nd⟩
theorem EndAt.same (h : EndAt CE CM Z H a s) (e : Same H H') : EndAt CE CM Z H' a s := h.frm (S := []) (.of_same e) (by simp) (by simp)
theorem EndAt.more {Z' : List Addr} (h : EndAt CE CM Z H a s) (hz : ∀ x ∈ Z', x ∈ Z ∨ ∀ bs, H x ≠ some (.lst bs)) : EndAt CE CM Z' H a s :=
  ⟨h.ob, h.mks.more hz, h.wt, h.gt, h.nd⟩
theorem EndAt.there (h : EndAt CE CM Z H a s) : ∀ x ∈ a.every, ∃ o, H x = some o := by
  obtain ⟨⟨dx, cv, mv, ov, h1, h2, h3, h4⟩, M, hw, hg, nd⟩ := h
  intro x hx
  obtain ⟨⟨dm, hm⟩, _⟩ := id M
  simp [EAd.every, EAd.all] at hx
  rcases hx with rfl | rfl | rfl | rfl | hx | hx | hx | hx
  · exact ⟨_, hm⟩
  · exact ⟨_, h1⟩
  · exact ⟨_, hw⟩
  · exact ⟨_, hg⟩
  all_goals exact (M.out x (by subst hx; simp [MAd.all])).2
theorem EndAt.ne_new (h : EndAt CE CM Z H a s) {l : Addr} (n : H l = none) : l ∉ a.every := fun z => by
  obtain ⟨o, e⟩ := h.there l z
  rw [n] at e
  cases e
/-- one of a's places is written, none of the marks' -/
theorem EAd.mk_out {b : Addr} (nd : a.every.Nodup) (hb : b = a.e ∨ b = a.w ∨ b = a.g) : a.mks.m ≠ b ∧ ∀ x ∈ a.mks.all, x ≠ b := by
  simp only [EAd.every, EAd.all, List.nodup_cons, List.mem_cons, not_or, List.not_mem_nil, not_false_eq_true, List.nodup_nil, and_true] at nd
  obtain ⟨⟨m1, m2, m3, m4, m5, m6, m7⟩, ⟨e1, e2, e3, e4, e5, e6⟩, ⟨w1, w2, w3, w4, w5⟩, ⟨g1, g2, g3, g4⟩, _⟩ := nd
  refine ⟨?_, fun x hx => ?_⟩
  · rcases hb with rfl | rfl | rfl
    · exact m1
    · exact m2
    · exact m3
  · simp [MAd.all] at hx
    rcases hb with rfl | rfl | rfl <;> rcases hx with rfl | rfl | rfl | rfl <;> first | exact Ne.symm ‹_› | exact fun z => by simp_all
theorem EAd.ewg (nd : a.every.Nodup) : a.e ≠ a.w ∧ a.e ≠ a.g ∧ a.w ≠ a.g := by
  simp only [EAd.every, EAd.all, List.nodup_cons, List.mem_cons, not_or, List.not_mem_nil, not_false_eq_true, List.nodup_nil, and_true] at nd
  exact ⟨nd.2.1.1, nd.2.1.2.1, nd.2.2.1.1⟩
/-- an attribute is stored -/
theorem EndAt.sfld {K : PySem.W.Frag} {P : Hp → Prop} {f : Str} (h : EndAt CE CM Z H a s) (cl : Cls K CE) (no : NoAttr K CE f) (hZ : a.e ∈ Z) (i : Nat) (v : V) (s' : EndS) (hi : enN[i]? = some f) (hlt : i < 15)
    (hv : ∀ cv mv ov, Im H cv (canD s.can) → Im H mv (mindD (s.can, s.bad)) → Im H ov (othD s.oth) → ∃ cv' mv' ov', (enV a s cv mv ov).set i v = enV a s' cv' mv' ov' ∧ Im H cv' (canD s'.can) ∧ Im H mv' (mindD (s'.can, s'.bad)) ∧ Im H ov' (othD s'.oth))
    (e1 : s'.mks = s.mks) (e2 : s'.wait = s.wait) (e3 : s'.got = s.got)
    (k : ∀ H', EndAt CE CM Z H' a s' → Frm a.all H H' → P H') :
    ∃ (b C dx : Addr) (fs : List (Str × V)), V.ref a.e = .ref b ∧ H b = some (.ins C dx fs) ∧ Cls K C ∧ NoAttr K C f ∧ fs.length < 1000 ∧ P (upd H b (.ins C dx (putF f v fs))) := by
  obtain ⟨⟨dx, cv, mv, ov, h1, h2, h3, h4⟩, M, hw, hg, nd⟩ := h
  refine ⟨a.e, CE, dx, _, rfl, h1, cl, no, zip_small (by decide), ?_⟩
  rw [zip_put enN_nd hi (by show i < 15; exact hlt)]
  obtain ⟨cv', mv', ov', e, g2, g3, g4⟩ := hv cv mv ov h2 h3 h4
  rw [e]
  have f1 : Frm [a.e] H (upd H a.e (.ins CE dx (enN.zip (enV a s' cv' mv' ov')))) := Frm.updI h1
  obtain ⟨n1, n2⟩ := EAd.mk_out nd (b := a.e) (.inl rfl)
  obtain ⟨n3, n4, n5⟩ := EAd.ewg nd
  refine k _ ⟨⟨dx, cv', mv', ov', upd_same, g2.frm f1, g3.frm f1, g4.frm f1⟩, ?_, ?_, ?_, nd⟩ (f1.sub (by simp [EAd.all]))
  · rw [e1]
    exact M.frm f1 (fun x hx => by simp at hx; subst hx; exact hZ) (by simp only [List.mem_singleton]; exact n1) (fun x hx => by simp only [List.mem_singleton]; exact n2 x hx)
  · rw [e2, upd_ne (Ne.symm n3)]; exact hw
  · rw [e3, upd_ne (Ne.symm n4)]; exact hg
theorem EndAt.gfld {K : PySem.W.Frag} {Q : L2.St → Hp → Prop} {f : Str} {r : L2.St} (h : EndAt CE CM Z H a s) (cl : Cls K CE) (no : NoAttr K CE f) (hZ : a.e ∈ Z) (i : Nat) (v : V) (s' : EndS) (hi : enN[i]? = some f) (hlt : i < 15)
    (hv : ∀ cv mv ov, Im H cv (canD s.can) → Im H mv (mindD (s.can, s.bad)) → Im H ov (othD s.oth) → ∃ cv' mv' ov', (enV a s cv mv ov).set i v = enV a s' cv' mv' ov' ∧ Im H cv' (canD s'.can) ∧ Im H mv' (mindD (s'.can, s'.bad)) ∧ Im H ov' (othD s'.oth))
    (e1 : s'.mks = s.mks) (e2 : s'.wait = s.wait) (e3 : s'.got = s.got)
    (k : ∀ H', EndAt CE CM Z H' a s' → Frm a.all H H' → Q (some (.ref a.e) :: r) H') : gFld K (tVar 0) f v (some (.ref a.e) :: r) H Q :=
  ⟨_, rfl, h.sfld (P := Q (some (.ref a.e) :: r)) cl no hZ i v s' hi hlt hv e1 e2 e3 k⟩
/-- the waiting ones -/
theorem EndAt.setW (h : EndAt CE CM Z H a s) (hZ : a.w ∈ Z) (ws : List Int) : EndAt CE CM Z (upd H a.w (.lst (ws.map V.int))) a { s with wait := ws } ∧ Frm a.all H (upd H a.w (.lst (ws.map V.int))) := by
  obtain ⟨⟨dx, cv, mv, ov, h1, h2, h3, h4⟩, M, hw, hg, nd⟩ := h
  have f1 : Frm [a.w] H (upd H a.w (.lst (ws.map V.int))) := Frm.updL hw
  obtain ⟨n1, n2⟩ := EAd.mk_out nd (b := a.w) (.inr (.inl rfl))
  obtain ⟨n3, n4, n5⟩ := EAd.ewg nd
  refine ⟨⟨⟨dx, cv, mv, ov, by rw [upd_ne n3]; exact h1, h2.frm f1, h3.frm f1, h4.frm f1⟩, ?_, upd_same, by rw [upd_ne (Ne.symm n5)]; exact hg, nd⟩, f1.sub (by simp [EAd.all])⟩
  exact M.frm f1 (fun x hx => by simp at hx; subst hx; exact hZ) (by simp only [List.mem_singleton]; exact n1) (fun x hx => by simp only [List.mem_singleton]; exact n2 x hx)
theorem EndAt.setG (h : EndAt CE CM Z H a s) (hZ : a.g ∈ Z) (ws : List Int) : EndAt CE CM Z (upd H a.g (.lst (ws.map V.int))) a { s with got := ws } ∧ Frm a.all H (upd H a.g (.lst (ws.map V.int))) := by
  obtain ⟨⟨dx, cv, mv, ov, h1, h2, h3, h4⟩, M, hw, hg, nd⟩ := h
  have f1 : Frm [a.g] H (upd H a.g (.lst (ws.map V.int))) := Frm.updL hg
  obtain ⟨n1, n2⟩ := EAd.mk_out nd (b := a.g) (.inr (.inr rfl))
  obtain ⟨n3, n4, n5⟩ := EAd.ewg nd
  refine ⟨⟨⟨dx, cv, mv, ov, by rw [upd_ne n4]; exact h1, h2.frm f1, h3.frm f1, h4.frm f1⟩, ?_, by rw [upd_ne n5]; exact hw, upd_same, nd⟩, f1.sub (by simp [EAd.all])⟩
  exact M.frm f1 (fun x hx => by simp at hx; subst hx; exact hZ) (by simp only [List.mem_singleton]; exact n1) (fun x hx => by simp only [List.mem_singleton]; exact n2 x hx)
/-- the marks -/
theorem EndAt.setM (h : EndAt CE CM Z H a s) {m : MkS} (M' : MarksAt CM Z H' a.mks m) (f : Frm a.mks.all H H') : EndAt CE CM Z H' a { s with mks := m } ∧ Frm a.all H H' := by
  obtain ⟨⟨dx, cv, mv, ov, h1, h2, h3, h4⟩, M, hw, hg, nd⟩ := h
  have o : ∀ b, (b = a.e ∨ b = a.w ∨ b = a.g) → b ∉ a.mks.all := fun b hb z => (EAd.mk_out nd hb).2 b z rfl
  exact ⟨⟨⟨dx, cv, mv, ov, f _ _ h1 (o _ (.inl rfl)), h2.frm f, h3.frm f, h4.frm f⟩, M', f _ _ hw (o _ (.inr (.inl rfl))), f _ _ hg (o _ (.inr (.inr rfl))), nd⟩, f.mono a.mk_all⟩
end
/-! ### what an end keeps -/
structure EndOk (s : EndS) : Prop where
  can : Can s.can
  o0 : 0 ≤ s.over
  o1 : s.over ≤ 1000000
  bad : s.bad.length ≤ 9
  oth : ∀ m, s.oth = some m → Can m.1 ∧ m.2.length ≤ 9
  n0 : 0 ≤ s.now
  n9 : s.now ≤ 9
  wait : s.wait.length ≤ 20
  got : s.got.length < 900
theorem bad_len (s : MkS) (f : Int) : (badF s f).length ≤ 9 := List.length_filter_le _ _
theorem EndOk.new {ms : List Int} (h : Can ms) : EndOk (.new ms) where
  can := h
  o0 := Int.le_refl 0
  o1 := (by decide : (0 : Int) ≤ 1000000)
  bad := Nat.zero_le 9
  oth := fun m e => by cases e
  n0 := Int.le_refl 0
  n9 := (by decide : (0 : Int) ≤ 9)
  wait := Nat.zero_le 20
  got := (by decide : (0 : Nat) < 900)
theorem EndOk.refresh {s : EndS} (h : EndOk s) : EndOk (refreshF s) := by
  unfold refreshF
  split
  · exact h
  · exact ⟨h.can, h.o0, h.o1, bad_len _ _, h.oth, h.n0, h.n9, h.wait, h.got⟩
theorem refresh_same (s : EndS) : (refreshF s).can = s.can ∧ (refreshF s).mks = s.mks ∧ (refreshF s).over = s.over ∧ (refreshF s).oth = s.oth ∧ (refreshF s).seen = s.seen ∧ (refreshF s).known = s.known ∧ (refreshF s).ready = s.ready ∧ (refreshF s).now = s.now ∧ (refreshF s).joined = s.joined ∧ (refreshF s).wait = s.wait ∧ (refreshF s).count = s.count ∧ (refreshF s).got = s.got ∧ (refreshF s).part = s.part := by
  unfold refreshF
  split <;> simp
theorem refresh_bad (s : EndS) : (refreshF s).bad = badF s.mks s.over := by
  unfold refreshF
  split
  · rename_i h; exact h.symm
  · rfl
theorem refresh_twice (s : EndS) : refreshF (refreshF s) = refreshF s := by
  have h := refresh_bad s
  obtain ⟨_, h2, h3, _⟩ := refresh_same s
  have e : refreshF (refreshF s) = if badF (refreshF s).mks (refreshF s).over = (refreshF s).bad then refreshF s else { refreshF s with bad := badF (refreshF s).mks (refreshF s).over, ver := (refreshF s).ver + 1 } := rfl
  rw [e, h2, h3, h, if_pos rfl]
theorem chosen_bound {one other bad : List Int} (h : Can one) : 0 ≤ chosenF one other bad ∧ chosenF one other bad ≤ 9 := by
  obtain ⟨h1, h2, _⟩ := isChosen_F one other bad
  refine ⟨h2, ?_⟩
  rcases h1 with e | ⟨e, _⟩
  · omega
  · exact (h.1 _ e).2
/-! ### readings of letters -/
theorem ImAll.ints_inv {H : Hp} : ∀ {xs : List V} {ns : List Int}, ImAll H xs (ns.map .int) → xs = ns.map V.int
  | _, [], .nil => rfl
  | _, n :: r, .cons h t => by
    cases h
    rw [List.map_cons, ImAll.ints_inv t]
theorem im_tup_inv {H : Hp} {v : V} {ds : List PyData} (h : Im H v (.tuple ds)) : ∃ t xs, v = .ref t ∧ H t = some (.tup xs) ∧ ImAll H xs ds := by
  cases h with
  | tup h1 h2 => exact ⟨_, _, rfl, h1, h2⟩
theorem im_can_inv {H : Hp} {v : V} {ms : List Int} (h : Im H v (canD ms)) : ∃ t, v = .ref t ∧ H t = some (.tup (ms.map V.int)) := by
  obtain ⟨t, xs, rfl, h1, h2⟩ := im_tup_inv h
  rw [h2.ints_inv] at h1
  exact ⟨t, rfl, h1⟩
theorem im_two_inv {H : Hp} {v : V} {d e : PyData} (h : Im H v (.tuple [d, e])) : ∃ t x y, v = .ref t ∧ H t = some (.tup [x, y]) ∧ Im H x d ∧ Im H y e := by
  obtain ⟨t, xs, rfl, h1, h2⟩ := im_tup_inv h
  match xs, h2 with
  | [x, y], .cons g1 (.cons g2 .nil) => exact ⟨t, x, y, rfl, h1, g1, g2⟩
theorem im_three_inv {H : Hp} {v : V} {d e f : PyData} (h : Im H v (.tuple [d, e, f])) : ∃ t x y z, v = .ref t ∧ H t = some (.tup [x, y, z]) ∧ Im H x d ∧ Im H y e ∧ Im H z f := by
  obtain ⟨t, xs, rfl, h1, h2⟩ := im_tup_inv h
  match xs, h2 with
  | [x, y, z], .cons g1 (.cons g2 (.cons g3 .nil)) => exact ⟨t, x, y, z, rfl, h1, g1, g2, g3⟩
theorem im_int_inv {H : Hp} {v : V} {i : Int} (h : Im H v (.int i)) : v = .int i := by cases h; rfl
theorem catA {K : PySem.W.Frag} {H : Hp} {Q : VK} {a b : Addr} {xs ys : List V} (h1 : SqT K H a xs) (h2 : SqT K H b ys) (hl : xs.length + ys.length ≤ sizeLine) (k : ∀ u H', SqT K H' u (xs ++ ys) → Same H H' → Q (.ref u) H') : rCatA K (.ref a) (.ref b) H Q := by
  refine ⟨a, b, xs, ys, rfl, rfl, h1, h2, hl, fun z => ?_, fun _ z => ?_, fun _ _ u hu => ?_⟩
  · subst z
    exact k b H h2 (.refl _)
  · subst z
    exact k a H (by rw [List.append_nil]; exact h1) (.refl _)
  · exact k u _ (SqT.of upd_same) (Same.upd_new hu)
/-- an attribute is stored for the first time -/
theorem iniF {K : PySem.W.Frag} {P : Hp → Prop} {f : Str} {CE dx p : Addr} {H : Hp} {vs : List V} (v : V) (h : H p = some (.ins CE dx (enN.zip vs))) (cl : Cls K CE) (no : NoAttr K CE f) (hf : enN[vs.length]? = some f)
    (k : ∀ H', H' p = some (.ins CE dx (enN.zip (vs ++ [v]))) → Frm [p] H H' → P H') :
    ∃ (b C dx : Addr) (fs : List (Str × V)), V.ref p = .ref b ∧ H b = some (.ins C dx fs) ∧ Cls K C ∧ NoAttr K C f ∧ fs.length < 1000 ∧ P (upd H b (.ins C dx (putF f v fs))) := by
  refine ⟨p, CE, dx, _, rfl, h, cl, no, zip_small (by decide), ?_⟩
  rw [zip_add enN_nd hf]
  exact k _ upd_same (Frm.updI h)
theorem MarksAt.ini {CM : Addr} {H H' : Hp} {a : MAd} {s : MkS} {p : Addr} (h : ∀ Z, MarksAt CM Z H a s) (f : Frm [p] H H') (n : p ≠ a.m) (na : ∀ x ∈ a.all, x ≠ p) : ∀ Z, MarksAt CM Z H' a s := fun Z =>
  ((h (p :: Z)).frm f (fun x hx => by simp at hx; simp [hx]) (by simp [Ne.symm n]) (fun x hx => by simp [na x hx])).more fun x hx => .inl (by simp [hx])
end TL

namespace TL
open PySem PySem.Spec PyProof.Rows L2
/-! ### a law's line: the mirror -/
structure LnS where
  ca : List Int
  cb : List Int
  a : EndS
  b : EndS
  sa : List Int
  sb : List Int
  log : List Row
def LnS.new (ca cb : List Int) : LnS := ⟨ca, cb, .new ca, .new cb, [], [], []⟩
def hearF0 (s : EndS) (l : Option SlowL) : EndS := { hearSlowF s l with part := 1 }
def hearF1 (s : EndS) (l : Option FastL) : EndS := { hearFastF s l with part := 0, over := (hearFastF s l).over + 1 }
abbrev Pass := List Int × List Int
abbrev Lost := (Bool × Bool) × (Bool × Bool)
def when {α : Type} (b : Bool) (x : α) : Option α := if b = true then some x else none
def jo (na nb : Int) (m : List Int) (l : Bool) : Bool := decide (na = nb) && (decide (na ∈ m) && !l)
/-- behind the slow part; la, lb: whether the letter comes to a, to b -/
def halfG (la lb : Bool) (s : LnS) : LnS :=
  { s with a := hearF0 (refreshF s.a) (when la (slowOf (refreshF s.b))), b := hearF0 (refreshF s.b) (when lb (slowOf (refreshF s.a))) }
def fastG (ja jb : Bool) (s : LnS) : LnS := { s with a := hearF1 s.a (when ja (fastOf s.b)), b := hearF1 s.b (when jb (fastOf s.a)) }
def halfF (p : Pass) (l : Lost) (s : LnS) : LnS := halfG (jo 0 0 p.1 l.1.1) (jo 0 0 p.2 l.1.2) s
def rowF (p : Pass) (l : Lost) (s : LnS) : Row := (s.a.now, jo s.a.now s.b.now p.1 l.2.1, s.b.now, jo s.a.now s.b.now p.2 l.2.2)
def fastF (p : Pass) (l : Lost) (s : LnS) : LnS := { fastG (jo s.a.now s.b.now p.1 l.2.1) (jo s.a.now s.b.now p.2 l.2.2) s with log := s.log ++ [rowF p l s] }
def frameF (p : Pass) (l : Lost) (s : LnS) : LnS := fastF p l (halfF p l s)
/-! ### in the heap -/
structure LnAd where
  l : Addr
  c : Addr
  es : Addr
  se : Addr
  s0 : Addr
  s1 : Addr
  lg : Addr
  c0 : Addr
  c1 : Addr
  a : EAd
  b : EAd
def LnAd.base (x : LnAd) : List Addr := [x.l, x.c, x.es, x.se, x.s0, x.s1, x.lg]
def LnAd.every (x : LnAd) : List Addr := x.base ++ (x.a.every ++ x.b.every)
def LnAd.all (x : LnAd) : List Addr := [x.l, x.s0, x.s1, x.lg] ++ (x.a.all ++ x.b.all)
def lnD (x : LnAd) (r : Bool) : List (Key × V) := [(.inr "can", .ref x.c), (.inr "ends", .ref x.es), (.inr "sent", .ref x.se), (.inr "log", .ref x.lg), (.inr "right", .bl r)]
theorem lnD_put (x : LnAd) (r r' : Bool) : putK (lnD x r) (.inr "right") (.bl r') = lnD x r' := rfl
structure LineAt (CE CM : Addr) (Z : List Addr) (H : Hp) (x : LnAd) (s : LnS) : Prop where
  l : H x.l = some (.dK (lnD x true))
  c : H x.c = some (.lst [.ref x.c0, .ref x.c1])
  c0 : H x.c0 = some (.tup (s.ca.map V.int))
  c1 : H x.c1 = some (.tup (s.cb.map V.int))
  es : H x.es = some (.lst [.ref x.a.e, .ref x.b.e])
  se : H x.se = some (.lst [.ref x.s0, .ref x.s1])
  s0 : H x.s0 = some (.lst (s.sa.map V.int))
  s1 : H x.s1 = some (.lst (s.sb.map V.int))
  lg : ∃ xs, H x.lg = some (.lst xs) ∧ ImAll H xs (s.log.map rowD)
  ea : EndAt CE CM Z H x.a s.a
  eb : EndAt CE CM Z H x.b s.b
  nd : x.every.Nodup
section
variable {CE CM : Addr} {Z S : List Addr} {H H' : Hp} {x : LnAd} {s : LnS}
theorem LnAd.dis (nd : x.every.Nodup) : x.base.Nodup ∧ (∀ y ∈ x.base, y ∉ x.a.every ∧ y ∉ x.b.every) ∧ ∀ y ∈ x.a.every, y ∉ x.b.every := by
  unfold LnAd.every at nd
  rw [List.nodup_append, List.nodup_append] at nd
  obtain ⟨h1, ⟨h2, h3, h4⟩, h5⟩ := nd
  exact ⟨h1, fun y hy => ⟨fun z => h5 y hy y (by simp [z]) rfl, fun z => h5 y hy y (by simp [z]) rfl⟩, fun y hy z => h4 y hy y z rfl⟩
theorem LnAd.sub_all (x : LnAd) : ∀ y ∈ x.all, y ∈ x.every := by
  intro y hy
  simp only [LnAd.all, List.mem_append] at hy
  simp only [LnAd.every, List.mem_append]
  rcases hy with h | h | h
  · left
    simp [LnAd.base] at h ⊢
    rcases h with h | h | h | h <;> simp [h]
  · exact .inr (.inl (x.a.all_every _ h))
  · exact .inr (.inr (x.b.all_every _ h))
theorem LnAd.a_all (x : LnAd) : ∀ y ∈ x.a.all, y ∈ x.all := fun y hy => by simp [LnAd.all, hy]
theorem LnAd.b_all (x : LnAd) : ∀ y ∈ x.b.all, y ∈ x.all := fun y hy => by simp [LnAd.all, hy]
theorem LineAt.frm (h : LineAt CE CM Z H x s) (e : Frm S H H') (hS : ∀ y ∈ S, y ∈ Z) (hd : ∀ y ∈ x.every, y ∉ S) : LineAt CE CM Z H' x s := by
  have b : ∀ y ∈ x.base, y ∉ S := fun y hy => hd y (by simp [LnAd.every, hy])
  obtain ⟨xs, h1, h2⟩ := h.lg
  refine ⟨e _ _ h.l (b _ (by simp [LnAd.base])), e _ _ h.c (b _ (by simp [LnAd.base])), e.tups _ _ h.c0, e.tups _ _ h.c1, e _ _ h.es (b _ (by simp [LnAd.base])), e _ _ h.se (b _ (by simp [LnAd.base])), e _ _ h.s0 (b _ (by simp [LnAd.base])), e _ _ h.s1 (b _ (by simp [LnAd.base])),
    ⟨xs, e _ _ h1 (b _ (by simp [LnAd.base])), h2.frm e⟩, h.ea.frm e hS fun y hy => hd y (by simp [LnAd.every, hy]), h.eb.frm e hS fun y hy => hd y (by simp [LnAd.every, hy]), h.nd⟩
theorem LineAt.same (h : LineAt CE CM Z H x s) (e : Same H H') : LineAt CE CM Z H' x s := h.frm (S := []) (.of_same e) (by simp) (by simp)
theorem LineAt.more {Z' : List Addr} (h : LineAt CE CM Z H x s) (hz : ∀ y ∈ Z', y ∈ Z ∨ ∀ bs, H y ≠ some (.lst bs)) : LineAt CE CM Z' H x s :=
  ⟨h.l, h.c, h.c0, h.c1, h.es, h.se, h.s0, h.s1, h.lg, h.ea.more hz, h.eb.more hz, h.nd⟩
theorem LineAt.there (h : LineAt CE CM Z H x s) : ∀ y ∈ x.every, ∃ o, H y = some o := by
  intro y hy
  simp only [LnAd.every, List.mem_append] at hy
  rcases hy with hy | hy | hy
  · obtain ⟨xs, h1, h2⟩ := h.lg
    simp [LnAd.base] at hy
    rcases hy with rfl | rfl | rfl | rfl | rfl | rfl | rfl
    · exact ⟨_, h.l⟩
    · exact ⟨_, h.c⟩
    · exact ⟨_, h.es⟩
    · exact ⟨_, h.se⟩
    · exact ⟨_, h.s0⟩
    · exact ⟨_, h.s1⟩
    · exact ⟨_, h1⟩
  · exact h.ea.there y hy
  · exact h.eb.there y hy
theorem LineAt.ne_new (h : LineAt CE CM Z H x s) {l : Addr} (n : H l = none) : l ∉ x.every := fun z => by
  obtain ⟨o, e⟩ := h.there l z
  rw [n] at e
  cases e
/-- an end goes on -/
theorem LineAt.setA (h : LineAt CE CM Z H x s) {a' : EndS} (E : EndAt CE CM Z H' x.a a') (f : Frm x.a.all H H') (hZ : ∀ z ∈ x.all, z ∈ Z) : LineAt CE CM Z H' x { s with a := a' } ∧ Frm x.all H H' := by
  obtain ⟨d1, d2, d3⟩ := LnAd.dis h.nd
  have b : ∀ y ∈ x.base, y ∉ x.a.all := fun y hy z => (d2 y hy).1 (x.a.all_every y z)
  obtain ⟨xs, h1, h2⟩ := h.lg
  exact ⟨⟨f _ _ h.l (b _ (by simp [LnAd.base])), f _ _ h.c (b _ (by simp [LnAd.base])), f.tups _ _ h.c0, f.tups _ _ h.c1, f _ _ h.es (b _ (by simp [LnAd.base])), f _ _ h.se (b _ (by simp [LnAd.base])), f _ _ h.s0 (b _ (by simp [LnAd.base])), f _ _ h.s1 (b _ (by simp [LnAd.base])),
    ⟨xs, f _ _ h1 (b _ (by simp [LnAd.base])), h2.frm f⟩, E, h.eb.frm f (fun y hy => hZ y (x.a_all y hy)) fun y hy z => d3 y (x.a.all_every y z) hy, h.nd⟩, f.mono x.a_all⟩
theorem LineAt.setB (h : LineAt CE CM Z H x s) {b' : EndS} (E : EndAt CE CM Z H' x.b b') (f : Frm x.b.all H H') (hZ : ∀ z ∈ x.all, z ∈ Z) : LineAt CE CM Z H' x { s with b := b' } ∧ Frm x.all H H' := by
  obtain ⟨d1, d2, d3⟩ := LnAd.dis h.nd
  have b : ∀ y ∈ x.base, y ∉ x.b.all := fun y hy z => (d2 y hy).2 (x.b.all_every y z)
  obtain ⟨xs, h1, h2⟩ := h.lg
  exact ⟨⟨f _ _ h.l (b _ (by simp [LnAd.base])), f _ _ h.c (b _ (by simp [LnAd.base])), f.tups _ _ h.c0, f.tups _ _ h.c1, f _ _ h.es (b _ (by simp [LnAd.base])), f _ _ h.se (b _ (by simp [LnAd.base])), f _ _ h.s0 (b _ (by simp [LnAd.base])), f _ _ h.s1 (b _ (by simp [LnAd.base])),
    ⟨xs, f _ _ h1 (b _ (by simp [LnAd.base])), h2.frm f⟩, h.ea.frm f (fun y hy => hZ y (x.b_all y hy)) fun y hy z => d3 y hy (x.b.all_every y z), E, h.nd⟩, f.mono x.b_all⟩
/-- a place of the line's own is written -/
theorem LnAd.ownd (nd : x.every.Nodup) {d : Addr} (hd : d ∈ x.base) : (∀ y ∈ x.a.every, y ∉ [d]) ∧ (∀ y ∈ x.b.every, y ∉ [d]) := by
  obtain ⟨d1, d2, d3⟩ := LnAd.dis nd
  exact ⟨fun y hy z => (d2 d hd).1 (by simp at z; rw [← z]; exact hy), fun y hy z => (d2 d hd).2 (by simp at z; rw [← z]; exact hy)⟩
theorem LnAd.basen (nd : x.every.Nodup) : (x.l ≠ x.c ∧ x.l ≠ x.es ∧ x.l ≠ x.se ∧ x.l ≠ x.s0 ∧ x.l ≠ x.s1 ∧ x.l ≠ x.lg) ∧ (x.c ≠ x.es ∧ x.c ≠ x.se ∧ x.c ≠ x.s0 ∧ x.c ≠ x.s1 ∧ x.c ≠ x.lg) ∧ (x.es ≠ x.se ∧ x.es ≠ x.s0 ∧ x.es ≠ x.s1 ∧ x.es ≠ x.lg) ∧ (x.se ≠ x.s0 ∧ x.se ≠ x.s1 ∧ x.se ≠ x.lg) ∧ (x.s0 ≠ x.s1 ∧ x.s0 ≠ x.lg) ∧ x.s1 ≠ x.lg := by
  have d1 := (LnAd.dis nd).1
  simpa only [LnAd.base, List.nodup_cons, List.mem_cons, not_or, List.not_mem_nil, not_false_eq_true, List.nodup_nil, and_true] using d1
/-- "right" is stored again -/
theorem LineAt.setR (h : LineAt CE CM Z H x s) (hZ : x.l ∈ Z) : LineAt CE CM Z (upd H x.l (.dK (lnD x true))) x s ∧ Frm x.all H (upd H x.l (.dK (lnD x true))) := by
  obtain ⟨⟨n1, n2, n3, n4, n5, n6⟩, _⟩ := LnAd.basen h.nd
  obtain ⟨o1, o2⟩ := LnAd.ownd h.nd (d := x.l) (by simp [LnAd.base])
  have f : Frm [x.l] H (upd H x.l (.dK (lnD x true))) := Frm.updK h.l
  obtain ⟨xs, h1, h2⟩ := h.lg
  have k : ∀ {y o}, H y = some o → x.l ≠ y → (upd H x.l (.dK (lnD x true))) y = some o := fun e n => by rw [upd_ne (Ne.symm n)]; exact e
  exact ⟨⟨upd_same, k h.c n1, f.tups _ _ h.c0, f.tups _ _ h.c1, k h.es n2, k h.se n3, k h.s0 n4, k h.s1 n5, ⟨xs, k h1 n6, h2.frm f⟩, h.ea.frm f (fun y hy => by simp at hy; subst hy; exact hZ) o1, h.eb.frm f (fun y hy => by simp at hy; subst hy; exact hZ) o2, h.nd⟩, f.sub (by simp [LnAd.all])⟩
/-- a row more -/
theorem LineAt.setLog (h : LineAt CE CM Z H x s) (hZ : x.lg ∈ Z) {xs : List V} {rs : List Row} (hA : ImAll H xs (rs.map rowD)) : LineAt CE CM Z (upd H x.lg (.lst xs)) x { s with log := rs } ∧ Frm x.all H (upd H x.lg (.lst xs)) := by
  obtain ⟨⟨_, _, _, _, _, n1⟩, ⟨_, _, _, _, n2⟩, ⟨_, _, _, n3⟩, ⟨_, _, n4⟩, ⟨_, n5⟩, n6⟩ := LnAd.basen h.nd
  obtain ⟨o1, o2⟩ := LnAd.ownd h.nd (d := x.lg) (by simp [LnAd.base])
  obtain ⟨xs0, h1, h2⟩ := h.lg
  have f : Frm [x.lg] H (upd H x.lg (.lst xs)) := Frm.updL h1
  have k : ∀ {y o}, H y = some o → y ≠ x.lg → (upd H x.lg (.lst xs)) y = some o := fun e n => by rw [upd_ne n]; exact e
  exact ⟨⟨k h.l n1, k h.c n2, f.tups _ _ h.c0, f.tups _ _ h.c1, k h.es n3, k h.se n4, k h.s0 n5, k h.s1 n6, ⟨xs, upd_same, hA.frm f⟩, h.ea.frm f (fun y hy => by simp at hy; subst hy; exact hZ) o1, h.eb.frm f (fun y hy => by simp at hy; subst hy; exact hZ) o2, h.nd⟩, f.sub (by simp [LnAd.all])⟩
/-- an item more is noted as sent -/
theorem LineAt.setS0 (h : LineAt CE CM Z H x s) (hZ : x.s0 ∈ Z) (ns : List Int) : LineAt CE CM Z (upd H x.s0 (.lst (ns.map V.int))) x { s with sa := ns } ∧ Frm x.all H (upd H x.s0 (.lst (ns.map V.int))) := by
  obtain ⟨⟨_, _, _, n1, _, _⟩, ⟨_, _, n2, _, _⟩, ⟨_, n3, _, _⟩, ⟨n4, _, _⟩, ⟨n5, n6⟩, _⟩ := LnAd.basen h.nd
  obtain ⟨o1, o2⟩ := LnAd.ownd h.nd (d := x.s0) (by simp [LnAd.base])
  obtain ⟨xs0, h1, h2⟩ := h.lg
  have f : Frm [x.s0] H (upd H x.s0 (.lst (ns.map V.int))) := Frm.updL h.s0
  have k : ∀ {y o}, H y = some o → y ≠ x.s0 → (upd H x.s0 (.lst (ns.map V.int))) y = some o := fun e n => by rw [upd_ne n]; exact e
  exact ⟨⟨k h.l n1, k h.c n2, f.tups _ _ h.c0, f.tups _ _ h.c1, k h.es n3, k h.se n4, upd_same, k h.s1 (Ne.symm n5), ⟨xs0, k h1 (Ne.symm n6), h2.frm f⟩, h.ea.frm f (fun y hy => by simp at hy; subst hy; exact hZ) o1, h.eb.frm f (fun y hy => by simp at hy; subst hy; exact hZ) o2, h.nd⟩, f.sub (by simp [LnAd.all])⟩
theorem LineAt.setS1 (h : LineAt CE CM Z H x s) (hZ : x.s1 ∈ Z) (ns : List Int) : LineAt CE CM Z (upd H x.s1 (.lst (ns.map V.int))) x { s with sb := ns } ∧ Frm x.all H (upd H x.s1 (.lst (ns.map V.int))) := by
  obtain ⟨⟨_, _, _, _, n1, _⟩, ⟨_, _, _, n2, _⟩, ⟨_, _, n3, _⟩, ⟨_, n4, _⟩, ⟨n5, _⟩, n6⟩ := LnAd.basen h.nd
  obtain ⟨o1, o2⟩ := LnAd.ownd h.nd (d := x.s1) (by simp [LnAd.base])
  obtain ⟨xs0, h1, h2⟩ := h.lg
  have f : Frm [x.s1] H (upd H x.s1 (.lst (ns.map V.int))) := Frm.updL h.s1
  have k : ∀ {y o}, H y = some o → y ≠ x.s1 → (upd H x.s1 (.lst (ns.map V.int))) y = some o := fun e n => by rw [upd_ne n]; exact e
  exact ⟨⟨k h.l n1, k h.c n2, f.tups _ _ h.c0, f.tups _ _ h.c1, k h.es n3, k h.se n4, k h.s0 n5, upd_same, ⟨xs0, k h1 (Ne.symm n6), h2.frm f⟩, h.ea.frm f (fun y hy => by simp at hy; subst hy; exact hZ) o1, h.eb.frm f (fun y hy => by simp at hy; subst hy; exact hZ) o2, h.nd⟩, f.sub (by simp [LnAd.all])⟩
theorem LineAt.get (h : LineAt CE CM Z H x s) : DGet H x.l (.str "can") (some (.ref x.c)) ∧ DGet H x.l (.str "ends") (some (.ref x.es)) ∧ DGet H x.l (.str "sent") (some (.ref x.se)) ∧ DGet H x.l (.str "log") (some (.ref x.lg)) ∧ DGet H x.l (.str "right") (some (.bl true)) :=
  ⟨DGet.k (k := .inr "can") h.l, DGet.k (k := .inr "ends") h.l, DGet.k (k := .inr "sent") h.l, DGet.k (k := .inr "log") h.l, DGet.k (k := .inr "right") h.l⟩
end
theorem nd_snoc {L M : List Addr} {H : Hp} (a : L.Nodup) (al : Alloc L H) (b : M.Nodup) (n : ∀ y ∈ M, H y = none) : (L ++ M).Nodup := by
  rw [List.nodup_append]
  refine ⟨a, b, fun x hx y hy e => ?_⟩
  subst e
  obtain ⟨o, ho⟩ := al x hx
  rw [n x hy] at ho
  cases ho
theorem Alloc.app {L M : List Addr} {H : Hp} (a : Alloc L H) (b : Alloc M H) : Alloc (L ++ M) H := fun z hz => (List.mem_append.mp hz).elim (a z) (b z)
theorem EndAt.ini {CE CM : Addr} {H H' : Hp} {a : EAd} {s : EndS} {p : Addr} (h : ∀ Z, EndAt CE CM Z H a s) (f : Frm [p] H H') (n : p ∉ a.every) : ∀ Z, EndAt CE CM Z H' a s := fun Z =>
  ((h (p :: Z)).frm f (fun x hx => by simp at hx; simp [hx]) (fun x hx z => by simp at z; subst z; exact n hx)).more fun x hx => .inl (by simp [hx])
/-! ### what always holds -/
structure Del (e : EndS) (sent got : List Int) : Prop where
  n : ∃ n : Nat, e.count = n ∧ n ≤ got.length ∧ got.length ≤ n + 1 ∧ e.wait = sent.drop n
  pre : got = sent.take got.length
  len : got.length ≤ sent.length
structure LnOk (pt : Int) (s : LnS) : Prop where
  ea : EndOk s.a
  eb : EndOk s.b
  pa : s.a.part = pt
  pb : s.b.part = pt
  ov : s.a.over = s.b.over
  ka : s.a.can = s.ca
  kb : s.b.can = s.cb
  oa : ∀ m, s.a.oth = some m → m.1 = s.cb
  ob : ∀ m, s.b.oth = some m → m.1 = s.ca
  na : s.a.now ∈ s.ca ∧ s.a.now ∈ s.cb
  nb : s.b.now ∈ s.ca ∧ s.b.now ∈ s.cb
  da : Del s.a s.sa s.b.got
  db : Del s.b s.sb s.a.got
  la : s.sa.length < 900
  lb : s.sb.length < 900
theorem LnOk.new {ca cb : List Int} (ha : Can ca) (hb : Can cb) : LnOk 0 (.new ca cb) where
  ea := EndOk.new ha
  eb := EndOk.new hb
  pa := rfl
  pb := rfl
  ov := rfl
  ka := rfl
  kb := rfl
  oa := fun m e => by cases e
  ob := fun m e => by cases e
  na := ⟨ha.2.2.1, hb.2.2.1⟩
  nb := ⟨ha.2.2.1, hb.2.2.1⟩
  da := ⟨⟨0, rfl, Nat.zero_le _, Nat.zero_le _, rfl⟩, rfl, Nat.zero_le _⟩
  db := ⟨⟨0, rfl, Nat.zero_le _, Nat.zero_le _, rfl⟩, rfl, Nat.zero_le _⟩
  la := (by decide : (0 : Nat) < 900)
  lb := (by decide : (0 : Nat) < 900)
/-- what a slow part leaves -/
theorem slow_parts (s : EndS) (l : Option SlowL) : (hearF0 (refreshF s) l).can = s.can ∧ (hearF0 (refreshF s) l).mks = s.mks ∧ (hearF0 (refreshF s) l).over = s.over ∧ (hearF0 (refreshF s) l).bad = badF s.mks s.over ∧ (hearF0 (refreshF s) l).wait = s.wait ∧ (hearF0 (refreshF s) l).count = s.count ∧ (hearF0 (refreshF s) l).got = s.got ∧
    (hearF0 (refreshF s) l).oth = (match l with | none => s.oth | some l => some l.2.1) ∧ (hearF0 (refreshF s) l).joined = s.joined := by
  obtain ⟨h1, h2, h3, h4, h5, h6, h7, h8, h9, h10, h11, h12, h13⟩ := refresh_same s
  have h0 := refresh_bad s
  unfold hearF0 hearSlowF
  rw [refresh_twice]
  cases l with
  | none => exact ⟨h1, h2, h3, h0, h10, h11, h12, h4, h9⟩
  | some l => exact ⟨h1, h2, h3, h0, h10, h11, h12, rfl, h9⟩
theorem slow_now (s : EndS) (l : Option SlowL) : (hearF0 (refreshF s) l).now = match (hearF0 (refreshF s) l).oth with | none => 0 | some m => chosenF s.can m.1 (badF s.mks s.over ++ m.2) := by
  have hc := (slow_parts s l).1
  have hb := (slow_parts s l).2.2.2.1
  have e : (hearF0 (refreshF s) l).now = takeF (hearF0 (refreshF s) l) := by
    unfold hearF0 hearSlowF
    rw [refresh_twice]
    rfl
  rw [e]
  unfold takeF
  rw [hc, hb]
  all_goals cases (hearF0 (refreshF s) l).oth <;> rfl
theorem chosen_in {one other bad : List Int} (h1 : 0 ∈ one) (h2 : 0 ∈ other) : chosenF one other bad ∈ one ∧ chosenF one other bad ∈ other := by
  rcases (isChosen_F one other bad).1 with e | ⟨e1, e2, _⟩
  · rw [e]; exact ⟨h1, h2⟩
  · exact ⟨e1, e2⟩
theorem EndOk.slow {s : EndS} (h : EndOk s) {l : Option SlowL} (hl : ∀ m, l = some m → Can m.2.1.1 ∧ m.2.1.2.length ≤ 9) : EndOk (hearF0 (refreshF s) l) := by
  obtain ⟨h1, h2, h3, h4, h5, h6, h7, h8, h9⟩ := slow_parts s l
  have hn := slow_now s l
  have hb : 0 ≤ (hearF0 (refreshF s) l).now ∧ (hearF0 (refreshF s) l).now ≤ 9 := by
    rw [hn]
    split
    · decide
    · exact chosen_bound h.can
  refine ⟨by rw [h1]; exact h.can, by rw [h3]; exact h.o0, by rw [h3]; exact h.o1, by rw [h4]; exact bad_len _ _, fun m e => ?_, hb.1, hb.2, by rw [h5]; exact h.wait, by rw [h7]; exact h.got⟩
  rw [h8] at e
  cases l with
  | none => exact h.oth m e
  | some l =>
    have e' : l.2.1 = m := Option.some.inj e
    rw [← e']
    exact hl l rfl
theorem when_some {α : Type} {b : Bool} {x y : α} (h : when b x = some y) : b = true ∧ x = y := by
  unfold when at h
  split at h
  · exact ⟨‹_›, Option.some.inj h⟩
  · cases h
theorem LnOk.half {s : LnS} (h : LnOk 0 s) (la lb : Bool) : LnOk 1 (halfG la lb s) := by
  have mind : ∀ {e : EndS}, EndOk e → Can (slowOf (refreshF e)).2.1.1 ∧ (slowOf (refreshF e)).2.1.2.length ≤ 9 := fun {e} he => ⟨he.refresh.can, he.refresh.bad⟩
  have wa : ∀ m, when la (slowOf (refreshF s.b)) = some m → Can m.2.1.1 ∧ m.2.1.2.length ≤ 9 := fun m e => by rw [← (when_some e).2]; exact mind h.eb
  have wb : ∀ m, when lb (slowOf (refreshF s.a)) = some m → Can m.2.1.1 ∧ m.2.1.2.length ≤ 9 := fun m e => by rw [← (when_some e).2]; exact mind h.ea
  obtain ⟨a1, a2, a3, a4, a5, a6, a7, a8, a9⟩ := slow_parts s.a (when la (slowOf (refreshF s.b)))
  obtain ⟨b1, b2, b3, b4, b5, b6, b7, b8, b9⟩ := slow_parts s.b (when lb (slowOf (refreshF s.a)))
  have oa : ∀ m, (halfG la lb s).a.oth = some m → m.1 = s.cb := fun m e => by
    have e' : (match when la (slowOf (refreshF s.b)) with | none => s.a.oth | some l => some l.2.1) = some m := a8 ▸ e
    cases hw : when la (slowOf (refreshF s.b)) with
    | none => rw [hw] at e'; exact h.oa m e'
    | some l =>
      rw [hw] at e'
      have e1 : l.2.1 = m := Option.some.inj e'
      rw [← e1, ← (when_some hw).2]
      show (refreshF s.b).can = _
      rw [(refresh_same s.b).1, h.kb]
  have ob : ∀ m, (halfG la lb s).b.oth = some m → m.1 = s.ca := fun m e => by
    have e' : (match when lb (slowOf (refreshF s.a)) with | none => s.b.oth | some l => some l.2.1) = some m := b8 ▸ e
    cases hw : when lb (slowOf (refreshF s.a)) with
    | none => rw [hw] at e'; exact h.ob m e'
    | some l =>
      rw [hw] at e'
      have e1 : l.2.1 = m := Option.some.inj e'
      rw [← e1, ← (when_some hw).2]
      show (refreshF s.a).can = _
      rw [(refresh_same s.a).1, h.ka]
  have ca0 : 0 ∈ s.ca := by rw [← h.ka]; exact h.ea.can.2.2.1
  have cb0 : 0 ∈ s.cb := by rw [← h.kb]; exact h.eb.can.2.2.1
  have na : (halfG la lb s).a.now ∈ s.ca ∧ (halfG la lb s).a.now ∈ s.cb := by
    have hn : (halfG la lb s).a.now = _ := slow_now s.a (when la (slowOf (refreshF s.b)))
    rw [hn]
    split
    · exact ⟨ca0, cb0⟩
    · rename_i m hm
      have e := oa m hm
      rw [e, h.ka]
      exact chosen_in ca0 cb0
  have nb : (halfG la lb s).b.now ∈ s.ca ∧ (halfG la lb s).b.now ∈ s.cb := by
    have hn : (halfG la lb s).b.now = _ := slow_now s.b (when lb (slowOf (refreshF s.a)))
    rw [hn]
    split
    · exact ⟨ca0, cb0⟩
    · rename_i m hm
      have e := ob m hm
      rw [e, h.kb]
      exact (chosen_in cb0 ca0).symm
  have del : ∀ {e e' : EndS} {sent g g' : List Int}, Del e sent g → e'.count = e.count → e'.wait = e.wait → g' = g → Del e' sent g' := fun {e e' sent g g'} d q1 q2 q3 => by
    subst q3
    exact ⟨by rw [q1, q2]; exact d.n, d.pre, d.len⟩
  exact ⟨h.ea.slow wa, h.eb.slow wb, rfl, rfl, by show (hearF0 _ _).over = (hearF0 _ _).over; rw [a3, b3]; exact h.ov, a1.trans h.ka, b1.trans h.kb, oa, ob, na, nb, del h.da a6 a5 b7, del h.db b6 b5 a7, h.la, h.lb⟩
/-- what came, of the items -/
def gotF (got : List Int) : Option FastL → List Int
  | none => got
  | some l => match l.2.1 with
    | none => got
    | some i => if l.1 = (got.length : Nat) then got ++ [i] else got
def cwF (c : Int) (w : List Int) : Option FastL → Int × List Int
  | none => (c, w)
  | some l => if c < l.2.2 then (l.2.2, w.tail) else (c, w)
theorem noted_parts (s : EndS) (j : Bool) : (notedF s j).can = s.can ∧ (notedF s j).over = s.over ∧ (notedF s j).bad = s.bad ∧ (notedF s j).oth = s.oth ∧ (notedF s j).now = s.now ∧ (notedF s j).joined = j ∧ (notedF s j).wait = s.wait ∧ (notedF s j).count = s.count ∧ (notedF s j).got = s.got ∧ (notedF s j).ver = s.ver ∧ (notedF s j).seen = s.seen ∧ (notedF s j).known = s.known ∧ (notedF s j).ready = s.ready := by
  unfold notedF
  split <;> simp
theorem fast_parts (s : EndS) (l : Option FastL) : (hearF1 s l).can = s.can ∧ (hearF1 s l).over = s.over + 1 ∧ (hearF1 s l).bad = s.bad ∧ (hearF1 s l).oth = s.oth ∧ (hearF1 s l).now = s.now ∧ (hearF1 s l).joined = l.isSome ∧ (hearF1 s l).got = gotF s.got l ∧ (hearF1 s l).count = (cwF s.count s.wait l).1 ∧ (hearF1 s l).wait = (cwF s.count s.wait l).2 ∧
    (hearF1 s l).mks = (notedF s l.isSome).mks ∧ (hearF1 s l).ver = s.ver ∧ (hearF1 s l).seen = s.seen ∧ (hearF1 s l).known = s.known ∧ (hearF1 s l).ready = s.ready := by
  cases l with
  | none =>
    obtain ⟨h1, h2, h3, h4, h5, h6, h7, h8, h9, h10, h11, h12, h13⟩ := noted_parts s false
    exact ⟨h1, by show (notedF s false).over + 1 = _; rw [h2], h3, h4, h5, h6, h9, h8, h7, rfl, h10, h11, h12, h13⟩
  | some l =>
    obtain ⟨n, i, c⟩ := l
    obtain ⟨h1, h2, h3, h4, h5, h6, h7, h8, h9, h10, h11, h12, h13⟩ := noted_parts s true
    have g : ∀ e : EndS, (gatherF e n i).can = e.can ∧ (gatherF e n i).over = e.over ∧ (gatherF e n i).bad = e.bad ∧ (gatherF e n i).oth = e.oth ∧ (gatherF e n i).now = e.now ∧ (gatherF e n i).joined = e.joined ∧ (gatherF e n i).got = gotF e.got (some (n, i, c)) ∧ (gatherF e n i).count = e.count ∧ (gatherF e n i).wait = e.wait ∧ (gatherF e n i).mks = e.mks ∧ (gatherF e n i).ver = e.ver ∧ (gatherF e n i).seen = e.seen ∧ (gatherF e n i).known = e.known ∧ (gatherF e n i).ready = e.ready := fun e => by
      cases i with
      | none => simp [gatherF, gotF]
      | some i =>
        simp only [gatherF, gotF]
        split <;> simp
    obtain ⟨g1, g2, g3, g4, g5, g6, g7, g8, g9, g10, g11, g12, g13, g14⟩ := g (notedF s true)
    have e : hearFastF s (some (n, i, c)) = knowF (gatherF (notedF s true) n i) c := rfl
    have k : ∀ e : EndS, (knowF e c).can = e.can ∧ (knowF e c).over = e.over ∧ (knowF e c).bad = e.bad ∧ (knowF e c).oth = e.oth ∧ (knowF e c).now = e.now ∧ (knowF e c).joined = e.joined ∧ (knowF e c).got = e.got ∧ (knowF e c).count = (cwF e.count e.wait (some (n, i, c))).1 ∧ (knowF e c).wait = (cwF e.count e.wait (some (n, i, c))).2 ∧ (knowF e c).mks = e.mks ∧ (knowF e c).ver = e.ver ∧ (knowF e c).seen = e.seen ∧ (knowF e c).known = e.known ∧ (knowF e c).ready = e.ready := fun e => by
      simp only [knowF, cwF]
      split <;> simp
    obtain ⟨k1, k2, k3, k4, k5, k6, k7, k8, k9, k10, k11, k12, k13, k14⟩ := k (gatherF (notedF s true) n i)
    refine ⟨k1.trans (g1.trans h1), ?_, k3.trans (g3.trans h3), k4.trans (g4.trans h4), k5.trans (g5.trans h5), k6.trans (g6.trans h6), k7.trans (g7.trans (by rw [h9])), k8.trans (by rw [g8, g9, h7, h8]), k9.trans (by rw [g8, g9, h7, h8]), k10.trans g10, k11.trans (g11.trans h10), k12.trans (g12.trans h11), k13.trans (g13.trans h12), k14.trans (g14.trans h13)⟩
    show (hearFastF s (some (n, i, c))).over + 1 = _
    rw [e, k2, g2, h2]
theorem Del.fast {e e' : EndS} {sent g g' : List Int} (d : Del e sent g) (ja jb : Bool) (t : FastL) (u : FastL) (ht : t.2.2 = (g.length : Nat)) (hu1 : u.1 = e.count) (hu2 : u.2.1 = e.wait.head?)
    (h1 : e'.count = (cwF e.count e.wait (when ja t)).1) (h2 : e'.wait = (cwF e.count e.wait (when ja t)).2) (h3 : g' = gotF g (when jb u)) : Del e' sent g' := by
  obtain ⟨⟨n, q1, q2, q3, q4⟩, pre, len⟩ := d
  have gg : g' = g ∨ (n = g.length ∧ ∃ v, sent[n]? = some v ∧ g' = g ++ [v]) := by
    rw [h3]
    cases jb with
    | false => exact .inl rfl
    | true =>
      have e1 : gotF g (when true u) = match sent[n]? with
          | none => g
          | some i => if (n : Int) = (g.length : Nat) then g ++ [i] else g := by
        show gotF g (some u) = _
        unfold gotF
        simp only
        rw [hu2, hu1, q1, q4, List.head?_drop]
      rw [e1]
      cases hs : sent[n]? with
      | none => exact .inl rfl
      | some v =>
        by_cases hc : (n : Int) = (g.length : Nat)
        · exact .inr ⟨by omega, v, rfl, if_pos hc⟩
        · exact .inl (if_neg hc)
  have cc : (e'.count = n ∧ e'.wait = sent.drop n) ∨ (g.length = n + 1 ∧ e'.count = (n + 1 : Nat) ∧ e'.wait = sent.drop (n + 1)) := by
    rw [h1, h2]
    cases ja with
    | false => exact .inl ⟨q1, q4⟩
    | true =>
      show (cwF e.count e.wait (some t)).1 = _ ∧ _ ∨ _
      simp only [cwF, when, if_true, ht, q1]
      by_cases hlt : (n : Int) < (g.length : Nat)
      · rw [if_pos hlt]
        refine .inr ⟨by omega, by simp only; omega, ?_⟩
        simp only
        rw [q4, List.tail_drop]
      · rw [if_neg hlt]
        exact .inl ⟨rfl, q4⟩
  rcases gg with rfl | ⟨hn, v, hv, rfl⟩
  · rcases cc with ⟨c1, c2⟩ | ⟨c0, c1, c2⟩
    · exact ⟨⟨n, c1, q2, q3, c2⟩, pre, len⟩
    · exact ⟨⟨n + 1, c1, by omega, by omega, c2⟩, pre, len⟩
  · have hlt : n < sent.length := (List.getElem?_eq_some_iff.mp hv).1
    rcases cc with ⟨c1, c2⟩ | ⟨c0, c1, c2⟩
    · refine ⟨⟨n, c1, by simp; omega, by simp; omega, c2⟩, ?_, by simp; omega⟩
      rw [List.length_append, List.length_singleton, ← hn, take_more hv]
      congr 1
      rw [hn]
      exact pre
    · omega
theorem EndOk.fast {s : EndS} (h : EndOk s) (l : Option FastL) (ho : s.over < 1000000) (hw : (hearF1 s l).wait.length ≤ 20) (hg : (hearF1 s l).got.length < 900) : EndOk (hearF1 s l) := by
  obtain ⟨h1, h2, h3, h4, h5, h6, h7, h8, h9, h10, _⟩ := fast_parts s l
  have := h.o0
  exact ⟨by rw [h1]; exact h.can, by rw [h2]; omega, by rw [h2]; omega, by rw [h3]; exact h.bad, fun m e => h.oth m (h4 ▸ e), by rw [h5]; exact h.n0, by rw [h5]; exact h.n9, hw, hg⟩
theorem cw_len (c : Int) (w : List Int) (l : Option FastL) : (cwF c w l).2.length ≤ w.length := by
  cases l with
  | none => exact Nat.le_refl _
  | some l =>
    simp only [cwF]
    split
    · simp only [List.length_tail]; omega
    · exact Nat.le_refl _
theorem LnOk.fast {s : LnS} (h : LnOk 1 s) (ja jb : Bool) (ho : s.a.over < 1000000) : LnOk 0 (fastG ja jb s) := by
  obtain ⟨a1, a2, a3, a4, a5, a6, a7, a8, a9, a10, _⟩ := fast_parts s.a (when ja (fastOf s.b))
  obtain ⟨b1, b2, b3, b4, b5, b6, b7, b8, b9, b10, _⟩ := fast_parts s.b (when jb (fastOf s.a))
  have ov := h.ov
  have da : Del (fastG ja jb s).a s.sa (fastG ja jb s).b.got := h.da.fast ja jb (fastOf s.b) (fastOf s.a) rfl rfl rfl a8 a9 b7
  have db : Del (fastG ja jb s).b s.sb (fastG ja jb s).a.got := h.db.fast jb ja (fastOf s.a) (fastOf s.b) rfl rfl rfl b8 b9 a7
  have wa := h.ea.wait
  have wb := h.eb.wait
  have ca := cw_len s.a.count s.a.wait (when ja (fastOf s.b))
  have cb := cw_len s.b.count s.b.wait (when jb (fastOf s.a))
  have la := h.la
  have lb := h.lb
  exact ⟨h.ea.fast _ ho (by rw [a9]; omega) (Nat.lt_of_le_of_lt db.len h.lb), h.eb.fast _ (by omega) (by rw [b9]; omega) (Nat.lt_of_le_of_lt da.len h.la), rfl, rfl, by show (hearF1 _ _).over = (hearF1 _ _).over; rw [a2, b2, ov], a1.trans h.ka, b1.trans h.kb, fun m e => h.oa m (a4 ▸ e), fun m e => h.ob m (b4 ▸ e),
    by show (hearF1 _ _).now ∈ _ ∧ (hearF1 _ _).now ∈ _; rw [a5]; exact h.na, by show (hearF1 _ _).now ∈ _ ∧ (hearF1 _ _).now ∈ _; rw [b5]; exact h.nb, da, db, h.la, h.lb⟩
/-- a letter that tells more came, so something waits -/
theorem Del.waits {e : EndS} {sent g : List Int} (d : Del e sent g) (h : e.count < (g.length : Nat)) : e.wait ≠ [] := by
  obtain ⟨⟨n, q1, q2, q3, q4⟩, pre, len⟩ := d
  rw [q4]
  intro z
  rw [List.drop_eq_nil_iff] at z
  omega
theorem LnOk.log {pt : Int} {s : LnS} (h : LnOk pt s) (rs : List Row) : LnOk pt { s with log := rs } := ⟨h.ea, h.eb, h.pa, h.pb, h.ov, h.ka, h.kb, h.oa, h.ob, h.na, h.nb, h.da, h.db, h.la, h.lb⟩
theorem LnOk.frame {s : LnS} (h : LnOk 0 s) (p : Pass) (l : Lost) (ho : s.a.over < 1000000) : LnOk 0 (frameF p l s) :=
  ((h.half _ _).fast _ _ (by show (hearF0 _ _).over < _; rw [(slow_parts _ _).2.2.1]; exact ho)).log _
/-- an end sends something, if it may -/
def sendA (s : LnS) (i : Int) : LnS := { s with a := { s.a with wait := s.a.wait ++ [i] }, sa := s.sa ++ [i] }
def sendB (s : LnS) (i : Int) : LnS := { s with b := { s.b with wait := s.b.wait ++ [i] }, sb := s.sb ++ [i] }
def Sends (s : LnS) (n : Int) (s' : LnS) : Prop :=
  if n = 0 then (20 ≤ s.a.wait.length ∧ s' = s) ∨ (s.a.wait.length < 20 ∧ ∃ i, 0 ≤ i ∧ i ≤ 999 ∧ s' = sendA s i)
  else (20 ≤ s.b.wait.length ∧ s' = s) ∨ (s.b.wait.length < 20 ∧ ∃ i, 0 ≤ i ∧ i ≤ 999 ∧ s' = sendB s i)
theorem Del.send {e e' : EndS} {sent g : List Int} (d : Del e sent g) (i : Int) (h1 : e'.count = e.count) (h2 : e'.wait = e.wait ++ [i]) : Del e' (sent ++ [i]) g := by
  obtain ⟨⟨n, q1, q2, q3, q4⟩, pre, len⟩ := d
  refine ⟨⟨n, h1.trans q1, q2, q3, ?_⟩, ?_, by simp; omega⟩
  · rw [h2, q4, List.drop_append_of_le_length (by omega)]
  · rw [List.take_append_of_le_length len]
    exact pre
theorem LnOk.sends {s s' : LnS} {n : Int} {pt : Int} (h : LnOk pt s) (hs : Sends s n s') (la : s.sa.length < 899) (lb : s.sb.length < 899) : LnOk pt s' ∧ s'.sa.length ≤ s.sa.length + 1 ∧ s'.sb.length ≤ s.sb.length + 1 ∧ s'.a.over = s.a.over ∧ s'.log = s.log ∧ s'.ca = s.ca ∧ s'.cb = s.cb := by
  unfold Sends at hs
  split at hs
  · rcases hs with ⟨_, rfl⟩ | ⟨hw, i, _, _, rfl⟩
    · exact ⟨h, by omega, by omega, rfl, rfl, rfl, rfl⟩
    · refine ⟨⟨⟨h.ea.can, h.ea.o0, h.ea.o1, h.ea.bad, h.ea.oth, h.ea.n0, h.ea.n9, by show (s.a.wait ++ [i]).length ≤ 20; simp; omega, h.ea.got⟩, h.eb, h.pa, h.pb, h.ov, h.ka, h.kb, h.oa, h.ob, h.na, h.nb, h.da.send i rfl rfl, ⟨h.db.n, h.db.pre, h.db.len⟩, by show (s.sa ++ [i]).length < 900; simp; omega, h.lb⟩, by show (s.sa ++ [i]).length ≤ _; simp, by show s.sb.length ≤ _; omega, rfl, rfl, rfl, rfl⟩
  · rcases hs with ⟨_, rfl⟩ | ⟨hw, i, _, _, rfl⟩
    · exact ⟨h, by omega, by omega, rfl, rfl, rfl, rfl⟩
    · refine ⟨⟨h.ea, ⟨h.eb.can, h.eb.o0, h.eb.o1, h.eb.bad, h.eb.oth, h.eb.n0, h.eb.n9, by show (s.b.wait ++ [i]).length ≤ 20; simp; omega, h.eb.got⟩, h.pa, h.pb, h.ov, h.ka, h.kb, h.oa, h.ob, h.na, h.nb, ⟨h.da.n, h.da.pre, h.da.len⟩, h.db.send i rfl rfl, h.la, by show (s.sb ++ [i]).length < 900; simp; omega⟩, by show s.sa.length ≤ _; omega, by show (s.sb ++ [i]).length ≤ _; simp, rfl, rfl, rfl, rfl⟩
/-- a law's line and its dice -/
structure Lw (CE CM : Addr) (H : Hp) (d : Addr) (x : LnAd) (s : LnS) : Prop where
  D : DiceAt H d
  M : LineAt CE CM (d :: x.all) H x s
  nd : d ∉ x.every
section
variable {CE CM : Addr} {H H' : Hp} {d : Addr} {x : LnAd} {s s' : LnS}
theorem Lw.al (h : Lw CE CM H d x s) : Alloc (d :: x.all) H := fun z hz => by
  rcases List.mem_cons.mp hz with rfl | hz
  · obtain ⟨ns, e, _⟩ := h.D
    exact ⟨_, e⟩
  · exact h.M.there z (x.sub_all z hz)
theorem Lw.ndx (h : Lw CE CM H d x s) : d ∉ x.all := fun z => h.nd (x.sub_all _ z)
theorem Lw.sub (_ : Lw CE CM H d x s) : ∀ z ∈ x.all, z ∈ d :: x.all := fun z hz => List.mem_cons_of_mem _ hz
theorem Lw.same (h : Lw CE CM H d x s) (e : Same H H') : Lw CE CM H' d x s := ⟨h.D.same e, h.M.same e, h.nd⟩
theorem Lw.step (h : Lw CE CM H d x s) (M : LineAt CE CM (d :: x.all) H' x s') (f : Frm x.all H H') : Lw CE CM H' d x s' := ⟨h.D.frm f h.ndx, M, h.nd⟩
theorem Lw.dice (h : Lw CE CM H d x s) (D : DiceAt H' d) (f : Frm [d] H H') : Lw CE CM H' d x s := ⟨D, h.M.frm f (fun y hy => by simp at hy; simp [hy]) (fun y hy z => by simp at z; subst z; exact h.nd hy), h.nd⟩
theorem Lw.new (h : Lw CE CM H d x s) {l : Addr} (n : H l = none) : l ≠ d ∧ l ∉ x.every := ⟨h.D.ne_new n, h.M.ne_new n⟩
/-- something else that is new is written -/
theorem Lw.own (h : Lw CE CM H d x s) {l : Addr} {xs : List V} {o : HO} {H0 : Hp} {S : List Addr} (_ : H0 l = none) (h1 : Lw CE CM H' d x s') (e : H' l = some (.lst xs)) (hl : l ∉ d :: x.every) (f : Frm S H0 H') (hm : LineAt CE CM (l :: d :: x.all) H' x s') : Lw CE CM (upd H' l o) d x s' := by
  have hne : l ≠ d := fun z => hl (by simp [z])
  have hnx : l ∉ x.every := fun z => hl (by simp [z])
  exact ⟨h1.D.upd_ne (Ne.symm hne), (hm.frm (Frm.updL e) (fun y hy => by simp at hy; simp [hy]) (fun y hy z => by simp at z; subst z; exact hnx hy)).more fun y hy => .inl (List.mem_cons_of_mem _ hy), h1.nd⟩
end
theorem lv_slow {e : EndS} (h : EndOk e) : lv 4 (.tuple [.int 0, slowD (slowOf (refreshF e))]) := by
  have h' := h.refresh
  have hm : lv 2 (mindD ((refreshF e).can, (refreshF e).bad)) := lv_mind h'.can.2.2.2 (Nat.le_trans h'.bad (by decide)) 0
  refine ⟨by show 2 ≤ 100000; decide, fun d hd => ?_⟩
  rcases List.mem_cons.mp hd with rfl | hd
  · trivial
  · rw [List.mem_singleton] at hd
    subst hd
    refine ⟨by show 3 ≤ 100000; decide, fun d hd => ?_⟩
    rcases List.mem_cons.mp hd with rfl | hd
    · trivial
    · rcases List.mem_cons.mp hd with rfl | hd
      · exact hm
      · rw [List.mem_singleton] at hd
        subst hd
        trivial
theorem lv_fast (n : Int) (l : FastL) : lv 4 (.tuple [.int n, fastD l]) := by
  obtain ⟨a, o, b⟩ := l
  refine ⟨by show 2 ≤ 100000; decide, fun d hd => ?_⟩
  rcases List.mem_cons.mp hd with rfl | hd
  · trivial
  · rw [List.mem_singleton] at hd
    subst hd
    refine ⟨by show 3 ≤ 100000; decide, fun d hd => ?_⟩
    rcases List.mem_cons.mp hd with rfl | hd
    · trivial
    · rcases List.mem_cons.mp hd with rfl | hd
      · cases o <;> trivial
      · rw [List.mem_singleton] at hd
        subst hd
        trivial
theorem lv_two {n : Nat} {a b : PyData} (ha : lv n a) (hb : lv n b) : lv (n + 1) (.list [a, b]) := by
  refine ⟨by show 2 ≤ 100000; decide, fun d hd => ?_⟩
  rcases List.mem_cons.mp hd with rfl | hd
  · exact ha
  · rw [List.mem_singleton] at hd
    subst hd
    exact hb
/-! ### what passes, what is lost -/
def PassAt (S : List Addr) (H : Hp) (pl : Addr) (p : Pass) : Prop := ∃ a0 a1, H pl = some (.lst [.ref a0, .ref a1]) ∧ H a0 = some (.lst (p.1.map V.int)) ∧ H a1 = some (.lst (p.2.map V.int)) ∧ pl ∉ S ∧ a0 ∉ S ∧ a1 ∉ S
def LostAt (S : List Addr) (H : Hp) (L : Addr) (l : Lost) : Prop := ∃ c0 c1, H L = some (.lst [.ref c0, .ref c1]) ∧ H c0 = some (.lst [.bl l.1.1, .bl l.1.2]) ∧ H c1 = some (.lst [.bl l.2.1, .bl l.2.2]) ∧ L ∉ S ∧ c0 ∉ S ∧ c1 ∉ S
theorem PassAt.frm {S : List Addr} {H H' : Hp} {pl : Addr} {p : Pass} (h : PassAt S H pl p) (f : Frm S H H') : PassAt S H' pl p := by
  obtain ⟨a0, a1, h1, h2, h3, n1, n2, n3⟩ := h
  exact ⟨a0, a1, f _ _ h1 n1, f _ _ h2 n2, f _ _ h3 n3, n1, n2, n3⟩
theorem PassAt.sub {S S' : List Addr} {H : Hp} {pl : Addr} {p : Pass} (h : PassAt S H pl p) (hs : ∀ x ∈ S', x ∈ S) : PassAt S' H pl p := by
  obtain ⟨a0, a1, h1, h2, h3, n1, n2, n3⟩ := h
  exact ⟨a0, a1, h1, h2, h3, fun z => n1 (hs _ z), fun z => n2 (hs _ z), fun z => n3 (hs _ z)⟩
theorem LostAt.frm {S : List Addr} {H H' : Hp} {pl : Addr} {p : Lost} (h : LostAt S H pl p) (f : Frm S H H') : LostAt S H' pl p := by
  obtain ⟨a0, a1, h1, h2, h3, n1, n2, n3⟩ := h
  exact ⟨a0, a1, f _ _ h1 n1, f _ _ h2 n2, f _ _ h3 n3, n1, n2, n3⟩
theorem LostAt.sub {S S' : List Addr} {H : Hp} {pl : Addr} {p : Lost} (h : LostAt S H pl p) (hs : ∀ x ∈ S', x ∈ S) : LostAt S' H pl p := by
  obtain ⟨a0, a1, h1, h2, h3, n1, n2, n3⟩ := h
  exact ⟨a0, a1, h1, h2, h3, fun z => n1 (hs _ z), fun z => n2 (hs _ z), fun z => n3 (hs _ z)⟩
end TL

namespace TL
open PySem PySem.Spec PyProof.Rows L2
/-! ### the base class's __init__, called by its name -/
/-- what the written part says of the class at C, whose __init__ is ValueError's -/
structure BaseC (K : PySem.W.Frag) (C : Addr) : Prop where
  ga : PySem.W.specialIn K (.ref C) "__getattribute__" = some (some (.builtin "type.__getattribute__"))
  rd : PySem.W.readsIn K C (.type "type") = true
  fi : PySem.W.findCls K (.ref C) (.type "type") "__init__" = some (.val (.builtin "ValueError.__init__"))
  kp : PySem.W.keepIn K (.ref C) = true
theorem pe_basei {X : Cx} {x : Str} {C : Addr} {e : Expr} {es : List Expr} {ta : TA} {p1 p2 pos : Pos} {pl : Sem Bool} (hg : Gl X x) (hm : X.mg x = some (.ref C)) (B : BaseC X.K C) (ha : PA X (e :: es) ta) (hdb : (x == ("__debug__" : Str)) = false := by decide)
    (hc : eval (.Call (.Attribute (.Name x p1) "__init__" p2) (e :: es) [] pos) X.env = (do
      let ov ← eval (.Name x p1) X.env
      standAt p2.atName
      let (f, one) ← holding [ov] (getMethod ov "__init__" pl)
      callWith pos f one (backTo pos (starEach (e :: es) X.env)) (backToKw pos (keywordEach [] X.env))) := by rfl)
    (hst : starEach (e :: es) X.env = (false, eval e X.env) :: starEach es X.env := by rfl) (hno : (backTo pos (starEach es X.env)).any (·.1) = false := by rfl) :
    PE X (.Call (.Attribute (.Name x p1) "__init__" p2) (e :: es) [] pos) (tVeI X.K ta) := by
  constructor
  intro pins s σ H Q I h
  refine PySem.W.methodCall_KW (ld_glob I hg hm ?_ hdb) hc
  refine PySem.W.method_cls I.kIn B.ga (PySem.W.cls_value I.kIn B.rd B.fi rfl ?_)
  show wpAny _ _ (callWith pos (.builtin "ValueError.__init__") [] (backTo pos (starEach (e :: es) X.env)) []) _ _ _
  refine PyProof.Rows.callWith_method1 (thn (ha.run pos pins _ σ H _ (I.tok _) h) fun us s2 hh => ?_) hst hno
  obtain ⟨vs, H2, I2, rs, a, D, ws, rfl, hln, T, ea, q⟩ := hh
  cases rs with
  | cons ra rr =>
    rename_i u0 ur
    have e0 : u0 = Value.ref a := ra
    subst e0
    refine oinit_ok T I2 ea ?_ fun s' J => ⟨.non, H2, J, rfl, q⟩
    have := Paired.length rr
    rw [sizeLine_eq]
    omega
/-! ### what a suite asks of the exception that it holds -/
/-- isinstance(e, c), e the exception at a of the class cls, with the dict d -/
def rIsX (K : PySem.W.Frag) (cls : Value) (d : Option Addr) (a : Addr) : List V → Hp → VK → Prop := fun xs H Q =>
  ∃ (D : Addr) (c : V) (cv : Value) (b : Bool), xs = [.ref a, c] ∧ cls = .ref D ∧ (∀ u, RelV c u → u = cv) ∧ ExcC K D ∧ PySem.W.kitOne K (.ref D) cv = some b ∧ (d = none ∨ ∃ dd fs, d = some dd ∧ H dd = some (.xd fs)) ∧ Q (.bl b) H
theorem inst_xd {X : Cx} {pins : List (Addr × Obj)} {σ : L2.St} {H : Hp} {s : Shared} {a D : Addr} {oe : Obj} {cls : Value} {d : Option Addr} {vs : Array Value} (I : Inv X pins σ H s) (ha : s.heap.get? a = some oe) (hz : Zc cls d oe) (hv : oe.data = .fields vs) (hc : cls = .ref D)
    (hd : d = none ∨ ∃ dd fs, d = some dd ∧ H dd = some (.xd fs)) : ∃ od, PySem.W.InstAt s.heap a oe D od := by
  have no : PySem.W.notCls oe = true := by
    unfold PySem.W.notCls
    rw [hv] <;> rfl
  have hcl : oe.cls = .ref D := hz.1.trans hc
  have hdd : oe.dict = d := hz.2
  rcases hd with hd | ⟨dd, fs, hd, hx⟩
  · exact ⟨none, ha, hcl, no, by rw [hdd, hd]; trivial⟩
  · have hx' : ObjOk X.prog X.w H s.heap dd (.xd fs) := I.hok dd _ hx
    obtain ⟨mA, hns, _⟩ := hx'
    obtain ⟨od, ho, _⟩ := lookIn_ns hns
    exact ⟨some od, ha, hcl, no, by rw [hdd, hd]; exact ho⟩
theorem call_isX {X : Cx} {a : Addr} {oe : Obj} {cls : Value} {d : Option Addr} {pn : List (Addr × Obj)} (hz : Zc cls d oe) (hf : ∃ vs, oe.data = .fields vs) : CallR (X.suite a ((a, oe) :: pn)) (.builtin "isinstance") (rIsX X.K cls d a) := by
  intro pins s σ H xs us Q I rr h
  obtain ⟨D, c, cv, b, rfl, hcl, hcv, C, e, hd, q⟩ := h
  cases rr with
  | cons r0 rr =>
  cases rr with
  | cons r1 rr =>
  cases rr
  cases r0
  obtain rfl := hcv _ r1
  obtain ⟨hat, _⟩ := I.pin (a, oe) (List.mem_append_left _ (.head _))
  obtain ⟨vs, hv⟩ := hf
  obtain ⟨od, J⟩ := inst_xd I hat hz hv hcl hd
  have hcs : (PySem.W.clsIn X.K D).isSome = true := by
    obtain ⟨cd, hc, _⟩ := PySem.W.any_some C.hd
    rw [hc] <;> rfl
  exact PySem.W.kia_one (PySem.W.kitx_exc hcs C.hg C.hk C.hs C.ha C.hn C.ht C.hm) I.kIn J e (fun z => by cases z) fun tk => ⟨.bl b, H, I.kept (t' := tk) fun _ _ z => z, rfl, q⟩
/-- e.n -/
def tXg (K : PySem.W.Frag) (a : Addr) (cls : Value) (d : Option Addr) (n : Str) (te : TE) : TE := fun σ H Q => te σ H fun x H1 => x = .ref a ∧
  ∃ (C dd : Addr) (fs : List (Str × V)) (v : V), cls = .ref C ∧ XfC K C ∧ PySem.W.findIn K (.ref C) n = some none ∧ d = some dd ∧ H1 dd = some (.xd fs) ∧ fs.lookup n = some v ∧ Q v H1
theorem pe_xg {X : Cx} {a : Addr} {oe : Obj} {cls : Value} {d : Option Addr} {pn : List (Addr × Obj)} {e : Expr} {te : TE} {pos : Pos} {n : Str} (hz : Zc cls d oe) (hf : ∃ vs, oe.data = .fields vs) (he : PE (X.suite a ((a, oe) :: pn)) e te)
    (hb : attributeBase e n X.env (eval e X.env) = eval e X.env := by rfl) : PE (X.suite a ((a, oe) :: pn)) (.Attribute e n pos) (tXg X.K a cls d n te) := by
  constructor
  intro pins s σ H Q I h
  refine attr_of hb (thn (he.run pins s σ H _ I h) fun u s2 hh => ?_)
  obtain ⟨x, H2, I2, rx, rfl, C, dd, fs, v, hc, T, hno, rfl, hx, hl, q⟩ := hh
  have eu : u = Value.ref a := rx
  subst eu
  obtain ⟨hat, _⟩ := I2.pin (a, oe) (List.mem_append_left _ (.head _))
  obtain ⟨vs, hv⟩ := hf
  have hx' : ObjOk X.prog X.w H2 s2.heap dd (.xd fs) := I2.hok dd _ hx
  obtain ⟨mA, hns, hr⟩ := hx'
  obtain ⟨od, ho, hlk⟩ := lookIn_ns hns
  obtain ⟨w', hw, rw'⟩ := RelO.some_of (v := v) (o := mA n) (hl ▸ hr n)
  have no : PySem.W.notCls oe = true := by
    unfold PySem.W.notCls
    rw [hv] <;> rfl
  have J : PySem.W.InstAt s2.heap a oe C (some od) := ⟨hat, hz.1.trans hc, no, by rw [show oe.dict = some dd from hz.2]; exact ho⟩
  exact HandSPX.exc_get I2.kIn J T.ga T.gg T.exC (PySem.W.findObj_own T.hdC hno rfl (by rw [hlk, hw])) (handed_of rw') ⟨v, H2, I2.tok _, rw', q⟩
/-! ### a def whose code object is known -/
section
variable {P : Program} {w : World} {K : PySem.W.Frag} {mg : Str → Option Value} {base : Heap}
/-- the def at f: its code object stands at c -/
def FunC (K : PySem.W.Frag) (x qual : Str) (st : Stmt) (f : Addr) (fd : FuncData) (c : Addr) : Prop :=
  ∃ (oc : Value) (od : Option Addr) (kV doc pm : Value) (an : Option Addr) (ct : Value) (osl : Array (Option Value)), fd = PySem.W.fnOf x qual (defArgs st) (defBody st) (defScope st) .none kV doc pm an (.ref c) ct ∧ K.lookup f = some ⟨oc, od, .func fd, osl⟩ ∧ PySem.W.codeIn K (.ref c) qual = true
theorem FunC.ok {x qual : Str} {st : Stmt} {f c : Addr} {fd : FuncData} {N ps : List Str} {k : Nat} {sp : Sp} (F : FunC K x qual st f fd c) (S : FnScope N ps (defScope st)) (len : ∀ vs H Q E, sp vs H Q E → vs.length = ps.length)
    (body : ∀ (A : Around) (outer : List Env) (s : Shared) (H : Hp) (vs : List V) (Q : VK) (E : XK), Room k (A.deeper (envOfC qual (defScope st) s.heap.objs.size f (.ref c))) → sp vs H Q E →
      ∃ t, PSs (cxOf CX0 P w K mg base N qual (defScope st) f (.ref c) A outer s H E).nox (defBody st) t ∧ t { nx := fun _ H' => Q .non H', rt := Q } (start N vs) H) : FnOk P w K mg base CX0 (k + 1) f fd ps sp := by
  obtain ⟨oc, od, kV, doc, pm, an, ct, osl, rfl, lk, hcd⟩ := F
  exact fn_of lk hcd S len fun A outer s H vs Q E hr hsp => let ⟨t, h, q⟩ := body A outer s H vs Q E hr hsp; ⟨t, h.nox, q⟩
end
/-! ### a call within a lambda's body -/
theorem takes_lam {X : Cx} {A : Around} {outer : List Env} {s : Shared} {H : Hp} {E : XK} {scope : Scope} {f c' : Addr} : Takes (LamX.lamCx X A outer s H E scope f c') (fun cls d _ H => E cls d H) := takes_of rfl rfl rfl rfl
theorem pass_lam {X : Cx} {A : Around} {outer : List Env} {s : Shared} {H : Hp} {E : XK} {scope : Scope} {f c' : Addr} : Passes (L2.CX X.prog X.w) (LamX.lamCx X A outer s H E scope f c') E := passes_call takes_lam fun _ _ _ _ h => h
end TL
namespace TL
open PySem PySem.Spec PyProof.Rows L2
/-! ### a text, not at all or once -/
def rRepS : R2 := fun x y H Q => ∃ (z : Str) (k : Int), x = .str z ∧ y = .int k ∧ ((k = 0 ∧ Q (.str "") H) ∨ (k = 1 ∧ Q (.str z) H))
theorem op_repS {X : Cx} : OpR X (binaryOp .Mult) rRepS := by
  intro pins s σ H x y v u Q I rx ry h
  obtain ⟨z, k, rfl, rfl, h⟩ := h
  obtain ⟨t, rfl⟩ := rx
  obtain ⟨t2, rfl⟩ := ry
  rcases h with ⟨rfl, q⟩ | ⟨rfl, q⟩
  · exact PySem.P.mul_str_none (by decide) (by decide) ⟨.str "", H, I.tok _, ⟨_, rfl⟩, q⟩
  · refine PySem.P.mul_str (by decide) (fun _ z => absurd z (by simp)) (fun _ z => absurd z (by simp)) ?_
    rw [if_neg (by decide), if_pos (by simp)]
    exact ⟨.str z, H, I, ⟨_, rfl⟩, q⟩
/-! ### which of the kinds an exception is -/
/-- D: the class of the j-th kind -/
structure Kind (K : PySem.W.Frag) (CS : List Addr) (CL D : Addr) (j : Nat) : Prop where
  ec : ExcC K D
  ks : ∀ (i : Nat) (c : Addr), CS[i]? = some c → PySem.W.kitOne K (.ref D) (.ref c) = some (decide (i = j))
  iv : PySem.W.kitOne K (.ref D) (.type "ValueError") = some true
  xm : PySem.W.exmOne K (.ref D) (.ref CL) = some true
theorem kinds9 {K : PySem.W.Frag} {D : Addr} {j : Nat} {c0 c1 c2 c3 c4 c5 c6 c7 c8 : Addr} {b0 b1 b2 b3 b4 b5 b6 b7 b8 : Bool} (h0 : PySem.W.kitOne K (.ref D) (.ref c0) = some b0) (h1 : PySem.W.kitOne K (.ref D) (.ref c1) = some b1) (h2 : PySem.W.kitOne K (.ref D) (.ref c2) = some b2)
    (h3 : PySem.W.kitOne K (.ref D) (.ref c3) = some b3) (h4 : PySem.W.kitOne K (.ref D) (.ref c4) = some b4) (h5 : PySem.W.kitOne K (.ref D) (.ref c5) = some b5) (h6 : PySem.W.kitOne K (.ref D) (.ref c6) = some b6) (h7 : PySem.W.kitOne K (.ref D) (.ref c7) = some b7) (h8 : PySem.W.kitOne K (.ref D) (.ref c8) = some b8)
    (e : [b0, b1, b2, b3, b4, b5, b6, b7, b8] = (List.range 9).map fun i => decide (i = j)) : ∀ (i : Nat) (c : Addr), [c0, c1, c2, c3, c4, c5, c6, c7, c8][i]? = some c → PySem.W.kitOne K (.ref D) (.ref c) = some (decide (i = j)) := by
  intro i c hc
  have hl := (List.getElem?_eq_some_iff.mp hc).1
  have hl : i < 9 := hl
  have e' := congrArg (fun l : List Bool => l[i]?) e
  have er : (List.range 9)[i]? = some i := by rw [List.getElem?_eq_getElem (by simpa using hl), List.getElem_range]
  simp only [List.getElem?_map, er, Option.map_some] at e'
  have : i = 0 ∨ i = 1 ∨ i = 2 ∨ i = 3 ∨ i = 4 ∨ i = 5 ∨ i = 6 ∨ i = 7 ∨ i = 8 := by omega
  rcases this with rfl | rfl | rfl | rfl | rfl | rfl | rfl | rfl | rfl
  · cases hc; rw [h0]; exact e'
  · cases hc; rw [h1]; exact e'
  · cases hc; rw [h2]; exact e'
  · cases hc; rw [h3]; exact e'
  · cases hc; rw [h4]; exact e'
  · cases hc; rw [h5]; exact e'
  · cases hc; rw [h6]; exact e'
  · cases hc; rw [h7]; exact e'
  · cases hc; rw [h8]; exact e'
def wordN (j : Nat) : Str := (["manners", "count", "part", "item", "full", "log", "text", "end", "step"] : List Str).getD j ""
/-- what an exception's word and number are -/
def WordAt (K : PySem.W.Frag) (CS : List Addr) (CL : Addr) (cls : Value) (d : Option Addr) (H : Hp) (j : Nat) (num : Int) : Prop :=
  ∃ D, cls = .ref D ∧ j < 9 ∧ Kind K CS CL D j ∧ ((j ≠ 5 ∧ j ≠ 6 ∧ j ≠ 8 ∧ num = 0 ∧ d = none) ∨
    ∃ dd fs, d = some dd ∧ H dd = some (.xd fs) ∧ XfC K D ∧ (((j = 5 ∨ j = 6) ∧ PySem.W.findIn K (.ref D) "row" = some none ∧ fs.lookup ("row" : Str) = some (V.int num)) ∨ (j = 8 ∧ PySem.W.findIn K (.ref D) "at" = some none ∧ fs.lookup ("at" : Str) = some (V.int num))))
/-- of a work handed to _law_word: None, or the word and the number of what it raises -/
def TTw (K : PySem.W.Frag) (CS : List Addr) (CL : Addr) : (XK → Hp → VK → Prop) → Hp → VK → Prop := fun tl H Q => ∃ Ew : XK, tl Ew H (fun _ H' => Q .non H') ∧
  ∀ cls d H', Ew cls d H' → ∃ j num, WordAt K CS CL cls d H' j num ∧ ∀ t H2, Same H' H2 → H2 t = some (.tup [.str (wordN j), .int num]) → Q (.ref t) H2
end TL
namespace TL
open PySem PySem.Spec PyProof.Rows L2
/-- behind a made exception all else is as it was -/
theorem raised_same {H : Hp} {a dx : Addr} {fs : List (Str × V)} {o1 o2 o3 : HO} (ha : H a = none) (hd : H dx = none) : Same H (upd (del (upd (upd (upd H a o1) dx o2) a o3) a) dx (.xd fs)) := fun b o e => by
  have n1 : b ≠ dx := ne_of_none e hd
  have n2 : b ≠ a := ne_of_none e ha
  rw [upd_ne n1, del_ne n2, upd_ne n2, upd_ne n1, upd_ne n2]
  exact e
/-- a loop over a list of two -/
theorem for_pair {K : PySem.W.Frag} {a : Addr} {v0 v1 : V} {g : TG} {tb : TS} {D : Ends} {σ : L2.St} {H : Hp} (P0 P1 P2 : L2.St → Hp → Prop) (h0 : P0 σ H) (l0 : ∀ σ H, P0 σ H → SqL K H a [v0, v1]) (l1 : ∀ σ H, P1 σ H → SqL K H a [v0, v1]) (l2 : ∀ σ H, P2 σ H → SqL K H a [v0, v1])
    (s0 : ∀ σ H, P0 σ H → g v0 σ H fun σ2 H2 => tb { D with nx := P1, ct := P1, bk := D.nx } σ2 H2)
    (s1 : ∀ σ H, P1 σ H → g v1 σ H fun σ2 H2 => tb { D with nx := P2, ct := P2, bk := D.nx } σ2 H2)
    (hd : ∀ σ H, P2 σ H → D.nx σ H) : ForW (Itl K a) g tb D σ H := by
  refine for_list (K := K) (a := a) (xs := [v0, v1]) (fun i σ H => match i with | 0 => P0 σ H | 1 => P1 σ H | _ => P2 σ H) h0 ?_ ?_ hd
  · intro i σ H hi p
    match i, p with
    | 0, p => exact l0 σ H p
    | 1, p => exact l1 σ H p
    | _ + 2, p => exact l2 σ H p
  · intro i x σ H hx p
    match i, hx, p with
    | 0, hx, p =>
      have e : v0 = x := Option.some.inj hx
      subst e
      exact s0 σ H p
    | 1, hx, p =>
      have e : v1 = x := Option.some.inj hx
      subst e
      exact s1 σ H p
    | n + 2, hx, p => simp at hx
theorem log_small {i : Int} (h0 : 0 ≤ i) (h9 : i ≤ 9) : i.natAbs.log2 < 1920 := by
  have : i = 0 ∨ i = 1 ∨ i = 2 ∨ i = 3 ∨ i = 4 ∨ i = 5 ∨ i = 6 ∨ i = 7 ∨ i = 8 ∨ i = 9 := by omega
  rcases this with rfl | rfl | rfl | rfl | rfl | rfl | rfl | rfl | rfl | rfl <;> decide
end TL
namespace TL
open PySem PySem.Spec PyProof.Rows L2
/-! ### the table of the law's lambdas -/
def lamQ : Str := ("law" : Str) ++ ".<locals>." ++ "<lambda>"
theorem tab_frm {P R : Addr} {q : Str} {H H' : Hp} {xs : List V} (h : LamX.TabS H P q) (hR : H R = some (.lst xs)) (f : Frm [R] H H') : LamX.TabS H' P q := by
  obtain ⟨ps, h1, h2, h3⟩ := h
  have n1 : P ≠ R := fun e => by
    rw [e, hR] at h1
    cases h1
  refine ⟨ps, f _ _ h1 (by simp [n1]), h2, fun pos cv hc => ?_⟩
  obtain ⟨c, e1, e2⟩ := h3 pos cv hc
  have n2 : c ≠ R := fun e => by
    rw [e, hR] at e2
    unfold LamX.CodeO at e2
    cases e2
  exact ⟨c, e1, f _ _ e2 (by simp [n2])⟩
theorem tabs_frm {T : List (Addr × Str)} {R : Addr} {H H' : Hp} {xs : List V} (h : LamX.Tabs T H) (hR : H R = some (.lst xs)) (f : Frm [R] H H') : LamX.Tabs T H' := fun p hp => tab_frm (h p hp) hR f
theorem tabs_same {T : List (Addr × Str)} {H H' : Hp} (h : LamX.Tabs T H) (s : Same H H') : LamX.Tabs T H' := h.ext s
theorem tabs_dice {T : List (Addr × Str)} {d : Addr} {H H' : Hp} (h : LamX.Tabs T H) (D : DiceAt H d) (f : Frm [d] H H') : LamX.Tabs T H' := by
  obtain ⟨ns, h1, _⟩ := D
  exact tabs_frm h h1 f
theorem dice_ext {d : Addr} {H H' : Hp} (D : DiceAt H d) (e : LamX.ExtN H H') : DiceAt H' d := by
  obtain ⟨ns, h1, h2⟩ := D
  exact ⟨ns, e _ _ h1 (fun ps z => by cases z), h2⟩
theorem look1 {n : Str} {v : V} : List.lookup n [(n, v)] = some v := by simp [List.lookup]
theorem word6 : wordN 6 = "text" := rfl
theorem word5 : wordN 5 = "log" := rfl
theorem word8 : wordN 8 = "step" := rfl
theorem lv_word {z : Str} (hz : (PyData.str z).canLay0 = true) (n : Int) : lv 1 (.tuple [.str z, .int n]) := by
  refine ⟨(by show 2 ≤ 100000; decide), fun x hx => ?_⟩
  rcases List.mem_cons.mp hx with rfl | hx
  · simpa [lv] using hz
  · rcases List.mem_cons.mp hx with rfl | hx
    · simp [lv]
    · cases hx
theorem im_word {H : Hp} {u : Addr} {z : Str} {n : Int} (h : H u = some (.tup [.str z, .int n])) : Im H (.ref u) (.tuple [.str z, .int n]) := .tup h (.cons (.str _) (.cons (.int _) .nil))
end TL

namespace TL
open PySem PySem.Spec PyProof.Rows L2 LamX NdefX
/-! ### lambdas that are kept: what is known of a function object -/
/-- a lambda: its words, the cells that it captured, its code object, where its defaults stand -/
structure LF where
  qual : Str
  params : Arguments
  body : Expr
  scope : Scope
  cl : List (Str × Addr)
  c : Addr
  dv : Option Addr
def dvV : Option Addr → Value
  | none => .none
  | some t => .ref t
abbrev LF.fd (F : LF) (doc pm ctv : Value) : FuncData := PySem.W.kdv_fn "<lambda>" F.qual F.params (.expr F.body) F.scope F.cl (dvV F.dv) doc pm (.ref F.c) ctv
/-- its names, as a nested def's -/
abbrev LF.nf (F : LF) : NF := ⟨"<lambda>", F.qual, F.params, [], F.scope, F.cl, F.c⟩
/-- the object at f is the lambda F -/
def LamAt (f : Addr) (F : LF) : HO := .ext fun h => ∃ doc pm ctv : Value, h.get? f = some ({ cls := .type "function", data := .func (F.fd doc pm ctv) } : Obj)
theorem lamAt_ne {f : Addr} {F : LF} (ps : Array Value) : LamAt f F ≠ .tbl ps := fun z => by unfold LamAt at z; cases z
theorem lamAt_get {P : Program} {w : World} {H : Hp} {h : Heap} {f : Addr} {F : LF} (hok : HOk P w H h) (e : H f = some (LamAt f F)) : ∃ doc pm ctv : Value, h.get? f = some ({ cls := .type "function", data := .func (F.fd doc pm ctv) } : Obj) := (hok f _ e).1
theorem ne_P {H : Hp} {P c : Addr} {o o' : HO} (n : H c = none) (hP : H P = some o) : (upd H P o') c = none := by rw [upd_ne (fun e => by rw [e, hP] at n; cases n)]; exact n
section
variable {X : Cx} {pins : List (Addr × Obj)} {σ : L2.St} {H : Hp} {s : Shared}
theorem inv_lam {F : LF} {o : Obj} {tk : Nat} {doc pm ctv : Value} (J : Inv X pins σ H s) (ho : o = { cls := .type "function", data := .func (F.fd doc pm ctv) }) : Inv X pins σ (upd H s.heap.objs.size (LamAt s.heap.objs.size F)) { s with heap := s.heap.push o, toks := tk } := by
  subst ho
  have e := Heap.get?_push_size s.heap (o := { cls := .type "function", data := .func (F.fd doc pm ctv) }) rfl
  exact J.laid (fun b u z => Heap.get?_push_of_some _ z) (Nat.le_refl _) ⟨⟨doc, pm, ctv, e⟩, ⟨_, e⟩, fun h1 h2 ⟨x, y, z, q⟩ st => ⟨x, y, z, st _ q⟩⟩
/-- a lambda's object is made -/
theorem lam_new {T : List (Addr × Str)} {c P : Addr} {params : Arguments} {body : Expr} {scope : Scope} {pos : Pos} {dv : Option Addr} {q : Str} {E : Value → Shared → Prop} {Q : Value → Shared → Prop} (J : Inv X pins σ H s) (TB : TabB X.base X.mg c P) (hcode : X.env.code = .ref c)
    (hm : (P, q) ∈ T) (hu : ∀ p ∈ T, p.1 = P → p.2 = q) (hT : Tabs T H) (hfree : ∀ y ∈ scope.names, y.2 = .free → ∃ a, X.env.cells.lookup y.1 = some a)
    (go : ∀ (f c' : Addr) (H1 : Hp) (s1 : Shared), Inv X pins σ H1 s1 → ExtN H H1 → Tabs T H1 → Frm [P] H H1 → H f = none → H1 f = some (LamAt f ⟨q, params, body, scope, cloFrom X.env.cells scope.names [], c', dv⟩) → H1 c' = some (CodeO c' q) → Q (.ref f) s1) :
    wpAny (model X.prog X.w) X.A (makeTail "<lambda>" q params (.expr body) scope X.env (dvV dv) .none none pos pos.line) Q E s := by
  obtain ⟨ps, hP, trip, all⟩ := hT _ hm
  have bm := TB.bm.keeps J.bk
  have tab : s.heap.get? P = some { cls := .none, data := .fields ps } := J.hok P _ hP
  cases among : codeAmong pos ps.toList with
  | some cv =>
    obtain ⟨c', rfl, hco⟩ := all pos cv among
    refine PySem.W.kdv_makeTailHit (mg := X.mg) (c := c) (P := P) (ps := ps) (closure_ok hfree) J.ok.glob (J.mod.glob.keeps J.bk) hcode (TB.code.keeps J.bk) tab trip among bm fun ctv doc g tk keep big => ?_
    have J1 : Inv X pins σ H { s with heap := g, toks := tk } := J.kept keep
    have new : H g.objs.size = none := J1.hok.fresh (Nat.le_refl _)
    refine go g.objs.size c' _ _ (inv_lam (F := ⟨q, params, body, scope, cloFrom X.env.cells scope.names [], c', dv⟩) (tk := tk) J1 rfl) (fun b o z _ => ?_) (hT.ext fun b o z => ?_) (Frm.new new) new upd_same ?_
    · rw [upd_ne (ne_of_none z new)]; exact z
    · rw [upd_ne (ne_of_none z new)]; exact z
    · rw [upd_ne (ne_of_none hco new)]; exact hco
  | none =>
    refine PySem.W.kdv_makeTail (mg := X.mg) (c := c) (P := P) (ps := ps) (closure_ok hfree) J.ok.glob (J.mod.glob.keeps J.bk) hcode (TB.code.keeps J.bk) tab trip among TB.gP bm fun c' ctv doc g tk but ge lt rec_ tab' => ?_
    obtain ⟨c2, oc, vs, t, e2, h1, h2, h3⟩ := rec_
    cases e2
    have newC : H c' = none := J.hok.fresh ge
    have J1 := inv_table (t' := tk) (more := #[rawInt pos.line, rawInt pos.col, .ref c']) (h' := g) J hP (fun b o hb z => but b o hb z) tab' ge ⟨oc, vs, t, h1, h2, h3⟩
    have stay : ExtN H (upd (upd H P (.tbl (ps ++ #[rawInt pos.line, rawInt pos.col, .ref c']))) c' (CodeO c' q)) := fun b o z n => by
      have nP : b ≠ P := fun e => n ps (Option.some.inj (z.symm.trans (e ▸ hP)))
      rw [upd_ne (ne_of_none z newC), upd_ne nP]
      exact z
    have grown : Tabs T (upd (upd H P (.tbl (ps ++ #[rawInt pos.line, rawInt pos.col, .ref c']))) c' (CodeO c' q)) := fun p hp => by
      by_cases e : p.1 = P
      · rw [hu p hp e, e]
        have el : (ps ++ #[rawInt pos.line, rawInt pos.col, .ref c']).toList = ps.toList ++ [rawInt pos.line, rawInt pos.col, .ref c'] := by simp
        refine ⟨_, (upd_ne (ne_of_none hP newC)).trans upd_same, el ▸ PySem.TriplesOk_snoc _ _ _ _ trip, fun p2 cv hcv => ?_⟩
        rw [el] at hcv
        rcases among_app _ trip hcv with z | z
        · obtain ⟨c0, z1, z2⟩ := all p2 cv z
          exact ⟨c0, z1, stay _ _ z2 codeO_ne⟩
        · exact ⟨c', z, upd_same⟩
      · obtain ⟨ps2, z1, z2, z3⟩ := hT p hp
        refine ⟨ps2, by rw [upd_ne (ne_of_none z1 newC), upd_ne e]; exact z1, z2, fun p2 cv hcv => ?_⟩
        obtain ⟨c0, y1, y2⟩ := z3 p2 cv hcv
        exact ⟨c0, y1, stay _ _ y2 codeO_ne⟩
    have newF := J1.hok.fresh (Nat.le_refl _)
    refine go g.objs.size c' _ _ (inv_lam (F := ⟨q, params, body, scope, cloFrom X.env.cells scope.names [], c', dv⟩) (tk := tk) J1 rfl) (fun b o z n => ?_) (grown.ext fun b o z => ?_) (((Frm.updN fun ys z => by rw [hP] at z; cases z).trans (Frm.new (ne_P newC hP))).trans (Frm.new newF)) (J.hok.fresh (Nat.le_trans ge (Nat.le_of_lt lt))) upd_same ?_
    · have z1 := stay b o z n
      rw [upd_ne (ne_of_none z1 newF)]; exact z1
    · rw [upd_ne (ne_of_none z newF)]; exact z
    · rw [upd_ne (Nat.ne_of_lt lt)]; exact upd_same
end
/-- the reading of a lambda: f the new function -/
def tLamF (T : List (Addr × Str)) (P : Addr) (mk : Addr → LF) : TE := fun _ H Q => Tabs T H ∧ ∀ (f c' : Addr) (H1 : Hp), ExtN H H1 → Tabs T H1 → Frm [P] H H1 → H f = none → H1 f = some (LamAt f (mk c')) → H1 c' = some (CodeO c' (mk c').qual) → Q (.ref f) H1
/-- of one with a default of 0, at t -/
def tLamD (T : List (Addr × Str)) (P : Addr) (mk : Addr → Addr → LF) : TE := fun _ H Q => Tabs T H ∧ ∀ (t f c' : Addr) (H1 : Hp), ExtN H H1 → Tabs T H1 → Frm [P] H H1 → H f = none → H1 t = some (.tup [.int 0]) → H1 f = some (LamAt f (mk t c')) → H1 c' = some (CodeO c' (mk t c').qual) → Q (.ref f) H1
section
variable {X : Cx} {T : List (Addr × Str)} {c P : Addr} {params : Arguments} {body : Expr} {scope : Scope} {pos : Pos}
theorem pe_lamF (TB : TabB X.base X.mg c P) (hcode : X.env.code = .ref c) (hm : (P, X.env.qual ++ "<lambda>") ∈ T) (hu : ∀ p ∈ T, p.1 = P → p.2 = X.env.qual ++ "<lambda>") (L : ∀ y ∈ scope.names, y.2 = .free → X.env.scope.names.lookup y.1 = some .cell ∨ X.env.scope.names.lookup y.1 = some .free)
    (hdef : defaultsOf params X.env = ([], [])) : PE X (.Lambda params body scope pos) (tLamF T P fun c' => ⟨X.env.qual ++ "<lambda>", params, body, scope, cloFrom X.env.cells scope.names [], c', none⟩) := by
  constructor
  intro pins s σ H Q J h
  obtain ⟨hT, h⟩ := h
  refine PySem.W.kla_eval hdef ?_
  rw [makeFunction_eq]
  simp only [List.zip_nil_right, List.filterMap_nil, List.isEmpty_nil, if_true, pure_bind]
  exact lam_new (dv := none) J TB hcode hm hu hT (fun y hy e => (L y hy e).elim (fun z => J.ok.has _ (.inl z)) fun z => J.ok.has _ (.inr z)) fun f c' H1 s1 J1 eN T1 fP f0 f1 c1 => ⟨.ref f, H1, J1, rfl, h f c' H1 eN T1 fP f0 f1 c1⟩
theorem pe_lamD {k : Nat} {p0 : Pos} (TB : TabB X.base X.mg c P) (hcode : X.env.code = .ref c) (hm : (P, X.env.qual ++ "<lambda>") ∈ T) (hu : ∀ p ∈ T, p.1 = P → p.2 = X.env.qual ++ "<lambda>") (L : ∀ y ∈ scope.names, y.2 = .free → X.env.scope.names.lookup y.1 = some .cell ∨ X.env.scope.names.lookup y.1 = some .free)
    (hdf : params.defaults = [.Constant (.int 0) k p0]) (hkd : params.kw_defaults = []) : PE X (.Lambda params body scope pos) (tLamD T P fun t c' => ⟨X.env.qual ++ "<lambda>", params, body, scope, cloFrom X.env.cells scope.names [], c', some t⟩) := by
  constructor
  intro pins s σ H Q J h
  obtain ⟨hT, h⟩ := h
  refine PySem.W.kdv_lam (by rw [hdf]; rfl) hkd ?_
  rw [hdf]
  refine PySem.W.kdv_all1 (thn (pe_int.run pins s σ H (fun v H1 => v = .int 0 ∧ H1 = H) J ⟨rfl, rfl⟩) fun u s1 ⟨v, H1, J1, rv, e1, e2⟩ => PySem.W.kdv_all0 ?_)
  subst e1 e2
  rw [makeFunction_eq]
  simp only [List.zip_nil_right, List.filterMap_nil, List.isEmpty_nil, List.isEmpty_cons, if_true, if_false, pure_bind, Bool.false_eq_true]
  refine wpAny_bind (wpAny_newTextTuple ?_)
  have e := Heap.get?_push_size s1.heap (o := PySem.W.kdv_tup [u]) rfl
  have J2 : Inv X pins σ (upd H1 s1.heap.objs.size (.tup [.int 0])) { s1 with heap := s1.heap.push (PySem.W.kdv_tup [u]) } :=
    J1.laid (t' := s1.toks) (fun b o z => Heap.get?_push_of_some _ z) (Nat.le_refl _) ⟨by show 1 ≤ sizeLine; decide, [u], .cons rv .nil, _, e, rfl, 0, rfl⟩
  have n0 := J1.hok.fresh (Nat.le_refl s1.heap.objs.size)
  have keep : ∀ b o, H1 b = some o → upd H1 s1.heap.objs.size (.tup [.int 0]) b = some o := fun b o z => by
    rw [upd_ne (ne_of_none z n0)]; exact z
  refine lam_new (dv := some s1.heap.objs.size) J2 TB hcode hm hu (hT.ext keep) (fun y hy e => (L y hy e).elim (fun z => J2.ok.has _ (.inl z)) fun z => J2.ok.has _ (.inr z)) fun f c' H2 s2 J3 eN T1 fP f0 f1 c1 => ?_
  have ft : H1 f = none := by
    cases q : H1 f with
    | none => rfl
    | some o => rw [keep _ _ q] at f0; cases f0
  exact ⟨.ref f, H2, J3, rfl, h s1.heap.objs.size f c' H2 (fun b o z n => eN b o (keep b o z) n) T1 ((Frm.new n0).trans fP) ft (eN _ _ upd_same fun ps z => by cases z) f1 c1⟩
end
/-! ### a lambda is called -/
/-- what its captured cells hold stays, from frame to frame -/
theorem cells_stay {fs ex : List Addr} {H H' : Hp} {h h' : Heap} {cl : List (Str × Addr)} {fr : List Str} {ws : List (Option V)} (C : CellsAt cl fr ws h H) (u : Un fs ex H H' h h') (out : ∀ y c, cl.lookup y = some c → c ∉ ex) : CellsAt cl fr ws h' H' := by
  have same : ∀ y c, cl.lookup y = some c → ∀ v, h.IsCell c v → h'.IsCell c v := fun y c e v ⟨o, z, d⟩ => by
    obtain ⟨sl, q⟩ := u.any z (C.all y c e).1 (out y c e)
    exact ⟨_, q, d⟩
  refine ⟨C.len, fun y c e => ?_, C.inj, fun i y e => ?_⟩
  · obtain ⟨n, v, z⟩ := C.all y c e
    obtain ⟨o, z1, _⟩ := id z
    exact ⟨u.free c o z1 n (out y c e), v, same y c e v z⟩
  · obtain ⟨c, hc, hv⟩ := C.has i y e
    exact ⟨c, hc, fun v ev => let ⟨a, r, z⟩ := hv v ev; ⟨a, r, same y c hc _ z⟩⟩
section
variable {P : Program} {w : World} {K : PySem.W.Frag} {mg : Str → Option Value} {base : Heap}
/-- what a lambda does: fr the names that it captured, ws what they hold -/
def LOk (P : Program) (w : World) (K : PySem.W.Frag) (mg : Str → Option Value) (base : Heap) (k : Nat) (f : Addr) (F : LF) (fr : List Str) (tl : List (Option V) → XK → Hp → VK → Prop) : Prop :=
  ∀ (A : Around) (outer : List Env) (s : Shared) (H : Hp) (ws : List (Option V)) (Q : VK) (E : XK), Room k A → Env0 P w K mg base A outer s H → H f = some (LamAt f F) → H F.c = some (CodeO F.c F.qual) → (∀ t, F.dv = some t → H t = some (.tup [.int 0])) → CellsAt F.cl fr ws s.heap H → tl ws E H Q →
    codeAny (model P w) A (.call (.ref f) ⟨[], []⟩) (CR (L2.CX P w) outer P w H s Q E) s
theorem LOk.mono {j k : Nat} {f : Addr} {F : LF} {fr : List Str} {tl : List (Option V) → XK → Hp → VK → Prop} (o : LOk P w K mg base j f F fr tl) (h : j ≤ k) : LOk P w K mg base k f F fr tl := fun A outer s H ws Q E hr => o A outer s H ws Q E (hr.mono h)
/-- by its body; vs: its default's value, if it has one -/
theorem lok_of {k : Nat} {f : Addr} {F : LF} {N ps fr : List Str} {vs : List V} {tb : XK → TE} (S : NScope N ps fr F.scope) (hl : vs.length = ps.length) (bind : ∀ (s : Shared) (doc pm ctv : Value), (∀ t, F.dv = some t → ∃ u, IsTup s.heap t #[u] ∧ RelV (.int 0) u) → ∃ us, Vals vs us ∧ BindsTo s (F.fd doc pm ctv) ⟨[], []⟩ (ps.zip us))
    (body : ∀ (A : Around) (outer : List Env) (s : Shared) (H : Hp) (E : XK), Room k (A.deeper (envF F.nf f s.heap.objs.size)) → PE (ncx (L2.CX P w) P w K mg base N F.nf f A outer s H E) F.body (tb E)) : LOk P w K mg base (k + 1) f F fr fun ws E H Q => tb E (startF N vs ws) H Q := by
  intro A outer s H ws Q E hr e0 hf hc hd C hq
  have lim : s.heap.NoLimit := e0.mod.nolimit.keeps fun b o e => (e0.bs b o e).1
  obtain ⟨doc, pm, ctv, ho⟩ := lamAt_get e0.hok hf
  obtain ⟨us, rv, bt⟩ := bind s doc pm ctv fun t ht => by
    have z : ObjOk P w H s.heap t (.tup [.int 0]) := e0.hok t _ (hd t ht)
    obtain ⟨_, its, r, z⟩ := z
    cases r with
    | cons r0 rr =>
      cases rr
      exact ⟨_, z, r0⟩
  refine PySem.W.kla_callFunE hr.depth ho rfl S.co S.gen rfl (codeO_at e0.hok hc) ?_
  refine bt _ _ _ _ (wpAny_newFunctionEnv S.nocell (fun ⟨n, _⟩ hy => S.par n (List.of_mem_zip hy).1) (fun g ns sb => ⟨lim.fresh _ sb, ?_⟩) S.kind)
  have kp : ∀ b o, s.heap.get? b = some o → g.get? b = some o := fun b o e => sb.extBut b o (Nat.ne_of_lt (Heap.lt_size e)) (Heap.get?_push_of_some _ e)
  have J : Inv (ncx (L2.CX P w) P w K mg base N F.nf f A outer s H E) [] (startF N vs ws) H { s with heap := g, toks := s.toks + (ps.zip us).length } := inv_startN S hr.hd e0 hl rv C ns kp
  refine PySem.W.kla_codeExpr (wpAny_mono ((body A outer s H E (hr.deeper _)).run [] _ _ H Q J hq) (fun v s2 hv => ?_) fun _ _ z => z)
  obtain ⟨x, H2, J2, r, q⟩ := hv
  exact ⟨x, H2, J2.os, J2.bare, J2.base, J2.hok, r, q⟩
end
theorem takes_ncx {P : Program} {w : World} {K : PySem.W.Frag} {mg : Str → Option Value} {base : Heap} {N : List Str} {F : NF} {f : Addr} {A : Around} {outer : List Env} {s : Shared} {H : Hp} {E : XK} : Takes (ncx (L2.CX P w) P w K mg base N F f A outer s H E) (fun cls d _ H => E cls d H) := takes_of rfl rfl rfl rfl
theorem pass_ncx {P : Program} {w : World} {K : PySem.W.Frag} {mg : Str → Option Value} {base : Heap} {N : List Str} {F : NF} {f : Addr} {A : Around} {outer : List Env} {s : Shared} {H : Hp} {E : XK} : Passes (L2.CX P w) (ncx (L2.CX P w) P w K mg base N F f A outer s H E) E := passes_call takes_ncx fun _ _ _ _ h => h
/-- the reading of what a lambda at f does, its object at hand -/
def tlF (f : Addr) (F : LF) (tl : XK → Hp → VK → Prop) : XK → Hp → VK → Prop := fun E H Q => H f = some (LamAt f F) ∧ (∀ t, F.dv = some t → H t = some (.tup [.int 0])) ∧ tl E H Q
/-- x(), in the def that got the lambda at f, entered at s from the frames of X -/
theorem pe_actL {X : Cx} {H : Hp} {s : Shared} {k : Nat} {f : Addr} {F : LF} {fr : List Str} {ws : List (Option V)} {tl : List (Option V) → XK → Hp → VK → Prop} {CXg : CXT} {Eg : XK} {Ng : List Str} {qg : Str} {sg : Scope} {g : Addr} {cdg : Value} {a : Str} {pn : List (Addr × Obj)} {xe : Value → Shared → Prop}
    {W : WX} {E : XK} {p1 p2 : Pos} (L : LOk X.prog X.w X.K X.mg X.base k f F fr tl) (C : CellsAt F.cl fr ws s.heap H) (tk : Takes ((cxOf CXg X.prog X.w X.K X.mg X.base Ng qg sg g cdg X.A X.stack s H Eg).tr pn xe) W) (hW : ∀ cls d σ' H', E cls d H' → W cls d σ' H')
    (hr : Room k (X.A.deeper (envOfC qg sg s.heap.objs.size g cdg))) (hN : Ng[0]? = some a) (hv : Vis sg a) (hd : (a == ("__debug__" : Str)) = false := by decide) (hcd : (a == ("__classdict__" : Str)) = false := by decide) :
    PE ((cxOf CXg X.prog X.w X.K X.mg X.base Ng qg sg g cdg X.A X.stack s H Eg).tr pn xe) (.Call (.Name a p1) [] [] p2) (fun σZ HZ Q => σZ[0]? = some (some (.ref f)) ∧ HZ F.c = some (CodeO F.c F.qual) ∧ tlF f F (tl ws) E HZ Q) := by
  constructor
  intro pinsZ sZ σZ HZ Q JZ h
  obtain ⟨hs, hc, hf, hdv, ht⟩ := h
  refine wpAny_Call_Name_kw (thn ((pe_var (pos := p1) (i := 0) hN hv hd hcd).run pinsZ sZ σZ HZ (fun v H1 => v = .ref f ∧ H1 = HZ) JZ ⟨.ref f, hs, rfl, rfl⟩) fun u s1 ⟨v, H1, J1, r1, e1, e2⟩ => ?_)
  subst e1 e2
  cases r1
  obtain ⟨doc, pm, ctv, ho⟩ := lamAt_get J1.hok hf
  refine PySem.W.callWith_F0 ⟨_, _, _, _, ho⟩ ?_
  have un : Un (frs X.stack) [] H H1 s.heap s1.heap := J1.base
  have C1 := cells_stay C un fun _ _ _ => by simp
  refine wpAny_call (codeAny_mono (L _ _ s1 H1 ws Q E hr J1.env0 hf hc hdv C1 ht) fun r s2 hq => ?_)
  cases r with
  | error e => exact passes_call tk hW pinsZ σZ H1 s1 e s2 J1 hq
  | ok fl =>
    cases fl with
    | ret v => exact J1.after hq
    | next => exact hq.elim
    | brk => exact hq.elim
    | cont => exact hq.elim
/-- how a lambda lies to the names of the def that made it -/
structure CapF (N : List Str) (sc : Scope) (cells : List (Str × Addr)) (F : LF) (fr : List Str) (js : List Nat) : Prop where
  cl : F.cl = cloFrom cells F.scope.names []
  free : ∀ y ∈ F.scope.names, y.2 = .free → sc.names.lookup y.1 = some .cell ∨ sc.names.lookup y.1 = some .free
  inn : ∀ y ∈ fr, (y, NameKind.free) ∈ F.scope.names
  at_ : js.map (fun j => N[j]?) = fr.map some
theorem cells_cap {X : Cx} {pins : List (Addr × Obj)} {σ : L2.St} {H : Hp} {s : Shared} {F : LF} {fr : List Str} {js : List Nat} (J : Inv X pins σ H s) (c : CapF X.N X.env.scope X.env.cells F fr js) : CellsAt F.cl fr (js.map (slotAt σ)) s.heap H := by
  rw [c.cl]
  exact cells_of J (Caps.made J.ok c.free c.inn c.at_)
/-- a lambda, ready to be called; ws: what the names hold that it captured -/
def Ready (P : Program) (w : World) (K : PySem.W.Frag) (mg : Str → Option Value) (base : Heap) (k : Nat) (N : List Str) (sc : Scope) (cells : List (Str × Addr)) (σL : L2.St) (f : Addr) (H : Hp) (tl : XK → Hp → VK → Prop) : Prop :=
  ∃ (F : LF) (fr : List Str) (js : List Nat) (tc : List (Option V) → XK → Hp → VK → Prop), LOk P w K mg base k f F fr tc ∧ CapF N sc cells F fr js ∧ H f = some (LamAt f F) ∧ H F.c = some (CodeO F.c F.qual) ∧ (∀ t, F.dv = some t → H t = some (.tup [.int 0])) ∧ tl = tlF f F (tc (js.map (slotAt σL)))
/-- the reading of x(e), x a def that calls what it gets -/
def tWord (P : Program) (w : World) (K : PySem.W.Frag) (mg : Str → Option Value) (base : Heap) (k : Nat) (N : List Str) (sc : Scope) (cells : List (Str × Addr)) (sel : L2.St → L2.St) (TT : (XK → Hp → VK → Prop) → Hp → VK → Prop) (te : TE) : TE := fun σ H Q =>
  te σ H fun v H1 => ∃ (f : Addr) (tl : XK → Hp → VK → Prop), v = .ref f ∧ Ready P w K mg base k N sc cells (sel σ) f H1 tl ∧ TT tl H1 Q
theorem pe_word {X : Cx} {TT : (XK → Hp → VK → Prop) → Hp → VK → Prop} {N0 : List Str} {sc0 : Scope} {cells0 : List (Str × Addr)} {sel : L2.St → L2.St} {x a : Str} {g : Addr} {k : Nat} {pg : Arguments} {bg : List Stmt} {sg : Scope} {dV kV doc pm cdv ct oc : Value} {an od : Option Addr} {osl : Array (Option Value)} {Ng : List Str}
    {e : Expr} {te : TE} {p pos : Pos} (known : ∀ (pins : List (Addr × Obj)) (s : Shared) (σ : L2.St) (H : Hp), Inv X pins σ H s → ∀ (F : LF) (fr : List Str) (js : List Nat), CapF N0 sc0 cells0 F fr js → CellsAt F.cl fr (js.map (slotAt (sel σ))) s.heap H)
    (hg : Gl X x) (hm : X.mg x = some (.ref g)) (hk : PySem.W.keepIn X.K (.ref g) = true) (lk : X.K.lookup g = some ⟨oc, od, .func (PySem.W.fnOf x x pg bg sg dV kV doc pm an cdv ct), osl⟩) (hcg : PySem.W.codeIn X.K cdv x = true) (hb : L2.Binds X.K (PySem.W.fnOf x x pg bg sg dV kV doc pm an cdv ct) [a] []) (Sg : FnScope Ng [a] sg)
    (hNg : Ng[0]? = some a) (hva : Vis sg a) (hG : ∀ q, GivesTo X Ng x sg g cdv bg a q TT) (hr : Room (k + 1) X.A) (he : PE X e te) (hdb : (x == ("__debug__" : Str)) = false := by decide) (hd : (a == ("__debug__" : Str)) = false := by decide) (hcd : (a == ("__classdict__" : Str)) = false := by decide)
    (hst : starEach (e :: []) X.env = (false, eval e X.env) :: starEach [] X.env := by rfl) (hpl : (backTo pos (starEach [] X.env)).any (·.1) = false := by rfl) :
    PE X (.Call (.Name x p) [e] [] pos) (tWord X.prog X.w X.K X.mg X.base k N0 sc0 cells0 sel TT te) := by
  constructor
  intro pins s σ H Q J h
  refine wpAny_Call_Name_kw (ld_glob J hg hm ?_ hdb)
  refine PySem.W.callWith_K (h₀ := X.base) J.ok.mod.kin hk (thn ((pa_cons he pa_nil (hs := hst)).run pos pins s σ H (fun vs H1 => ∃ v, vs = [v] ∧ ∃ (f : Addr) (tl : XK → Hp → VK → Prop), v = .ref f ∧ Ready X.prog X.w X.K X.mg X.base k N0 sc0 cells0 (sel σ) f H1 tl ∧ TT tl H1 Q) J (by
      have h' : te σ H fun v H1 => ∃ (f : Addr) (tl : XK → Hp → VK → Prop), v = .ref f ∧ Ready X.prog X.w X.K X.mg X.base k N0 sc0 cells0 (sel σ) f H1 tl ∧ TT tl H1 Q := h
      show te σ H fun v H1 => tNil σ H1 fun vs H2 => ∃ w0, v :: vs = [w0] ∧ _
      exact cast (by congr 1; funext v H1; exact propext ⟨fun z => ⟨v, rfl, z⟩, fun ⟨w0, z1, z2⟩ => by cases z1; exact z2⟩) h')) fun us s1 hh => ?_) hst hpl
  obtain ⟨vs, H1, J1, rs, v, rfl, f, tl, rfl, ⟨F, fr, js, tc, L, cap, hf, hc, hdv, rfl⟩, ht⟩ := hh
  refine ⟨J1.kIn, ?_⟩
  cases rs with
  | cons r0 rr =>
  cases rr
  cases r0
  have C := known _ _ _ _ J1 F fr js cap
  have rc : codeAny (model X.prog X.w) X.A (.call (.ref g) ⟨[.ref f], []⟩) (CR C8.CX0 X.stack X.prog X.w H1 s1 Q C8.E0) s1 := by
    refine run_ofS (N := Ng) (ps := [a]) (us := [.ref f]) (vs := [.ref f]) lk hcg Sg hr J1.env0 (hb s1 [.ref f] J1.kIn rfl) (.cons rfl .nil) rfl fun hr2 => ?_
    obtain ⟨t2, d2, q2⟩ := hG F.qual f F.c s1 H1 Q _ (fun W pn xe E p1 p2 tk hW => pe_actL L C tk hW hr2 hNg hva hd hcd) hc ht
    exact ⟨t2, d2.nox, q2⟩
  refine wpAny_call (codeAny_mono rc fun r s2 hq => ?_)
  cases r with
  | error e => exact (show False from hq).elim
  | ok fl =>
    cases fl with
    | ret u => exact J1.after hq
    | next => exact hq.elim
    | brk => exact hq.elim
    | cont => exact hq.elim
end TL

namespace TL
open PySem PySem.Spec PyProof.Rows L2 LamX NdefX
/-! ### a list comprehension whose element (or test) wants to know what holds in the def around it -/
section
variable {X : Cx}
theorem lc_known {pins : List (Addr × Obj)} {s : Shared} {σ : L2.St} {H : Hp} {Q : VK} {elt tg iter : Expr} {ifs : List Expr} {scope : Scope} {own : List (Str × Nat)} {pos fpos : Pos} {wi : TI} {g : TG} {tt : TT} {te : TE} {use : Option (Value → Sem Unit)} {Qf : Value → Shared → Prop}
    (calm : X.calm = true) (nd : X.N.Nodup) (J : Inv X pins σ H s) (it_ : PI X tg iter wi) (bk : BlkOk X.N X.env.scope scope own)
    (gg : ∀ (s0 : Shared) (H0 : Hp) (C : Addr) (cl : List (Str × Addr)) (ob : List Addr), PG (X.blk s0 H0 scope (compEnvC scope cl C X.env) ob) tg g)
    (tests : ∀ (s0 : Shared) (H0 : Hp) (C : Addr) (cl : List (Str × Addr)) (ob : List Addr), Inv X pins σ H0 s0 → (∀ b ∈ ob, FpOk X pins H0 b) → PTs (X.blk s0 H0 scope (compEnvC scope cl C X.env) ob) ifs tt)
    (elem : ∀ (s0 : Shared) (H0 : Hp) (C : Addr) (cl : List (Str × Addr)) (ob : List Addr), Inv X pins σ H0 s0 → (∀ b ∈ ob, FpOk X pins H0 b) → PE (X.blk s0 H0 scope (compEnvC scope cl C X.env) ob) elt te)
    (fold : ∀ x, foldedSetIterable iter X.env x = pure x) (h : tLc wi g tt te (own.map (·.2)) σ H Q)
    (out : ∀ L C s2 m H2, Inv X pins σ H2 s2 → Q (.ref L) H2 → s2.heap.Ns C m → FpOk X pins H2 C → compPost (model X.prog X.w) X.A X.xe use Qf (.ref L) C (.ok .next) s2) :
    wpAny (model X.prog X.w) X.A (comprehension (.ListComp elt [⟨tg, iter, ifs, 0⟩] scope pos) scope X.env fpos (newList []) false (eval iter X.env) use) Qf X.xe s := by
  have caught : ∀ y ∈ scope.names, y.2 = .free → ∃ c, X.env.cells.lookup y.1 = some c := fun y hy e => (bk.free y hy e).elim (fun z => J.ok.has _ (.inl z)) fun z => J.ok.has _ (.inr z)
  refine wpAny_comprehension_free (use := use) rfl fold (closure_ok caught) bk.kind (fun y hy e => (bk.uniq y hy).trans (congrArg some e)) (thn (it_.run pins s σ H _ J h) fun xv sA hA => thn hA fun iv sB hB => ?_)
  obtain ⟨i0, ob, tn, It, HB, rfl, JB, Tn, hst, free, q⟩ := hB
  refine wpAny_newObj_type (newEnv_comp ?_) (by show 0 ≤ sizeLine; decide)
  -- the new list
  obtain ⟨L, eL⟩ : ∃ L, sB.heap.objs.size = L := ⟨_, rfl⟩
  have noL : HB L = none := JB.hok.fresh (Nat.le_of_eq eL)
  obtain ⟨Inn, ⟨m0, start⟩, turn⟩ := q L noL
  obtain ⟨sC, eC⟩ : ∃ sC : Shared, sC = { sB with heap := sB.heap.push { cls := .type "list", data := .seq ([] : List Value).toArray } } := ⟨_, rfl⟩
  have heapC : sC.heap = sB.heap.push { cls := .type "list", data := .seq ([] : List Value).toArray } := by rw [eC]
  have JC : Inv X pins σ (upd HB L (.lst [])) sC := by
    rw [eC]
    exact JB.laid (t' := sB.toks) (fun b o z => Heap.get?_push_of_some _ z) (Nat.le_of_eq eL) ⟨Nat.zero_le _, [], 0, .nil, by rw [← eL]; exact Heap.get?_push_size _ rfl⟩
  have size : ∀ b ∈ ob, b < sB.heap.objs.size := fun b hb => let ⟨_, z, _⟩ := Tn.obj _ _ hst b hb; Heap.lt_size z
  have clear : ∀ b ∈ ob, FpOk X pins (upd HB L (.lst [])) b ∧ b < sC.heap.objs.size := fun b hb =>
    ⟨⟨by rw [upd_ne (by rw [← eL]; exact Nat.ne_of_lt (size b hb))]; exact (free b hb).1, (free b hb).2⟩, by rw [heapC, Heap.size_push]; exact Nat.lt_succ_of_lt (size b hb)⟩
  have hstC : tn 0 sC.heap := Tn.keep _ _ _ hst fun b _ o z => by rw [heapC]; exact Heap.get?_push_of_some _ z
  have JD := block_start JC bk nd clear
  obtain ⟨cl, ecl⟩ : ∃ cl, cellsFrom (sC.heap.objs.size + 1) scope.names (cloFrom X.env.cells scope.names []) = cl := ⟨_, rfl⟩
  have gD := gg sC (upd HB L (.lst [])) sC.heap.objs.size cl ob
  have tD := tests sC (upd HB L (.lst [])) sC.heap.objs.size cl ob JC fun b hb => (clear b hb).1
  have eD := elem sC (upd HB L (.lst [])) sC.heap.objs.size cl ob JC fun b hb => (clear b hb).1
  rw [ecl] at JD
  have gone : ∀ b ∈ ob, (upd HB L (.lst [])) b = none := fun b hb => (clear b hb).1.1
  obtain ⟨ce, ece⟩ : ∃ ce, compEnvC scope cl sC.heap.objs.size X.env = ce := ⟨_, rfl⟩
  have loc : ce.locals = sC.heap.objs.size := by rw [← ece]; rfl
  rw [ece] at JD gD tD eD
  obtain ⟨HC, eHC⟩ : ∃ HC, upd HB L (.lst []) = HC := ⟨_, rfl⟩
  rw [eHC] at JC JD gD tD eD start gone clear
  obtain ⟨sD, esD⟩ : ∃ sD : Shared, sD = { sC with heap := pushCells (sC.heap.push { cls := .type "dict", data := .dict #[] }) scope.names } := ⟨_, rfl⟩
  rw [← esD] at JD
  have hstD : tn 0 sD.heap := Tn.keep _ _ _ hstC fun b _ o z => by rw [esD]; exact pushCells_keeps _ _ _ _ (Heap.get?_push_of_some _ z)
  have within : ∀ {σ1 : L2.St} {H1 : Hp} {s1 : Shared}, Inv (X.blk sC HC scope ce ob) [] σ1 H1 s1 → (∀ b ∈ ob, H1 b = none) → ∀ b ∈ ob, FpOk (X.blk sC HC scope ce ob) [] H1 b := fun {σ1 H1 s1} K1 z b hb =>
    ⟨z b hb, (K1.ok.exf b hb).1, K1.ok.exfs b hb, .inl hb, fun x c e => (K1.ok.exf b hb).2 x c e, fun p hp => by simp at hp⟩
  have all : codeAny (model X.prog X.w) X.A (.compLoop (.ListComp elt [⟨tg, iter, ifs, 0⟩] scope pos) 0 (.ref i0) (.ref L) ce) (compPost (model X.prog X.w) X.A X.xe use Qf (.ref L) sC.heap.objs.size) sD := by
    refine compLoop_any (fun n s1 => ∃ i H1, Inv (X.blk sC HC scope ce ob) [] (wipe σ (own.map (·.2))) H1 s1 ∧ tn i s1.heap ∧ (∀ b ∈ ob, H1 b = none) ∧ Inn i n H1) (fun n s1 hs1 => ?_) m0 ⟨0, HC, JD, hstD, gone, start⟩
    obtain ⟨i, H1, J1, t1, z1, in1⟩ := hs1
    rcases turn i n H1 in1 with ⟨fin, qq⟩ | ⟨going, Next, toNext, step⟩
    · refine thnF (Tn.done (X.blk sC HC scope ce ob) rfl rfl rfl calm i [] s1 _ H1 (fun _ _ => False) J1 (within J1 z1) t1 fin) fun r s2 ⟨er, J2⟩ => ?_
      cases er
      have home : Inv X pins σ H1 s2 := JC.call' (ch := ob) J2.os J2.base J2.hok J2.bare fun b hb => let z := (clear b hb).1.2; ⟨z.2.2.1, z.1, z.2.2.2.1, z.2.2.2.2⟩
      have noC : H1 sC.heap.objs.size = none := by
        rw [← loc]
        exact J2.free
      obtain ⟨m, ns, _⟩ := J2.loc
      refine out L sC.heap.objs.size s2 m H1 home qq ?_ (JC.fpOk (Nat.le_refl _) noC)
      rw [← loc]
      exact ns
    · refine thnF (Tn.item (X.blk sC HC scope ce ob) rfl rfl rfl calm i [] s1 _ H1 (fun _ _ => False) J1 (within J1 z1) t1 going) fun r s2 ⟨u, er, h2⟩ => ?_
      cases er
      refine thnF h2 fun _ s3 ⟨x, H3, J3, r3, y3, t3, z3⟩ => ?_
      have J3p := J3.pinned (within J3 z3) (Tn.obj _ _ t3)
      refine thnF (gD.run _ s3 _ H3 x u _ J3p r3 (step x H3 y3)) fun _ s4 ⟨σ4, H4, J4, w4, q4⟩ => ?_
      refine thnF (tD.run _ s4 σ4 H4 _ J4 q4) fun b s5 ⟨H5, J5, q5⟩ => ?_
      have again : ∀ {s6 : Shared} {H6 : Hp}, Inv (X.blk sC HC scope ce ob) ([] ++ pinsAt ob s3.heap) σ4 H6 s6 → Next H6 → ∃ m, m < n ∧ ∃ i H1, Inv (X.blk sC HC scope ce ob) [] (wipe σ (own.map (·.2))) H1 s6 ∧ tn i s6.heap ∧ (∀ b ∈ ob, H1 b = none) ∧ Inn i m H1 := fun {s6 H6} J6 nx => by
        obtain ⟨m, lt, in6⟩ := toNext H6 nx
        have stay : ∀ b ∈ ob, ∀ o, s3.heap.get? b = some o → s6.heap.get? b = some o ∧ H6 b = none := fun b hb o z =>
          let w := J6.pin (b, o) (List.mem_append_right _ (List.mem_append_right _ (mem_pinsAt hb z))); ⟨w.1, w.2.1⟩
        refine ⟨m, lt, i + 1, H6, (J6.unpinned (pins := [])).weak (by rw [← w4, wipe_length]) (fun j v z => ?_), Tn.keep _ _ _ t3 fun b hb o z => (stay b hb o z).1, fun b hb => ?_, in6⟩
        · rw [← w4] at z
          exact (wipe_some z).1
        · obtain ⟨o, z, _⟩ := Tn.obj _ _ t3 b hb
          exact (stay b hb o z).2
      cases b with
      | true =>
        rw [if_pos rfl] at q5 ⊢
        refine thnF (eD.run _ s5 σ4 H5 _ J5 q5) fun z s6 ⟨y, H6, J6, r6, acc, hL, hz, nx⟩ => ?_
        exact app_ok (X := X.blk sC HC scope ce ob) J6 hL hz r6 fun s7 J7 => again J7 nx
      | false =>
        rw [if_neg Bool.false_ne_true] at q5 ⊢
        exact again J5 q5
  have go := codeAny_compStart_list all (Tn.self X.A 0 _ _ _ hstD all)
  subst esD ece ecl eL eC
  exact go
/-- as a value -/
theorem pe_lcK {elt tg iter : Expr} {ifs : List Expr} {scope : Scope} {own : List (Str × Nat)} {pos : Pos} {wi : TI} {g : TG} {tt : L2.St → TT} {te : L2.St → TE} (calm : X.calm = true) (nd : X.N.Nodup) (it_ : PI X tg iter wi) (bk : BlkOk X.N X.env.scope scope own)
    (gg : ∀ (s0 : Shared) (H0 : Hp) (C : Addr) (cl : List (Str × Addr)) (ob : List Addr), PG (X.blk s0 H0 scope (compEnvC scope cl C X.env) ob) tg g)
    (tests : ∀ (pins : List (Addr × Obj)) (σ : L2.St) (s0 : Shared) (H0 : Hp) (C : Addr) (cl : List (Str × Addr)) (ob : List Addr), Inv X pins σ H0 s0 → (∀ b ∈ ob, FpOk X pins H0 b) → PTs (X.blk s0 H0 scope (compEnvC scope cl C X.env) ob) ifs (tt σ))
    (elem : ∀ (pins : List (Addr × Obj)) (σ : L2.St) (s0 : Shared) (H0 : Hp) (C : Addr) (cl : List (Str × Addr)) (ob : List Addr), Inv X pins σ H0 s0 → (∀ b ∈ ob, FpOk X pins H0 b) → PE (X.blk s0 H0 scope (compEnvC scope cl C X.env) ob) elt (te σ))
    (fold : ∀ x, foldedSetIterable iter X.env x = pure x := by intro _; rfl) : PE X (.ListComp elt [⟨tg, iter, ifs, 0⟩] scope pos) (fun σ H Q => tLc wi g (tt σ) (te σ) (own.map (·.2)) σ H Q) := by
  constructor
  intro pins s σ H Q J h
  rw [eval_ListComp]
  refine lc_known calm nd J it_ bk gg (tests pins σ) (elem pins σ) fold h fun L C s2 m H2 J2 q ns z => ⟨m, ns, fun h2 but => ?_⟩
  exact ⟨.ref L, H2, J2.turned (t' := s2.toks) (fun b o hb e => (but.2 b hb).trans e) z.1 z.2.1 z.2.2.2.1 z.2.2.2.2.1 z.2.2.2.2.2, rfl, q⟩
/-- in the def that made the lambdas -/
theorem known_def : ∀ (pins : List (Addr × Obj)) (s : Shared) (σ : L2.St) (H : Hp), Inv X pins σ H s → ∀ (F : LF) (fr : List Str) (js : List Nat), CapF X.N X.env.scope X.env.cells F fr js → CellsAt F.cl fr (js.map (slotAt (id σ))) s.heap H := fun _ _ _ _ J _ _ _ c => cells_cap J c
/-- in a comprehension there -/
theorem known_blk {pins : List (Addr × Obj)} {σ : L2.St} {s0 : Shared} {H0 : Hp} {scope : Scope} {cenv : Env} {ob : List Addr} (J : Inv X pins σ H0 s0) (z : ∀ b ∈ ob, FpOk X pins H0 b) :
    ∀ (pins2 : List (Addr × Obj)) (s : Shared) (σ2 : L2.St) (H : Hp), Inv (X.blk s0 H0 scope cenv ob) pins2 σ2 H s → ∀ (F : LF) (fr : List Str) (js : List Nat), CapF X.N X.env.scope X.env.cells F fr js → CellsAt F.cl fr (js.map (slotAt ((fun _ => σ) σ2))) s.heap H := by
  intro pins2 s σ2 H J2 F fr js c
  have u : Un (X.blk s0 H0 scope cenv ob).fs ob H0 H s0.heap s.heap := J2.base
  refine cells_stay (cells_cap J c) u fun y a e hb => ?_
  rw [c.cl] at e
  have e2 : X.env.cells.lookup y = some a := clo_cm (fun y hy k => (c.free y hy k).elim (fun q => J.ok.has _ (.inl q)) fun q => J.ok.has _ (.inr q)) e
  exact (z a hb).2.2.2.2.1 y a e2 rfl
/-- the reading of x(e) in such a comprehension -/
abbrev tWordX (X : Cx) (k : Nat) (sel : L2.St → L2.St) (TT : (XK → Hp → VK → Prop) → Hp → VK → Prop) (te : TE) : TE := tWord X.prog X.w X.K X.mg X.base k X.N X.env.scope X.env.cells sel TT te
theorem ready_of {P : Program} {w : World} {K : PySem.W.Frag} {mg : Str → Option Value} {base : Heap} {k : Nat} {N : List Str} {sc : Scope} {cells : List (Str × Addr)} {σL : L2.St} {f : Addr} {H : Hp} {F : LF} {fr : List Str} {js : List Nat} {tc : List (Option V) → XK → Hp → VK → Prop}
    (hf : H f = some (LamAt f F)) (hc : H F.c = some (CodeO F.c F.qual)) (hd : ∀ t, F.dv = some t → H t = some (.tup [.int 0])) (L : LOk P w K mg base k f F fr tc) (c : CapF N sc cells F fr js) : Ready P w K mg base k N sc cells σL f H (tlF f F (tc (js.map (slotAt σL)))) := ⟨F, fr, js, tc, L, c, hf, hc, hd, rfl⟩
end
end TL

namespace TL
open PySem PySem.Spec PyProof.Rows L2
/-! ### tuples cut and put together: what comes out, be it new or not -/
theorem slA {K : PySem.W.Frag} {H : Hp} {a : Addr} {xs : List V} {lo hi : Option Int} {Q : VK} (ha : H a = some (.tup xs)) (k : ∀ p H', Same H H' → H' p = some (.tup (cutV xs lo hi)) → Q (.ref p) H') : rSlA K (.ref a) lo hi H Q :=
  ⟨a, xs, rfl, SqT.of ha, fun z => k a H (.refl _) (by
    have e : cutV xs lo hi = xs := by
      unfold cutV
      rw [z.1, z.2, List.drop_zero, Nat.sub_zero, List.take_length]
    rw [e]
    exact ha), fun _ p hp => k p _ (Same.upd_new hp) upd_same⟩
theorem catTT {K : PySem.W.Frag} {H : Hp} {a b : Addr} {xs ys : List V} {Q : VK} (ha : H a = some (.tup xs)) (hb : H b = some (.tup ys)) (hl : xs.length + ys.length ≤ 1000) (k : ∀ p H', Same H H' → H' p = some (.tup (xs ++ ys)) → Q (.ref p) H') : rCatA K (.ref a) (.ref b) H Q :=
  ⟨a, b, xs, ys, rfl, rfl, SqT.of ha, SqT.of hb, Nat.le_of_lt (small1000 hl), fun z => k b H (.refl _) (by rw [z]; exact hb), fun _ z => k a H (.refl _) (by rw [z, List.append_nil]; exact ha), fun _ _ p hp => k p _ (Same.upd_new hp) upd_same⟩
abbrev rAddI : R2 := rI0 fun i j => .int (i + j)
section
variable {K : PySem.W.Frag} {σ : L2.St} {H : Hp} {t : Addr} {xs : List V} {n : Nat}
theorem cutT_to (hl : n ≤ xs.length) : cutV xs none (some (n : Int)) = xs.take n := by
  unfold cutV
  have e1 : HT.sIx xs.length xs.length (some (n : Int)) = n := by
    show (if (n : Int) < 0 then ((n : Int) + (xs.length : Nat)).toNat else min (n : Int).toNat xs.length) = _
    rw [if_neg (by omega)]
    omega
  have e2 : HT.sIx xs.length 0 none = 0 := rfl
  rw [e1, e2]
  rfl
theorem cutT_from (hl : n + 1 ≤ xs.length) : cutV xs (some ((n : Int) + 1)) none = xs.drop (n + 1) := by
  unfold cutV
  have e1 : HT.sIx xs.length 0 (some ((n : Int) + 1)) = n + 1 := by
    show (if (n : Int) + 1 < 0 then ((n : Int) + 1 + (xs.length : Nat)).toNat else min ((n : Int) + 1).toNat xs.length) = _
    rw [if_neg (by omega)]
    omega
  have e2 : HT.sIx xs.length xs.length none = xs.length := rfl
  rw [e1, e2, List.take_of_length_le (by rw [List.length_drop]; exact Nat.le_refl _)]
theorem cutG_to (n : Nat) : cutV xs none (some (n : Int)) = xs.take n := by
  unfold cutV
  rw [HT.sIx_none, List.drop_zero, Nat.sub_zero, HT.sIx_nat]
  apply List.take_eq_take_iff.mpr
  omega
theorem cutG_from (n : Nat) : cutV xs (some (n : Int)) none = xs.drop n := by
  unfold cutV
  rw [HT.sIx_none, HT.sIx_nat, List.take_of_length_le (by rw [List.length_drop]; exact Nat.le_refl _)]
  rcases Nat.le_total n xs.length with q | q
  · rw [Nat.min_eq_left q]
  · rw [Nat.min_eq_right q, List.drop_eq_nil_of_le (Nat.le_refl _), List.drop_eq_nil_of_le q]
theorem cutG_from1 (n : Nat) : cutV xs (some ((n : Int) + 1)) none = xs.drop (n + 1) := cutG_from (n + 1)
/-- a tuple without its n-th -/
theorem cut_out {i j : Nat} (hi : σ[i]? = some (some (.ref t))) (hj : σ[j]? = some (some (.int (n : Int)))) (ht : H t = some (.tup xs)) (hl : n + 1 ≤ xs.length) (hx : xs.length ≤ 100) :
    tOp (rCatA K) (tSl (rSlA K) (tVar i) tNoPart (tPart (tVar j))) (tSl (rSlA K) (tVar i) (tPart (tOp rAddI (tVar j) (tC (.int 1)))) tNoPart) σ H (fun v H' => ∃ p, v = .ref p ∧ H' p = some (.tup (xs.take n ++ xs.drop (n + 1))) ∧ Same H H') := by
  refine ⟨_, hi, _, hj, _, rfl, slA ht fun p H1 s1 hp => ?_⟩
  rw [cutT_to (by omega)] at hp
  have fin : ∀ q H2, Same H1 H2 → H2 q = some (.tup (xs.drop (n + 1))) → rCatA K (.ref p) (.ref q) H2 (fun v H' => ∃ p, v = .ref p ∧ H' p = some (.tup (xs.take n ++ xs.drop (n + 1))) ∧ Same H H') := fun q H2 s2 hq =>
    catTT (s2 _ _ hp) hq (by rw [List.length_take, List.length_drop]; omega) fun u H3 s3 hu => ⟨u, rfl, hu, (s1.trans s2).trans s3⟩
  refine ⟨_, hi, _, hj, _, _, rfl, rfl, _, rfl, t, xs, rfl, SqT.of (s1 _ _ ht), fun z => ?_, fun _ q hq => ?_⟩
  · have e0 : cutV xs (some ((n : Int) + 1)) none = xs := by
      unfold cutV
      rw [z.1, z.2, List.drop_zero, Nat.sub_zero, List.take_length]
    refine fin t H1 (.refl _) ?_
    rw [← cutT_from hl, e0]
    exact s1 _ _ ht
  · refine fin q _ (Same.upd_new hq) ?_
    rw [← cutT_from hl]
    exact upd_same
/-- a tuple, another thing in its n-th's place -/
theorem cut_put {i j k : Nat} {x : V} (hi : σ[i]? = some (some (.ref t))) (hj : σ[j]? = some (some (.int (n : Int)))) (hk : σ[k]? = some (some x)) (ht : H t = some (.tup xs)) (hl : n + 1 ≤ xs.length) (hx : xs.length ≤ 100) :
    tOp (rCatA K) (tOp (rCatA K) (tSl (rSlA K) (tVar i) tNoPart (tPart (tVar j))) (tTup (tCons (tVar k) tNil))) (tSl (rSlA K) (tVar i) (tPart (tOp rAddI (tVar j) (tC (.int 1)))) tNoPart) σ H (fun v H' => ∃ p, v = .ref p ∧ H' p = some (.tup (xs.take n ++ [x] ++ xs.drop (n + 1))) ∧ Same H H') := by
  refine ⟨_, hi, _, hj, _, rfl, slA ht fun p H1 s1 hp => ?_⟩
  rw [cutT_to (by omega)] at hp
  refine ⟨_, hk, (by show 1 ≤ sizeLine; decide), fun o ho => ?_⟩
  have s2 := Same.upd_new (o := .tup [x]) ho
  refine catTT (s2 _ _ hp) upd_same (by rw [List.length_take]; show _ + 1 ≤ _; omega) fun c H3 s3 hc => ?_
  have s13 := (s1.trans s2).trans s3
  have fin : ∀ q H4, Same H3 H4 → H4 q = some (.tup (xs.drop (n + 1))) → rCatA K (.ref c) (.ref q) H4 (fun v H' => ∃ p, v = .ref p ∧ H' p = some (.tup (xs.take n ++ [x] ++ xs.drop (n + 1))) ∧ Same H H') := fun q H4 s4 hq =>
    catTT (s4 _ _ hc) hq (by rw [List.length_append, List.length_take, List.length_drop]; show _ + 1 + _ ≤ _; omega) fun u H5 s5 hu => ⟨u, rfl, hu, (s13.trans s4).trans s5⟩
  refine ⟨_, hi, _, hj, _, _, rfl, rfl, _, rfl, t, xs, rfl, SqT.of (s13 _ _ ht), fun z => ?_, fun _ q hq => ?_⟩
  · have e0 : cutV xs (some ((n : Int) + 1)) none = xs := by
      unfold cutV
      rw [z.1, z.2, List.drop_zero, Nat.sub_zero, List.take_length]
    refine fin t H3 (.refl _) ?_
    rw [← cutT_from hl, e0]
    exact s13 _ _ ht
  · refine fin q _ (Same.upd_new hq) ?_
    rw [← cutT_from hl]
    exact upd_same
end
/-- an item at a place that is drawn -/
theorem at_get {α : Type} {l : List α} {r : Int} (h0 : 0 ≤ r) (h1 : r < l.length) : ∃ x, x ∈ l ∧ atI l r = some x := by
  obtain ⟨n, rfl⟩ : ∃ n : Nat, r = n := ⟨r.toNat, by omega⟩
  have hn : n < l.length := by omega
  exact ⟨l[n], List.getElem_mem hn, atI_nat (List.getElem?_eq_getElem hn)⟩
/-! ### data that stay where tuples stay -/
mutual
theorem Im.tups {H H' : Hp} (e : ∀ b ys, H b = some (.tup ys) → H' b = some (.tup ys)) : ∀ {x : V} {d : PyData}, Im H x d → Im H' x d
  | _, _, .non => .non
  | _, _, .bl b => .bl b
  | _, _, .int i => .int i
  | _, _, .str z => .str z
  | _, _, .tup h a => .tup (e _ _ h) (ImAll.tups e a)
theorem ImAll.tups {H H' : Hp} (e : ∀ b ys, H b = some (.tup ys) → H' b = some (.tup ys)) : ∀ {xs : List V} {ds : List PyData}, ImAll H xs ds → ImAll H' xs ds
  | _, _, .nil => .nil
  | _, _, .cons h t => .cons (Im.tups e h) (ImAll.tups e t)
end
theorem ext_tups {H H' : Hp} (e : LamX.ExtN H H') : ∀ b ys, H b = some (.tup ys) → H' b = some (.tup ys) := fun b _ z => e b _ z fun _ z => by cases z
theorem Im.ext {H H' : Hp} {x : V} {d : PyData} (h : Im H x d) (e : LamX.ExtN H H') : Im H' x d := h.tups (ext_tups e)
theorem ImAll.ext {H H' : Hp} {xs : List V} {ds : List PyData} (h : ImAll H xs ds) (e : LamX.ExtN H H') : ImAll H' xs ds := h.tups (ext_tups e)
theorem flat_rep {α : Type} (x : α) : ∀ n : Nat, (List.replicate n [x]).flatten = List.replicate n x
  | 0 => rfl
  | n + 1 => by rw [List.replicate_succ, List.flatten_cons, flat_rep x n]; rfl
theorem lst_ne {xs : List V} (ps : Array Value) : HO.lst xs ≠ .tbl ps := fun z => by cases z
theorem tup_ne {xs : List V} (ps : Array Value) : HO.tup xs ≠ .tbl ps := fun z => by cases z
end TL

namespace TL
open PySem PySem.Spec PyProof.Rows L2
/-! ### several defs that make lambdas: their tables are empty at the law's call -/
def OwnTabs (K : PySem.W.Frag) (mg : Str → Option Value) (names : List Str) (h : Heap) : Prop := ∀ (y : Str) (b : Addr), y ∈ names → mg y = some (.ref b) → LamX.OwnTab K b h
theorem walk_tabs {l : PySem.W.OpenLaw} {n k : Nat} {q : Program} {loose : List Str} {XP : (Str → Option Value) → Heap → Prop} {YP : World → Heap → Prop} {d : DefRec} {K : Params → PySem.W.Frag} {CX : World → CXT} {x : Str} {names : List Str}
    (hn : l.most = some n) (hs : n ≤ sizeLine) (hdf : d.params.defaults = []) (hr : Room k callerA) (hrec : ∀ y ∈ names, ((recsOf q).any fun e => e.name == y) = true) (hY : ∀ (w : World) (h : Heap), YP w h → (K w.params).In h)
    (F : ∀ (w : World) (mg : Str → Option Value) (fa : Addr) (h : Heap), YP w h → (K w.params).In h → h.Ns mainGlobals mg → mg d.name = some (.ref fa) → OwnTabs (K w.params) mg names h → LamX.LawAtS l w (K w.params) (CX w) k n x mg fa h)
    (hC : ∀ (w : World) (H : Hp) (s : Shared) (e : Value) (t : Shared), CX w [] H s (fun _ _ _ => False) e t → False) : PySem.W.WalkO q loose XP YP l.row.toRowW d [] (fun f vs => PySem.call f vs) := by
  refine Att.attach_callB hn hdf fun w _ s₁ mg _ fa _ _ _ _ a _ ns G Y _ _ _ gm go gi gl gb gg => ?_
  have kx := hY w _ Y
  have own : OwnTabs (K w.params) mg names s₁.heap := fun y b hy gy c P o1 fd1 e dd vs1 sl k1 k2 k3 k4 k5 => by
    obtain ⟨dL, hm, hd⟩ := List.any_eq_true.mp (hrec y hy)
    obtain ⟨b', o', fd', c', P', h1, h2, h3, h4, h5, h6⟩ := G.T.tab dL hm
    have gn : dL.name = y := beq_iff_eq.mp hd
    rw [gn, gy] at h1; cases h1
    rw [kx _ _ k1] at h2; cases h2
    rw [k2] at h3; cases h3
    rw [k3] at h4; cases h4
    obtain ⟨⟨oc, vc, e1, _, e3, e4⟩, hP⟩ := h6
    rw [kx _ _ k4] at e1; cases e1
    cases e3
    rw [k5] at e4; cases e4
    exact hP
  obtain ⟨fd, cs, sp, z1, z2, z3, z4, z5, z6⟩ := F w mg fa _ Y kx G.T.g gm own
  exact LamX.law_callTs kx G.T.g G.T.b G.T.builtins G.T.nolimit gg z1 z2 z3 G.T.bmain go gi (Nat.le_trans gl hs) hr z6 z4 (fun H hH hS => z5 H a ns gl gb hH hS) fun H e t => hC w H s₁ e t
/-! ### what stands beside tables and code objects -/
def plainO (o : HO) : Prop := (∀ ps, o ≠ .tbl ps) ∧ ∀ f, o ≠ .ext f
def NoX (H : Hp) (S : List Addr) : Prop := ∀ x ∈ S, ∃ o, H x = some o ∧ plainO o
theorem tabs_S {TT : List (Addr × Str)} {S : List Addr} {H H' : Hp} (h : LamX.Tabs TT H) (n : NoX H S) (f : Frm S H H') : LamX.Tabs TT H' := fun p hp => by
  obtain ⟨ps, h1, h2, h3⟩ := h p hp
  have n1 : p.1 ∉ S := fun z => by
    obtain ⟨o, e, q, _⟩ := n _ z
    rw [e] at h1
    exact q ps (Option.some.inj h1)
  refine ⟨ps, f _ _ h1 n1, h2, fun pos cv hc => ?_⟩
  obtain ⟨c, e1, e2⟩ := h3 pos cv hc
  refine ⟨c, e1, f _ _ e2 fun z => ?_⟩
  obtain ⟨o, e, _, q⟩ := n _ z
  rw [e] at e2
  have e2 := Option.some.inj e2
  unfold LamX.CodeO at e2
  exact q _ e2
theorem lst_plain {xs : List V} : plainO (.lst xs) := ⟨(fun _ z => by cases z), (fun _ z => by cases z)⟩
theorem dK_plain {xs : List (Key × V)} : plainO (.dK xs) := ⟨(fun _ z => by cases z), (fun _ z => by cases z)⟩
theorem dT_plain {xs : List (List Key × V)} : plainO (.dT xs) := ⟨(fun _ z => by cases z), (fun _ z => by cases z)⟩
theorem ins_plain {C dx : Addr} {fs : List (Str × V)} : plainO (.ins C dx fs) := ⟨(fun _ z => by cases z), (fun _ z => by cases z)⟩
theorem DictM.nox {H : Hp} {a : Addr} {f : Int → Option V} (h : DictM H a f) : ∃ o, H a = some o ∧ plainO o := let ⟨_, e, _⟩ := h; ⟨_, e, dK_plain⟩
theorem MarksAt.nox {C : Addr} {Z : List Addr} {H : Hp} {a : MAd} {s : MkS} (h : MarksAt C Z H a s) : NoX H a.all := by
  intro x hx
  obtain ⟨ta, ht, _⟩ := h.t
  simp [MAd.all] at hx
  rcases hx with rfl | rfl | rfl | rfl
  · exact h.w.nox
  · exact h.u.nox
  · exact h.r.nox
  · exact ht.nox
theorem EndAt.nox {CE CM : Addr} {Z : List Addr} {H : Hp} {a : EAd} {s : EndS} (h : EndAt CE CM Z H a s) : NoX H a.all := by
  intro x hx
  obtain ⟨dx, cv, mv, ov, h1, _⟩ := h.ob
  simp [EAd.all] at hx
  have m := h.mks.nox
  rcases hx with rfl | rfl | rfl | rfl | rfl | rfl | rfl
  · exact ⟨_, h1, ins_plain⟩
  · exact ⟨_, h.wt, lst_plain⟩
  · exact ⟨_, h.gt, lst_plain⟩
  · exact m _ (by simp [MAd.all])
  · exact m _ (by simp [MAd.all])
  · exact m _ (by simp [MAd.all])
  · exact m _ (by simp [MAd.all])
theorem Frm.ownS {S L : List Addr} {H H1 H2 : Hp} (a : Frm S H H1) (hl : ∀ l ∈ L, H l = none) (b : Frm L H1 H2) : Frm S H H2 := ⟨fun c o e h => b.keep c o (a.keep c o e h) (fun z => by
  rw [hl c z] at e
  cases e), fun c o e => b.tups c o (a.tups c o e), fun c o e => let ⟨o', e'⟩ := a.there c o e; b.there c o' e'⟩
/-! ### marks in the first few frames -/
def mkSmall (s : MkS) : Prop := (∀ i u, s.untl i = some u → u ≤ 1000) ∧ ∀ i u, s.wait i = some u → u ≤ 256
theorem mkSmall.new : mkSmall .new := ⟨(fun i u e => by cases e), (fun i u e => by cases e)⟩
theorem mkSmall.note {s : MkS} (h : mkSmall s) (m : Int) (p : Bool) {f : Int} (hf : f ≤ 100) : mkSmall (noteF s m p f) := by
  have hw : ∀ i u, waitsOf s m p i = some u → u ≤ 256 := fun i u e => by
    unfold waitsOf at e
    split at e
    · unfold setA at e
      split at e
      · have : (16 : Int) = u := Option.some.inj e
        omega
      · exact h.2 i u e
    · exact h.2 i u e
  have g0 : (waitsOf s m p m).getD 16 ≤ 256 := by
    cases e : waitsOf s m p m with
    | none => show (16 : Int) ≤ 256; decide
    | some u => exact hw m u e
  have g1 : (s.untl m).getD 0 ≤ 1000 := by
    cases e : s.untl m with
    | none => show (0 : Int) ≤ 1000; decide
    | some u => exact h.1 m u e
  unfold noteF
  split
  · refine ⟨fun i u e => ?_, fun i u e => ?_⟩
    · simp only [setA] at e
      split at e
      · have := Option.some.inj e
        omega
      · exact h.1 i u e
    · simp only [setA] at e
      split at e
      · have := Option.some.inj e
        omega
      · exact hw i u e
  · exact ⟨h.1, hw⟩
theorem mkSmall.bad {s : MkS} (h : mkSmall s) {f : Int} (hf : 1000 < f) : badF s f = [] := by
  unfold badF
  rw [List.filter_eq_nil_iff]
  intro i _
  cases e : s.untl i with
  | none => simp
  | some u =>
    have := h.1 i u e
    simp only [decide_eq_true_eq]
    omega
/-- a word without a number -/
theorem word_plain {K : PySem.W.Frag} {CS : List Addr} {CL D : Addr} {H : Hp} {j : Nat} (hk : Kind K CS CL D j) (hj : j < 9) (h5 : j ≠ 5) (h6 : j ≠ 6) (h8 : j ≠ 8) : WordAt K CS CL (.ref D) none H j 0 := ⟨D, rfl, hj, hk, .inl ⟨h5, h6, h8, rfl, rfl⟩⟩
theorem word0 : wordN 0 = "manners" := rfl
theorem word1 : wordN 1 = "count" := rfl
theorem word2 : wordN 2 = "part" := rfl
theorem word3 : wordN 3 = "item" := rfl
theorem word4 : wordN 4 = "full" := rfl
theorem word7 : wordN 7 = "end" := rfl
/-- the word that is due -/
theorem ne_word {K : PySem.W.Frag} {H : Hp} {u t : Addr} {z : Str} {n : Int} {Q : VK} (ht : H t = none) (hu : H u = some (.tup [.str z, .int n])) (hz : (PyData.str z).canLay0 = true) (k : ∀ H', Same H H' → Q (.bl false) H') : rNeD K (.ref u) (.ref t) (upd H t (.tup [.str z, .int n])) Q := by
  have s := Same.upd_new (o := .tup [.str z, .int n]) ht
  have w := lv_word hz n
  refine ⟨_, _, (im_word (s _ _ hu)).dp, (im_word (upd_same (H := H) (a := t) (o := .tup [.str z, .int n]))).dp, shaped_lv w (by decide), shaped_lv w (by decide), ?_⟩
  rw [eqv_refl w]
  exact k _ s
end TL

namespace TL
open PySem PySem.Spec PyProof.Rows L2 HT
/-! ### t[::-1] of a tuple -/
theorem revT_pick (xs : Array Value) : ((List.range xs.size).filterMap fun (m : Nat) => xs[(((xs.size : Nat) : Int) - 1 + (m : Int) * -1).toNat]?).toArray = xs.toList.reverse.toArray := by
  have e : ∀ m ∈ List.range xs.size, xs[(((xs.size : Nat) : Int) - 1 + (m : Int) * -1).toNat]? = xs[xs.size - 1 - m]? := fun m hm => by
    have := List.mem_range.mp hm
    have q : (((xs.size : Nat) : Int) - 1 + (m : Int) * -1).toNat = xs.size - 1 - m := by omega
    rw [q]
  have fm : ∀ l : List Nat, (∀ m ∈ l, m ∈ List.range xs.size) → l.filterMap (fun (m : Nat) => xs[(((xs.size : Nat) : Int) - 1 + (m : Int) * -1).toNat]?) = l.filterMap fun m => xs[xs.size - 1 - m]? := by
    intro l
    induction l with
    | nil => intro _; rfl
    | cons a r ih =>
      intro hl
      rw [List.filterMap_cons, List.filterMap_cons, e a (hl a (by simp)), ih fun m hm => hl m (by simp [hm])]
  rw [fm _ fun m hm => hm]
  have := PySem.W.krv_pick xs
  unfold slicePick at this
  rw [PySem.W.krv_bounds] at this
  rw [← this]
  show _ = ((sliceRange ((xs.size : Int) - 1) (-1) (-1)).filterMap (xs[·]?)).toArray
  rw [PySem.W.krv_sliceRange, List.filterMap_map]
  rfl
theorem adjust_rev (n : Nat) : Builtin.Slice.sliceAdjust none none (-1) (n : Int) = ((n : Int) - 1, -1) := rfl
theorem places_rev (n : Nat) : Builtin.Slice.slicePlaces ((n : Int) - 1) (-1) (-1) = n := by
  unfold Builtin.Slice.slicePlaces
  rw [if_neg (by decide)]
  by_cases h : (n : Int) - 1 > -1
  · rw [if_pos h]
    have : ((n : Int) - 1 - -1 - 1) / (- -1) + 1 = n := by
      rw [show (- -1 : Int) = 1 by decide, Int.ediv_one]
      omega
    rw [this]
    rfl
  · rw [if_neg h]
    have : n = 0 := by omega
    subst this
    rfl
section
variable {prog : Program} {w : World} {A : Around} {E : Value → Shared → Prop} {s : Shared}
theorem item_revT {t sl : Addr} {xs : Array Value} {vl vu vs : Value} {Q : Value → Shared → Prop} (ht : IsTup s.heap t xs) (hs : s.heap.IsSliceOf sl vl vu vs) (pl : IsPart vl none) (pu : IsPart vu none) (ps : IsPart vs (some (-1)))
    (h : Q (.ref s.heap.objs.size) { s with heap := s.heap.push { cls := .type "tuple", data := .seq xs.toList.reverse.toArray } }) (hz : xs.size ≤ sizeLine) : wpAny (model prog w) A (getItem (.ref t) (.ref sl)) Q E s := by
  have fits : sizeOk (.seq xs.toList.reverse.toArray) := by
    show xs.toList.reverse.toArray.size ≤ sizeLine
    simpa using hz
  obtain ⟨so, so1, so2, so3⟩ := id hs
  have ks : s.TypeIs (.ref sl) "slice" := ⟨so, so1, so2⟩
  unfold getItem
  try with_reducible refine wpAny_holding ?_
  first | refine wpAny_bind (wpAny_pure ?_) | skip
  refine wpAny_bind (wpAny_sequenceKey ht.typeIs (by decide) (wpAny_bind (wpAny_callSpecial?_slot (name := Str.ofString "__getitem__") ht.typeIs PyProof.Rows.slot_tuple_getitem (wpAny_call_entry PyProof.Rows.slot_tuple_getitem ht.typeIs entry_tuple_getitem ?_ (args_tuple_getitem _ _)))))
  show wpAny _ _ (Builtin.Tuple.tupleItemsOf (.ref t) >>= _) _ _ s
  refine wpAny_bind (tupleItemsOf_ ht (wpAny_bind (wpAny_typeOf ks ?_)))
  rw [if_pos (by decide)]
  have app : ∀ {R : Int × Int × Nat → Shared → Prop}, R ((xs.size : Int) - 1, -1, xs.size) s → wpAny (model prog w) A.in1 (Builtin.Slice.sliceApplied (.ref sl) (pure (xs.size : Int))) R E s := fun {R} hR => by
    unfold Builtin.Slice.sliceApplied Builtin.Slice.sliceFields
    refine wpAny_bind (wpAny_bind (wpAny_field so1 so3 (x := vl) rfl (wpAny_bind (wpAny_field so1 so3 (x := vu) rfl (wpAny_bind (wpAny_field so1 so3 (x := vs) rfl (wpAny_pure ?_)))))))
    refine wpAny_bind (slicePart_ ps ?_)
    show wpAny _ _ (if ((-1 : Int) == 0) = true then _ else _) _ _ s
    rw [if_neg (by decide)]
    refine wpAny_bind (slicePart_ pl (wpAny_bind (slicePart_ pu (wpAny_bind (wpAny_pure ?_)))))
    show wpAny _ _ (match Builtin.Slice.sliceAdjust none none (-1) (xs.size : Int) with | (lo, hi) => pure (lo, (-1 : Int), Builtin.Slice.slicePlaces lo hi (-1))) _ _ s
    rw [adjust_rev]
    show wpAny _ _ (pure ((xs.size : Int) - 1, (-1 : Int), Builtin.Slice.slicePlaces ((xs.size : Int) - 1) (-1) (-1))) _ _ s
    rw [places_rev]
    exact wpAny_pure hR
  refine wpAny_bind (app ?_)
  have no : ¬ ((((xs.size : Int) - 1) == 0 && (-1 : Int) == 1 && xs.size == xs.size) = true) := by simp
  show wpAny _ _ (if (((xs.size : Int) - 1) == 0 && (-1 : Int) == 1 && xs.size == xs.size) = true then _ else _) _ _ s
  rw [if_neg no, revT_pick]
  first
    | exact wpAny_bind (m := Builtin.Tuple.tupleExact _) (wpAny_newObj_type (wpAny_pure ⟨_, rfl, wpAny_pure h⟩) fits)
    | exact wpAny_bind (m := Builtin.Tuple.tupleExact _) (wpAny_newObj_type (wpAny_bind (wpAny_pure (wpAny_pure ⟨_, rfl, wpAny_pure h⟩))) fits)
    | exact wpAny_bind (wpAny_bind (m := Builtin.Tuple.tupleExact _) (wpAny_newObj_type (wpAny_pure (wpAny_pure ⟨_, rfl, wpAny_pure h⟩)) fits))
    | exact wpAny_bind (wpAny_bind (m := Builtin.Tuple.tupleExact _) (wpAny_newObj_type (wpAny_pure ⟨_, rfl, wpAny_pure h⟩) fits))
end
def tRevT (K : PySem.W.Frag) (te : TE) : TE := fun σ H Q => te σ H fun x H1 => ∃ a xs, x = .ref a ∧ SqT K H1 a xs ∧ ∀ p, H1 p = none → Q (.ref p) (upd H1 p (.tup xs.reverse))
theorem TLrevT {X : Cx} {e : Expr} {te : TE} {k : Nat} {p1 p2 p3 pos : Pos} (he : PE X e te) : PE X (.Subscript e (.Slice none none (some (.UnaryOp .USub (.Constant (.int 1) k p1) p2)) p3) pos) (tRevT X.K te) := by
  constructor
  intro pins s σ H Q J h
  refine Subscript_ (thn (he.run pins s σ H _ J h) fun v s1 ⟨x, H1, J1, r1, a, xs, ex, hx, q⟩ => ?_)
  subst ex
  cases r1
  have neg : PO X (some (.UnaryOp .USub (.Constant (.int 1) k p1) p2)) (tPart (tUn (rU fun i => .int (-i)) (tC (.int 1)))) := po_some (pe_un un_neg pe_int)
  refine wpAny_Slice (thn (po_none.run pins s1 σ H1 (fun o H2 => o = none ∧ H2 = H1) J1 ⟨rfl, rfl⟩) fun vl s2 ⟨l, H2, J2, pl, el, e2⟩ => thn (po_none.run pins s2 σ H2 (fun o H3 => o = none ∧ H3 = H2) J2 ⟨rfl, rfl⟩) fun vu s3 ⟨u, H3, J3, pu, eu, e3⟩ => ?_)
  subst el e2 eu e3
  refine thn (neg.run pins s3 σ H3 (fun o H4 => o = some (-1) ∧ H4 = H3) J3 ⟨1, rfl, -1, rfl, rfl, rfl⟩) fun vs s4 ⟨o, H4, J4, ps, eo, e4⟩ => ?_
  subst eo e4
  have J5 : Inv X pins σ H4 { s4 with heap := s4.heap.push { cls := .type "slice", data := .fields #[vl, vu, vs] } } := J4.kept (t' := s4.toks) fun b ob q => Heap.get?_push_of_some _ q
  obtain ⟨its, r, ht, hz⟩ := J5.tuple hx
  have hlen := r.length
  show wpAny (model X.prog X.w) X.A (subscriptTail e (.Slice none none (some (.UnaryOp .USub (.Constant (.int 1) k p1) p2)) p3) (.ref a) (.ref s4.heap.objs.size)) (EP X pins σ Q) X.xe { s4 with heap := s4.heap.push { cls := .type "slice", data := .fields #[vl, vu, vs] } }
  refine tail_any (ops := [.ref a, .ref s4.heap.objs.size]) ht.typeIs PyProof.Rows.slot_tuple_getitem.lookup (item_revT ht (Heap.IsSliceOf.new _ vl vu vs) pl pu ps ?_ (by rw [List.size_toArray]; omega)) (by with_unfolding_all rfl)
  refine ⟨.ref _, _, J5.laid (t' := s4.toks) (o := .tup xs.reverse) (fun b ob q => Heap.get?_push_of_some _ q) (Nat.le_refl _) ?_, rfl, q _ (J5.hok.fresh (Nat.le_refl _))⟩
  exact ⟨by rw [List.length_reverse]; exact hz, _, r.reverse, IsTup.new _ _⟩
/-! ### x is False -/
def plainV (x : V) : Prop := x = .non ∨ (∃ c, x = .bl c) ∨ (∃ i, x = .int i) ∨ (∃ z, x = .str z) ∨ ∃ a, x = .ref a
def rIsF : R2 := fun x y H Q => plainV x ∧ ∃ b : Bool, y = .bl b ∧ Q (.bl (decide (x = .bl b))) H
theorem op_isF {X : Cx} : OpR X (compareOp .Is) rIsF := by
  intro pins s σ H x y v u Q I rx ry h
  obtain ⟨hp, b, rfl, q⟩ := h
  cases (show u = Value.bool b from ry)
  rcases hp with rfl | ⟨c, rfl⟩ | ⟨i, rfl⟩ | ⟨z, rfl⟩ | ⟨a, rfl⟩
  · cases rx
    exact wpAny_is_other rfl (fun z => by cases z) ⟨.bl false, H, I, rfl, q⟩
  · cases (show v = Value.bool c from rx)
    by_cases e : c = b
    · subst e
      exact wpAny_is_self rfl ⟨.bl true, H, I, rfl, by simpa using q⟩
    · exact wpAny_is_other rfl (fun z => e (Value.bool.inj z)) ⟨.bl false, H, I, rfl, by simpa [e] using q⟩
  · obtain ⟨t, rfl⟩ := rx
    exact wpAny_is_other rfl (fun z => by cases z) ⟨.bl false, H, I, rfl, q⟩
  · obtain ⟨t, rfl⟩ := rx
    exact wpAny_is_other rfl (fun z => by cases z) ⟨.bl false, H, I, rfl, q⟩
  · cases (show v = Value.ref a from rx)
    exact wpAny_is_other rfl (fun z => by cases z) ⟨.bl false, H, I, rfl, q⟩
theorem plain_dp {K : PySem.W.Frag} {H : Hp} {x : V} {d : PyData} (h : Dp K H x d) : plainV x := by
  cases h with
  | non => exact .inl rfl
  | bl b => exact .inr (.inl ⟨b, rfl⟩)
  | int i => exact .inr (.inr (.inl ⟨i, rfl⟩))
  | str z => exact .inr (.inr (.inr (.inl ⟨z, rfl⟩)))
  | lst _ _ => exact .inr (.inr (.inr (.inr ⟨_, rfl⟩)))
  | tup _ _ => exact .inr (.inr (.inr (.inr ⟨_, rfl⟩)))
end TL

namespace TL
open PySem PySem.Spec PyProof.Rows L2
def top (i : Nat) : Stmt := PySem.Challenge.pw_trainline_k01_refused.main.body.getD i (.Pass ⟨0, 0, 0, 0⟩)
abbrev s__wall : Stmt := top 0
abbrev N__wall : List Str := ["k"]
abbrev P__wall : List Str := ["k"]
theorem sc__wall : FnScope N__wall P__wall (defScope s__wall) := ⟨rfl, rfl, rfl, by decide +kernel, rfl, by decide +kernel, by decide +kernel⟩
abbrev s_is_between : Stmt := top 14
abbrev N_is_between : List Str := ["part", "low", "high"]
abbrev P_is_between : List Str := ["part", "low", "high"]
theorem sc_is_between : FnScope N_is_between P_is_between (defScope s_is_between) := ⟨rfl, rfl, rfl, by decide +kernel, rfl, by decide +kernel, by decide +kernel⟩
abbrev s_are_manners : Stmt := top 15
abbrev N_are_manners : List Str := ["some", "one"]
abbrev P_are_manners : List Str := ["some"]
theorem sc_are_manners : FnScope N_are_manners P_are_manners (defScope s_are_manners) := ⟨rfl, rfl, rfl, by decide +kernel, rfl, by decide +kernel, by decide +kernel⟩
abbrev s_need_manners : Stmt := top 16
abbrev N_need_manners : List Str := ["some"]
abbrev P_need_manners : List Str := ["some"]
theorem sc_need_manners : FnScope N_need_manners P_need_manners (defScope s_need_manners) := ⟨rfl, rfl, rfl, by decide +kernel, rfl, by decide +kernel, by decide +kernel⟩
abbrev s_chosen : Stmt := top 17
abbrev N_chosen : List Str := ["one", "other", "bad", "manner"]
abbrev P_chosen : List Str := ["one", "other", "bad"]
theorem sc_chosen : FnScope N_chosen P_chosen (defScope s_chosen) := ⟨rfl, rfl, rfl, by decide +kernel, rfl, by decide +kernel, by decide +kernel⟩
abbrev s_need_manner : Stmt := top 25
abbrev N_need_manner : List Str := ["manner"]
abbrev P_need_manner : List Str := ["manner"]
theorem sc_need_manner : FnScope N_need_manner P_need_manner (defScope s_need_manner) := ⟨rfl, rfl, rfl, by decide +kernel, rfl, by decide +kernel, by decide +kernel⟩
abbrev s_is_row : Stmt := top 35
abbrev N_is_row : List Str := ["row"]
abbrev P_is_row : List Str := ["row"]
theorem sc_is_row : FnScope N_is_row P_is_row (defScope s_is_row) := ⟨rfl, rfl, rfl, by decide +kernel, rfl, by decide +kernel, by decide +kernel⟩
abbrev s_need_log : Stmt := top 36
abbrev N_need_log : List Str := ["rows", "number", "row"]
abbrev P_need_log : List Str := ["rows"]
theorem sc_need_log : FnScope N_need_log P_need_log (defScope s_need_log) := ⟨rfl, rfl, rfl, by decide +kernel, rfl, by decide +kernel, by decide +kernel⟩
abbrev s_judged : Stmt := top 37
abbrev N_judged : List Str := ["one", "other", "rows", "number", "mine", "joined", "yours", "likewise", "unlike", "manner"]
abbrev P_judged : List Str := ["one", "other", "rows"]
theorem sc_judged : FnScope N_judged P_judged (defScope s_judged) := ⟨rfl, rfl, rfl, by decide +kernel, rfl, by decide +kernel, by decide +kernel⟩
abbrev s__law_dice : Stmt := top 39
abbrev N__law_dice : List Str := ["_law_script", "_law_k", "_law_found", "_law_cell"]
abbrev P__law_dice : List Str := ["_law_script", "_law_k"]
theorem sc__law_dice : FnScope N__law_dice P__law_dice (defScope s__law_dice) := ⟨rfl, rfl, rfl, by decide +kernel, rfl, by decide +kernel, by decide +kernel⟩
abbrev s__law_off : Stmt := top 40
abbrev N__law_off : List Str := ["_law_d", "_law_most", "_law_found"]
abbrev P__law_off : List Str := ["_law_d", "_law_most"]
theorem sc__law_off : FnScope N__law_off P__law_off (defScope s__law_off) := ⟨rfl, rfl, rfl, by decide +kernel, rfl, by decide +kernel, by decide +kernel⟩
abbrev s__law_alike : Stmt := top 41
abbrev N__law_alike : List Str := ["_law_found", "_law_due", "_law_k"]
abbrev P__law_alike : List Str := ["_law_found", "_law_due"]
theorem sc__law_alike : FnScope N__law_alike P__law_alike (defScope s__law_alike) := ⟨rfl, rfl, rfl, by decide +kernel, rfl, by decide +kernel, by decide +kernel⟩
abbrev s__law_word : Stmt := top 42
abbrev N__law_word : List Str := ["_law_work", "_law_e", "_law_kinds", "_law_word_here"]
abbrev P__law_word : List Str := ["_law_work"]
theorem sc__law_word : FnScope N__law_word P__law_word (defScope s__law_word) := ⟨rfl, rfl, rfl, by decide +kernel, rfl, by decide +kernel, by decide +kernel⟩
abbrev s__law_can : Stmt := top 43
abbrev N__law_can : List Str := ["_law_d", "_law_often", "_law_manner"]
abbrev P__law_can : List Str := ["_law_d"]
theorem sc__law_can : FnScope N__law_can P__law_can (defScope s__law_can) := ⟨rfl, rfl, rfl, by decide +kernel, rfl, by decide +kernel, by decide +kernel⟩
abbrev s__law_is_can : Stmt := top 44
abbrev N__law_is_can : List Str := ["_law_some", "_law_last", "_law_one"]
abbrev P__law_is_can : List Str := ["_law_some"]
theorem sc__law_is_can : FnScope N__law_is_can P__law_is_can (defScope s__law_is_can) := ⟨rfl, rfl, rfl, by decide +kernel, rfl, by decide +kernel, by decide +kernel⟩
abbrev s__law_spoilt : Stmt := top 45
abbrev N__law_spoilt : List Str := ["_law_d", "_law_some", "_law_at", "_law_far", "_law_odd", "_law_kind"]
abbrev P__law_spoilt : List Str := ["_law_d", "_law_some"]
theorem sc__law_spoilt : FnScope N__law_spoilt P__law_spoilt (defScope s__law_spoilt) := ⟨rfl, rfl, rfl, by decide +kernel, rfl, by decide +kernel, by decide +kernel⟩
abbrev s__law_are_counts : Stmt := top 46
abbrev N__law_are_counts : List Str := ["_law_d", "_law_far", "_law_marks", "_law_frame", "_law_ahead", "_law_manner"]
abbrev P__law_are_counts : List Str := ["_law_d"]
theorem sc__law_are_counts : FnScope N__law_are_counts P__law_are_counts (defScope s__law_are_counts) := ⟨rfl, rfl, rfl, by decide +kernel, rfl, by decide +kernel, by decide +kernel⟩
abbrev s__law_are_parts : Stmt := top 47
abbrev N__law_are_parts : List Str := ["_law_d", "_law_end", "_law_far", "_law_turn", "_law_odd", "_law_ahead"]
abbrev P__law_are_parts : List Str := ["_law_d", "_law_end"]
theorem sc__law_are_parts : FnScope N__law_are_parts P__law_are_parts (defScope s__law_are_parts) := ⟨rfl, rfl, rfl, by decide +kernel, rfl, by decide +kernel, by decide +kernel⟩
abbrev s_law : Stmt := top 48
abbrev N_law : List Str := ["_law_script", "_law_d", "_law_turn", "_law_good", "_law_bad", "_law_change", "_law_due", "_law_works", "_law_work", "_law_end", "_law_item", "_law_odd"]
abbrev P_law : List Str := ["_law_script"]
theorem sc_law : FnScope N_law P_law (defScope s_law) := ⟨rfl, rfl, rfl, by decide +kernel, rfl, by decide +kernel, by decide +kernel⟩
abbrev s_Marks_init : Stmt := inClass (top 26) 0
abbrev N_Marks_init : List Str := ["self"]
abbrev P_Marks_init : List Str := ["self"]
theorem sc_Marks_init : FnScope N_Marks_init P_Marks_init (defScope s_Marks_init) := ⟨rfl, rfl, rfl, by decide +kernel, rfl, by decide +kernel, by decide +kernel⟩
abbrev s_Marks_note : Stmt := inClass (top 26) 1
abbrev N_Marks_note : List Str := ["self", "manner", "passed", "frame", "wait"]
abbrev P_Marks_note : List Str := ["self", "manner", "passed", "frame"]
theorem sc_Marks_note : FnScope N_Marks_note P_Marks_note (defScope s_Marks_note) := ⟨rfl, rfl, rfl, by decide +kernel, rfl, by decide +kernel, by decide +kernel⟩
abbrev s_Marks_bad : Stmt := inClass (top 26) 2
abbrev N_Marks_bad : List Str := ["self", "frame", "manner"]
abbrev P_Marks_bad : List Str := ["self", "frame"]
theorem sc_Marks_bad : FnScope N_Marks_bad P_Marks_bad (defScope s_Marks_bad) := ⟨rfl, rfl, rfl, by decide +kernel, rfl, by decide +kernel, by decide +kernel⟩
abbrev s_End_init : Stmt := inClass (top 32) 0
abbrev N_End_init : List Str := ["self", "can"]
abbrev P_End_init : List Str := ["self", "can"]
theorem sc_End_init : FnScope N_End_init P_End_init (defScope s_End_init) := ⟨rfl, rfl, rfl, by decide +kernel, rfl, by decide +kernel, by decide +kernel⟩
abbrev s_End_need_part : Stmt := inClass (top 32) 1
abbrev N_End_need_part : List Str := ["self", "part"]
abbrev P_End_need_part : List Str := ["self", "part"]
theorem sc_End_need_part : FnScope N_End_need_part P_End_need_part (defScope s_End_need_part) := ⟨rfl, rfl, rfl, by decide +kernel, rfl, by decide +kernel, by decide +kernel⟩
abbrev s_End_refresh : Stmt := inClass (top 32) 2
abbrev N_End_refresh : List Str := ["self", "mind"]
abbrev P_End_refresh : List Str := ["self"]
theorem sc_End_refresh : FnScope N_End_refresh P_End_refresh (defScope s_End_refresh) := ⟨rfl, rfl, rfl, by decide +kernel, rfl, by decide +kernel, by decide +kernel⟩
abbrev s_End_take : Stmt := inClass (top 32) 3
abbrev N_End_take : List Str := ["self"]
abbrev P_End_take : List Str := ["self"]
theorem sc_End_take : FnScope N_End_take P_End_take (defScope s_End_take) := ⟨rfl, rfl, rfl, by decide +kernel, rfl, by decide +kernel, by decide +kernel⟩
abbrev s_End_say : Stmt := inClass (top 32) 4
abbrev N_End_say : List Str := ["self", "part", "item"]
abbrev P_End_say : List Str := ["self", "part"]
theorem sc_End_say : FnScope N_End_say P_End_say (defScope s_End_say) := ⟨rfl, rfl, rfl, by decide +kernel, rfl, by decide +kernel, by decide +kernel⟩
abbrev s_End_hear : Stmt := inClass (top 32) 5
abbrev N_End_hear : List Str := ["self", "part", "letter"]
abbrev P_End_hear : List Str := ["self", "part", "letter"]
theorem sc_End_hear : FnScope N_End_hear P_End_hear (defScope s_End_hear) := ⟨rfl, rfl, rfl, by decide +kernel, rfl, by decide +kernel, by decide +kernel⟩
abbrev s_End_hear_slow : Stmt := inClass (top 32) 6
abbrev N_End_hear_slow : List Str := ["self", "letter"]
abbrev P_End_hear_slow : List Str := ["self", "letter"]
theorem sc_End_hear_slow : FnScope N_End_hear_slow P_End_hear_slow (defScope s_End_hear_slow) := ⟨rfl, rfl, rfl, by decide +kernel, rfl, by decide +kernel, by decide +kernel⟩
abbrev s_End_hear_fast : Stmt := inClass (top 32) 7
abbrev N_End_hear_fast : List Str := ["self", "letter", "number", "item", "came"]
abbrev P_End_hear_fast : List Str := ["self", "letter"]
theorem sc_End_hear_fast : FnScope N_End_hear_fast P_End_hear_fast (defScope s_End_hear_fast) := ⟨rfl, rfl, rfl, by decide +kernel, rfl, by decide +kernel, by decide +kernel⟩
abbrev s_End_send : Stmt := inClass (top 32) 8
abbrev N_End_send : List Str := ["self", "item"]
abbrev P_End_send : List Str := ["self", "item"]
theorem sc_End_send : FnScope N_End_send P_End_send (defScope s_End_send) := ⟨rfl, rfl, rfl, by decide +kernel, rfl, by decide +kernel, by decide +kernel⟩
abbrev s_End_got : Stmt := inClass (top 32) 9
abbrev N_End_got : List Str := ["self"]
abbrev P_End_got : List Str := ["self"]
theorem sc_End_got : FnScope N_End_got P_End_got (defScope s_End_got) := ⟨rfl, rfl, rfl, by decide +kernel, rfl, by decide +kernel, by decide +kernel⟩
abbrev s_End_left : Stmt := inClass (top 32) 10
abbrev N_End_left : List Str := ["self"]
abbrev P_End_left : List Str := ["self"]
theorem sc_End_left : FnScope N_End_left P_End_left (defScope s_End_left) := ⟨rfl, rfl, rfl, by decide +kernel, rfl, by decide +kernel, by decide +kernel⟩
abbrev s_End_stands : Stmt := inClass (top 32) 11
abbrev N_End_stands : List Str := ["self"]
abbrev P_End_stands : List Str := ["self"]
theorem sc_End_stands : FnScope N_End_stands P_End_stands (defScope s_End_stands) := ⟨rfl, rfl, rfl, by decide +kernel, rfl, by decide +kernel, by decide +kernel⟩
/-- what the top has written -/
structure Txt (K : PySem.W.Frag) (mg : Str → Option Value) where
  a__wall : Addr
  fd__wall : FuncData
  F__wall : Fun K "_wall" "_wall" s__wall a__wall fd__wall
  g__wall : mg "_wall" = some (.ref a__wall)
  b__wall : Binds K fd__wall P__wall []
  a_is_between : Addr
  fd_is_between : FuncData
  F_is_between : Fun K "is_between" "is_between" s_is_between a_is_between fd_is_between
  g_is_between : mg "is_between" = some (.ref a_is_between)
  b_is_between : Binds K fd_is_between P_is_between []
  a_are_manners : Addr
  fd_are_manners : FuncData
  F_are_manners : Fun K "are_manners" "are_manners" s_are_manners a_are_manners fd_are_manners
  g_are_manners : mg "are_manners" = some (.ref a_are_manners)
  b_are_manners : Binds K fd_are_manners P_are_manners []
  a_need_manners : Addr
  fd_need_manners : FuncData
  F_need_manners : Fun K "need_manners" "need_manners" s_need_manners a_need_manners fd_need_manners
  g_need_manners : mg "need_manners" = some (.ref a_need_manners)
  b_need_manners : Binds K fd_need_manners P_need_manners []
  a_chosen : Addr
  fd_chosen : FuncData
  F_chosen : Fun K "chosen" "chosen" s_chosen a_chosen fd_chosen
  g_chosen : mg "chosen" = some (.ref a_chosen)
  b_chosen : Binds K fd_chosen P_chosen []
  a_need_manner : Addr
  fd_need_manner : FuncData
  F_need_manner : Fun K "need_manner" "need_manner" s_need_manner a_need_manner fd_need_manner
  g_need_manner : mg "need_manner" = some (.ref a_need_manner)
  b_need_manner : Binds K fd_need_manner P_need_manner []
  a_is_row : Addr
  fd_is_row : FuncData
  F_is_row : Fun K "is_row" "is_row" s_is_row a_is_row fd_is_row
  g_is_row : mg "is_row" = some (.ref a_is_row)
  b_is_row : Binds K fd_is_row P_is_row []
  a_need_log : Addr
  fd_need_log : FuncData
  F_need_log : Fun K "need_log" "need_log" s_need_log a_need_log fd_need_log
  g_need_log : mg "need_log" = some (.ref a_need_log)
  b_need_log : Binds K fd_need_log P_need_log []
  a_judged : Addr
  fd_judged : FuncData
  F_judged : Fun K "judged" "judged" s_judged a_judged fd_judged
  g_judged : mg "judged" = some (.ref a_judged)
  b_judged : Binds K fd_judged P_judged []
  a__law_dice : Addr
  fd__law_dice : FuncData
  F__law_dice : Fun K "_law_dice" "_law_dice" s__law_dice a__law_dice fd__law_dice
  g__law_dice : mg "_law_dice" = some (.ref a__law_dice)
  b__law_dice : Binds K fd__law_dice P__law_dice []
  a__law_off : Addr
  fd__law_off : FuncData
  F__law_off : Fun K "_law_off" "_law_off" s__law_off a__law_off fd__law_off
  g__law_off : mg "_law_off" = some (.ref a__law_off)
  b__law_off : Binds K fd__law_off P__law_off []
  a__law_alike : Addr
  fd__law_alike : FuncData
  F__law_alike : Fun K "_law_alike" "_law_alike" s__law_alike a__law_alike fd__law_alike
  g__law_alike : mg "_law_alike" = some (.ref a__law_alike)
  b__law_alike : Binds K fd__law_alike P__law_alike []
  a__law_word : Addr
  fd__law_word : FuncData
  F__law_word : Fun K "_law_word" "_law_word" s__law_word a__law_word fd__law_word
  g__law_word : mg "_law_word" = some (.ref a__law_word)
  b__law_word : Binds K fd__law_word P__law_word []
  a__law_can : Addr
  fd__law_can : FuncData
  F__law_can : Fun K "_law_can" "_law_can" s__law_can a__law_can fd__law_can
  g__law_can : mg "_law_can" = some (.ref a__law_can)
  b__law_can : Binds K fd__law_can P__law_can []
  a__law_is_can : Addr
  fd__law_is_can : FuncData
  F__law_is_can : Fun K "_law_is_can" "_law_is_can" s__law_is_can a__law_is_can fd__law_is_can
  g__law_is_can : mg "_law_is_can" = some (.ref a__law_is_can)
  b__law_is_can : Binds K fd__law_is_can P__law_is_can []
  a__law_spoilt : Addr
  fd__law_spoilt : FuncData
  F__law_spoilt : Fun K "_law_spoilt" "_law_spoilt" s__law_spoilt a__law_spoilt fd__law_spoilt
  g__law_spoilt : mg "_law_spoilt" = some (.ref a__law_spoilt)
  b__law_spoilt : Binds K fd__law_spoilt P__law_spoilt []
  a__law_are_counts : Addr
  fd__law_are_counts : FuncData
  F__law_are_counts : Fun K "_law_are_counts" "_law_are_counts" s__law_are_counts a__law_are_counts fd__law_are_counts
  g__law_are_counts : mg "_law_are_counts" = some (.ref a__law_are_counts)
  b__law_are_counts : Binds K fd__law_are_counts P__law_are_counts []
  a__law_are_parts : Addr
  fd__law_are_parts : FuncData
  F__law_are_parts : Fun K "_law_are_parts" "_law_are_parts" s__law_are_parts a__law_are_parts fd__law_are_parts
  g__law_are_parts : mg "_law_are_parts" = some (.ref a__law_are_parts)
  b__law_are_parts : Binds K fd__law_are_parts P__law_are_parts []
  a_law : Addr
  fd_law : FuncData
  F_law : Fun K "law" "law" s_law a_law fd_law
  g_law : mg "law" = some (.ref a_law)
  b_law : Binds K fd_law P_law []
  a_Marks_init : Addr
  fd_Marks_init : FuncData
  F_Marks_init : Fun K "__init__" "Marks.__init__" s_Marks_init a_Marks_init fd_Marks_init
  b_Marks_init : Binds K fd_Marks_init P_Marks_init []
  a_Marks_note : Addr
  fd_Marks_note : FuncData
  F_Marks_note : Fun K "note" "Marks.note" s_Marks_note a_Marks_note fd_Marks_note
  b_Marks_note : Binds K fd_Marks_note P_Marks_note []
  a_Marks_bad : Addr
  fd_Marks_bad : FuncData
  F_Marks_bad : Fun K "bad" "Marks.bad" s_Marks_bad a_Marks_bad fd_Marks_bad
  b_Marks_bad : Binds K fd_Marks_bad P_Marks_bad []
  a_End_init : Addr
  fd_End_init : FuncData
  F_End_init : Fun K "__init__" "End.__init__" s_End_init a_End_init fd_End_init
  b_End_init : Binds K fd_End_init P_End_init []
  a_End_need_part : Addr
  fd_End_need_part : FuncData
  F_End_need_part : Fun K "need_part" "End.need_part" s_End_need_part a_End_need_part fd_End_need_part
  b_End_need_part : Binds K fd_End_need_part P_End_need_part []
  a_End_refresh : Addr
  fd_End_refresh : FuncData
  F_End_refresh : Fun K "refresh" "End.refresh" s_End_refresh a_End_refresh fd_End_refresh
  b_End_refresh : Binds K fd_End_refresh P_End_refresh []
  a_End_take : Addr
  fd_End_take : FuncData
  F_End_take : Fun K "take" "End.take" s_End_take a_End_take fd_End_take
  b_End_take : Binds K fd_End_take P_End_take []
  a_End_say : Addr
  fd_End_say : FuncData
  F_End_say : Fun K "say" "End.say" s_End_say a_End_say fd_End_say
  b_End_say : Binds K fd_End_say P_End_say []
  a_End_hear : Addr
  fd_End_hear : FuncData
  F_End_hear : Fun K "hear" "End.hear" s_End_hear a_End_hear fd_End_hear
  b_End_hear : Binds K fd_End_hear P_End_hear []
  a_End_hear_slow : Addr
  fd_End_hear_slow : FuncData
  F_End_hear_slow : Fun K "hear_slow" "End.hear_slow" s_End_hear_slow a_End_hear_slow fd_End_hear_slow
  b_End_hear_slow : Binds K fd_End_hear_slow P_End_hear_slow []
  a_End_hear_fast : Addr
  fd_End_hear_fast : FuncData
  F_End_hear_fast : Fun K "hear_fast" "End.hear_fast" s_End_hear_fast a_End_hear_fast fd_End_hear_fast
  b_End_hear_fast : Binds K fd_End_hear_fast P_End_hear_fast []
  a_End_send : Addr
  fd_End_send : FuncData
  F_End_send : Fun K "send" "End.send" s_End_send a_End_send fd_End_send
  b_End_send : Binds K fd_End_send P_End_send []
  a_End_got : Addr
  fd_End_got : FuncData
  F_End_got : Fun K "got" "End.got" s_End_got a_End_got fd_End_got
  b_End_got : Binds K fd_End_got P_End_got []
  a_End_left : Addr
  fd_End_left : FuncData
  F_End_left : Fun K "left" "End.left" s_End_left a_End_left fd_End_left
  b_End_left : Binds K fd_End_left P_End_left []
  a_End_stands : Addr
  fd_End_stands : FuncData
  F_End_stands : Fun K "stands" "End.stands" s_End_stands a_End_stands fd_End_stands
  b_End_stands : Binds K fd_End_stands P_End_stands []
  C_Marks : Addr
  c_Marks : mg "Marks" = some (.ref C_Marks)
  cl_Marks : Cls K C_Marks
  no_Marks_waits : NoAttr K C_Marks "waits"
  no_Marks_until : NoAttr K C_Marks "until"
  no_Marks_runs : NoAttr K C_Marks "runs"
  no_Marks_tries : NoAttr K C_Marks "tries"
  M_Marks : Mk K C_Marks a_Marks_init
  m_Marks_note : Meth K C_Marks "note" a_Marks_note
  m_Marks_bad : Meth K C_Marks "bad" a_Marks_bad
  C_End : Addr
  c_End : mg "End" = some (.ref C_End)
  cl_End : Cls K C_End
  no_End_can : NoAttr K C_End "can"
  no_End_marks : NoAttr K C_End "marks"
  no_End_over : NoAttr K C_End "over"
  no_End_version : NoAttr K C_End "version"
  no_End_mind : NoAttr K C_End "mind"
  no_End_other : NoAttr K C_End "other"
  no_End_seen : NoAttr K C_End "seen"
  no_End_known : NoAttr K C_End "known"
  no_End_ready : NoAttr K C_End "ready"
  no_End_now : NoAttr K C_End "now"
  no_End_joined : NoAttr K C_End "joined"
  no_End_waiting : NoAttr K C_End "waiting"
  no_End_count : NoAttr K C_End "count"
  no_End_gathered : NoAttr K C_End "gathered"
  no_End_part : NoAttr K C_End "part"
  M_End : Mk K C_End a_End_init
  m_End_need_part : Meth K C_End "need_part" a_End_need_part
  m_End_refresh : Meth K C_End "refresh" a_End_refresh
  m_End_take : Meth K C_End "take" a_End_take
  m_End_say : Meth K C_End "say" a_End_say
  m_End_hear : Meth K C_End "hear" a_End_hear
  m_End_hear_slow : Meth K C_End "hear_slow" a_End_hear_slow
  m_End_hear_fast : Meth K C_End "hear_fast" a_End_hear_fast
  m_End_send : Meth K C_End "send" a_End_send
  m_End_got : Meth K C_End "got" a_End_got
  m_End_left : Meth K C_End "left" a_End_left
  m_End_stands : Meth K C_End "stands" a_End_stands
  C_LineError : Addr
  c_LineError : mg "LineError" = some (.ref C_LineError)
  x_LineError : PySem.W.excIn K C_LineError [.type "ValueError", .type "Exception", .type "BaseException", .type "object"] "ValueError.__new__" = true
  k_LineError : PySem.W.keepIn K (.ref C_LineError) = true
  s_LineError : PySem.W.subIn K (.ref C_LineError) (.type "BaseException") = some true
  t_LineError : PySem.W.typeIn K (.ref C_LineError) = some (.type "type")
  C_BadManners : Addr
  c_BadManners : mg "BadManners" = some (.ref C_BadManners)
  x_BadManners : PySem.W.excIn K C_BadManners [.type "ValueError", .type "Exception", .type "BaseException", .type "object"] "ValueError.__new__" = true
  k_BadManners : PySem.W.keepIn K (.ref C_BadManners) = true
  s_BadManners : PySem.W.subIn K (.ref C_BadManners) (.type "BaseException") = some true
  t_BadManners : PySem.W.typeIn K (.ref C_BadManners) = some (.type "type")
  C_BadItem : Addr
  c_BadItem : mg "BadItem" = some (.ref C_BadItem)
  x_BadItem : PySem.W.excIn K C_BadItem [.type "ValueError", .type "Exception", .type "BaseException", .type "object"] "ValueError.__new__" = true
  k_BadItem : PySem.W.keepIn K (.ref C_BadItem) = true
  s_BadItem : PySem.W.subIn K (.ref C_BadItem) (.type "BaseException") = some true
  t_BadItem : PySem.W.typeIn K (.ref C_BadItem) = some (.type "type")
  C_Full : Addr
  c_Full : mg "Full" = some (.ref C_Full)
  x_Full : PySem.W.excIn K C_Full [.type "ValueError", .type "Exception", .type "BaseException", .type "object"] "ValueError.__new__" = true
  k_Full : PySem.W.keepIn K (.ref C_Full) = true
  s_Full : PySem.W.subIn K (.ref C_Full) (.type "BaseException") = some true
  t_Full : PySem.W.typeIn K (.ref C_Full) = some (.type "type")
  C_BadPart : Addr
  c_BadPart : mg "BadPart" = some (.ref C_BadPart)
  x_BadPart : PySem.W.excIn K C_BadPart [.type "ValueError", .type "Exception", .type "BaseException", .type "object"] "ValueError.__new__" = true
  k_BadPart : PySem.W.keepIn K (.ref C_BadPart) = true
  s_BadPart : PySem.W.subIn K (.ref C_BadPart) (.type "BaseException") = some true
  t_BadPart : PySem.W.typeIn K (.ref C_BadPart) = some (.type "type")
  C_BadCount : Addr
  c_BadCount : mg "BadCount" = some (.ref C_BadCount)
  x_BadCount : PySem.W.excIn K C_BadCount [.type "ValueError", .type "Exception", .type "BaseException", .type "object"] "ValueError.__new__" = true
  k_BadCount : PySem.W.keepIn K (.ref C_BadCount) = true
  s_BadCount : PySem.W.subIn K (.ref C_BadCount) (.type "BaseException") = some true
  t_BadCount : PySem.W.typeIn K (.ref C_BadCount) = some (.type "type")
  C_BadEnd : Addr
  c_BadEnd : mg "BadEnd" = some (.ref C_BadEnd)
  x_BadEnd : PySem.W.excIn K C_BadEnd [.type "ValueError", .type "Exception", .type "BaseException", .type "object"] "ValueError.__new__" = true
  k_BadEnd : PySem.W.keepIn K (.ref C_BadEnd) = true
  s_BadEnd : PySem.W.subIn K (.ref C_BadEnd) (.type "BaseException") = some true
  t_BadEnd : PySem.W.typeIn K (.ref C_BadEnd) = some (.type "type")
  C_BadStep : Addr
  c_BadStep : mg "BadStep" = some (.ref C_BadStep)
  k_BadStep : PySem.W.keepIn K (.ref C_BadStep) = true
  s_BadStep : PySem.W.subIn K (.ref C_BadStep) (.type "BaseException") = some true
  t_BadStep : PySem.W.typeIn K (.ref C_BadStep) = some (.type "type")
  C_BadLog : Addr
  c_BadLog : mg "BadLog" = some (.ref C_BadLog)
  k_BadLog : PySem.W.keepIn K (.ref C_BadLog) = true
  s_BadLog : PySem.W.subIn K (.ref C_BadLog) (.type "BaseException") = some true
  t_BadLog : PySem.W.typeIn K (.ref C_BadLog) = some (.type "type")
  C_BadText : Addr
  c_BadText : mg "BadText" = some (.ref C_BadText)
  k_BadText : PySem.W.keepIn K (.ref C_BadText) = true
  s_BadText : PySem.W.subIn K (.ref C_BadText) (.type "BaseException") = some true
  t_BadText : PySem.W.typeIn K (.ref C_BadText) = some (.type "type")
  bc_LineError : BaseC K C_LineError
  wk_BadManners : Kind K [C_BadManners, C_BadCount, C_BadPart, C_BadItem, C_Full, C_BadLog, C_BadText, C_BadEnd, C_BadStep] C_LineError C_BadManners 0
  wk_BadCount : Kind K [C_BadManners, C_BadCount, C_BadPart, C_BadItem, C_Full, C_BadLog, C_BadText, C_BadEnd, C_BadStep] C_LineError C_BadCount 1
  wk_BadItem : Kind K [C_BadManners, C_BadCount, C_BadPart, C_BadItem, C_Full, C_BadLog, C_BadText, C_BadEnd, C_BadStep] C_LineError C_BadItem 3
  wk_Full : Kind K [C_BadManners, C_BadCount, C_BadPart, C_BadItem, C_Full, C_BadLog, C_BadText, C_BadEnd, C_BadStep] C_LineError C_Full 4
  wk_BadPart : Kind K [C_BadManners, C_BadCount, C_BadPart, C_BadItem, C_Full, C_BadLog, C_BadText, C_BadEnd, C_BadStep] C_LineError C_BadPart 2
  lC : Addr
  lP : Addr
  fl : FunC K "law" "law" s_law a_law fd_law lC
  lC__law_are_counts : Addr
  lP__law_are_counts : Addr
  fl__law_are_counts : FunC K "_law_are_counts" "_law_are_counts" s__law_are_counts a__law_are_counts fd__law_are_counts lC__law_are_counts
  lC__law_are_parts : Addr
  lP__law_are_parts : Addr
  fl__law_are_parts : FunC K "_law_are_parts" "_law_are_parts" s__law_are_parts a__law_are_parts fd__law_are_parts lC__law_are_parts
  nP__law_are_counts : lP ≠ lP__law_are_counts
  nP__law_are_parts : lP ≠ lP__law_are_parts
  nP__law_are_counts__law_are_parts : lP__law_are_counts ≠ lP__law_are_parts
  tk_MOST : Tok
  v_MOST : mg "MOST" = some (.int 9 tk_MOST)
  tk_FIRST : Tok
  v_FIRST : mg "FIRST" = some (.int 16 tk_FIRST)
  tk_LONGEST : Tok
  v_LONGEST : mg "LONGEST" = some (.int 256 tk_LONGEST)
  tk_STAYS : Tok
  v_STAYS : mg "STAYS" = some (.int 32 tk_STAYS)
  tk_LOST : Tok
  v_LOST : mg "LOST" = some (.int 3 tk_LOST)
  tk_LAST : Tok
  v_LAST : mg "LAST" = some (.int 6 tk_LAST)
  tk_MOST_FRAME : Tok
  v_MOST_FRAME : mg "MOST_FRAME" = some (.int 1000000 tk_MOST_FRAME)
  tk_SLOW : Tok
  v_SLOW : mg "SLOW" = some (.int 0 tk_SLOW)
  tk_FAST : Tok
  v_FAST : mg "FAST" = some (.int 1 tk_FAST)
  tk_MOST_ITEMS : Tok
  v_MOST_ITEMS : mg "MOST_ITEMS" = some (.int 20 tk_MOST_ITEMS)
  tk_MOST_ITEM : Tok
  v_MOST_ITEM : mg "MOST_ITEM" = some (.int 999 tk_MOST_ITEM)
  tk_MOST_ROWS : Tok
  v_MOST_ROWS : mg "MOST_ROWS" = some (.int 300 tk_MOST_ROWS)
  n_ValueError : mg "ValueError" = none
  n_abs : mg "abs" = none
  n_all : mg "all" = none
  n_bool : mg "bool" = none
  n_enumerate : mg "enumerate" = none
  n_int : mg "int" = none
  n_isinstance : mg "isinstance" = none
  n_len : mg "len" = none
  n_list : mg "list" = none
  n_max : mg "max" = none
  n_min : mg "min" = none
  n_range : mg "range" = none
  n_set : mg "set" = none
  n_sorted : mg "sorted" = none
  n_str : mg "str" = none
  n_tuple : mg "tuple" = none
def lamQ__law_are_counts : Str := ("_law_are_counts" : Str) ++ ".<locals>." ++ "<lambda>"
def lamQ__law_are_parts : Str := ("_law_are_parts" : Str) ++ ".<locals>." ++ "<lambda>"
section
variable {K : PySem.W.Frag} {mg : Str → Option Value}
abbrev Txt.tl (T : Txt K mg) : List (Addr × Str) := [(T.lP, lamQ), (T.lP__law_are_counts, lamQ__law_are_counts), (T.lP__law_are_parts, lamQ__law_are_parts)]
abbrev Txt.ps (T : Txt K mg) : List Addr := [T.lP, T.lP__law_are_counts, T.lP__law_are_parts]
theorem Txt.tm (T : Txt K mg) : (T.lP, lamQ) ∈ T.tl := .head _
theorem Txt.tu (T : Txt K mg) : ∀ p ∈ T.tl, p.1 = T.lP → p.2 = lamQ := by
  intro p hp e
  simp only [List.mem_cons, List.not_mem_nil, or_false] at hp
  rcases hp with rfl | rfl | rfl
  · rfl
  · exact absurd e.symm T.nP__law_are_counts
  · exact absurd e.symm T.nP__law_are_parts
theorem Txt.tm__law_are_counts (T : Txt K mg) : (T.lP__law_are_counts, lamQ__law_are_counts) ∈ T.tl := .tail _ (.head _)
theorem Txt.tu__law_are_counts (T : Txt K mg) : ∀ p ∈ T.tl, p.1 = T.lP__law_are_counts → p.2 = lamQ__law_are_counts := by
  intro p hp e
  simp only [List.mem_cons, List.not_mem_nil, or_false] at hp
  rcases hp with rfl | rfl | rfl
  · exact absurd e T.nP__law_are_counts
  · rfl
  · exact absurd e.symm T.nP__law_are_counts__law_are_parts
theorem Txt.tm__law_are_parts (T : Txt K mg) : (T.lP__law_are_parts, lamQ__law_are_parts) ∈ T.tl := .tail _ (.tail _ (.head _))
theorem Txt.tu__law_are_parts (T : Txt K mg) : ∀ p ∈ T.tl, p.1 = T.lP__law_are_parts → p.2 = lamQ__law_are_parts := by
  intro p hp e
  simp only [List.mem_cons, List.not_mem_nil, or_false] at hp
  rcases hp with rfl | rfl | rfl
  · exact absurd e T.nP__law_are_parts
  · exact absurd e T.nP__law_are_counts__law_are_parts
  · rfl
end
end TL

namespace TL
open PySem PySem.Spec PyProof.Rows L2
section
variable {P : Program} {w : World} {K : PySem.W.Frag} {mg : Str → Option Value} {base : Heap}
def sp_is_between (T : Txt K mg) : Sp := fun vs H Q _ => ∃ (x : V) (d : PyData) (lo hi : Int), vs = [x, .int lo, .int hi] ∧ Dp K H x d ∧ (∀ ds, d ≠ .list ds) ∧ Q (.bl (between d lo hi)) H
theorem ok_is_between (T : Txt K mg) : FnOk P w K mg base CX0 1 T.a_is_between T.fd_is_between P_is_between (sp_is_between T) := by
  skip
  refine T.F_is_between.ok sc_is_between (fun vs H Q E h => ?_) (fun cdv A outer s H vs Q E hr h => ?_)
  · obtain ⟨x, d, lo, hi, rfl, _⟩ := h
    rfl
  · obtain ⟨x, d, lo, hi, rfl, hd, nl, k⟩ := h
    refine ⟨_, (pss_one (ps_ret (pe_and (pe_callB call_isi (by rfl) T.n_isinstance (by decide +kernel) (pa_cons (pv 0) (pa_cons (pe_bltn (v := .ty "int") (u := .type "int") (by rfl) T.n_int (by decide +kernel) rfl) pa_nil))) (pe_and (pe_not (pe_callB call_isi (by rfl) T.n_isinstance (by decide +kernel) (pa_cons (pv 0) (pa_cons (pe_bltn (v := .ty "bool") (u := .type "bool") (by rfl) T.n_bool (by decide +kernel) rfl) pa_nil)))) (pe_one (pe_chain op_le op_le (pv 1) (pv 0) (pv 2))))))), ?_⟩
    have k0 : ∀ {b : Bool}, between d lo hi = b → Q (.bl b) H := fun e => by rw [← e]; exact k
    cases d with
    | int i =>
      cases hd
      refine ⟨_, rfl, _, _, _, _, _, rfl, .ty _, tyx_D (.int i), kit_ty kb_ii, _, rfl, iteT ?_⟩
      refine ⟨_, rfl, _, _, _, _, _, rfl, .ty _, tyx_D (.int i), kit_ty kb_ib, _, rfl, _, rfl, iteT ?_⟩
      refine ⟨_, rfl, _, rfl, _, _, rfl, rfl, _, rfl, ?_⟩
      refine iteD (fun h1 => ⟨_, rfl, _, _, rfl, rfl, k0 ?_⟩) (fun h1 => k0 ?_)
      · simp [between, h1]
      · simp [between, h1]
    | bool b =>
      cases hd
      refine ⟨_, rfl, _, _, _, _, _, rfl, .ty _, tyx_D (.bl b), kit_ty kb_bi, _, rfl, iteT ?_⟩
      refine ⟨_, rfl, _, _, _, _, _, rfl, .ty _, tyx_D (.bl b), kit_ty kb_bb, _, rfl, _, rfl, iteF ?_⟩
      exact k0 rfl
    | none =>
      cases hd
      refine ⟨_, rfl, _, _, _, _, _, rfl, .ty _, tyx_D .non, kit_ty kb_ni, _, rfl, iteF ?_⟩
      exact k0 rfl
    | str z =>
      cases hd
      refine ⟨_, rfl, _, _, _, _, _, rfl, .ty _, tyx_D (.str z), kit_ty kb_si, _, rfl, iteF ?_⟩
      exact k0 rfl
    | tuple ds =>
      refine ⟨_, rfl, _, _, _, _, _, rfl, .ty _, tyx_D hd, kit_ty kb_ti, _, rfl, iteF ?_⟩
      exact k0 rfl
    | list ds => exact (nl ds rfl).elim
    | dict _ => cases hd

end
end TL

namespace TL
open PySem PySem.Spec PyProof.Rows L2
section
variable {P : Program} {w : World} {K : PySem.W.Frag} {mg : Str → Option Value} {base : Heap}
def sp_are_manners (T : Txt K mg) : Sp := fun vs H Q _ => ∃ (x : V) (d : PyData), vs = [x] ∧ Dp K H x d ∧ mdat d ∧ ∀ H', Same H H' → Q (.bl (isMan d)) H'
theorem ok_are_manners (T : Txt K mg) : FnOk P w K mg base CX0 2 T.a_are_manners T.fd_are_manners P_are_manners (sp_are_manners T) := by
  have G_is_between := ok_is_between (P := P) (w := w) (base := base) T
  refine T.F_are_manners.ok sc_are_manners (fun vs H Q E h => ?_) (fun cdv A outer s H vs Q E hr h => ?_)
  · obtain ⟨x, d, rfl, _⟩ := h
    rfl
  · obtain ⟨x, d, rfl, hd, hm, k⟩ := h
    have hu64 := hr.units
    refine ⟨_, (pss_cons (ps_if (PW.pt (pw_or (pt_not (pt_val (pe_callB call_isi (by rfl) T.n_isinstance (by decide +kernel) (pa_cons (pv 0) (pa_cons (pe_bltn (v := .ty "tuple") (u := .type "tuple") (by rfl) T.n_tuple (by decide +kernel) rfl) pa_nil))))) (pw_or1 (pt_cmpR (op_neD hu64) (pe_lc (own := [("one", 1)]) (g := (gName 1)) (tt := (tNot (tB (tCall _ [] E0 (tCons (tVar 1) (tCons (tC (.int 0)) (tCons (tC (.int 9)) tNil))))))) (te := (tVar 1)) rfl sc_are_manners.nd (pi_tup (pv 0)) (blkOk_by (own := [("one", 1)]) (N := N_are_manners) (sc := defScope s_are_manners) (by decide +kernel)) (fun _ _ _ _ _ => (pg_name (i := 1) sc_are_manners.nd rfl (by first | exact Or.inl rfl | exact Or.inr rfl))) (fun _ _ _ _ _ => (pts_one (pt_not (pt_val (pe_call G_is_between (hr.mono (by decide)) rfl T.g_is_between T.F_is_between.kp T.b_is_between .nil pass0 (pa_cons (pv 1) (pa_cons pe_int (pa_cons (pe_glob (v := .int 9) rfl T.v_MOST ⟨_, rfl⟩) pa_nil)))))))) (fun _ _ _ _ _ => (pv 1))) (pe_lst pa_nil) (nomark _)))))
      (pss_one (ps_ret pe_bl))
      pss_nil)
    (pss_one (ps_ret (pe_and (pe_cmpR (op_eqD hu64) (pe_callTy call_list_of (by rfl) T.n_list (by decide +kernel) (pa_cons (pv 0) pa_nil)) (pe_callB (cr_sortedSet rfl) (by rfl) T.n_sorted (by decide +kernel) (pa_cons (pe_callTy (cr_setT rfl) (by rfl) T.n_set (by decide +kernel) (pa_cons (pv 0) pa_nil)) pa_nil)) (nomark _)) (pe_one (pe_cmpR op_in_seq pe_int (pv 0) (by rfl))))))), ?_⟩
    have no : ∀ {c : String} {b : Bool}, kty d = c → kitB c "tuple" = some b → rIsi K [x, .ty "tuple"] H (fun v _ => v = .bl b) := fun e z => ⟨_, _, _, _, _, rfl, .ty _, tyx_D hd, kit_ty (by rw [e]; exact z), rfl⟩
    have k0 : ∀ {b : Bool} {H'}, isMan d = b → Same H H' → Q (.bl b) H' := fun e s => by rw [← e]; exact k _ s
    cases d with
    | none => cases hd; exact ⟨_, rfl, _, _, _, _, _, rfl, .ty _, tyx_D .non, kit_ty kb_nt, _, rfl, iteT (iteT (k0 rfl (.refl _)))⟩
    | bool b => cases hd; exact ⟨_, rfl, _, _, _, _, _, rfl, .ty _, tyx_D (.bl b), kit_ty kb_bt, _, rfl, iteT (iteT (k0 rfl (.refl _)))⟩
    | int i => cases hd; exact ⟨_, rfl, _, _, _, _, _, rfl, .ty _, tyx_D (.int i), kit_ty kb_it, _, rfl, iteT (iteT (k0 rfl (.refl _)))⟩
    | str z => cases hd; exact ⟨_, rfl, _, _, _, _, _, rfl, .ty _, tyx_D (.str z), kit_ty kb_st, _, rfl, iteT (iteT (k0 rfl (.refl _)))⟩
    | list ds => exact hm.elim
    | dict _ => cases hd
    | tuple ds =>
      obtain ⟨hlen, hel⟩ := hm
      have hd' := hd
      cases hd' with
      | tup hT hA =>
        rename_i a xs
        have hxl := hA.length
        refine ⟨_, rfl, _, _, _, _, _, rfl, .ty _, tyx_D hd, kit_ty kb_tt, _, rfl, iteF ?_⟩
        -- the ones that are no manners
        refine ⟨_, rfl, a, rfl, ⟨_, hT⟩, fun D hD => ?_⟩
        refine lc_tup (K := K) (a := a) (xs := xs) (fun i H2 => Same H H2 ∧ ∃ ys : List V, H2 D = some (.lst ys) ∧ DpAll K H ys ((ds.take i).filter fun e => !between e 0 9) ∧ ys.length ≤ i)
          ⟨Same.upd_new hD, [], upd_same, .nil, Nat.le_refl _⟩ (fun i H2 _ ⟨s2, _⟩ => SqT_same s2 hT) ?_ ?_
        · rintro i y H2 hi ⟨s2, ys, hys, hyd, hyl⟩
          obtain ⟨e, he, hde⟩ := hA.get' hi
          have hem : e ∈ ds := List.mem_of_getElem? he
          have htk : ds.take (i + 1) = ds.take i ++ [e] := take_more he
          have hil : i < ds.length := (List.getElem?_eq_some_iff.mp he).1
          refine ⟨rfl, _, rfl, y, e, 0, 9, rfl, hde.same s2, (hel e hem).1, _, rfl, ?_⟩
          refine iteB (fun hb => ?_) (fun hb => ?_)
          · refine ⟨_, rfl, ys, hys, small1000 (by omega), ?_⟩
            have nD : ∀ b o, H b = some o → b ≠ D := fun b o z q => by rw [q, hD] at z; cases z
            have s3 : Same H (upd H2 D (.lst (ys ++ [y]))) := fun b o z => by rw [upd_ne (nD b o z)]; exact s2 b o z
            refine ⟨s3, ys ++ [y], upd_same, ?_, by rw [List.length_append]; simp; omega⟩
            rw [htk, List.filter_append]
            have hf : [e].filter (fun e => !between e 0 9) = [e] := by simp [List.filter, hb]
            rw [hf]
            exact DpAll.append hyd (.cons hde .nil)
          · refine ⟨s2, ys, hys, ?_, by omega⟩
            rw [htk, List.filter_append]
            have hf : [e].filter (fun e => !between e 0 9) = [] := by simp [List.filter, hb]
            rw [hf, List.append_nil]
            exact hyd
        · rintro H2 ⟨s2, ys, hys, hyd, hyl⟩
          rw [hxl, List.take_length] at hyd
          refine ⟨(by show 0 ≤ sizeLine; decide), fun p hp => ?_⟩
          have s3 : Same H2 (upd H2 p (.lst [])) := Same.upd_new hp
          have hlv : lv 2 (.list (ds.filter fun e => !between e 0 9)) := ⟨by have := List.length_filter_le (fun e => !between e 0 9) ds; omega, fun e he => (hel e (List.mem_filter.mp he).1).2⟩
          refine ⟨.list (ds.filter fun e => !between e 0 9), .list [], .lst (SqL.of (s3 _ _ hys)) (hyd.same (s2.trans s3)), .lst (SqL.of upd_same) .nil, shaped_lv hlv (by decide), rfl, _, rfl, ?_⟩
          by_cases hall : ds.all (fun e => between e 0 9) = true
          · have hf0 : (ds.filter fun e => !between e 0 9) = [] := by
              rw [List.filter_eq_nil_iff]
              intro e he
              simp [List.all_eq_true.mp hall e he]
            rw [hf0]
            refine iteF ?_
            -- list(some) == sorted(set(some)) and 0 in some
            have hds := ints_of_between hall
            have hbt := between_of hall
            generalize hns : ds.map intOf = ns at hds hbt
            subst hds
            have hxs := hA.ints_inv
            subst hxs
            have hnl : ns.length ≤ 60 := by rw [List.length_map] at hlen; exact hlen
            have s13 : Same H (upd H2 p (.lst [])) := s2.trans s3
            refine ⟨_, rfl, a, _, rfl, .inr (SqT_same s13 hT), fun l hl => ?_⟩
            have s4 : Same (upd H2 p (.lst [])) (upd (upd H2 p (.lst [])) l (.lst (ns.map V.int))) := Same.upd_new hl
            refine ⟨_, rfl, a, ns, rfl, SqT_same (s13.trans s4) hT, by omega, fun q c hq hc => ?_⟩
            refine ⟨q, _, c, rfl, upd_same, by omega, fun ns' r hs' hm' hl' hr' => ?_⟩
            have s5 := Same.upd_new (o := SetO w q (fun j => decide (j ∈ ns)) c) hq
            have s6 := Same.upd_new (o := .lst (ns'.map V.int)) hr'
            refine ⟨.list (ns.map .int), .list (ns'.map .int), .lst (SqL.of (s6 _ _ (s5 _ _ upd_same))) (dp_ints ns), .lst (SqL.of upd_same) (dp_ints ns'), shaped_ints _, shaped_ints _, _, rfl, ?_⟩
            have s17 := ((s13.trans s4).trans s5).trans s6
            have e1 : PyData.eqv (.list (ns.map .int)) (.list (ns'.map .int)) = decide (ns.Pairwise (· < ·)) := by
              show PyData.eqvAll _ _ = _
              rw [eqvAll_ints]
              by_cases hp : ns.Pairwise (· < ·)
              · rw [decide_eq_true hp, decide_eq_true (sorted_ext hp hs' fun j => by rw [hm']; simp)]
              · rw [decide_eq_false hp, decide_eq_false fun z => hp (by rw [z]; exact hs')]
            have e2 : isMan (.tuple (ns.map .int)) = (decide (ns.Pairwise (· < ·)) && decide (0 ∈ ns)) := by
              have e3 : (ns.map PyData.int).map intOf = ns := hns
              simp only [isMan]
              rw [hall, e3]
              simp
            rw [e1]
            refine iteB (fun hb => ?_) (fun hb => k0 (by rw [e2, hb]; rfl) s17)
            refine ⟨_, rfl, a, _, rfl, .inr (SqT_same s17 hT), rfl, flat_ints ns, ?_⟩
            refine k0 ?_ s17
            rw [e2, hb]
            show (true && decide (0 ∈ ns)) = inV (.int 0) (ns.map V.int)
            rw [inV_int, Bool.true_and]
          · have hne : (ds.filter fun e => !between e 0 9) ≠ [] := by
              intro z
              apply hall
              rw [List.all_eq_true]
              intro e he
              have := List.filter_eq_nil_iff.mp z e he
              simpa using this
            obtain ⟨e, r, her⟩ := List.exists_cons_of_ne_nil hne
            rw [her]
            refine iteT ?_
            have hf : ds.all (fun e => between e 0 9) = false := by simpa using hall
            exact k0 (by simp only [isMan]; rw [hf]; rfl) (s2.trans s3)

end
end TL

namespace TL
open PySem PySem.Spec PyProof.Rows L2
section
variable {P : Program} {w : World} {K : PySem.W.Frag} {mg : Str → Option Value} {base : Heap}
def sp_need_manners (T : Txt K mg) : Sp := fun vs H Q E => ∃ (x : V) (d : PyData), vs = [x] ∧ Dp K H x d ∧ mdat d ∧ (isMan d = true → ∀ H', Same H H' → Q .non H') ∧ (isMan d = false → ∀ H', Same H H' → E (.ref T.C_BadManners) none H')
theorem ok_need_manners (T : Txt K mg) : FnOk P w K mg base (L2.CX P w) 3 T.a_need_manners T.fd_need_manners P_need_manners (sp_need_manners T) := by
  have G_are_manners := ok_are_manners (P := P) (w := w) (base := base) T
  refine T.F_need_manners.okX sc_need_manners (fun vs H Q E h => ?_) (fun cdv A outer s H vs Q E hr h => ?_)
  · obtain ⟨x, d, rfl, _⟩ := h
    rfl
  · obtain ⟨x, d, rfl, hd, hm, k1, k2⟩ := h
    refine ⟨_, (pss_one (ps_if (pt_not (pt_val (pe_call G_are_manners (hr.mono (by decide)) rfl T.g_are_manners T.F_are_manners.kp T.b_are_manners .nil pass0 (pa_cons (pv 0) pa_nil))))
      (pss_one (ps_raise rfl (takes_of rfl rfl rfl rfl) (pmk_own PySem.F.excBase_ValueError T.x_BadManners T.c_BadManners T.k_BadManners (raises_own T.s_BadManners T.t_BadManners) rfl)))
      pss_nil)), ?_⟩
    refine ⟨_, rfl, x, d, rfl, hd, hm, fun H' s' => ⟨_, rfl, ?_⟩⟩
    refine iteB (fun hb => ?_) (fun hb => ?_)
    · exact k2 (by simpa using hb) H' s'
    · exact k1 (by simpa using hb) H' s'

end
end TL

namespace TL
open PySem PySem.Spec PyProof.Rows L2
section
variable {P : Program} {w : World} {K : PySem.W.Frag} {mg : Str → Option Value} {base : Heap}
/-- what is handed in third: a tuple or a list of numbers -/
def sp_chosen (T : Txt K mg) : Sp := fun vs H Q E => ∃ (x y z : V) (dx dy : PyData), vs = [x, y, z] ∧ Dp K H x dx ∧ mdat dx ∧ Dp K H y dy ∧ mdat dy ∧
  (isMan dx = false → ∀ H', Same H H' → E (.ref T.C_BadManners) none H') ∧
  (isMan dx = true → isMan dy = false → ∀ H', Same H H' → E (.ref T.C_BadManners) none H') ∧
  (isMan dx = true → isMan dy = true → ∀ one other, dx = .tuple (one.map .int) → dy = .tuple (other.map .int) → ∃ (b : Addr) (bs : List Int), z = .ref b ∧ (SqL K H b (bs.map V.int) ∨ SqT K H b (bs.map V.int)) ∧ ∀ H', Same H H' → Q (.int (chosenF one other bs)) H')
theorem ok_chosen (T : Txt K mg) : FnOk P w K mg base (L2.CX P w) 4 T.a_chosen T.fd_chosen P_chosen (sp_chosen T) := by
  have G_need_manners := ok_need_manners (P := P) (w := w) (base := base) T
  refine T.F_chosen.okX sc_chosen (fun vs H Q E h => ?_) (fun cdv A outer s H vs Q E hr h => ?_)
  · obtain ⟨x, y, z, dx, dy, rfl, _⟩ := h
    rfl
  · obtain ⟨x, y, z, dx, dy, rfl, hx, mx, hy, my, k1, k2, k3⟩ := h
    refine ⟨_, (pss_cons (ps_expr (pe_call G_need_manners (hr.mono (by decide)) rfl T.g_need_manners T.F_need_manners.kp T.b_need_manners .nil (passes_call (takes_of rfl rfl rfl rfl) (fun _ _ _ _ h => h)) (pa_cons (pv 0) pa_nil)))
    (pss_cons (ps_expr (pe_call G_need_manners (hr.mono (by decide)) rfl T.g_need_manners T.F_need_manners.kp T.b_need_manners .nil (passes_call (takes_of rfl rfl rfl rfl) (fun _ _ _ _ h => h)) (pa_cons (pv 1) pa_nil)))
    (pss_one (ps_ret (pe_callB (cr_max rfl) (by rfl) T.n_max (by decide +kernel) (pa_cons (pe_op op_cat (pe_lst (pa_cons pe_int pa_nil)) (pe_lc (own := [("manner", 3)]) (g := (gName 3)) (tt := (tAnd (tTest (tOp (rIn K false) (tVar 3) (tVar 1))) (tTest (tOp (rIn K true) (tVar 3) (tVar 2))))) (te := (tVar 3)) rfl sc_chosen.nd (pi_tup (pv 0)) (blkOk_by (own := [("manner", 3)]) (N := N_chosen) (sc := defScope s_chosen) (by decide +kernel)) (fun _ _ _ _ _ => (pg_name (i := 3) sc_chosen.nd rfl (by first | exact Or.inl rfl | exact Or.inr rfl))) (fun _ _ _ _ _ => (pts_one (PW.pt (pw_and (pt_cmpR op_in_seq (pv 3) (pv 1) (by rfl)) (pw_and1 (pt_cmpR op_notIn_seq (pv 3) (pv 2) (by rfl))))))) (fun _ _ _ _ _ => (pv 3)))) pa_nil)))))), ?_⟩
    refine ⟨_, rfl, x, dx, rfl, hx, mx, fun gx H1 s1 => ?_, fun gx H1 s1 => k1 gx H1 s1⟩
    refine ⟨_, rfl, y, dy, rfl, hy.same s1, my, fun gy H2 s2 => ?_, fun gy H2 s2 => k2 gx gy H2 (s1.trans s2)⟩
    obtain ⟨one, rfl, ho⟩ := man_tuple gx
    obtain ⟨other, rfl, hoo⟩ := man_tuple gy
    obtain ⟨b, bs, rfl, hb, k⟩ := k3 gx gy one other rfl rfl
    have s12 := s1.trans s2
    have hl1 : one.length ≤ 60 := by have := mx.1; rw [List.length_map] at this; exact this
    cases hx with
    | tup hTx hAx =>
      rename_i ax xx
      cases hy with
      | tup hTy hAy =>
        rename_i ay yy
        have ex := hAx.ints_inv
        have ey := hAy.ints_inv
        subst ex ey
        refine ⟨(by show 1 ≤ sizeLine; decide), fun p hp => ?_⟩
        have s3 : Same H2 (upd H2 p (.lst [.int 0])) := Same.upd_new hp
        have s13 := s12.trans s3
        refine ⟨_, rfl, ax, rfl, ⟨_, SqT_same s13 hTx⟩, fun D hD => ?_⟩
        have nD : ∀ c o, (upd H2 p (.lst [.int 0])) c = some o → c ≠ D := fun c o e q => by rw [q, hD] at e; cases e
        refine lc_tup (K := K) (a := ax) (xs := one.map V.int) (fun i H3 => Same (upd H2 p (.lst [.int 0])) H3 ∧ H3 D = some (.lst (((one.take i).filter fun m => decide (m ∈ other) && !decide (m ∈ bs)).map V.int)))
          ⟨Same.upd_new hD, upd_same⟩ (fun i H3 _ ⟨s4, _⟩ => SqT_same (s13.trans s4) hTx) ?_ ?_
        · rintro i v H3 hi ⟨s4, hys⟩
          obtain ⟨m, hm, rfl⟩ := getmap hi
          have htk : one.take (i + 1) = one.take i ++ [m] := take_more hm
          have hil : i < one.length := (List.getElem?_eq_some_iff.mp hm).1
          have s14 := s13.trans s4
          have hf : ∀ g : Int → Bool, (one.take (i + 1)).filter g = (one.take i).filter g ++ (if g m = true then [m] else []) := fun g => by
            rw [htk, List.filter_append]
            by_cases q : g m = true
            · simp [List.filter, q]
            · simp [List.filter, q]
          have hb3 : SqL K H3 b (bs.map V.int) ∨ SqT K H3 b (bs.map V.int) := hb.imp (fun z => s14.seq z) (fun z => SqT_same s14 z)
          refine ⟨rfl, _, rfl, _, rfl, ay, _, rfl, .inr (SqT_same s14 hTy), rfl, flat_ints _, _, rfl, ?_⟩
          rw [hf]
          have e1 : inV (.int m) (other.map V.int) = decide (m ∈ other) := inV_int m other
          have e2 : inV (.int m) (bs.map V.int) = decide (m ∈ bs) := inV_int m bs
          show if inV (.int m) (other.map V.int) = true then _ else _
          rw [e1]
          refine iteB (fun q1 => ?_) (fun q1 => ?_)
          · refine ⟨_, rfl, _, rfl, b, _, rfl, hb3, rfl, flat_ints _, _, rfl, ?_⟩
            show if (!inV (.int m) (bs.map V.int)) = true then _ else _
            rw [e2, q1]
            refine iteB (fun q2 => ?_) (fun q2 => ?_)
            · rw [q2]
              refine ⟨_, rfl, _, hys, ?_, fun c o e => ?_, ?_⟩
              · rw [List.length_map]
                have := List.length_filter_le (fun m => decide (m ∈ other) && !decide (m ∈ bs)) (one.take i)
                have := List.length_take_le i one
                exact small1000 (by omega)
              · rw [upd_ne (nD c o e)]
                exact s4 c o e
              · rw [upd_same, List.map_append]
                rfl
            · rw [q2]
              refine ⟨s4, ?_⟩
              rw [hys]
              simp
          · rw [q1]
            refine iteF ⟨s4, ?_⟩
            rw [hys]
            simp
        · rintro H3 ⟨s4, hys⟩
          rw [List.length_map, List.take_length] at hys
          have hpl : H3 p = some (.lst [.int 0]) := s4 _ _ upd_same
          refine ⟨p, D, _, _, rfl, rfl, hpl, hys, ?_, fun q hq => ?_⟩
          · rw [List.length_map]
            have := List.length_filter_le (fun m => decide (m ∈ other) && !decide (m ∈ bs)) one
            exact Nat.le_of_lt (small1000 (by simp only [List.length_cons, List.length_nil]; omega))
          · refine ⟨q, 0 :: (one.filter fun m => decide (m ∈ other) && !decide (m ∈ bs)), rfl, SqL.of (by rw [upd_same]; rfl), by simp, fun m hm hle => ?_⟩
            have e : IsChosen one other bs m := by
              refine ⟨?_, hle 0 (by simp), fun y h1 h2 h3 => hle y ?_⟩
              · rcases List.mem_cons.mp hm with e | e
                · exact .inl e
                · right
                  have := List.mem_filter.mp e
                  simp only [Bool.and_eq_true, decide_eq_true_eq, Bool.not_eq_true', decide_eq_false_iff_not] at this
                  exact this
              · apply List.mem_cons_of_mem
                rw [List.mem_filter]
                simp [h1, h2, h3]
            rw [e.eq]
            exact k _ ((s13.trans s4).trans (Same.upd_new hq))

end
end TL

namespace TL
open PySem PySem.Spec PyProof.Rows L2
section
variable {P : Program} {w : World} {K : PySem.W.Frag} {mg : Str → Option Value} {base : Heap}
def sp_need_manner (T : Txt K mg) : Sp := fun vs H Q E => ∃ (x : V) (d : PyData), vs = [x] ∧ Dp K H x d ∧ (∀ ds, d ≠ .list ds) ∧ (between d 1 9 = true → Q .non H) ∧ (between d 1 9 = false → E (.ref T.C_BadManners) none H)
theorem ok_need_manner (T : Txt K mg) : FnOk P w K mg base (L2.CX P w) 2 T.a_need_manner T.fd_need_manner P_need_manner (sp_need_manner T) := by
  have G_is_between := ok_is_between (P := P) (w := w) (base := base) T
  refine T.F_need_manner.okX sc_need_manner (fun vs H Q E h => ?_) (fun cdv A outer s H vs Q E hr h => ?_)
  · obtain ⟨x, d, rfl, _⟩ := h
    rfl
  · obtain ⟨x, d, rfl, hd, nl, k1, k2⟩ := h
    refine ⟨_, (pss_one (ps_if (pt_not (pt_val (pe_call G_is_between (hr.mono (by decide)) rfl T.g_is_between T.F_is_between.kp T.b_is_between .nil pass0 (pa_cons (pv 0) (pa_cons pe_int (pa_cons (pe_glob (v := .int 9) rfl T.v_MOST ⟨_, rfl⟩) pa_nil))))))
      (pss_one (ps_raise rfl (takes_of rfl rfl rfl rfl) (pmk_own PySem.F.excBase_ValueError T.x_BadManners T.c_BadManners T.k_BadManners (raises_own T.s_BadManners T.t_BadManners) rfl)))
      pss_nil)), ?_⟩
    refine ⟨_, rfl, x, d, 1, 9, rfl, hd, nl, _, rfl, ?_⟩
    refine iteB (fun hb => k2 (by simpa using hb)) (fun hb => k1 (by simpa using hb))

end
end TL

namespace TL
open PySem PySem.Spec PyProof.Rows L2
section
variable {P : Program} {w : World} {K : PySem.W.Frag} {mg : Str → Option Value} {base : Heap}
def sp_is_row (T : Txt K mg) : Sp := fun vs H Q _ => ∃ (x : V) (d : PyData), vs = [x] ∧ Dp K H x d ∧ rdat d ∧ Q (.bl (isRowD d)) H
theorem ok_is_row (T : Txt K mg) : FnOk P w K mg base CX0 2 T.a_is_row T.fd_is_row P_is_row (sp_is_row T) := by
  have G_is_between := ok_is_between (P := P) (w := w) (base := base) T
  refine T.F_is_row.ok sc_is_row (fun vs H Q E h => ?_) (fun cdv A outer s H vs Q E hr h => ?_)
  · obtain ⟨x, d, rfl, _⟩ := h
    rfl
  · obtain ⟨x, d, rfl, hd, hm, k⟩ := h
    refine ⟨_, (pss_cons (ps_if (PW.pt (pw_or (pt_not (pt_val (pe_callB call_isi (by rfl) T.n_isinstance (by decide +kernel) (pa_cons (pv 0) (pa_cons (pe_bltn (v := .ty "tuple") (u := .type "tuple") (by rfl) T.n_tuple (by decide +kernel) rfl) pa_nil))))) (pw_or1 (pt_cmpR op_ne (pe_callB call_len_seq (by rfl) T.n_len (by decide +kernel) (pa_cons (pv 0) pa_nil)) pe_int (nomark _)))))
      (pss_one (ps_ret pe_bl))
      pss_nil)
    (pss_cons (ps_if (PW.pt (pw_or (pt_not (pt_val (pe_call G_is_between (hr.mono (by decide)) rfl T.g_is_between T.F_is_between.kp T.b_is_between .nil pass0 (pa_cons (pe_ix ix_tup (pv 0) pe_int (fun _ _ => rfl)) (pa_cons pe_int (pa_cons (pe_glob (v := .int 9) rfl T.v_MOST ⟨_, rfl⟩) pa_nil)))))) (pw_or1 (pt_not (pt_val (pe_call G_is_between (hr.mono (by decide)) rfl T.g_is_between T.F_is_between.kp T.b_is_between .nil pass0 (pa_cons (pe_ix ix_tup (pv 0) pe_int (fun _ _ => rfl)) (pa_cons pe_int (pa_cons (pe_glob (v := .int 9) rfl T.v_MOST ⟨_, rfl⟩) pa_nil)))))))))
      (pss_one (ps_ret pe_bl))
      pss_nil)
    (pss_one (ps_ret (pe_and (pe_callB call_isi (by rfl) T.n_isinstance (by decide +kernel) (pa_cons (pe_ix ix_tup (pv 0) pe_int (fun _ _ => rfl)) (pa_cons (pe_bltn (v := .ty "bool") (u := .type "bool") (by rfl) T.n_bool (by decide +kernel) rfl) pa_nil))) (pe_one (pe_callB call_isi (by rfl) T.n_isinstance (by decide +kernel) (pa_cons (pe_ix ix_tup (pv 0) pe_int (fun _ _ => rfl)) (pa_cons (pe_bltn (v := .ty "bool") (u := .type "bool") (by rfl) T.n_bool (by decide +kernel) rfl) pa_nil))))))))), ?_⟩
    have k0 : ∀ {b : Bool}, isRowD d = b → Q (.bl b) H := fun e => by rw [← e]; exact k
    cases d with
    | none => cases hd; exact ⟨_, rfl, _, _, _, _, _, rfl, .ty _, tyx_D .non, kit_ty kb_nt, _, rfl, iteT (iteT (k0 rfl))⟩
    | bool b => cases hd; exact ⟨_, rfl, _, _, _, _, _, rfl, .ty _, tyx_D (.bl b), kit_ty kb_bt, _, rfl, iteT (iteT (k0 rfl))⟩
    | int i => cases hd; exact ⟨_, rfl, _, _, _, _, _, rfl, .ty _, tyx_D (.int i), kit_ty kb_it, _, rfl, iteT (iteT (k0 rfl))⟩
    | str z => cases hd; exact ⟨_, rfl, _, _, _, _, _, rfl, .ty _, tyx_D (.str z), kit_ty kb_st, _, rfl, iteT (iteT (k0 rfl))⟩
    | list ds => exact hm.elim
    | dict _ => cases hd
    | tuple ds =>
      have hd' := hd
      cases hd' with
      | tup hT hA =>
      rename_i a xs
      have hxl := hA.length
      refine ⟨_, rfl, _, _, _, _, _, rfl, .ty _, tyx_D hd, kit_ty kb_tt, _, rfl, iteF ?_⟩
      refine ⟨_, rfl, a, _, rfl, .inr hT, rfl, _, rfl, ?_⟩
      refine iteN (fun hne => k0 ?_) (fun he => ?_)
      · match ds, hxl with
        | [], _ => rfl
        | [_], _ => rfl
        | [_, _], _ => rfl
        | [_, _, _], _ => rfl
        | [_, _, _, _], hxl => exact (hne (by rw [hxl]; rfl)).elim
        | _ :: _ :: _ :: _ :: _ :: _, _ => rfl
      · have hl4 : ds.length = 4 := by
          have := vint_inj.mp he
          omega
        obtain ⟨d0, d1, d2, d3, rfl⟩ : ∃ d0 d1 d2 d3, ds = [d0, d1, d2, d3] := by
          match ds, hl4 with
          | [d0, d1, d2, d3], _ => exact ⟨d0, d1, d2, d3, rfl⟩
        cases hA with
        | cons h0 hA => cases hA with
          | cons h1 hA => cases hA with
            | cons h2 hA => cases hA with
              | cons h3 hA =>
              cases hA
              rename_i v0 v1 v2 v3
              have e : isRowD (.tuple [d0, d1, d2, d3]) = (between d0 0 9 && (between d2 0 9 && (isB d1 && isB d3))) := rfl
              refine ⟨_, rfl, a, _, _, _, rfl, rfl, hT, atI_nat (j := 0) rfl, ?_⟩
              refine ⟨v0, d0, 0, 9, rfl, h0, hm d0 (by simp), _, rfl, ?_⟩
              refine iteB (fun hb => ?_) (fun hb => ?_)
              · have hb : between d0 0 9 = false := by simpa using hb
                exact iteT (k0 (by rw [e, hb]; rfl))
              have hb : between d0 0 9 = true := by simpa using hb
              refine ⟨_, rfl, a, _, _, _, rfl, rfl, hT, atI_nat (j := 2) rfl, ?_⟩
              refine ⟨v2, d2, 0, 9, rfl, h2, hm d2 (by simp), _, rfl, ?_⟩
              refine iteB (fun hc => ?_) (fun hc => ?_)
              · have hc : between d2 0 9 = false := by simpa using hc
                exact k0 (by rw [e, hb, hc]; rfl)
              have hc : between d2 0 9 = true := by simpa using hc
              have isb : ∀ {d : PyData}, (∀ l, d ≠ .list l) → (∀ l, d ≠ .dict l) → kitB (kty d) "bool" = some (isB d) := by
                intro d n1 n2
                cases d with
                | none => exact kb_nb
                | bool b => exact kb_bb
                | int i => exact kb_ib
                | str z => exact kb_sb
                | tuple ds => exact kb_tb
                | list ds => exact (n1 ds rfl).elim
                | dict ds => exact (n2 ds rfl).elim
              have nd : ∀ {v : V} {d : PyData}, Dp K H v d → ∀ l, d ≠ .dict l := fun h l z => by subst z; cases h
              refine ⟨_, rfl, a, _, _, _, rfl, rfl, hT, atI_nat (j := 1) rfl, ?_⟩
              refine ⟨_, _, _, _, _, rfl, .ty _, tyx_D h1, kit_ty (isb (hm d1 (by simp)) (nd h1)), _, rfl, ?_⟩
              refine iteB (fun hx => ?_) (fun hx => k0 (by rw [e, hb, hc, hx]; rfl))
              refine ⟨_, rfl, a, _, _, _, rfl, rfl, hT, atI_nat (j := 3) rfl, ?_⟩
              refine ⟨_, _, _, _, _, rfl, .ty _, tyx_D h3, kit_ty (isb (hm d3 (by simp)) (nd h3)), k0 (by rw [e, hb, hc, hx]; rfl)⟩

end
end TL

namespace TL
open PySem PySem.Spec PyProof.Rows L2
section
variable {P : Program} {w : World} {K : PySem.W.Frag} {mg : Str → Option Value} {base : Heap}
/-- of a log, three hundred rows at most -/
def sp_need_log (T : Txt K mg) : Sp := fun vs H Q _ => ∃ (a : Addr) (xs : List V) (rs : List Row), vs = [.ref a] ∧ SqL K H a xs ∧ ImAll H xs (rs.map rowD) ∧ (∀ r ∈ rs, okRow r) ∧ rs.length ≤ 300 ∧ ∀ H', Same H H' → Q .non H'
theorem ok_need_log (T : Txt K mg) : FnOk P w K mg base CX0 3 T.a_need_log T.fd_need_log P_need_log (sp_need_log T) := by
  have G_is_row := ok_is_row (P := P) (w := w) (base := base) T
  refine T.F_need_log.ok sc_need_log (fun vs H Q E h => ?_) (fun cdv A outer s H vs Q E hr h => ?_)
  · obtain ⟨a, xs, rs, rfl, _⟩ := h
    rfl
  · obtain ⟨a, xs, rs, rfl, hL, hA, hok, hl, k⟩ := h
    refine ⟨_, (pss_one (ps_for PassesOwn.never rfl (pi_enum (by rfl) T.n_enumerate (pa_cons (pv 0) pa_nil)) (pg_tup rfl (pgs_cons (pg_name (i := 1) sc_need_log.nd rfl (by first | exact Or.inl rfl | exact Or.inr rfl)) (pgs_cons (pg_name (i := 2) sc_need_log.nd rfl (by first | exact Or.inl rfl | exact Or.inr rfl)) pgs_nil)))
      (pss_one (ps_if (PW.pt (pw_or (pt_cmpR op_ge (pv 1) (pe_glob (v := .int 300) rfl T.v_MOST_ROWS ⟨_, rfl⟩) (nomark _)) (pw_or1 (pt_not (pt_val (pe_call G_is_row (hr.mono (by decide)) rfl T.g_is_row T.F_is_row.kp T.b_is_row .nil pass0 (pa_cons (pv 2) pa_nil)))))))
        (pss_one ps_never)
        pss_nil)))), ?_⟩
    have hxl := rows_len hA
    refine ⟨_, rfl, a, xs, rfl, hL, for_enum (K := K) (a := a) (xs := xs) (fun i σ H2 => Same H H2 ∧ ∃ v1 v2 : Option V, σ = [some (.ref a), v1, v2])
      ⟨.refl _, _, _, rfl⟩ (fun i σ H2 _ ⟨s2, _⟩ => s2.seq hL) ?_ ?_⟩
    · rintro i x N σ H2 hi ⟨s2, v1, v2, rfl⟩ hN
      have s3 : Same H (upd H2 N (.tup [.int (i : Nat), x])) := s2.trans (Same.upd_new hN)
      obtain ⟨t, r, hr, rfl, ht⟩ := rows_get' hA hi
      have hil : i < rs.length := (List.getElem?_eq_some_iff.mp hr).1
      refine ⟨N, _, rfl, SqT.of upd_same, rfl, _, _, rfl, _, _, rfl, rfl, ?_⟩
      refine ⟨_, rfl, _, _, rfl, rfl, _, rfl, ?_⟩
      refine iteD (fun h => by omega) (fun _ => ?_)
      refine ⟨_, rfl, _, _, rfl, ((im_row ht).same s3).dp, rdat_row r, _, rfl, ?_⟩
      rw [isRow_row (hok r (List.mem_of_getElem? hr))]
      exact iteF ⟨s3, _, _, rfl⟩
    · rintro σ H2 ⟨s2, v1, v2, rfl⟩
      exact k H2 s2

end
end TL

namespace TL
open PySem PySem.Spec PyProof.Rows L2
section
variable {P : Program} {w : World} {K : PySem.W.Frag} {mg : Str → Option Value} {base : Heap}
/-- of manners, good or bad, and an empty log -/
def sp_judged (T : Txt K mg) : Sp := fun vs H Q E => ∃ (x y : V) (a : Addr) (dx dy : PyData), vs = [x, y, .ref a] ∧ Dp K H x dx ∧ mdat dx ∧ Dp K H y dy ∧ mdat dy ∧
  (isMan dx = false → ∀ H', Same H H' → E (.ref T.C_BadManners) none H') ∧ (isMan dx = true → isMan dy = false → ∀ H', Same H H' → E (.ref T.C_BadManners) none H') ∧
  (isMan dx = true → isMan dy = true → SqL K H a [] ∧ ∀ H', Same H H' → Q .non H')
theorem ok_judged (T : Txt K mg) : FnOk P w K mg base (L2.CX P w) 4 T.a_judged T.fd_judged P_judged (sp_judged T) := by
  have G_need_manners := ok_need_manners (P := P) (w := w) (base := base) T
  have G_need_log := ok_need_log (P := P) (w := w) (base := base) T
  refine T.F_judged.okX sc_judged (fun vs H Q E h => ?_) (fun cdv A outer s H vs Q E hr h => ?_)
  · obtain ⟨x, y, a, dx, dy, rfl, _⟩ := h
    rfl
  · obtain ⟨x, y, a, dx, dy, rfl, hx, mx, hy, my, k1, k2, k3⟩ := h
    have hu64 := hr.units
    refine ⟨_, (pss_cons (ps_expr (pe_call G_need_manners (hr.mono (by decide)) rfl T.g_need_manners T.F_need_manners.kp T.b_need_manners .nil (passes_call (takes_of rfl rfl rfl rfl) (fun _ _ _ _ h => h)) (pa_cons (pv 0) pa_nil)))
    (pss_cons (ps_expr (pe_call G_need_manners (hr.mono (by decide)) rfl T.g_need_manners T.F_need_manners.kp T.b_need_manners .nil (passes_call (takes_of rfl rfl rfl rfl) (fun _ _ _ _ h => h)) (pa_cons (pv 1) pa_nil)))
    (pss_cons (ps_expr (pe_call G_need_log (hr.mono (by decide)) rfl T.g_need_log T.F_need_log.kp T.b_need_log .nil pass0 (pa_cons (pv 2) pa_nil)))
    (pss_cons (ps_for (passes_of rfl) rfl (pi_enum (by rfl) T.n_enumerate (pa_cons (pv 2) pa_nil)) (pg_tup rfl (pgs_cons (pg_name (i := 3) sc_judged.nd rfl (by first | exact Or.inl rfl | exact Or.inr rfl)) (pgs_cons (pg_tup rfl (pgs_cons (pg_name (i := 4) sc_judged.nd rfl (by first | exact Or.inl rfl | exact Or.inr rfl)) (pgs_cons (pg_name (i := 5) sc_judged.nd rfl (by first | exact Or.inl rfl | exact Or.inr rfl)) (pgs_cons (pg_name (i := 6) sc_judged.nd rfl (by first | exact Or.inl rfl | exact Or.inr rfl)) (pgs_cons (pg_name (i := 7) sc_judged.nd rfl (by first | exact Or.inl rfl | exact Or.inr rfl)) pgs_nil))))) pgs_nil)))
      (pss_cons (ps_cut (ps_setLc (i := 8) (own := [("manner", 9)]) (g := (gName 9)) (tt := (tOr (tTest (tOp (rIn K true) (tVar 9) (tVar 0))) (tTest (tOp (rIn K true) (tVar 9) (tVar 1))))) (te := (tVar 9)) rfl sc_judged.nd rfl rfl (sw_true rfl rfl rfl (by decide +kernel)) (pi_tup (pe_tup (pa_cons (pv 4) (pa_cons (pv 6) pa_nil)))) (blkOk_by (own := [("manner", 9)]) (N := N_judged) (sc := defScope s_judged) (by decide +kernel)) (fun _ _ _ _ _ => (pg_name (i := 9) sc_judged.nd rfl (by first | exact Or.inl rfl | exact Or.inr rfl))) (fun _ _ _ _ _ => (pts_one (PW.pt (pw_or (pt_cmpR op_notIn_seq (pv 9) (pv 0) (by rfl)) (pw_or1 (pt_cmpR op_notIn_seq (pv 9) (pv 1) (by rfl))))))) (fun _ _ _ _ _ => (pv 9))))
      (pss_one (ps_cut (ps_if (PW.pt (pw_or (pt_cmpR (op_neD hu64) (pv 8) (pe_lst pa_nil) (nomark _)) (pw_or1 (PW.pt (pw_and (PW.pt (pw_or (pt_val (pv 5)) (pw_or1 (pt_val (pv 7))))) (pw_and1 (pt_cmpR op_ne (pv 4) (pv 6) (nomark _))))))))
        (pss_one (ps_ret (pv 3)))
        pss_nil)))))
    (pss_one (ps_ret pe_non)))))), ?_⟩
    refine ⟨_, rfl, x, dx, rfl, hx, mx, fun g1 H1 s1 => ?_, fun b1 H1 s1 => k1 b1 H1 s1⟩
    refine ⟨_, rfl, y, dy, rfl, hy.same s1, my, fun g2 H2 s2 => ?_, fun b2 H2 s2 => k2 g1 b2 H2 (s1.trans s2)⟩
    obtain ⟨hL, k4⟩ := k3 g1 g2
    have s12 := s1.trans s2
    refine ⟨_, rfl, a, [], [], rfl, s12.seq hL, .nil, (fun r hr => by cases hr), Nat.zero_le _, fun H3 s3 => ?_⟩
    have s13 := s12.trans s3
    refine ⟨_, rfl, a, [], rfl, s13.seq hL, for_enum (K := K) (a := a) (xs := []) (fun i σ H' => Same H H') s13 (fun i σ H' _ h => h.seq hL) ?_ (fun σ H' h => k4 H' h)⟩
    intro i x N σ H4 hi
    simp at hi

end
end TL

namespace TL
open PySem PySem.Spec PyProof.Rows L2
section
variable {P : Program} {w : World} {K : PySem.W.Frag} {mg : Str → Option Value} {base : Heap}
def sp__law_dice (T : Txt K mg) : Sp := fun vs H Q _ => ∃ (a : Addr) (ns : List Int) (k : Int), vs = [.ref a, .int k] ∧ SqL K H a (ns.map V.int) ∧ ns.length ≤ 63 ∧
  ∀ (p : Addr) (H' : Hp), H p = none → DiceAt H' p → Same H H' → Q (.ref p) H'
theorem ok__law_dice (T : Txt K mg) : FnOk P w K mg base CX0 1 T.a__law_dice T.fd__law_dice P__law_dice (sp__law_dice T) := by
  skip
  refine T.F__law_dice.ok sc__law_dice (fun vs H Q E h => ?_) (fun cdv A outer s H vs Q E hr h => ?_)
  · obtain ⟨a, ns, k, rfl, _⟩ := h
    rfl
  · obtain ⟨a, ns, kz, rfl, hS, hl, k⟩ := h
    refine ⟨_, (pss_cons (ps_set (i := 2) sc__law_dice.nd rfl (by first | exact Or.inl rfl | exact Or.inr rfl) (pv 1))
    (pss_cons (ps_for PassesOwn.never rfl (pi_list (pv 0)) (pg_name (i := 3) sc__law_dice.nd rfl (by first | exact Or.inl rfl | exact Or.inr rfl))
      (pss_one (ps_set (i := 2) sc__law_dice.nd rfl (by first | exact Or.inl rfl | exact Or.inr rfl) (pe_op op_mod (pe_op op_add (pe_op op_mul (pv 2) pe_int) (pe_callB call_abs (by rfl) T.n_abs (by decide +kernel) (pa_cons (pv 3) pa_nil))) pe_int))))
    (pss_one (ps_ret (pe_op op_cat (pe_lst (pa_cons (pv 2) (pa_cons pe_int pa_nil))) (pe_lc (own := [("_law_cell", 3)]) (g := (gName 3)) (tt := (tTest (tOp (rI0 fun i j => .bl (decide (j ≤ i))) (tVar 3) (tOp (rI CPow fun i j => .int (i ^ j.toNat)) (tC (.int 10)) (tC (.int 18)))))) (te := (tVar 3)) rfl sc__law_dice.nd (pi_list (pv 0)) (blkOk_by (own := [("_law_cell", 3)]) (N := N__law_dice) (sc := defScope s__law_dice) (by decide +kernel)) (fun _ _ _ _ _ => (pg_name (i := 3) sc__law_dice.nd rfl (by first | exact Or.inl rfl | exact Or.inr rfl))) (fun _ _ _ _ _ => (pts_one (pt_cmpR op_ge (pv 3) (pe_op op_pow pe_int pe_int) (nomark _)))) (fun _ _ _ _ _ => (pv 3)))))))), ?_⟩
    refine ⟨_, rfl, ?_⟩
    refine ⟨_, rfl, a, rfl, ⟨_, hS⟩, for_list (K := K) (a := a) (xs := ns.map V.int) (fun i σ H2 => H2 = H ∧ ∃ (f : Int) (v : Option V), σ = [some (.ref a), some (.int kz), some (.int f), v])
      ⟨rfl, _, _, rfl⟩ (fun i σ H2 _ ⟨e, _⟩ => by rw [e]; exact hS) ?_ ?_⟩
    · rintro i y σ H2 hi ⟨rfl, f, v, rfl⟩
      obtain ⟨z, hz, rfl⟩ := getmap hi
      exact ⟨_, rfl, _, _, rfl, rfl, .inr (by decide), _, rfl, _, rfl, _, _, rfl, rfl, _, _, rfl, rfl, (by show (0 : Int) < 2147483647; decide), rfl, _, _, rfl⟩
    · rintro σ H2 ⟨rfl, f, v, rfl⟩
      refine ⟨_, rfl, (by show 2 ≤ sizeLine; decide), fun l hlz => ?_⟩
      have s1 : Same H2 (upd H2 l (.lst [.int f, .int 0])) := Same.upd_new hlz
      refine ⟨_, rfl, a, rfl, ⟨_, s1.seq hS⟩, fun D hD => ?_⟩
      refine lc_list (K := K) (a := a) (xs := ns.map V.int) (fun i H3 => ∃ ms : List Int, H3 D = some (.lst (ms.map V.int)) ∧ ms.length ≤ i ∧ Same (upd H2 l (.lst [.int f, .int 0])) H3)
        ⟨[], upd_same, Nat.le_refl _, Same.upd_new hD⟩ (fun i H3 _ ⟨_, _, _, s3⟩ => s3.seq (s1.seq hS)) ?_ ?_
      · rintro i y H3 hi ⟨ms, hm, hml, s3⟩
        obtain ⟨z, hz, rfl⟩ := getmap hi
        have hil : i < ns.length := (List.getElem?_eq_some_iff.mp hz).1
        refine ⟨rfl, _, rfl, _, _, rfl, rfl, ⟨by decide, by decide, by decide⟩, _, _, rfl, rfl, _, rfl, ?_⟩
        refine iteD (fun h0 => ?_) (fun h0 => ⟨ms, hm, Nat.le_succ_of_le hml, s3⟩)
        refine ⟨_, rfl, _, hm, by rw [List.length_map]; exact small1000 (by omega), ms ++ [z], by rw [upd_same, List.map_append]; rfl, by simp; omega, fun b o e => ?_⟩
        rw [upd_ne (fun q => ?_)]
        · exact s3 b o e
        · subst q
          rw [hD] at e
          cases e
      · rintro H3 ⟨ms, hm, hml, s3⟩
        rw [List.length_map] at hml
        have hlH : H3 l = some (.lst [.int f, .int 0]) := s3 _ _ upd_same
        refine ⟨l, D, _, _, rfl, rfl, hlH, hm, by rw [List.length_map]; exact Nat.le_of_lt (small1000 (by simp; omega)), fun p hp => ?_⟩
        refine k p _ ((s1.trans s3).free hp) ⟨f :: 0 :: ms, by rw [upd_same]; rfl, by simp, by simp; omega⟩ ((s1.trans s3).trans (Same.upd_new hp))

end
end TL

namespace TL
open PySem PySem.Spec PyProof.Rows L2
section
variable {P : Program} {w : World} {K : PySem.W.Frag} {mg : Str → Option Value} {base : Heap}
def sp__law_off (T : Txt K mg) : Sp := fun vs H Q _ => ∃ (d : Addr) (m : Int), vs = [.ref d, .int m] ∧ DiceAt H d ∧ 0 < m ∧ m < 1073741824 ∧
  ∀ (r : Int) (H' : Hp), 0 ≤ r → r < m → DiceAt H' d → Frm [d] H H' → Q (.int r) H'
theorem ok__law_off (T : Txt K mg) : FnOk P w K mg base CX0 1 T.a__law_off T.fd__law_off P__law_off (sp__law_off T) := by
  skip
  refine T.F__law_off.ok sc__law_off (fun vs H Q E h => ?_) (fun cdv A outer s H vs Q E hr h => ?_)
  · obtain ⟨d, m, rfl, _⟩ := h
    rfl
  · obtain ⟨d, m, rfl, ⟨ns, hd, hl, hl2⟩, hm0, hm1, k⟩ := h
    obtain ⟨a, b, r, rfl⟩ : ∃ a b r, ns = a :: b :: r := by
      match ns, hl with
      | a :: b :: r, _ => exact ⟨a, b, r, rfl⟩
    refine ⟨_, (pss_cons (ps_if (PW.pt (pw_and (pt_cmpR op_eq (pe_ix ix_list (pv 0) pe_int (fun _ _ => rfl)) pe_int (nomark _)) (pw_and1 (pt_cmpR op_gt (pe_callB call_len_seq (by rfl) T.n_len (by decide +kernel) (pa_cons (pv 0) pa_nil)) pe_int (nomark _)))))
      (pss_one (ps_asg (pe_bm PySem.F.plainAttrs_list PySem.F.slot_list_pop PySem.F.type_list_pop mt_popAt (pv 0) (pa_cons pe_int pa_nil)) (pg_sub (pv 0) pe_int set_list)))
      pss_nil)
    (pss_cons (ps_if (pt_cmpR op_gt (pe_ix ix_list (pv 0) pe_int (fun _ _ => rfl)) pe_int (nomark _))
      (pss_cons (ps_set (i := 2) sc__law_off.nd rfl (by first | exact Or.inl rfl | exact Or.inr rfl) (pe_op op_mod (pe_ix ix_list (pv 0) pe_int (fun _ _ => rfl)) (pv 1)))
      (pss_cons (ps_asg (pe_op op_fdiv (pe_ix ix_list (pv 0) pe_int (fun _ _ => rfl)) (pv 1)) (pg_sub (pv 0) pe_int set_list))
      (pss_one (ps_ret (pv 2)))))
      pss_nil)
    (pss_cons (ps_asg (pe_op op_mod (pe_op op_add (pe_op op_mul (pe_ix ix_list (pv 0) pe_int (fun _ _ => rfl)) pe_int) pe_int) pe_int) (pg_sub (pv 0) pe_int set_list))
    (pss_one (ps_ret (pe_op op_mod (pe_op op_fdiv (pe_ix ix_list (pv 0) pe_int (fun _ _ => rfl)) pe_int) (pv 1))))))), ?_⟩
    have key : ∀ (H1 : Hp) (a b : Int) (r : List Int), H1 d = some (.lst ((a :: b :: r).map V.int)) → (a :: b :: r).length ≤ 65 → Frm [d] H H1 → tSeq (tIfS (tTest (tOp (rI0 fun i j => .bl (decide (j < i))) (tOp (rIxL K) (tVar 0) (tC (.int 1))) (tC (.int 0)))) (tSeq (tAsg (tOp (rI (fun _ j => 0 < j) fun i j => .int (i % j)) (tOp (rIxL K) (tVar 0) (tC (.int 1))) (tVar 1)) (gName 2)) (tSeq (tAsg (tOp (rI CDiv fun i j => .int (i / j)) (tOp (rIxL K) (tVar 0) (tC (.int 1))) (tVar 1)) (gSub (tVar 0) (tC (.int 1)) rSetL)) (tRet (tVar 2)))) tNext)
        (tSeq (tAsg (tOp (rI (fun _ j => 0 < j) fun i j => .int (i % j)) (tOp (rI0 fun i j => .int (i + j)) (tOp (rI CMul fun i j => .int (i * j)) (tOp (rIxL K) (tVar 0) (tC (.int 0))) (tC (.int 48271))) (tC (.int 11))) (tC (.int 2147483647))) (gSub (tVar 0) (tC (.int 0)) rSetL))
          (tRet (tOp (rI (fun _ j => 0 < j) fun i j => .int (i % j)) (tOp (rI CDiv fun i j => .int (i / j)) (tOp (rIxL K) (tVar 0) (tC (.int 0))) (tC (.int 64))) (tVar 1))))
        { nx := fun _ H' => Q .non H', rt := Q } [some (.ref d), some (.int m), none] H1 := by
      intro H1 a b r h1 hl e1
      have dz : (ixN ((a :: b :: r).map V.int).length 1) = some 1 := by
        unfold ixN
        simp only [List.length_map, List.length_cons]
        rw [if_pos (by omega), if_pos (by omega)]
        rfl
      have dz0 : (ixN ((a :: b :: r).map V.int).length 0) = some 0 := by
        unfold ixN
        simp only [List.length_map, List.length_cons]
        rw [if_pos (by omega), if_pos (by omega)]
        rfl
      refine ⟨_, rfl, d, _, _, .int b, rfl, rfl, SqL.of h1, atI_nat (j := 1) rfl, _, _, rfl, rfl, _, rfl, ?_⟩
      refine iteD (fun h0 => ?_) (fun h0 => ?_)
      · refine ⟨_, rfl, d, _, _, .int b, rfl, rfl, SqL.of h1, atI_nat (j := 1) rfl, _, rfl, _, _, rfl, rfl, hm0, ?_⟩
        refine ⟨_, rfl, d, _, _, .int b, rfl, rfl, SqL.of h1, atI_nat (j := 1) rfl, _, rfl, _, _, rfl, rfl, ⟨hm0, hm1⟩, ?_⟩
        refine ⟨_, rfl, d, _, _, 1, rfl, rfl, h1, dz, _, rfl, ?_⟩
        refine k _ _ (Int.emod_nonneg _ (by omega)) (Int.emod_lt_of_pos _ hm0) ⟨a :: (b / m) :: r, upd_same, by simp, hl⟩ (e1.trans (Frm.updL h1))
      · refine ⟨_, rfl, d, _, _, .int a, rfl, rfl, SqL.of h1, atI_nat (j := 0) rfl, _, _, rfl, rfl, .inr (by decide), _, _, rfl, rfl, _, _, rfl, rfl, (by show (0 : Int) < 2147483647; decide), ?_⟩
        refine ⟨_, rfl, d, _, _, 0, rfl, rfl, h1, dz0, ?_⟩
        refine ⟨_, rfl, d, _, _, .int ((a * 48271 + 11) % 2147483647), rfl, rfl, SqL.of upd_same, atI_nat (j := 0) rfl, _, _, rfl, rfl, ⟨by decide, by decide⟩, _, rfl, _, _, rfl, rfl, hm0, ?_⟩
        exact k _ _ (Int.emod_nonneg _ (by omega)) (Int.emod_lt_of_pos _ hm0) ⟨((a * 48271 + 11) % 2147483647) :: b :: r, upd_same, by simp, hl⟩ (e1.trans (Frm.updL h1))
    -- d[1] == 0 and len(d) > 2
    refine ⟨_, rfl, d, _, _, .int b, rfl, rfl, SqL.of hd, atI_nat (j := 1) rfl, rfl, _, rfl, ?_⟩
    refine iteD (fun h0 => ?_) (fun h0 => iteF (key H a b r hd hl2 (.refl _ _)))
    refine ⟨_, rfl, d, _, rfl, .inl (SqL.of hd), _, _, rfl, rfl, _, rfl, ?_⟩
    refine iteD (fun h1 => ?_) (fun h1 => key H a b r hd hl2 (.refl _ _))
    obtain ⟨c, r', rfl⟩ : ∃ c r', r = c :: r' := by
      match r, h1 with
      | c :: r', _ => exact ⟨c, r', rfl⟩
      | [], h1 => exact absurd h1 (by simp)
    have s2 : seqIndex? 2 ((a :: b :: c :: r').map V.int).length = some 2 := by
      have e : ixN ((a :: b :: c :: r').map V.int).length 2 = some 2 := by
        unfold ixN
        simp only [List.length_map, List.length_cons]
        rw [if_pos (by omega), if_pos (by omega)]
        rfl
      exact (ixN_seq e).1
    refine ⟨_, rfl, .inl ⟨rfl, _, SqL.of hd⟩, d, _, _, 2, .int c, rfl, rfl, hd, by decide, by decide, s2, rfl, ?_⟩
    have dz : (ixN (((a :: b :: c :: r').map V.int).eraseIdx 2).length 1) = some 1 := by
      unfold ixN
      show (if (0 : Int) ≤ 1 then (if (1 : Int) < ((V.int a :: V.int b :: r'.map V.int).length : Nat) then _ else _) else _) = _
      simp only [List.length_cons]
      rw [if_pos (by omega), if_pos (by omega)]
      rfl
    refine ⟨_, rfl, d, _, _, 1, rfl, rfl, upd_same, dz, ?_⟩
    refine key _ a c r' (by rw [upd_same]; rfl) (by simp only [List.length_cons] at hl2 ⊢; omega) ((Frm.updL hd).trans (Frm.updL upd_same))

end
end TL

namespace TL
open PySem PySem.Spec PyProof.Rows L2
section
variable {P : Program} {w : World} {K : PySem.W.Frag} {mg : Str → Option Value} {base : Heap}
/-- of two things that are the same data True is told; n: how deep they may be, and one more -/
def sp__law_alike (T : Txt K mg) : Nat → Sp
  | 0 => fun _ _ _ _ => False
  | n + 1 => fun vs H Q _ => ∃ (x y : V) (d : PyData), vs = [x, y] ∧ Dp K H x d ∧ Dp K H y d ∧ lv n d ∧ ∀ H', Same H H' → Q (.bl true) H'
theorem rix_of {H : Hp} {p : Addr} {xs : List V} {i : Int} {v : V} {Q : VK} (h : SqL K H p xs ∨ SqT K H p xs) (e : atI xs i = some v) (q : Q v H) : rIx K (.ref p) (.int i) H Q := by
  rcases h with h | h
  · exact .inl ⟨p, xs, i, v, rfl, rfl, h, e, q⟩
  · exact .inr (.inl ⟨p, xs, i, v, rfl, rfl, h, e, q⟩)
theorem ok__law_alike_step (T : Txt K mg) (n : Nat) (G__law_alike : FnOk P w K mg base CX0 n T.a__law_alike T.fd__law_alike P__law_alike (sp__law_alike T n)) : FnOk P w K mg base CX0 (n + 1) T.a__law_alike T.fd__law_alike P__law_alike (sp__law_alike T (n + 1)) := by
  refine T.F__law_alike.ok sc__law_alike (fun vs H Q E h => ?_) (fun cdv A outer s H vs Q E hr h => ?_)
  · obtain ⟨x, y, d, rfl, _⟩ := h
    rfl
  · obtain ⟨x, y, d, rfl, hx, hy, hl, k⟩ := h
    have hrS := hr
    refine ⟨_, (pss_cons (ps_if (pt_cmpR op_isN1 (pv 1) pe_non (nomark _))
      (pss_one (ps_ret (pe_cmpR op_isN1 (pv 0) pe_non (nomark _))))
      pss_nil)
    (pss_cons (ps_if (pt_val (pe_callB call_isi (by rfl) T.n_isinstance (by decide +kernel) (pa_cons (pv 1) (pa_cons (pe_bltn (v := .ty "bool") (u := .type "bool") (by rfl) T.n_bool (by decide +kernel) rfl) pa_nil))))
      (pss_one (ps_ret (pe_and (pe_callB call_isi (by rfl) T.n_isinstance (by decide +kernel) (pa_cons (pv 0) (pa_cons (pe_bltn (v := .ty "bool") (u := .type "bool") (by rfl) T.n_bool (by decide +kernel) rfl) pa_nil))) (pe_one (pe_cmpR op_eq (pv 0) (pv 1) (nomark _))))))
      pss_nil)
    (pss_cons (ps_if (pt_val (pe_callB call_isi (by rfl) T.n_isinstance (by decide +kernel) (pa_cons (pv 1) (pa_cons (pe_bltn (v := .ty "int") (u := .type "int") (by rfl) T.n_int (by decide +kernel) rfl) pa_nil))))
      (pss_one (ps_ret (pe_and (pe_callB call_isi (by rfl) T.n_isinstance (by decide +kernel) (pa_cons (pv 0) (pa_cons (pe_bltn (v := .ty "int") (u := .type "int") (by rfl) T.n_int (by decide +kernel) rfl) pa_nil))) (pe_and (pe_not (pe_callB call_isi (by rfl) T.n_isinstance (by decide +kernel) (pa_cons (pv 0) (pa_cons (pe_bltn (v := .ty "bool") (u := .type "bool") (by rfl) T.n_bool (by decide +kernel) rfl) pa_nil)))) (pe_one (pe_cmpR op_eq (pv 0) (pv 1) (nomark _)))))))
      pss_nil)
    (pss_cons (ps_if (pt_val (pe_callB call_isi (by rfl) T.n_isinstance (by decide +kernel) (pa_cons (pv 1) (pa_cons (pe_bltn (v := .ty "str") (u := .type "str") (by rfl) T.n_str (by decide +kernel) rfl) pa_nil))))
      (pss_one (ps_ret (pe_and (pe_callB call_isi (by rfl) T.n_isinstance (by decide +kernel) (pa_cons (pv 0) (pa_cons (pe_bltn (v := .ty "str") (u := .type "str") (by rfl) T.n_str (by decide +kernel) rfl) pa_nil))) (pe_one (pe_cmpR op_eq (pv 0) (pv 1) (nomark _))))))
      pss_nil)
    (pss_cons (ps_if (PW.pt (pw_or (pt_cmpR op_ne (pe_callB call_isi (by rfl) T.n_isinstance (by decide +kernel) (pa_cons (pv 1) (pa_cons (pe_bltn (v := .ty "tuple") (u := .type "tuple") (by rfl) T.n_tuple (by decide +kernel) rfl) pa_nil))) (pe_callB call_isi (by rfl) T.n_isinstance (by decide +kernel) (pa_cons (pv 0) (pa_cons (pe_bltn (v := .ty "tuple") (u := .type "tuple") (by rfl) T.n_tuple (by decide +kernel) rfl) pa_nil))) (nomark _)) (pw_or1 (pt_cmpR op_ne (pe_callB call_isi (by rfl) T.n_isinstance (by decide +kernel) (pa_cons (pv 1) (pa_cons (pe_bltn (v := .ty "list") (u := .type "list") (by rfl) T.n_list (by decide +kernel) rfl) pa_nil))) (pe_callB call_isi (by rfl) T.n_isinstance (by decide +kernel) (pa_cons (pv 0) (pa_cons (pe_bltn (v := .ty "list") (u := .type "list") (by rfl) T.n_list (by decide +kernel) rfl) pa_nil))) (nomark _)))))
      (pss_one (ps_ret pe_bl))
      pss_nil)
    (pss_cons (ps_if (pt_cmpR op_ne (pe_callB call_len_seq (by rfl) T.n_len (by decide +kernel) (pa_cons (pv 0) pa_nil)) (pe_callB call_len_seq (by rfl) T.n_len (by decide +kernel) (pa_cons (pv 1) pa_nil)) (nomark _))
      (pss_one (ps_ret pe_bl))
      pss_nil)
    (pss_one (ps_ret (pe_callB (cr_all rfl) (by rfl) T.n_all (by decide +kernel) (pa_cons (pe_lc (own := [("_law_k", 2)]) (g := (gName 2)) (tt := tYes) (te := (tCall _ [] E0 (tCons (tOp (rIx K) (tVar 0) (tVar 2)) (tCons (tOp (rIx K) (tVar 1) (tVar 2)) tNil)))) rfl sc__law_alike.nd (pi_range1 rfl T.n_range (pa_cons (pe_callB call_len_seq (by rfl) T.n_len (by decide +kernel) (pa_cons (pv 1) pa_nil)) pa_nil)) (blkOk_by (own := [("_law_k", 2)]) (N := N__law_alike) (sc := defScope s__law_alike) (by decide +kernel)) (fun _ _ _ _ _ => (pg_name (i := 2) sc__law_alike.nd rfl (by first | exact Or.inl rfl | exact Or.inr rfl))) (fun _ _ _ _ _ => pts_nil) (fun _ _ _ _ _ => (pe_call G__law_alike hrS rfl T.g__law_alike T.F__law_alike.kp T.b__law_alike .nil pass0 (pa_cons (pe_ix ix_seq (pv 0) (pv 2) (fun _ _ => rfl)) (pa_cons (pe_ix ix_seq (pv 1) (pv 2) (fun _ _ => rfl)) pa_nil))))) pa_nil)))))))))), ?_⟩
    have kk : ∀ {p : Prop} [Decidable p], p → Q (.bl (decide p)) H := fun hp => by rw [decide_eq_true hp]; exact k _ (.refl _)
    cases d with
    | none =>
      cases hx; cases hy
      exact ⟨_, rfl, rfl, _, rfl, iteT ⟨_, rfl, rfl, k _ (.refl _)⟩⟩
    | bool b =>
      cases hx; cases hy
      refine ⟨_, rfl, rfl, _, rfl, iteF ?_⟩
      refine ⟨_, rfl, _, _, _, _, _, rfl, .ty _, tyx_D (.bl b), kit_ty kb_bb, _, rfl, iteT ?_⟩
      exact ⟨_, rfl, _, _, _, _, _, rfl, .ty _, tyx_D (.bl b), kit_ty kb_bb, _, rfl, iteT ⟨_, rfl, _, rfl, rfl, kk rfl⟩⟩
    | int i =>
      cases hx; cases hy
      refine ⟨_, rfl, rfl, _, rfl, iteF ?_⟩
      refine ⟨_, rfl, _, _, _, _, _, rfl, .ty _, tyx_D (.int i), kit_ty kb_ib, _, rfl, iteF ?_⟩
      refine ⟨_, rfl, _, _, _, _, _, rfl, .ty _, tyx_D (.int i), kit_ty kb_ii, _, rfl, iteT ?_⟩
      refine ⟨_, rfl, _, _, _, _, _, rfl, .ty _, tyx_D (.int i), kit_ty kb_ii, _, rfl, iteT ?_⟩
      exact ⟨_, rfl, _, _, _, _, _, rfl, .ty _, tyx_D (.int i), kit_ty kb_ib, _, rfl, _, rfl, iteT ⟨_, rfl, _, rfl, rfl, kk rfl⟩⟩
    | str z =>
      cases hx; cases hy
      refine ⟨_, rfl, rfl, _, rfl, iteF ?_⟩
      refine ⟨_, rfl, _, _, _, _, _, rfl, .ty _, tyx_D (.str z), kit_ty kb_sb, _, rfl, iteF ?_⟩
      refine ⟨_, rfl, _, _, _, _, _, rfl, .ty _, tyx_D (.str z), kit_ty kb_si, _, rfl, iteF ?_⟩
      refine ⟨_, rfl, _, _, _, _, _, rfl, .ty _, tyx_D (.str z), kit_ty kb_ss, _, rfl, iteT ?_⟩
      exact ⟨_, rfl, _, _, _, _, _, rfl, .ty _, tyx_D (.str z), kit_ty kb_ss, _, rfl, iteT ⟨_, rfl, _, rfl, rfl, kk rfl⟩⟩
    | dict _ => cases hx
    | list ds =>
      have hx' := hx
      have hy' := hy
      cases hx' with
      | lst hLx hAx =>
      rename_i a xs
      cases hy' with
      | lst hLy hAy =>
      rename_i b ys
      refine ⟨_, rfl, rfl, _, rfl, iteF ?_⟩
      refine ⟨_, rfl, _, _, _, _, _, rfl, .ty _, tyx_D hy, kit_ty kb_lb, _, rfl, iteF ?_⟩
      refine ⟨_, rfl, _, _, _, _, _, rfl, .ty _, tyx_D hy, kit_ty kb_li, _, rfl, iteF ?_⟩
      refine ⟨_, rfl, _, _, _, _, _, rfl, .ty _, tyx_D hy, kit_ty kb_ls, _, rfl, iteF ?_⟩
      refine ⟨_, rfl, _, _, _, _, _, rfl, .ty _, tyx_D hy, kit_ty kb_lt, _, rfl, _, _, _, _, _, rfl, .ty _, tyx_D hx, kit_ty kb_lt, rfl, _, rfl, iteF ?_⟩
      refine ⟨_, rfl, _, _, _, _, _, rfl, .ty _, tyx_D hy, kit_ty kb_ll, _, rfl, _, _, _, _, _, rfl, .ty _, tyx_D hx, kit_ty kb_ll, rfl, _, rfl, iteF ?_⟩
      obtain ⟨m, rfl⟩ : ∃ m, n = m + 1 := by
        cases n with
        | zero => simp [lv] at hl
        | succ m => exact ⟨m, rfl⟩
      simp only [lv] at hl
      have hLx : SqL K H a xs ∨ SqT K H a xs := .inl hLx
      have hLy : SqL K H b ys ∨ SqT K H b ys := .inl hLy
      have lx := hAx.length
      have ly := hAy.length
      have sq : ∀ {H' : Hp} {c : Addr} {zs : List V}, Same H H' → (SqL K H c zs ∨ SqT K H c zs) → (SqL K H' c zs ∨ SqT K H' c zs) := fun s z => z.imp (fun q => s.seq q) fun q => SqT_same s q
      refine ⟨_, rfl, a, _, rfl, hLx, _, rfl, b, _, rfl, hLy, rfl, _, rfl, iteNS (by rw [lx, ly]) ?_⟩
      refine ⟨_, rfl, b, _, rfl, hLy, _, rfl, by omega, by omega, fun D hD => ?_⟩
      have hn : ((ys.length : Nat) : Int).toNat = ds.length := by omega
      rw [hn]
      refine lc_range (lo := 0) (n := ds.length) (fun i H2 => Same H H2 ∧ H2 D = some (.lst ((List.replicate i true).map V.bl)))
        ⟨Same.upd_new hD, upd_same⟩ ?_ ?_
      · rintro i H2 hi ⟨s2, h2⟩
        obtain ⟨u, hu, hdu⟩ := hAx.get (i := i) (d := ds[i]) (List.getElem?_eq_getElem hi)
        obtain ⟨v, hv, hdv⟩ := hAy.get (i := i) (d := ds[i]) (List.getElem?_eq_getElem hi)
        have e0 : (0 : Int) + (i : Int) = (i : Int) := by omega
        refine ⟨rfl, ?_⟩
        refine ⟨_, rfl, _, rfl, rix_of (sq s2 hLx) (at_of e0 hu) ?_⟩
        refine ⟨_, rfl, _, rfl, rix_of (sq s2 hLy) (at_of e0 hv) ?_⟩
        refine ⟨_, _, ds[i], rfl, hdu.same s2, hdv.same s2, hl.2 _ (List.getElem_mem hi), fun H3 s3 => ?_⟩
        refine ⟨_, s3 _ _ h2, by simp only [List.length_map, List.length_replicate]; exact Nat.lt_of_lt_of_le (Nat.lt_of_lt_of_le hi hl.1) (by decide), fun c o e => ?_, ?_⟩
        · rw [upd_ne (fun q => by rw [q, hD] at e; cases e)]
          exact s3 _ _ (s2 c o e)
        · rw [upd_same, List.replicate_succ', List.map_append]
          rfl
      · rintro H2 ⟨s2, h2⟩
        refine ⟨D, List.replicate ds.length true, rfl, SqL.of h2, ?_⟩
        have : (List.replicate ds.length true).all id = true := by simp
        rw [this]
        exact k _ s2
    | tuple ds =>
      have hx' := hx
      have hy' := hy
      cases hx' with
      | tup hLx hAx =>
      rename_i a xs
      cases hy' with
      | tup hLy hAy =>
      rename_i b ys
      refine ⟨_, rfl, rfl, _, rfl, iteF ?_⟩
      refine ⟨_, rfl, _, _, _, _, _, rfl, .ty _, tyx_D hy, kit_ty kb_tb, _, rfl, iteF ?_⟩
      refine ⟨_, rfl, _, _, _, _, _, rfl, .ty _, tyx_D hy, kit_ty kb_ti, _, rfl, iteF ?_⟩
      refine ⟨_, rfl, _, _, _, _, _, rfl, .ty _, tyx_D hy, kit_ty kb_ts, _, rfl, iteF ?_⟩
      refine ⟨_, rfl, _, _, _, _, _, rfl, .ty _, tyx_D hy, kit_ty kb_tt, _, rfl, _, _, _, _, _, rfl, .ty _, tyx_D hx, kit_ty kb_tt, rfl, _, rfl, iteF ?_⟩
      refine ⟨_, rfl, _, _, _, _, _, rfl, .ty _, tyx_D hy, kit_ty kb_tl, _, rfl, _, _, _, _, _, rfl, .ty _, tyx_D hx, kit_ty kb_tl, rfl, _, rfl, iteF ?_⟩
      obtain ⟨m, rfl⟩ : ∃ m, n = m + 1 := by
        cases n with
        | zero => simp [lv] at hl
        | succ m => exact ⟨m, rfl⟩
      simp only [lv] at hl
      have hLx : SqL K H a xs ∨ SqT K H a xs := .inr hLx
      have hLy : SqL K H b ys ∨ SqT K H b ys := .inr hLy
      have lx := hAx.length
      have ly := hAy.length
      have sq : ∀ {H' : Hp} {c : Addr} {zs : List V}, Same H H' → (SqL K H c zs ∨ SqT K H c zs) → (SqL K H' c zs ∨ SqT K H' c zs) := fun s z => z.imp (fun q => s.seq q) fun q => SqT_same s q
      refine ⟨_, rfl, a, _, rfl, hLx, _, rfl, b, _, rfl, hLy, rfl, _, rfl, iteNS (by rw [lx, ly]) ?_⟩
      refine ⟨_, rfl, b, _, rfl, hLy, _, rfl, by omega, by omega, fun D hD => ?_⟩
      have hn : ((ys.length : Nat) : Int).toNat = ds.length := by omega
      rw [hn]
      refine lc_range (lo := 0) (n := ds.length) (fun i H2 => Same H H2 ∧ H2 D = some (.lst ((List.replicate i true).map V.bl)))
        ⟨Same.upd_new hD, upd_same⟩ ?_ ?_
      · rintro i H2 hi ⟨s2, h2⟩
        obtain ⟨u, hu, hdu⟩ := hAx.get (i := i) (d := ds[i]) (List.getElem?_eq_getElem hi)
        obtain ⟨v, hv, hdv⟩ := hAy.get (i := i) (d := ds[i]) (List.getElem?_eq_getElem hi)
        have e0 : (0 : Int) + (i : Int) = (i : Int) := by omega
        refine ⟨rfl, ?_⟩
        refine ⟨_, rfl, _, rfl, rix_of (sq s2 hLx) (at_of e0 hu) ?_⟩
        refine ⟨_, rfl, _, rfl, rix_of (sq s2 hLy) (at_of e0 hv) ?_⟩
        refine ⟨_, _, ds[i], rfl, hdu.same s2, hdv.same s2, hl.2 _ (List.getElem_mem hi), fun H3 s3 => ?_⟩
        refine ⟨_, s3 _ _ h2, by simp only [List.length_map, List.length_replicate]; exact Nat.lt_of_lt_of_le (Nat.lt_of_lt_of_le hi hl.1) (by decide), fun c o e => ?_, ?_⟩
        · rw [upd_ne (fun q => by rw [q, hD] at e; cases e)]
          exact s3 _ _ (s2 c o e)
        · rw [upd_same, List.replicate_succ', List.map_append]
          rfl
      · rintro H2 ⟨s2, h2⟩
        refine ⟨D, List.replicate ds.length true, rfl, SqL.of h2, ?_⟩
        have : (List.replicate ds.length true).all id = true := by simp
        rw [this]
        exact k _ s2
theorem ok__law_alike (T : Txt K mg) : ∀ n, FnOk P w K mg base CX0 n T.a__law_alike T.fd__law_alike P__law_alike (sp__law_alike T n)
  | 0 => ⟨fun _ _ _ _ h => h.elim, fun _ _ _ _ _ _ _ _ _ _ _ _ _ h => h.elim⟩
  | n + 1 => ok__law_alike_step T n (ok__law_alike T n)

end
end TL

namespace TL
open PySem PySem.Spec PyProof.Rows L2
section
variable {P : Program} {w : World} {K : PySem.W.Frag} {mg : Str → Option Value} {base : Heap}
def ts__law_word (T : Txt K mg) (a : Addr) (cls : Value) (d : Option Addr) : TS :=
  (tSeq (tAsg (tLst (tCons (tCB (rIsX K cls d a) (tCons (tVar 1) (tCons (tC (.ref T.C_BadManners)) tNil))) (tCons (tCB (rIsX K cls d a) (tCons (tVar 1) (tCons (tC (.ref T.C_BadCount)) tNil))) (tCons (tCB (rIsX K cls d a) (tCons (tVar 1) (tCons (tC (.ref T.C_BadPart)) tNil))) (tCons (tCB (rIsX K cls d a) (tCons (tVar 1) (tCons (tC (.ref T.C_BadItem)) tNil))) tNil))))) (gName 2))
    (tSeq (tAsg (tOp rCat (tVar 2) (tLst (tCons (tCB (rIsX K cls d a) (tCons (tVar 1) (tCons (tC (.ref T.C_Full)) tNil))) (tCons (tCB (rIsX K cls d a) (tCons (tVar 1) (tCons (tC (.ref T.C_BadLog)) tNil))) (tCons (tCB (rIsX K cls d a) (tCons (tVar 1) (tCons (tC (.ref T.C_BadText)) tNil))) (tCons (tCB (rIsX K cls d a) (tCons (tVar 1) (tCons (tC (.ref T.C_BadEnd)) tNil))) tNil)))))) (gName 2))
    (tSeq (tDrop (tBM K "list" rAppend (tVar 2) (tCons (tCB (rIsX K cls d a) (tCons (tVar 1) (tCons (tC (.ref T.C_BadStep)) tNil))) tNil)))
    (tSeq (tIfS (tOr (tTest (tOp rNe (tBM K "list" (rCountF K) (tVar 2) (tCons (tC (.bl true)) tNil)) (tC (.int 1)))) (tNot (tB (tCB (rIsX K cls d a) (tCons (tVar 1) (tCons (tC (.ty "ValueError")) tNil)))))) (tRet (tTup (tCons (tC (.str "other")) (tCons (tC (.int 0)) tNil)))) tNext)
    (tSeq (tAsg (tOp (rIxL K) (tLst (tCons (tC (.str "manners")) (tCons (tC (.str "count")) (tCons (tC (.str "part")) (tCons (tC (.str "item")) (tCons (tC (.str "full")) (tCons (tC (.str "log")) (tCons (tC (.str "text")) (tCons (tC (.str "end")) (tCons (tC (.str "step")) tNil)))))))))) (tBM K "list" (rIndex K) (tVar 2) (tCons (tC (.bl true)) tNil))) (gName 3))
    (tRet (tTup (tCons (tVar 3) (tCons (tIf (tTest (tOp (rIn K false) (tVar 3) (tTup (tCons (tC (.str "log")) (tCons (tC (.str "text")) tNil))))) (tXg K a cls d "row" (tVar 1)) (tIf (tTest (tOp rEq (tVar 3) (tC (.str "step")))) (tXg K a cls d "at" (tVar 1)) (tC (.int 0)))) tNil)))))))))
/-- what is told of a work handed to it -/
abbrev tW (T : Txt K mg) := TTw K [T.C_BadManners, T.C_BadCount, T.C_BadPart, T.C_BadItem, T.C_Full, T.C_BadLog, T.C_BadText, T.C_BadEnd, T.C_BadStep] T.C_LineError
/-- the kinds' list behind i of them -/
theorem gives__law_word (T : Txt K mg) {X : Cx} (h1 : P = X.prog) (h2 : w = X.w) (h3 : K = X.K) (h4 : mg = X.mg) (h5 : base = X.base) (q : Str) {g : Addr} {cdg : Value} :
    LamX.GivesTo X N__law_word "_law_word" (defScope s__law_word) g cdg (defBody s__law_word) "_law_work" q (TTw K [T.C_BadManners, T.C_BadCount, T.C_BadPart, T.C_BadItem, T.C_Full, T.C_BadLog, T.C_BadText, T.C_BadEnd, T.C_BadStep] T.C_LineError) := by
  obtain ⟨P', w', K', mg', base', A1, N1, s1, H1, env1, outer1, st1, ex1, fn1, calm1, pn1, xe1⟩ := X
  dsimp only at h1 h2 h3 h4 h5
  subst h1 h2 h3 h4 h5
  intro f c' s H Q tl act hc h
  refine ⟨_, pss_cons (ps_try_as (i := 1) (x := "LineError") (n := "_law_e") (X := (cxOf CX0 P w K mg base N__law_word "_law_word" (defScope s__law_word) g cdg A1 st1 s H E0).nox) (c := .ref T.C_LineError) (ts := ts__law_word T)
      (tb := fun W D σ H => ∃ Ech : XK, (∀ cls d σ' H', Ech cls d H' → σ'.length = 4 → W cls d σ' H') ∧ σ[0]? = some (some (.ref f)) ∧ H c' = some (LamX.CodeO c' q) ∧ tl Ech H (fun _ H' => D.nx σ H'))
      rfl rfl sc__law_word.nd rfl rfl ⟨rfl, by decide, .inl T.c_LineError⟩ takes0 (fun W pn xe tk _ => ⟨fun pins s' σ H D I hh => ?bo⟩) (fun a oe cls d pn hz hf => ?su)) (pss_one (ps_ret pe_non)), ?right⟩
  case su =>
    have ci := call_isX (X := (cxOf CX0 P w K mg base N__law_word "_law_word" (defScope s__law_word) g cdg A1 st1 s H E0).nox) (a := a) (pn := pn) hz hf
    exact (pss_cons (ps_set (i := 2) sc__law_word.nd rfl (by first | exact Or.inl rfl | exact Or.inr rfl) (pe_lst (pa_cons (pe_callB ci (by rfl) T.n_isinstance (by decide +kernel) (pa_cons (pv 1) (pa_cons (pe_glob (v := .ref T.C_BadManners) rfl T.c_BadManners rfl) pa_nil))) (pa_cons (pe_callB ci (by rfl) T.n_isinstance (by decide +kernel) (pa_cons (pv 1) (pa_cons (pe_glob (v := .ref T.C_BadCount) rfl T.c_BadCount rfl) pa_nil))) (pa_cons (pe_callB ci (by rfl) T.n_isinstance (by decide +kernel) (pa_cons (pv 1) (pa_cons (pe_glob (v := .ref T.C_BadPart) rfl T.c_BadPart rfl) pa_nil))) (pa_cons (pe_callB ci (by rfl) T.n_isinstance (by decide +kernel) (pa_cons (pv 1) (pa_cons (pe_glob (v := .ref T.C_BadItem) rfl T.c_BadItem rfl) pa_nil))) pa_nil))))))
        (pss_cons (ps_set (i := 2) sc__law_word.nd rfl (by first | exact Or.inl rfl | exact Or.inr rfl) (pe_op op_cat (pv 2) (pe_lst (pa_cons (pe_callB ci (by rfl) T.n_isinstance (by decide +kernel) (pa_cons (pv 1) (pa_cons (pe_glob (v := .ref T.C_Full) rfl T.c_Full rfl) pa_nil))) (pa_cons (pe_callB ci (by rfl) T.n_isinstance (by decide +kernel) (pa_cons (pv 1) (pa_cons (pe_glob (v := .ref T.C_BadLog) rfl T.c_BadLog rfl) pa_nil))) (pa_cons (pe_callB ci (by rfl) T.n_isinstance (by decide +kernel) (pa_cons (pv 1) (pa_cons (pe_glob (v := .ref T.C_BadText) rfl T.c_BadText rfl) pa_nil))) (pa_cons (pe_callB ci (by rfl) T.n_isinstance (by decide +kernel) (pa_cons (pv 1) (pa_cons (pe_glob (v := .ref T.C_BadEnd) rfl T.c_BadEnd rfl) pa_nil))) pa_nil)))))))
        (pss_cons (ps_expr (pe_bm PySem.F.plainAttrs_list PySem.F.slot_list_append PySem.F.type_list_append mt_append (pv 2) (pa_cons (pe_callB ci (by rfl) T.n_isinstance (by decide +kernel) (pa_cons (pv 1) (pa_cons (pe_glob (v := .ref T.C_BadStep) rfl T.c_BadStep rfl) pa_nil))) pa_nil)))
        (pss_cons (ps_if (PW.pt (pw_or (pt_cmpR op_ne (pe_bm PySem.F.plainAttrs_list PySem.F.slot_list_count PySem.F.type_list_count mt_countF (pv 2) (pa_cons pe_bl pa_nil)) pe_int (nomark _)) (pw_or1 (pt_not (pt_val (pe_callB ci (by rfl) T.n_isinstance (by decide +kernel) (pa_cons (pv 1) (pa_cons (pe_bltn (v := .ty "ValueError") (u := .type "ValueError") (by rfl) T.n_ValueError (by decide +kernel) rfl) pa_nil))))))))
          (pss_one (ps_ret (pe_tup (pa_cons pe_str (pa_cons pe_int pa_nil)))))
          pss_nil)
        (pss_cons (ps_set (i := 3) sc__law_word.nd rfl (by first | exact Or.inl rfl | exact Or.inr rfl) (pe_ix ix_list (pe_lst (pa_cons pe_str (pa_cons pe_str (pa_cons pe_str (pa_cons pe_str (pa_cons pe_str (pa_cons pe_str (pa_cons pe_str (pa_cons pe_str (pa_cons pe_str pa_nil)))))))))) (pe_bm PySem.F.plainAttrs_list PySem.F.slot_list_index PySem.F.type_list_index mt_index (pv 2) (pa_cons pe_bl pa_nil)) (fun _ _ => rfl)))
        (pss_one (ps_ret (pe_tup (pa_cons (pv 3) (pa_cons (pe_ifExp (pt_cmpR op_in_seq (pv 3) (pe_tup (pa_cons pe_str (pa_cons pe_str pa_nil))) (by rfl)) (pe_xg hz hf (pv 1)) (pe_ifExp (pt_cmpR op_eq (pv 3) pe_str (nomark _)) (pe_xg hz hf (pv 1)) pe_int)) pa_nil))))))))))
  case bo =>
    obtain ⟨Ech, hW, h1, h2, h3⟩ := hh
    have tk2 : Takes ((cxOf CX0 P w K mg base N__law_word "_law_word" (defScope s__law_word) g cdg A1 st1 s _ E0).nox.tr pn xe) (fun cls d σ' H' => σ'.length = 4 → W cls d σ' H') := fun u s2 ⟨a, B, sI, pins, σ, H, cls, d, e, I, nb, up, sky, na, os, ag, w⟩ => tk u s2 ⟨a, B, sI, pins, σ, H, cls, d, e, I, nb, up, sky, na, os, ag, w I.len⟩
    exact (pss_one (ps_expr (act _ pn xe Ech _ _ tk2 fun cls d σ' H' z => hW cls d σ' H' z))).run pins s' σ H D I ⟨h1, h2, h3⟩
  case right =>
    obtain ⟨Ew, hn, hE⟩ := h
    refine ⟨Ew, fun cls d σ' H' z hl => ?_, rfl, hc, hn⟩
    obtain ⟨j, num, ⟨D, rfl, hj, kd, hnum⟩, k⟩ := hE cls d H' z
    refine ⟨true, kd.xm, fun _ a na => ?_, fun z => by cases z⟩
    obtain ⟨x0, x1, x2, x3, rfl⟩ : ∃ x0 x1 x2 x3, σ' = [x0, x1, x2, x3] := by
      match σ', hl with
      | [x0, x1, x2, x3], _ => exact ⟨x0, x1, x2, x3, rfl⟩
    have dc : ∀ {H2}, Same H' H2 → (d = none ∨ ∃ dd fs, d = some dd ∧ H2 dd = some (.xd fs)) := fun {H2} s => by
      rcases hnum with ⟨_, _, _, _, e⟩ | ⟨dd, fs, e, h2, _⟩
      · exact .inl e
      · exact .inr ⟨dd, fs, e, s _ _ h2⟩
    have s0 := Same.refl H'
    refine ⟨_, rfl, D, _, _, _, rfl, rfl, (fun u r => r), kd.ec, kd.ks 0 _ rfl, dc s0, _, rfl, D, _, _, _, rfl, rfl, (fun u r => r), kd.ec, kd.ks 1 _ rfl, dc s0, _, rfl, D, _, _, _, rfl, rfl, (fun u r => r), kd.ec, kd.ks 2 _ rfl, dc s0, _, rfl, D, _, _, _, rfl, rfl, (fun u r => r), kd.ec, kd.ks 3 _ rfl, dc s0, (by show 4 ≤ sizeLine; decide), fun l1 h1 => ?_⟩
    have s1 := Same.upd_new (o := .lst [.bl (decide (0 = j)), .bl (decide (1 = j)), .bl (decide (2 = j)), .bl (decide (3 = j))]) h1
    have q1 := upd_same (H := H') (a := l1) (o := .lst [.bl (decide (0 = j)), .bl (decide (1 = j)), .bl (decide (2 = j)), .bl (decide (3 = j))])
    generalize upd H' l1 (.lst [.bl (decide (0 = j)), .bl (decide (1 = j)), .bl (decide (2 = j)), .bl (decide (3 = j))]) = H1 at s1 q1 ⊢
    refine ⟨_, rfl, _, rfl, D, _, _, _, rfl, rfl, (fun u r => r), kd.ec, kd.ks 4 _ rfl, dc s1, _, rfl, D, _, _, _, rfl, rfl, (fun u r => r), kd.ec, kd.ks 5 _ rfl, dc s1, _, rfl, D, _, _, _, rfl, rfl, (fun u r => r), kd.ec, kd.ks 6 _ rfl, dc s1, _, rfl, D, _, _, _, rfl, rfl, (fun u r => r), kd.ec, kd.ks 7 _ rfl, dc s1, (by show 4 ≤ sizeLine; decide), fun l2 h2 => ?_⟩
    have s2 := Same.upd_new (o := .lst [.bl (decide (4 = j)), .bl (decide (5 = j)), .bl (decide (6 = j)), .bl (decide (7 = j))]) h2
    have q2 := upd_same (H := H1) (a := l2) (o := .lst [.bl (decide (4 = j)), .bl (decide (5 = j)), .bl (decide (6 = j)), .bl (decide (7 = j))])
    generalize upd H1 l2 (.lst [.bl (decide (4 = j)), .bl (decide (5 = j)), .bl (decide (6 = j)), .bl (decide (7 = j))]) = H2 at s2 q2 ⊢
    refine ⟨l1, l2, _, _, rfl, rfl, s2 _ _ q1, q2, (by show 4 + 4 ≤ sizeLine; decide), fun l3 h3 => ?_⟩
    have s3 := Same.upd_new (o := .lst ([.bl (decide (0 = j)), .bl (decide (1 = j)), .bl (decide (2 = j)), .bl (decide (3 = j))] ++ [.bl (decide (4 = j)), .bl (decide (5 = j)), .bl (decide (6 = j)), .bl (decide (7 = j))])) h3
    have q3 := upd_same (H := H2) (a := l3) (o := .lst ([.bl (decide (0 = j)), .bl (decide (1 = j)), .bl (decide (2 = j)), .bl (decide (3 = j))] ++ [.bl (decide (4 = j)), .bl (decide (5 = j)), .bl (decide (6 = j)), .bl (decide (7 = j))]))
    have n3 : ∀ b o, H' b = some o → b ≠ l3 := fun b o e => ne_of_none (s2 _ _ (s1 _ _ e)) h3
    generalize upd H2 l3 (.lst ([.bl (decide (0 = j)), .bl (decide (1 = j)), .bl (decide (2 = j)), .bl (decide (3 = j))] ++ [.bl (decide (4 = j)), .bl (decide (5 = j)), .bl (decide (6 = j)), .bl (decide (7 = j))])) = H3 at s3 q3 ⊢
    have s03 := (s1.trans s2).trans s3
    refine ⟨_, rfl, .inl ⟨rfl, _, SqL.of q3⟩, _, rfl, D, _, _, _, rfl, rfl, (fun u r => r), kd.ec, kd.ks 8 _ rfl, dc s03, l3, _, _, rfl, rfl, q3, (by show 8 < sizeLine; decide), ?_⟩
    have s4 : Same H' (upd H3 l3 (.lst ([.bl (decide (0 = j)), .bl (decide (1 = j)), .bl (decide (2 = j)), .bl (decide (3 = j))] ++ [.bl (decide (4 = j)), .bl (decide (5 = j)), .bl (decide (6 = j)), .bl (decide (7 = j))] ++ [.bl (decide (8 = j))]))) := fun b o e => by
      rw [upd_ne (n3 b o e)]
      exact s03 _ _ e
    have q4 := upd_same (H := H3) (a := l3) (o := .lst ((List.range 9).map fun i => V.bl (decide (i = j))))
    have e9 : ([.bl (decide (0 = j)), .bl (decide (1 = j)), .bl (decide (2 = j)), .bl (decide (3 = j))] ++ [.bl (decide (4 = j)), .bl (decide (5 = j)), .bl (decide (6 = j)), .bl (decide (7 = j))] ++ [.bl (decide (8 = j))] : List V) = (List.range 9).map fun i => V.bl (decide (i = j)) := rfl
    rw [e9] at s4 ⊢
    generalize upd H3 l3 (.lst ((List.range 9).map fun i => V.bl (decide (i = j)))) = H4 at s4 q4 ⊢
    have hfl : ((List.range 9).map fun i => V.bl (decide (i = j))).all flatV = true := by
      rw [List.all_map]
      exact List.all_eq_true.mpr fun x _ => rfl
    have hcn : ((List.range 9).map fun i => V.bl (decide (i = j))).countP (fun z => eqV z (.bl true)) = 1 := (by decide +kernel : ∀ j < 9, ((List.range 9).map fun i => V.bl (decide (i = j))).countP (fun z => eqV z (.bl true)) = 1) j hj
    refine ⟨_, rfl, .inl ⟨rfl, _, SqL.of q4⟩, l3, _, .bl true, rfl, rfl, SqL.of q4, rfl, hfl, ?_⟩
    rw [hcn]
    refine ⟨rfl, false, rfl, iteF ?_⟩
    refine ⟨_, rfl, D, _, _, _, rfl, rfl, (fun u r => r), kd.ec, kd.iv, dc s4, true, rfl, iteF ?_⟩
    refine ⟨(by show 9 ≤ sizeLine; decide), fun l5 h5 => ?_⟩
    have s5 := Same.upd_new (o := .lst [.str "manners", .str "count", .str "part", .str "item", .str "full", .str "log", .str "text", .str "end", .str "step"]) h5
    have q5 := upd_same (H := H4) (a := l5) (o := .lst [.str "manners", .str "count", .str "part", .str "item", .str "full", .str "log", .str "text", .str "end", .str "step"])
    generalize upd H4 l5 (.lst [.str "manners", .str "count", .str "part", .str "item", .str "full", .str "log", .str "text", .str "end", .str "step"]) = H5 at s5 q5 ⊢
    have s05 := s4.trans s5
    have hix : ∀ m : Nat, m < 9 → ((List.range 9).map fun i => V.bl (decide (i = j)))[m]? = some (V.bl (decide (m = j))) := fun m hm => by
      rw [List.getElem?_map, List.getElem?_eq_getElem (by simpa using hm), List.getElem_range]
      rfl
    refine ⟨_, rfl, .inl ⟨rfl, _, SqL.of (s5 _ _ q4)⟩, l3, _, .bl true, j, .bl true, rfl, rfl, SqL.of (s5 _ _ q4), rfl, hfl, (hix j hj).trans (by rw [decide_eq_true rfl]), rfl, fun m z' hm hz => ?_, ?_⟩
    · rw [hix m (by omega), decide_eq_false (by omega)] at hz
      rw [← Option.some.inj hz]
      rfl
    have hw : atI [V.str "manners", .str "count", .str "part", .str "item", .str "full", .str "log", .str "text", .str "end", .str "step"] (j : Int) = some (.str (wordN j)) := (by decide +kernel : ∀ j : Nat, j < 9 → atI [V.str "manners", .str "count", .str "part", .str "item", .str "full", .str "log", .str "text", .str "end", .str "step"] (j : Int) = some (.str (wordN j))) j hj
    refine ⟨l5, _, j, _, rfl, rfl, SqL.of q5, hw, ?_⟩
    refine ⟨_, rfl, _, rfl, (by show 2 ≤ sizeLine; decide), fun u hu => ?_⟩
    have s6 := Same.upd_new (o := .tup [.str "log", .str "text"]) hu
    have q6 := upd_same (H := H5) (a := u) (o := .tup [.str "log", .str "text"])
    generalize upd H5 u (.tup [.str "log", .str "text"]) = H6 at s6 q6 ⊢
    have s06 := s05.trans s6
    have hin : inV (.str (wordN j)) [.str "log", .str "text"] = decide (j = 5 ∨ j = 6) := (by decide +kernel : ∀ j < 9, inV (.str (wordN j)) [.str "log", .str "text"] = decide (j = 5 ∨ j = 6)) j hj
    have hst : decide (V.str (wordN j) = V.str "step") = decide (j = 8) := (by decide +kernel : ∀ j < 9, decide (V.str (wordN j) = V.str "step") = decide (j = 8)) j hj
    have e1 : (if false = true then !inV (.str (wordN j)) [.str "log", .str "text"] else inV (.str (wordN j)) [.str "log", .str "text"]) = decide (j = 5 ∨ j = 6) := (if_neg Bool.false_ne_true).trans hin
    have fin : ∀ (H7 : Hp), Same H6 H7 → (2 ≤ sizeLine ∧ ∀ t, H7 t = none → Q (.ref t) (upd H7 t (.tup [.str (wordN j), .int num]))) := fun H7 s7 =>
      ⟨by decide, fun t ht => k t _ ((s06.trans s7).trans (Same.upd_new ht)) upd_same⟩
    rcases hnum with ⟨n5, n6, n8, rfl, _⟩ | ⟨dd, fs, rfl, hx, xf, ⟨hj56, hno, hl⟩ | ⟨hj8, hno, hl⟩⟩
    · refine ⟨u, _, rfl, .inr (SqT.of q6), rfl, rfl, false, congrArg V.bl (e1.trans (decide_eq_false (by omega))), iteF ?_⟩
      exact ⟨_, rfl, rfl, false, congrArg V.bl (hst.trans (decide_eq_false (by omega))), iteF (fin _ (.refl _))⟩
    · refine ⟨u, _, rfl, .inr (SqT.of q6), rfl, rfl, true, congrArg V.bl (e1.trans (decide_eq_true hj56)), iteT ?_⟩
      exact ⟨_, rfl, rfl, D, dd, fs, .int num, rfl, xf, hno, rfl, s06 _ _ hx, hl, fin _ (.refl _)⟩
    · refine ⟨u, _, rfl, .inr (SqT.of q6), rfl, rfl, false, congrArg V.bl (e1.trans (decide_eq_false (by omega))), iteF ?_⟩
      refine ⟨_, rfl, rfl, true, congrArg V.bl (hst.trans (decide_eq_true hj8)), iteT ?_⟩
      exact ⟨_, rfl, rfl, D, dd, fs, .int num, rfl, xf, hno, rfl, s06 _ _ hx, hl, fin _ (.refl _)⟩

end
end TL

namespace TL
open PySem PySem.Spec PyProof.Rows L2
section
variable {P : Program} {w : World} {K : PySem.W.Frag} {mg : Str → Option Value} {base : Heap}
def sp__law_can (T : Txt K mg) : Sp := fun vs H Q _ => ∃ d : Addr, vs = [.ref d] ∧ DiceAt H d ∧
  ∀ (t : Addr) (ms : List Int) (H' : Hp), Can ms → H' t = some (.tup (ms.map V.int)) → DiceAt H' d → Frm [d] H H' → Q (.ref t) H'
theorem ok__law_can (T : Txt K mg) : FnOk P w K mg base CX0 2 T.a__law_can T.fd__law_can P__law_can (sp__law_can T) := by
  have G__law_off := ok__law_off (P := P) (w := w) (base := base) T
  refine T.F__law_can.ok sc__law_can (fun vs H Q E h => ?_) (fun cdv A outer s H vs Q E hr h => ?_)
  · obtain ⟨d, rfl, _⟩ := h
    rfl
  · obtain ⟨d, rfl, hD, k⟩ := h
    refine ⟨_, (pss_cons (ps_set (i := 1) sc__law_can.nd rfl (by first | exact Or.inl rfl | exact Or.inr rfl) (pe_ix ix_list (pe_lst (pa_cons pe_int (pa_cons pe_int (pa_cons pe_int (pa_cons pe_int pa_nil))))) (pe_call G__law_off (hr.mono (by decide)) rfl T.g__law_off T.F__law_off.kp T.b__law_off .nil pass0 (pa_cons (pv 0) (pa_cons pe_int pa_nil))) (fun _ _ => rfl)))
    (pss_one (ps_ret (pe_op op_catA (pe_tup (pa_cons pe_int pa_nil)) (pe_callTy call_tuple_of (by rfl) T.n_tuple (by decide +kernel) (pa_cons (pe_lc (own := [("_law_manner", 2)]) (g := (gName 2)) (tt := (tTest (tOp rEq (tCall _ [] E0 (tCons (tVar 0) (tCons (tVar 1) tNil))) (tC (.int 0))))) (te := (tVar 2)) rfl sc__law_can.nd (pi_range2 rfl T.n_range (pa_cons pe_int (pa_cons pe_int pa_nil))) (blkOk_by (own := [("_law_manner", 2)]) (N := N__law_can) (sc := defScope s__law_can) (by decide +kernel)) (fun _ _ _ _ _ => (pg_name (i := 2) sc__law_can.nd rfl (by first | exact Or.inl rfl | exact Or.inr rfl))) (fun _ _ _ _ _ => (pts_one (pt_cmpR op_eq (pe_call G__law_off (hr.mono (by decide)) rfl T.g__law_off T.F__law_off.kp T.b__law_off .nil pass0 (pa_cons (pv 0) (pa_cons (pv 1) pa_nil))) pe_int (nomark _)))) (fun _ _ _ _ _ => (pv 2))) pa_nil)))))), ?_⟩
    have hD0 : ∃ o, H d = some o := let ⟨ns, e, _⟩ := hD; ⟨_, e⟩
    obtain ⟨od, hod⟩ := hD0
    refine ⟨(by show 4 ≤ sizeLine; decide), fun l hl => ?_⟩
    have nld : d ≠ l := ne_of_none hod hl
    have f1 : Frm [d] H (upd H l (.lst [.int 1, .int 2, .int 2, .int 4])) := Frm.new hl
    refine ⟨_, rfl, d, 4, rfl, hD.frm (Frm.new (S := []) hl) (by simp), (by decide), (by decide), fun r H1 r0 r4 hD1 g1 => ?_⟩
    have hl1 : H1 l = some (.lst [.int 1, .int 2, .int 2, .int 4]) := g1 _ _ upd_same (by simp [Ne.symm nld])
    obtain ⟨m, hm, hm0, hm4⟩ : ∃ m : Int, atI [V.int 1, V.int 2, V.int 2, V.int 4] r = some (.int m) ∧ 0 < m ∧ m ≤ 4 := by
      have : r = 0 ∨ r = 1 ∨ r = 2 ∨ r = 3 := by omega
      rcases this with rfl | rfl | rfl | rfl
      · exact ⟨1, rfl, by decide, by decide⟩
      · exact ⟨2, rfl, by decide, by decide⟩
      · exact ⟨2, rfl, by decide, by decide⟩
      · exact ⟨4, rfl, by decide, by decide⟩
    refine ⟨l, _, r, _, rfl, rfl, SqL.of hl1, hm, ?_⟩
    have f2 := f1.trans g1
    -- (0,) + tuple([..])
    refine ⟨(by show 1 ≤ sizeLine; decide), fun p hp => ?_⟩
    have f3 : Frm [d] H1 (upd H1 p (.tup [.int 0])) := Frm.new hp
    obtain ⟨od1, hod1⟩ : ∃ o, H1 d = some o := let ⟨ns, e, _⟩ := hD1; ⟨_, e⟩
    have npd : d ≠ p := ne_of_none hod1 hp
    have hD2 : DiceAt (upd H1 p (.tup [.int 0])) d := hD1.frm (Frm.new (S := []) hp) (by simp)
    refine ⟨1, 10, rfl, ⟨by decide, by decide, by decide, by decide⟩, fun D hDn => ?_⟩
    have nDd : D ≠ d := fun e => by
      obtain ⟨ns, z, _⟩ := hD2
      rw [← e, hDn] at z
      cases z
    have nDp : D ≠ p := fun e => by rw [e, upd_same] at hDn; cases hDn
    refine lc_range (lo := 1) (n := 9) (fun i H2 => DiceAt H2 d ∧ Frm [d] H H2 ∧ H2 p = some (.tup [.int 0]) ∧ ∃ ms : List Int, H2 D = some (.lst (ms.map V.int)) ∧ ms.Pairwise (· < ·) ∧ (∀ x ∈ ms, 1 ≤ x ∧ x < 1 + i) ∧ ms.length ≤ i)
      ⟨hD2.frm (Frm.new (S := []) hDn) (by simp), (f2.trans f3).trans (Frm.new hDn), by rw [upd_ne (Ne.symm nDp), upd_same], [], upd_same, List.Pairwise.nil, by simp, Nat.le_refl _⟩ ?_ ?_
    · rintro i H2 hi ⟨d2, f, hp2, ms, hms, hpw, hb, hln⟩
      have hS : (wipe [some (V.ref d), some (V.int m), none] [2]).set 2 (some (.int (1 + i))) = [some (V.ref d), some (V.int m), some (.int (1 + i))] := rfl
      refine ⟨rfl, _, rfl, _, rfl, d, m, rfl, d2, hm0, by omega, fun r H3 r0 rm d3 g3 => ?_⟩
      have e3 : H3 D = some (.lst (ms.map V.int)) := g3 _ _ hms (by simp [nDd])
      have p3 : H3 p = some (.tup [.int 0]) := g3 _ _ hp2 (by simp [Ne.symm npd])
      refine ⟨rfl, _, rfl, ?_⟩
      refine iteD (fun _ => ?_) (fun _ => ?_)
      · refine ⟨_, rfl, _, e3, by rw [List.length_map]; exact small1000 (by omega), ?_⟩
        refine ⟨d3.upd_ne (Ne.symm nDd), (f.trans g3).own ((f2.trans f3).free hDn) (Frm.updL e3), by rw [upd_ne (Ne.symm nDp)]; exact p3, ms ++ [1 + (i : Int)], by rw [upd_same, List.map_append]; rfl, ?_, ?_, by simp; omega⟩
        · rw [List.pairwise_append]
          refine ⟨hpw, by simp, fun x hx y hy => ?_⟩
          simp at hy
          have := hb x hx
          omega
        · intro x hx
          rcases List.mem_append.mp hx with h1 | h1
          · have := hb x h1
            omega
          · simp at h1
            omega
      · exact ⟨d3, f.trans g3, p3, ms, e3, hpw, fun x hx => by have := hb x hx; omega, by omega⟩
    · rintro H2 ⟨d2, f, hp2, ms, hms, hpw, hb, hln⟩
      have hcan : Can (0 :: ms) := by
        refine ⟨fun i hi => ?_, ?_, by simp, by simp; omega⟩
        · rcases List.mem_cons.mp hi with e | e
          · omega
          · have := hb i e
            omega
        · rw [List.pairwise_cons]
          exact ⟨fun x hx => by have := hb x hx; omega, hpw⟩
      refine ⟨D, _, rfl, .inl ⟨SqL.of hms, fun q hq => ?_⟩⟩
      have p3 : (upd H2 q (.tup (ms.map V.int))) p = some (.tup [.int 0]) := by rw [upd_ne (ne_of_none hp2 hq)]; exact hp2
      have fq : Frm [d] H2 (upd H2 q (.tup (ms.map V.int))) := Frm.new hq
      have dq : DiceAt (upd H2 q (.tup (ms.map V.int))) d := d2.frm (Frm.new (S := []) hq) (by simp)
      refine ⟨p, q, _, _, rfl, rfl, SqT.of p3, SqT.of upd_same, ?_, (fun z => by cases z), fun _ z => ?_, fun _ _ u hu => ?_⟩
      · rw [List.length_map]
        exact Nat.le_of_lt (small1000 (by simp; omega))
      · have e0 : ms = [] := by simpa using z
        subst e0
        exact k p [0] _ hcan p3 dq (f.trans fq)
      · exact k u (0 :: ms) _ hcan (by rw [upd_same]; rfl) (dq.frm (Frm.new (S := []) hu) (by simp)) ((f.trans fq).trans (Frm.new hu))

end
end TL

namespace TL
open PySem PySem.Spec PyProof.Rows L2
section
variable {P : Program} {w : World} {K : PySem.W.Frag} {mg : Str → Option Value} {base : Heap}
/-- rising from behind l up to 9, as far as they go -/
def risen (l : Int) (ms : List Int) : Prop := ms.Pairwise (· < ·) ∧ ∀ m ∈ ms, l < m ∧ m < 10
theorem isMan_not {ds es : List PyData} {ms : List Int} {e : PyData} (hd : ds = ms.map .int ++ e :: es) (h : between e 0 9 = false ∨ ∃ k : Int, e = .int k ∧ ∃ m ∈ ms, ¬ m < k) : isMan (.tuple ds) = false := by
  subst hd
  rcases h with h | ⟨k, rfl, m, hm, hn⟩
  · simp only [isMan, List.all_append, List.all_cons, h, Bool.false_and, Bool.and_false]
  · simp only [isMan]
    have : ¬ (((ms.map PyData.int ++ PyData.int k :: es).map intOf).Pairwise (· < ·)) := by
      intro p
      rw [List.map_append, List.pairwise_append] at p
      have := p.2.2 m (by rw [List.map_map]; exact List.mem_map.mpr ⟨m, hm, rfl⟩) k (by simp [intOf])
      exact hn this
    rw [decide_eq_false this, Bool.false_and, Bool.and_false]
theorem isMan_first {ds : List PyData} {ms : List Int} (hd : ds = ms.map .int) (h : risen (-1) ms) : isMan (.tuple ds) = decide (ms[0]? = some 0) := by
  subst hd
  have e : (ms.map PyData.int).map intOf = ms := by
    rw [List.map_map]
    have : (intOf ∘ PyData.int) = id := rfl
    rw [this, List.map_id]
  have hb : (ms.map PyData.int).all (fun e => between e 0 9) = true := by
    rw [List.all_map, List.all_eq_true]
    intro m hm
    have := h.2 m hm
    simp only [Function.comp, between, Bool.and_eq_true, decide_eq_true_eq]
    omega
  simp only [isMan]
  rw [e, hb, decide_eq_true h.1, Bool.true_and, Bool.true_and]
  apply decide_eq_decide.mpr
  cases ms with
  | nil => simp
  | cons a r =>
    obtain ⟨p, q⟩ := h
    rw [List.pairwise_cons] at p
    constructor
    · intro hm
      rcases List.mem_cons.mp hm with z | z
      · rw [← z]; rfl
      · have := p.1 0 z
        have := q a (by simp)
        omega
    · intro z
      have : a = 0 := Option.some.inj z
      rw [this]
      simp
def sp__law_is_can (T : Txt K mg) : Sp := fun vs H Q _ => ∃ (x : V) (d : PyData), vs = [x] ∧ Im H x d ∧ mdat d ∧ ∀ H', Same H H' → Q (.bl (isMan d)) H'
theorem ok__law_is_can (T : Txt K mg) : FnOk P w K mg base CX0 1 T.a__law_is_can T.fd__law_is_can P__law_is_can (sp__law_is_can T) := by
  skip
  refine T.F__law_is_can.ok sc__law_is_can (fun vs H Q E h => ?_) (fun cdv A outer s H vs Q E hr h => ?_)
  · obtain ⟨x, d, rfl, _⟩ := h
    rfl
  · obtain ⟨x, d, rfl, hx, hm, k⟩ := h
    have hu64 := hr.units
    refine ⟨_, (pss_cons (ps_if (PW.pt (pw_or (pt_not (pt_val (pe_callB call_isi (by rfl) T.n_isinstance (by decide +kernel) (pa_cons (pv 0) (pa_cons (pe_bltn (v := .ty "tuple") (u := .type "tuple") (by rfl) T.n_tuple (by decide +kernel) rfl) pa_nil))))) (pw_or (pt_cmpR (op_eqD hu64) (pv 0) (pe_tup pa_nil) (nomark _)) (pw_or1 (pt_cmpR op_isF (pe_ix ix_tup (pv 0) pe_int (fun _ _ => rfl)) pe_bl (nomark _))))))
      (pss_one (ps_ret pe_bl))
      pss_nil)
    (pss_cons (ps_set (i := 1) sc__law_is_can.nd rfl (by first | exact Or.inl rfl | exact Or.inr rfl) (pe_un un_neg pe_int))
    (pss_cons (ps_for PassesOwn.never rfl (pi_tup (pv 0)) (pg_name (i := 2) sc__law_is_can.nd rfl (by first | exact Or.inl rfl | exact Or.inr rfl))
      (pss_cons (ps_if (PW.pt (pw_or (pt_not (pt_val (pe_callB call_isi (by rfl) T.n_isinstance (by decide +kernel) (pa_cons (pv 2) (pa_cons (pe_bltn (v := .ty "int") (u := .type "int") (by rfl) T.n_int (by decide +kernel) rfl) pa_nil))))) (pw_or (pt_val (pe_callB call_isi (by rfl) T.n_isinstance (by decide +kernel) (pa_cons (pv 2) (pa_cons (pe_bltn (v := .ty "bool") (u := .type "bool") (by rfl) T.n_bool (by decide +kernel) rfl) pa_nil)))) (pw_or1 (pt_not (pt_chain op_lt op_lt (pv 1) (pv 2) pe_int))))))
        (pss_one (ps_ret pe_bl))
        pss_nil)
      (pss_one (ps_set (i := 1) sc__law_is_can.nd rfl (by first | exact Or.inl rfl | exact Or.inr rfl) (pv 2)))))
    (pss_one (ps_ret (pe_cmpR op_eq (pe_ix ix_tup (pv 0) pe_int (fun _ _ => rfl)) pe_int (nomark _))))))), ?_⟩
    have k0 : ∀ {b : Bool} {H'}, isMan d = b → Same H H' → Q (.bl b) H' := fun e s => by rw [← e]; exact k _ s
    cases d with
    | none => cases hx; exact ⟨_, rfl, _, _, _, _, _, rfl, .ty _, tyx_D .non, kit_ty kb_nt, _, rfl, iteT (iteT (k0 rfl (.refl _)))⟩
    | bool b => cases hx; exact ⟨_, rfl, _, _, _, _, _, rfl, .ty _, tyx_D (.bl b), kit_ty kb_bt, _, rfl, iteT (iteT (k0 rfl (.refl _)))⟩
    | int i => cases hx; exact ⟨_, rfl, _, _, _, _, _, rfl, .ty _, tyx_D (.int i), kit_ty kb_it, _, rfl, iteT (iteT (k0 rfl (.refl _)))⟩
    | str z => cases hx; exact ⟨_, rfl, _, _, _, _, _, rfl, .ty _, tyx_D (.str z), kit_ty kb_st, _, rfl, iteT (iteT (k0 rfl (.refl _)))⟩
    | list ds => exact hm.elim
    | dict _ => cases hx
    | tuple ds =>
      obtain ⟨hlen, hel⟩ := hm
      have hx' := hx
      cases hx' with
      | tup hT hA =>
        rename_i a xs
        have hxl := hA.length
        refine ⟨_, rfl, _, _, _, _, _, rfl, .ty _, tyx_D hx.dp, kit_ty kb_tt, _, rfl, iteF ?_⟩
        refine ⟨_, rfl, (by show 0 ≤ sizeLine; decide), fun e he => ?_⟩
        have s1 : Same H (upd H e (.tup [])) := Same.upd_new he
        have q1 := upd_same (H := H) (a := e) (o := .tup [])
        generalize upd H e (.tup []) = H1 at s1 q1 ⊢
        have lvd : lv 2 (.tuple ds) := ⟨by omega, fun e he => (hel e he).2⟩
        have lve : lv 1 (.tuple []) := ⟨Nat.zero_le _, fun e he => by cases he⟩
        refine ⟨.tuple ds, .tuple [], (hx.same s1).dp, .tup (SqT.of q1) .nil, shaped_lv lvd (by decide), shaped_lv lve (by decide), _, rfl, ?_⟩
        cases ds with
        | nil =>
          refine iteT (iteT (k0 ?_ s1))
          rfl
        | cons d0 dr =>
        refine iteF ?_
        cases hA with
        | cons hA0 hAr =>
        rename_i x0 xr
        have hT1 := s1 _ _ hT
        refine ⟨_, rfl, a, _, 0, x0, rfl, rfl, SqT.of hT1, atI_nat (j := 0) rfl, plain_dp (hA0.dp (K := K)), false, rfl, _, rfl, ?_⟩
        refine iteD (fun hf => k0 ?_ s1) (fun hf => ?_)
        · subst hf
          cases hA0
          rfl
        refine ⟨1, rfl, ?_⟩
        have hAll : ImAll H (x0 :: xr) (d0 :: dr) := .cons hA0 hAr
        generalize hds : d0 :: dr = ds at *
        generalize hxs : x0 :: xr = xs at *
        refine ⟨_, rfl, a, rfl, ⟨_, SqT.of hT1⟩, for_tup (K := K) (a := a) (xs := xs) (fun i σ H' => H' = H1 ∧ ∃ (ms : List Int) (l : Int) (v2 : Option V), σ = [some (V.ref a), some (.int l), v2] ∧ ds.take i = ms.map .int ∧ risen (-1) ms ∧ (∀ m ∈ ms, m ≤ l) ∧ (l = -1 ∨ l ∈ ms))
          ⟨rfl, [], -1, none, rfl, rfl, ⟨.nil, fun m hm => absurd hm (by simp)⟩, (fun m hm => absurd hm (by simp)), .inl rfl⟩ (fun i σ H' _ h => by rw [h.1]; exact SqT.of hT1) ?_ ?_⟩
        · rintro i v σ H' hi ⟨rfl, ms, l, v2, rfl, htk, hri, hle, hlm⟩
          obtain ⟨dv, hdv, hv⟩ := hAll.get' hi
          have hv1 := hv.same s1
          have bad : between dv 0 9 = false ∨ (∃ k : Int, dv = .int k ∧ ∃ m ∈ ms, ¬ m < k) → isMan (.tuple ds) = false := fun h => isMan_not (es := ds.drop (i + 1)) (by
            have := List.take_append_drop (i + 1) ds
            rw [take_more hdv, htk, List.append_assoc] at this
            exact this.symm) h
          cases dv with
          | none => cases hv; exact ⟨_, rfl, _, _, _, _, _, rfl, .ty _, tyx_D .non, kit_ty kb_ni, _, rfl, iteT (iteT (k0 (bad (.inl rfl)) s1))⟩
          | bool b => cases hv; exact ⟨_, rfl, _, _, _, _, _, rfl, .ty _, tyx_D (.bl b), kit_ty kb_bi, _, rfl, iteF ⟨_, rfl, _, _, _, _, _, rfl, .ty _, tyx_D (.bl b), kit_ty kb_bb, _, rfl, iteT (iteT (k0 (bad (.inl rfl)) s1))⟩⟩
          | str z => cases hv; exact ⟨_, rfl, _, _, _, _, _, rfl, .ty _, tyx_D (.str z), kit_ty kb_si, _, rfl, iteT (iteT (k0 (bad (.inl rfl)) s1))⟩
          | tuple es => exact ⟨_, rfl, _, _, _, _, _, rfl, .ty _, tyx_D hv1.dp, kit_ty kb_ti, _, rfl, iteT (iteT (k0 (bad (.inl rfl)) s1))⟩
          | list _ => cases hv
          | dict _ => cases hv
          | int k1 =>
            cases hv
            refine ⟨_, rfl, _, _, _, _, _, rfl, .ty _, tyx_D (.int k1), kit_ty kb_ii, _, rfl, iteF ?_⟩
            refine ⟨_, rfl, _, _, _, _, _, rfl, .ty _, tyx_D (.int k1), kit_ty kb_ib, _, rfl, iteF ?_⟩
            refine ⟨_, rfl, _, rfl, _, _, rfl, rfl, _, rfl, ?_⟩
            refine iteD (fun h1 => ⟨_, _, rfl, rfl, _, rfl, ?_⟩) (fun h1 => ⟨_, rfl, iteT (k0 (bad ?_) s1)⟩)
            · refine iteN (fun h2 => k0 (bad (.inl ?_)) s1) (fun h2 => ?_)
              · simp only [between, Bool.and_eq_false_iff, decide_eq_false_iff_not]
                omega
              · refine ⟨_, rfl, rfl, ms ++ [k1], k1, _, rfl, by rw [take_more hdv, htk, List.map_append]; rfl, ⟨?_, fun m hm => ?_⟩, fun m hm => ?_, .inr (by simp)⟩
                · rw [List.pairwise_append]
                  exact ⟨hri.1, List.pairwise_singleton _ _, fun m hm y hy => by rw [List.mem_singleton.mp hy]; have := hle m hm; omega⟩
                · rcases List.mem_append.mp hm with z | z
                  · exact hri.2 m z
                  · rw [List.mem_singleton.mp z]
                    have : -1 ≤ l := by
                      rcases hlm with q | q
                      · omega
                      · have := hri.2 l q; omega
                    omega
                · rcases List.mem_append.mp hm with z | z
                  · have := hle m z; omega
                  · rw [List.mem_singleton.mp z]; exact Int.le_refl _
            · rcases hlm with q | q
              · refine .inl ?_
                simp only [between, Bool.and_eq_false_iff, decide_eq_false_iff_not]
                omega
              · exact .inr ⟨k1, rfl, l, q, h1⟩
        · rintro σ H' ⟨rfl, ms, l, v2, rfl, htk, hri, hle, hlm⟩
          have hl2 : xs.length = ds.length := hAll.length
          rw [hl2, List.take_length] at htk
          have em := isMan_first (ds := ms.map .int) rfl hri
          cases ms with
          | nil => rw [← hds] at htk; simp at htk
          | cons m0 mr =>
            have hx0 : xs[0]? = some (.int m0) := by
              obtain ⟨y, h1, h2⟩ := hAll.get (i := 0) (d := .int m0) (by rw [htk]; rfl)
              cases h2
              exact h1
            refine ⟨_, rfl, a, _, 0, _, rfl, rfl, SqT.of hT1, atI_nat (j := 0) hx0, rfl, ?_⟩
            refine k0 ?_ s1
            rw [htk, em]
            simp [vint_inj]

end
end TL

namespace TL
open PySem PySem.Spec PyProof.Rows L2
section
variable {P : Program} {w : World} {K : PySem.W.Frag} {mg : Str → Option Value} {base : Heap}
/-- parts of manners, good or bad -/
def partsD (n : Nat) (ds : List PyData) : Prop := ds.length ≤ n ∧ ∀ e ∈ ds, (∀ l, e ≠ .list l) ∧ lv 1 e
/-- what may stand in the place of manners -/
def SpD (n : Nat) (d : PyData) : Prop := (∃ ds, d = .tuple ds ∧ partsD n ds) ∨ d = .int 0 ∨ d = .none ∨ d = .str "0" ∨ d = .bool true
theorem SpD.mdat {n : Nat} {d : PyData} (h : SpD n d) (hn : n ≤ 60) : mdat d := by
  rcases h with ⟨ds, rfl, h1, h2⟩ | rfl | rfl | rfl | rfl
  · exact ⟨Nat.le_trans h1 hn, h2⟩
  · trivial
  · trivial
  · show (PyData.str "0").canLay0 = true
    decide +kernel
  · trivial
theorem cut_sub {H : Hp} {xs : List V} {ds : List PyData} (h : ImAll H xs ds) (lo hi : Option Int) : ∃ es, ImAll H (cutV xs lo hi) es ∧ es.length ≤ ds.length ∧ ∀ e ∈ es, e ∈ ds := by
  refine ⟨(ds.drop (HT.sIx xs.length 0 lo)).take (HT.sIx xs.length xs.length hi - HT.sIx xs.length 0 lo), (h.drop _).take _, ?_, fun e he => List.mem_of_mem_drop (List.mem_of_mem_take he)⟩
  rw [List.length_take, List.length_drop]
  omega
theorem im_rev {H : Hp} : ∀ {xs : List V} {ds : List PyData}, ImAll H xs ds → ImAll H xs.reverse ds.reverse
  | _, _, .nil => .nil
  | _, _, .cons h t => by
    rw [List.reverse_cons, List.reverse_cons]
    exact (im_rev t).append (.cons h .nil)
theorem partsD.cat {n m : Nat} {ds es : List PyData} (a : partsD n ds) (b : partsD m es) : partsD (n + m) (ds ++ es) := ⟨by rw [List.length_append]; exact Nat.add_le_add a.1 b.1, fun e he => (List.mem_append.mp he).elim (a.2 e) (b.2 e)⟩
theorem partsD.mono {n m : Nat} {ds : List PyData} (a : partsD n ds) (h : n ≤ m) : partsD m ds := ⟨Nat.le_trans a.1 h, a.2⟩
/-- a cut of such parts -/
theorem cutP {K : PySem.W.Frag} {H : Hp} {t : Addr} {xs : List V} {ds : List PyData} {n : Nat} {lo hi : Option Int} {Q : VK} (ht : H t = some (.tup xs)) (hA : ImAll H xs ds) (hp : partsD n ds) (k : ∀ p ys es H', Same H H' → H' p = some (.tup ys) → ImAll H' ys es → partsD n es → Q (.ref p) H') : rSlA K (.ref t) lo hi H Q :=
  slA ht fun p H' s hp' => by
    obtain ⟨es, h1, h2, h3⟩ := cut_sub hA lo hi
    exact k p _ es H' s hp' (h1.same s) ⟨Nat.le_trans h2 hp.1, fun e he => hp.2 e (h3 e he)⟩
theorem cutP2 {K : PySem.W.Frag} {σ : L2.St} {H : Hp} {t : Addr} {xs : List V} {ds : List PyData} {n : Nat} {lo : Option Int} {Q : VK} (ht : H t = some (.tup xs)) (hA : ImAll H xs ds) (hp : partsD n ds) (k : ∀ p ys es H', Same H H' → H' p = some (.tup ys) → ImAll H' ys es → partsD n es → Q (.ref p) H') :
    tNoPart σ H fun u H3 => rSlA K (.ref t) lo u H3 Q := cutP ht hA hp k
theorem catP {K : PySem.W.Frag} {H : Hp} {a b : Addr} {xs ys : List V} {ds es : List PyData} {n m : Nat} {Q : VK} (ha : H a = some (.tup xs)) (hb : H b = some (.tup ys)) (h1 : ImAll H xs ds) (h2 : ImAll H ys es) (p1 : partsD n ds) (p2 : partsD m es) (hl : n + m ≤ 1000)
    (k : ∀ p zs H', Same H H' → H' p = some (.tup zs) → ImAll H' zs (ds ++ es) → partsD (n + m) (ds ++ es) → Q (.ref p) H') : rCatA K (.ref a) (.ref b) H Q :=
  catTT ha hb (by rw [h1.length, h2.length]; have := p1.1; have := p2.1; omega) fun p H' s hp => k p _ H' s hp ((h1.append h2).same s) (p1.cat p2)
def sp__law_spoilt (T : Txt K mg) : Sp := fun vs H Q _ => ∃ (d t : Addr) (xs : List V) (ds : List PyData) (n : Nat), vs = [.ref d, .ref t] ∧ DiceAt H d ∧ H t = some (.tup xs) ∧ ImAll H xs ds ∧ partsD n ds ∧ n ≤ 100 ∧
  ∀ (v : V) (dv : PyData) (H' : Hp), Im H' v dv → SpD (2 * n + 1) dv → DiceAt H' d → Frm [d] H H' → Q v H'
theorem ok__law_spoilt (T : Txt K mg) : FnOk P w K mg base CX0 2 T.a__law_spoilt T.fd__law_spoilt P__law_spoilt (sp__law_spoilt T) := by
  have G__law_off := ok__law_off (P := P) (w := w) (base := base) T
  refine T.F__law_spoilt.ok sc__law_spoilt (fun vs H Q E h => ?_) (fun cdv A outer s H vs Q E hr h => ?_)
  · obtain ⟨d, t, xs, ds, n, rfl, _⟩ := h
    rfl
  · obtain ⟨d, t, xs, ds, n, rfl, D0, ht, hA, hp, hn, k⟩ := h
    refine ⟨_, (pss_cons (ps_set (i := 2) sc__law_spoilt.nd rfl (by first | exact Or.inl rfl | exact Or.inr rfl) (pe_call G__law_off (hr.mono (by decide)) rfl T.g__law_off T.F__law_off.kp T.b__law_off .nil pass0 (pa_cons (pv 0) (pa_cons (pe_op op_add (pe_callB call_len_seq (by rfl) T.n_len (by decide +kernel) (pa_cons (pv 1) pa_nil)) pe_int) pa_nil))))
    (pss_cons (ps_set (i := 3) sc__law_spoilt.nd rfl (by first | exact Or.inl rfl | exact Or.inr rfl) (pe_callB (call_max2 rfl) (by rfl) T.n_max (by decide +kernel) (pa_cons pe_int (pa_cons (pe_op op_sub (pe_call G__law_off (hr.mono (by decide)) rfl T.g__law_off T.F__law_off.kp T.b__law_off .nil pass0 (pa_cons (pv 0) (pa_cons (pe_op op_pow pe_int pe_int) pa_nil))) pe_int) pa_nil))))
    (pss_cons (ps_cut (ps_set (i := 4) sc__law_spoilt.nd rfl (by first | exact Or.inl rfl | exact Or.inr rfl) (pe_ix ix_list (pe_lst (pa_cons pe_int (pa_cons (pe_op op_add pe_int (pv 3)) (pa_cons (pe_un un_neg pe_int) (pa_cons (pe_op op_sub (pe_un un_neg pe_int) (pv 3)) (pa_cons pe_bl (pa_cons pe_non (pa_cons pe_str (pa_cons (pe_tup (pa_cons pe_int pa_nil)) (pa_cons pe_int (pa_cons pe_int (pa_cons pe_int (pa_cons pe_bl pa_nil))))))))))))) (pe_call G__law_off (hr.mono (by decide)) rfl T.g__law_off T.F__law_off.kp T.b__law_off .nil pass0 (pa_cons (pv 0) (pa_cons pe_int pa_nil))) (fun _ _ => rfl))))
    (pss_cons (ps_set (i := 5) sc__law_spoilt.nd rfl (by first | exact Or.inl rfl | exact Or.inr rfl) (pe_call G__law_off (hr.mono (by decide)) rfl T.g__law_off T.F__law_off.kp T.b__law_off .nil pass0 (pa_cons (pv 0) (pa_cons pe_int pa_nil))))
    (pss_cons (ps_if (pt_cmpR op_lt (pv 5) pe_int (nomark _))
      (pss_one (ps_ret (pe_ix ix_list (pe_lst (pa_cons (pe_cut (pe_op op_catA (pe_slice sl_tupA (pv 1) po_none (po_some (pv 2))) (pe_slice sl_tupA (pv 1) (po_some (pe_op op_add (pv 2) pe_int)) po_none))) (pa_cons (pe_cut (pe_op op_catA (pe_op op_catA (pe_slice sl_tupA (pv 1) po_none (po_some (pv 2))) (pe_tup (pa_cons (pv 4) pa_nil))) (pe_slice sl_tupA (pv 1) (po_some (pe_op op_add (pv 2) pe_int)) po_none))) (pa_cons (pe_cut (pe_op op_catA (pe_op op_catA (pe_slice sl_tupA (pv 1) po_none (po_some (pv 2))) (pe_tup (pa_cons (pv 4) pa_nil))) (pe_slice sl_tupA (pv 1) (po_some (pv 2)) po_none))) (pa_cons (pe_cut (pe_op op_catA (pe_slice sl_tupA (pv 1) po_none (po_some (pv 2))) (pe_slice sl_tupA (pv 1) (po_some (pe_op op_sub (pv 2) pe_int)) po_none))) pa_nil))))) (pv 5) (fun _ _ => rfl))))
      pss_nil)
    (pss_one (ps_ret (pe_ix ix_list (pe_lst (pa_cons (TLrevT (pv 1)) (pa_cons (pe_ix ix_list (pe_lst (pa_cons (pe_tup pa_nil) (pa_cons pe_int (pa_cons pe_non (pa_cons pe_str (pa_cons pe_bl pa_nil)))))) (pe_call G__law_off (hr.mono (by decide)) rfl T.g__law_off T.F__law_off.kp T.b__law_off .nil pass0 (pa_cons (pv 0) (pa_cons pe_int pa_nil))) (fun _ _ => rfl)) pa_nil))) (pe_op op_sub (pv 5) pe_int) (fun _ _ => rfl))))))))), ?_⟩
    have hl := hA.length
    have hln := hp.1
    refine ⟨_, rfl, _, rfl, t, _, rfl, .inr (SqT.of ht), _, _, rfl, rfl, d, _, rfl, D0, by omega, by omega, fun at_ H1 a0 a1 D1 f1 => ?_⟩
    refine ⟨_, rfl, _, _, rfl, rfl, ⟨by decide, by decide, by decide⟩, d, _, rfl, D1, by decide, by decide, fun x H2 x0 x1 D2 f2 => ?_⟩
    refine ⟨_, _, rfl, rfl, _, _, rfl, ?_⟩
    obtain ⟨far, efar, far0⟩ : ∃ far : Int, (if x - 500000 > 0 then x - 500000 else 0) = far ∧ 0 ≤ far := ⟨_, rfl, by split <;> omega⟩
    rw [efar]
    have f02 := f1.trans f2
    -- an odd part
    refine ⟨fun σ' H' => ∃ (od : V) (dd : PyData), σ' = [some (V.ref d), some (.ref t), some (.int at_), some (.int far), some od, none] ∧ Im H' od dd ∧ partsD 1 [dd] ∧ DiceAt H' d ∧ Frm [d] H2 H', ?_, ?_⟩
    · refine ⟨_, rfl, _, _, rfl, rfl, _, rfl, _, rfl, _, rfl, _, _, rfl, rfl, (by show 1 ≤ sizeLine; decide), fun o ho => ?_⟩
      have s4 : Same H2 (upd H2 o (.tup [.int 1])) := Same.upd_new ho
      have q4 := upd_same (H := H2) (a := o) (o := .tup [.int 1])
      have D4 := D2.same s4
      generalize upd H2 o (.tup [.int 1]) = H4 at s4 q4 D4 ⊢
      refine ⟨(by show 12 ≤ sizeLine; decide), fun l hl => ?_⟩
      have s5 : Same H4 (upd H4 l (.lst [.int 10, .int (10 + far), .int (-1), .int (-1 - far), .bl true, .non, .str "1", .ref o, .int 0, .int 9, .int 5, .bl false])) := Same.upd_new hl
      have q5 := upd_same (H := H4) (a := l) (o := .lst [.int 10, .int (10 + far), .int (-1), .int (-1 - far), .bl true, .non, .str "1", .ref o, .int 0, .int 9, .int 5, .bl false])
      have D5 := D4.same s5
      have nld := D4.ne_new hl
      generalize upd H4 l (.lst [.int 10, .int (10 + far), .int (-1), .int (-1 - far), .bl true, .non, .str "1", .ref o, .int 0, .int 9, .int 5, .bl false]) = H5 at s5 q5 D5 ⊢
      have s45 := s4.trans s5
      refine ⟨_, rfl, d, 12, rfl, D5, by decide, by decide, fun j H6 j0 j7 D6 f6 => ?_⟩
      have q6 := f6 _ _ q5 (by simp [nld])
      have q46 := f6.tups _ _ (s5 _ _ q4)
      have one : ∀ {dd : PyData}, (∀ l, dd ≠ .list l) → lv 1 dd → partsD 1 [dd] := fun h1 h2 => ⟨Nat.le_refl _, fun e he => by rw [List.mem_singleton.mp he]; exact ⟨h1, h2⟩⟩
      obtain ⟨v, dd, hv, hpd, hat⟩ : ∃ v dd, Im H6 v dd ∧ partsD 1 [dd] ∧ atI [V.int 10, .int (10 + far), .int (-1), .int (-1 - far), .bl true, .non, .str "1", .ref o, .int 0, .int 9, .int 5, .bl false] j = some v := by
        have : j = 0 ∨ j = 1 ∨ j = 2 ∨ j = 3 ∨ j = 4 ∨ j = 5 ∨ j = 6 ∨ j = 7 ∨ j = 8 ∨ j = 9 ∨ j = 10 ∨ j = 11 := by omega
        have ni : ∀ {i : Int} l, PyData.int i ≠ .list l := fun l z => by cases z
        have nb : ∀ {i : Bool} l, PyData.bool i ≠ .list l := fun l z => by cases z
        rcases this with rfl | rfl | rfl | rfl | rfl | rfl | rfl | rfl | rfl | rfl | rfl | rfl
        · exact ⟨_, _, .int _, one ni trivial, rfl⟩
        · exact ⟨_, _, .int _, one ni trivial, rfl⟩
        · exact ⟨_, _, .int _, one ni trivial, rfl⟩
        · exact ⟨_, _, .int _, one ni trivial, rfl⟩
        · exact ⟨_, _, .bl _, one nb trivial, rfl⟩
        · exact ⟨_, _, .non, one (fun l z => by cases z) trivial, rfl⟩
        · exact ⟨_, _, .str _, one (fun l z => by cases z) (by show (PyData.str "1").canLay0 = true; decide +kernel), rfl⟩
        · exact ⟨_, .tuple [.int 1], .tup q46 (.cons (.int _) .nil), one (fun l z => by cases z) ⟨(by decide : 1 ≤ 100000), fun e he => by rw [List.mem_singleton.mp he]; trivial⟩, rfl⟩
        · exact ⟨_, _, .int _, one ni trivial, rfl⟩
        · exact ⟨_, _, .int _, one ni trivial, rfl⟩
        · exact ⟨_, _, .int _, one ni trivial, rfl⟩
        · exact ⟨_, _, .bl _, one nb trivial, rfl⟩
      exact ⟨l, _, j, _, rfl, rfl, SqL.of q6, hat, v, dd, rfl, hv, hpd, D6, (Frm.of_same (S := [d]) s45).trans f6⟩
    rintro σ' H4 ⟨od, dd, rfl, hod, hpd, D4, f4⟩
    have f04 := f02.trans f4
    refine ⟨_, rfl, d, 6, rfl, D4, by decide, by decide, fun kind H5 k0 k6 D5 f5 => ?_⟩
    have f05 := f04.trans f5
    have ht5 := f05.tups _ _ ht
    have hA5 := hA.frm f05
    have hod5 := hod.frm f5
    refine ⟨_, rfl, _, _, rfl, rfl, _, rfl, ?_⟩
    refine iteD (fun hk4 => ?_) (fun hk4 => ?_)
    · -- cut and put together
      refine ⟨fun v H' => ∃ p ys es, v = .ref p ∧ H' p = some (.tup ys) ∧ ImAll H' ys es ∧ partsD (2 * n + 1) es ∧ Same H5 H', ?_, ?_⟩
      · refine ⟨_, rfl, _, rfl, _, rfl, cutP ht5 hA5 hp fun p1 y1 e1 H6 s6 h1 i1 q1 => ?_⟩
        refine ⟨_, rfl, _, rfl, _, _, rfl, rfl, _, rfl, cutP2 (s6 _ _ ht5) (hA5.same s6) hp fun p2 y2 e2 H7 s7 h2 i2 q2 => ?_⟩
        exact catP (s7 _ _ h1) h2 (i1.same s7) i2 q1 q2 (by omega) fun p z H8 s8 h3 i3 q3 => ⟨p, z, _, rfl, h3, i3, q3.mono (by omega), (s6.trans s7).trans s8⟩
      rintro _ H6 ⟨p1, y1, e1, rfl, h1, i1, q1, s6⟩
      have put : ∀ (Hx : Hp) (b : Addr) (ys : List V) (es : List PyData) (Q' : VK), Same H5 Hx → (∀ p y e H', Same Hx H' → H' p = some (.tup y) → ImAll H' y e → partsD (n + 1) e → Q' (.ref p) H') →
          tOp (rCatA K) (tSl (rSlA K) (tVar 1) tNoPart (tPart (tVar 2))) (tTup (tCons (tVar 4) tNil)) [some (V.ref d), some (.ref t), some (.int at_), some (.int far), some od, some (.int kind)] Hx Q' := by
        intro Hx b ys es Q' sx hk
        refine ⟨_, rfl, _, rfl, _, rfl, cutP (sx _ _ ht5) (hA5.same sx) hp fun pa ya ea Ha sa ha ia qa => ?_⟩
        refine ⟨_, rfl, (by show 1 ≤ sizeLine; decide), fun o ho => ?_⟩
        have sb := Same.upd_new (o := .tup [od]) ho
        exact catP (sb _ _ ha) upd_same (ia.same sb) (.cons (((hod5.same sx).same sa).same sb) .nil) qa hpd (by omega) fun p z Hb sc h3 i3 q3 => hk p z _ Hb ((sa.trans sb).trans sc) h3 i3 q3
      refine ⟨fun v H' => ∃ p ys es, v = .ref p ∧ H' p = some (.tup ys) ∧ ImAll H' ys es ∧ partsD (2 * n + 1) es ∧ Same H6 H', ?_, ?_⟩
      · refine put H6 t [] [] _ s6 fun pa ya ea Ha sa ha ia qa => ?_
        refine ⟨_, rfl, _, rfl, _, _, rfl, rfl, _, rfl, cutP2 ((s6.trans sa) _ _ ht5) (hA5.same (s6.trans sa)) hp fun p2 y2 e2 H7 s7 h2 i2 q2 => ?_⟩
        exact catP (s7 _ _ ha) h2 (ia.same s7) i2 qa q2 (by omega) fun p z H8 s8 h3 i3 q3 => ⟨p, z, _, rfl, h3, i3, q3.mono (by omega), (sa.trans s7).trans s8⟩
      rintro _ H7 ⟨p2, y2, e2, rfl, h2, i2, q2, s7⟩
      have s57 := s6.trans s7
      refine ⟨fun v H' => ∃ p ys es, v = .ref p ∧ H' p = some (.tup ys) ∧ ImAll H' ys es ∧ partsD (2 * n + 1) es ∧ Same H7 H', ?_, ?_⟩
      · refine put H7 t [] [] _ s57 fun pa ya ea Ha sa ha ia qa => ?_
        refine ⟨_, rfl, _, rfl, _, rfl, cutP2 ((s57.trans sa) _ _ ht5) (hA5.same (s57.trans sa)) hp fun p3 y3 e3 H8 s8 h3 i3 q3 => ?_⟩
        exact catP (s8 _ _ ha) h3 (ia.same s8) i3 qa q3 (by omega) fun p z H9 s9 h4 i4 q4 => ⟨p, z, _, rfl, h4, i4, q4.mono (by omega), (sa.trans s8).trans s9⟩
      rintro _ H8 ⟨p3, y3, e3, rfl, h3, i3, q3, s8⟩
      have s58 := s57.trans s8
      refine ⟨fun v H' => ∃ p ys es, v = .ref p ∧ H' p = some (.tup ys) ∧ ImAll H' ys es ∧ partsD (2 * n + 1) es ∧ Same H8 H', ?_, ?_⟩
      · refine ⟨_, rfl, _, rfl, _, rfl, cutP (s58 _ _ ht5) (hA5.same s58) hp fun pa ya ea Ha sa ha ia qa => ?_⟩
        refine ⟨_, rfl, _, rfl, _, _, rfl, rfl, _, rfl, cutP2 ((s58.trans sa) _ _ ht5) (hA5.same (s58.trans sa)) hp fun p4 y4 e4 H9 s9 h4 i4 q4 => ?_⟩
        exact catP (s9 _ _ ha) h4 (ia.same s9) i4 qa q4 (by omega) fun p z Hc sc h5 i5 q5 => ⟨p, z, _, rfl, h5, i5, q5.mono (by omega), (sa.trans s9).trans sc⟩
      rintro _ H9 ⟨p4, y4, e4, rfl, h4, i4, q4, s9⟩
      have s59 := s58.trans s9
      refine ⟨(by show 4 ≤ sizeLine; decide), fun l hl => ?_⟩
      have s10 : Same H9 (upd H9 l (.lst [.ref p1, .ref p2, .ref p3, .ref p4])) := Same.upd_new hl
      have q10 := upd_same (H := H9) (a := l) (o := .lst [.ref p1, .ref p2, .ref p3, .ref p4])
      generalize upd H9 l (.lst [.ref p1, .ref p2, .ref p3, .ref p4]) = H10 at s10 q10 ⊢
      have s510 := s59.trans s10
      have s610 := (s7.trans s8).trans (s9.trans s10)
      have s710 := s8.trans (s9.trans s10)
      have s810 := s9.trans s10
      have fin : ∀ {p : Addr} {ys : List V} {es : List PyData}, H10 p = some (.tup ys) → ImAll H10 ys es → partsD (2 * n + 1) es → Q (.ref p) H10 := fun h i q => k _ _ H10 (.tup h i) (.inl ⟨_, rfl, q⟩) (D5.same s510) (f05.trans (Frm.of_same s510))
      have : kind = 0 ∨ kind = 1 ∨ kind = 2 ∨ kind = 3 := by omega
      rcases this with rfl | rfl | rfl | rfl
      · exact ⟨_, rfl, l, _, 0, .ref p1, rfl, rfl, SqL.of q10, rfl, fin (s610 _ _ h1) (i1.same s610) q1⟩
      · exact ⟨_, rfl, l, _, 1, .ref p2, rfl, rfl, SqL.of q10, rfl, fin (s710 _ _ h2) (i2.same s710) q2⟩
      · exact ⟨_, rfl, l, _, 2, .ref p3, rfl, rfl, SqL.of q10, rfl, fin (s810 _ _ h3) (i3.same s810) q3⟩
      · exact ⟨_, rfl, l, _, 3, .ref p4, rfl, rfl, SqL.of q10, rfl, fin (s10 _ _ h4) (i4.same s10) q4⟩
    · -- turned round, or another thing
      refine ⟨_, rfl, t, _, rfl, SqT.of ht5, fun p1 hp1 => ?_⟩
      have s6 : Same H5 (upd H5 p1 (.tup xs.reverse)) := Same.upd_new hp1
      have q6 := upd_same (H := H5) (a := p1) (o := .tup xs.reverse)
      generalize upd H5 p1 (.tup xs.reverse) = H6 at s6 q6 ⊢
      refine ⟨(by show 0 ≤ sizeLine; decide), fun e he => ?_⟩
      have s7 : Same H6 (upd H6 e (.tup [])) := Same.upd_new he
      have q7 := upd_same (H := H6) (a := e) (o := .tup [])
      generalize upd H6 e (.tup []) = H7 at s7 q7 ⊢
      refine ⟨(by show 5 ≤ sizeLine; decide), fun l hl => ?_⟩
      have s8 : Same H7 (upd H7 l (.lst [.ref e, .int 0, .non, .str "0", .bl true])) := Same.upd_new hl
      have q8 := upd_same (H := H7) (a := l) (o := .lst [.ref e, .int 0, .non, .str "0", .bl true])
      have s58 := (s6.trans s7).trans s8
      have nld := (D5.same (s6.trans s7)).ne_new hl
      generalize upd H7 l (.lst [.ref e, .int 0, .non, .str "0", .bl true]) = H8 at s8 q8 s58 ⊢
      refine ⟨_, rfl, d, 5, rfl, D5.same s58, by decide, by decide, fun j H9 j0 j5 D9 f9 => ?_⟩
      have q9 := f9 _ _ q8 (by simp [nld])
      obtain ⟨v, dv, hv, hsp, hat⟩ : ∃ v dv, Im H9 v dv ∧ SpD (2 * n + 1) dv ∧ atI [V.ref e, .int 0, .non, .str "0", .bl true] j = some v := by
        have : j = 0 ∨ j = 1 ∨ j = 2 ∨ j = 3 ∨ j = 4 := by omega
        rcases this with rfl | rfl | rfl | rfl | rfl
        · exact ⟨_, .tuple [], .tup (f9.tups _ _ (s8 _ _ q7)) .nil, .inl ⟨[], rfl, Nat.zero_le _, fun e he => by cases he⟩, rfl⟩
        · exact ⟨_, _, .int _, .inr (.inl rfl), rfl⟩
        · exact ⟨_, _, .non, .inr (.inr (.inl rfl)), rfl⟩
        · exact ⟨_, _, .str _, .inr (.inr (.inr (.inl rfl))), rfl⟩
        · exact ⟨_, _, .bl _, .inr (.inr (.inr (.inr rfl))), rfl⟩
      refine ⟨l, _, j, v, rfl, rfl, SqL.of q9, hat, (by show 2 ≤ sizeLine; decide), fun l2 hl2 => ?_⟩
      have s10 : Same H9 (upd H9 l2 (.lst [.ref p1, v])) := Same.upd_new hl2
      have q10 := upd_same (H := H9) (a := l2) (o := .lst [.ref p1, v])
      have n2 := D9.ne_new hl2
      generalize upd H9 l2 (.lst [.ref p1, v]) = H10 at s10 q10 ⊢
      have f510 := ((Frm.of_same (S := [d]) s58).trans f9).trans (Frm.of_same s10)
      have : kind = 4 ∨ kind = 5 := by omega
      rcases this with rfl | rfl
      · refine ⟨_, rfl, _, _, rfl, rfl, l2, _, 0, .ref p1, rfl, rfl, SqL.of q10, rfl, k _ (.tuple ds.reverse) H10 ?_ (.inl ⟨_, rfl, by rw [List.length_reverse]; omega, fun e he => hp.2 e (List.mem_reverse.mp he)⟩) (D9.same s10) (f05.trans f510)⟩
        exact .tup (s10 _ _ (f9.tups _ _ (s8 _ _ (s7 _ _ q6)))) (im_rev (hA5.frm f510))
      · exact ⟨_, rfl, _, _, rfl, rfl, l2, _, 1, v, rfl, rfl, SqL.of q10, rfl, k _ dv H10 (hv.same s10) hsp (D9.same s10) (f05.trans f510)⟩

end
end TL

namespace TL
open PySem PySem.Spec PyProof.Rows L2
section
variable {P : Program} {w : World} {K : PySem.W.Frag} {mg : Str → Option Value} {base : Heap}
def sp_Marks_init (T : Txt K mg) : Sp := fun vs H Q _ => ∃ (p dx : Addr), vs = [.ref p] ∧ H p = some (.ins T.C_Marks dx []) ∧
  ∀ (ad : MAd) (H' : Hp), ad.m = p → (∀ Z, MarksAt T.C_Marks Z H' ad .new) → (∀ x ∈ ad.all, H x = none) → Frm [p] H H' → Q .non H'
theorem ok_Marks_init (T : Txt K mg) : FnOk P w K mg base CX0 1 T.a_Marks_init T.fd_Marks_init P_Marks_init (sp_Marks_init T) := by
  skip
  refine T.F_Marks_init.ok sc_Marks_init (fun vs H Q E h => ?_) (fun cdv A outer s H vs Q E hr h => ?_)
  · obtain ⟨p, dx, rfl, _⟩ := h
    rfl
  · obtain ⟨p, dx, rfl, hp, k⟩ := h
    refine ⟨_, (pss_cons (ps_fld (pv 0) pe_dnewK rfl)
    (pss_cons (ps_fld (pv 0) pe_dnewK rfl)
    (pss_cons (ps_fld (pv 0) pe_dnewK rfl)
    (pss_one (ps_fld (pv 0) pe_dnewK rfl))))), ?_⟩
    intro w hw
    have npw := ne_of_none hp hw
    have p1 : (upd H w (.dK [])) p = some (.ins T.C_Marks dx (mkN.zip [])) := by rw [upd_ne npw]; exact hp
    refine ⟨_, rfl, p, _, dx, _, rfl, p1, T.cl_Marks, T.no_Marks_waits, (by decide), ?_⟩
    rw [zip_add mkN_nd rfl]
    intro u hu
    have npu : p ≠ u := ne_of_none upd_same hu
    refine ⟨_, rfl, p, _, dx, _, rfl, (by rw [upd_ne npu]; exact upd_same), T.cl_Marks, T.no_Marks_until, zip_small (by decide), ?_⟩
    rw [zip_add mkN_nd rfl]
    intro r hr
    have npr : p ≠ r := ne_of_none upd_same hr
    refine ⟨_, rfl, p, _, dx, _, rfl, (by rw [upd_ne npr]; exact upd_same), T.cl_Marks, T.no_Marks_runs, zip_small (by decide), ?_⟩
    rw [zip_add mkN_nd rfl]
    intro t ht
    have npt : p ≠ t := ne_of_none upd_same ht
    refine ⟨_, rfl, p, _, dx, _, rfl, (by rw [upd_ne npt]; exact upd_same), T.cl_Marks, T.no_Marks_tries, zip_small (by decide), ?_⟩
    rw [zip_add mkN_nd rfl]
    -- what stands now
    have f1 : Frm [p] H (upd H w (.dK [])) := Frm.new hw
    have f2 := f1.trans (Frm.updI (o := .ins T.C_Marks dx (mkN.zip [.ref w])) p1)
    have f3 := f2.trans (Frm.new (o := .dK []) hu)
    have p3 : (upd (upd (upd H w (.dK [])) p (.ins T.C_Marks dx (mkN.zip [.ref w]))) u (.dK [])) p = some (.ins T.C_Marks dx (mkN.zip [.ref w])) := by rw [upd_ne npu]; exact upd_same
    have f4 := f3.trans (Frm.updI (o := .ins T.C_Marks dx (mkN.zip [.ref w, .ref u])) p3)
    have f5 := f4.trans (Frm.new (o := .dK []) hr)
    have p5 : (upd (upd (upd (upd (upd H w (.dK [])) p (.ins T.C_Marks dx (mkN.zip [.ref w]))) u (.dK [])) p (.ins T.C_Marks dx (mkN.zip [.ref w, .ref u]))) r (.dK [])) p = some (.ins T.C_Marks dx (mkN.zip [.ref w, .ref u])) := by rw [upd_ne npr]; exact upd_same
    have f6 := f5.trans (Frm.updI (o := .ins T.C_Marks dx (mkN.zip [.ref w, .ref u, .ref r])) p5)
    have f7 := f6.trans (Frm.new (o := .dK []) ht)
    have p7 : (upd (upd (upd (upd (upd (upd (upd H w (.dK [])) p (.ins T.C_Marks dx (mkN.zip [.ref w]))) u (.dK [])) p (.ins T.C_Marks dx (mkN.zip [.ref w, .ref u]))) r (.dK [])) p (.ins T.C_Marks dx (mkN.zip [.ref w, .ref u, .ref r]))) t (.dK [])) p = some (.ins T.C_Marks dx (mkN.zip [.ref w, .ref u, .ref r])) := by rw [upd_ne npt]; exact upd_same
    have f8 := f7.trans (Frm.updI (o := .ins T.C_Marks dx (mkN.zip [.ref w, .ref u, .ref r, .ref t])) p7)
    -- the four are different
    have huw : (upd (upd H w (.dK [])) p (.ins T.C_Marks dx (mkN.zip [.ref w]))) w = some (.dK []) := by rw [upd_ne (Ne.symm npw)]; exact upd_same
    have nwu : w ≠ u := ne_of_none huw hu
    have g3w : (upd (upd (upd (upd H w (.dK [])) p (.ins T.C_Marks dx (mkN.zip [.ref w]))) u (.dK [])) p (.ins T.C_Marks dx (mkN.zip [.ref w, .ref u]))) w = some (.dK []) := by rw [upd_ne (Ne.symm npw), upd_ne nwu]; exact huw
    have g3u : (upd (upd (upd (upd H w (.dK [])) p (.ins T.C_Marks dx (mkN.zip [.ref w]))) u (.dK [])) p (.ins T.C_Marks dx (mkN.zip [.ref w, .ref u]))) u = some (.dK []) := by rw [upd_ne (Ne.symm npu)]; exact upd_same
    have nwr : w ≠ r := ne_of_none g3w hr
    have nur : u ≠ r := ne_of_none g3u hr
    have g5w : (upd (upd (upd (upd (upd (upd H w (.dK [])) p (.ins T.C_Marks dx (mkN.zip [.ref w]))) u (.dK [])) p (.ins T.C_Marks dx (mkN.zip [.ref w, .ref u]))) r (.dK [])) p (.ins T.C_Marks dx (mkN.zip [.ref w, .ref u, .ref r]))) w = some (.dK []) := by rw [upd_ne (Ne.symm npw), upd_ne nwr]; exact g3w
    have g5u : (upd (upd (upd (upd (upd (upd H w (.dK [])) p (.ins T.C_Marks dx (mkN.zip [.ref w]))) u (.dK [])) p (.ins T.C_Marks dx (mkN.zip [.ref w, .ref u]))) r (.dK [])) p (.ins T.C_Marks dx (mkN.zip [.ref w, .ref u, .ref r]))) u = some (.dK []) := by rw [upd_ne (Ne.symm npu), upd_ne nur]; exact g3u
    have g5r : (upd (upd (upd (upd (upd (upd H w (.dK [])) p (.ins T.C_Marks dx (mkN.zip [.ref w]))) u (.dK [])) p (.ins T.C_Marks dx (mkN.zip [.ref w, .ref u]))) r (.dK [])) p (.ins T.C_Marks dx (mkN.zip [.ref w, .ref u, .ref r]))) r = some (.dK []) := by rw [upd_ne (Ne.symm npr)]; exact upd_same
    have nwt := ne_of_none g5w ht
    have nut := ne_of_none g5u ht
    have nrt := ne_of_none g5r ht
    refine k ⟨p, w, u, r, t⟩ _ rfl (fun Z => ⟨⟨dx, upd_same⟩, DictM.new ?_, DictM.new ?_, DictM.new ?_, ⟨fun _ => none, DictM.new ?_, fun _ => .inl ⟨rfl, rfl⟩⟩, nwu, nwr, nwt, nur, nut, nrt⟩) ?_ f8
    · show upd _ p _ w = _
      rw [upd_ne (Ne.symm npw), upd_ne nwt]; exact g5w
    · show upd _ p _ u = _
      rw [upd_ne (Ne.symm npu), upd_ne nut]; exact g5u
    · show upd _ p _ r = _
      rw [upd_ne (Ne.symm npr), upd_ne nrt]; exact g5r
    · show upd _ p _ t = _
      rw [upd_ne (Ne.symm npt)]; exact upd_same
    · intro x hx
      simp [MAd.all] at hx
      rcases hx with rfl | rfl | rfl | rfl
      · exact hw
      · exact f2.free hu
      · exact f4.free hr
      · exact f6.free ht

end
end TL

namespace TL
open PySem PySem.Spec PyProof.Rows L2
section
variable {P : Program} {w : World} {K : PySem.W.Frag} {mg : Str → Option Value} {base : Heap}
def sp_Marks_bad (T : Txt K mg) : Sp := fun vs H Q E => ∃ (Z : List Addr) (ad : MAd) (s : MkS) (y : V) (dy : PyData), vs = [.ref ad.m, y] ∧ MarksAt T.C_Marks Z H ad s ∧ Dp K H y dy ∧ (∀ ds, dy ≠ .list ds) ∧
  (between dy 0 1000000 = false → E (.ref T.C_BadCount) none H) ∧
  (∀ f, dy = .int f → 0 ≤ f → f ≤ 1000000 → ∀ (p : Addr) (H' : Hp), H p = none → H' p = some (.lst ((badF s f).map V.int)) → Same H H' → Q (.ref p) H')
theorem ok_Marks_bad (T : Txt K mg) : FnOk P w K mg base (L2.CX P w) 2 T.a_Marks_bad T.fd_Marks_bad P_Marks_bad (sp_Marks_bad T) := by
  have G_is_between := ok_is_between (P := P) (w := w) (base := base) T
  refine T.F_Marks_bad.okX sc_Marks_bad (fun vs H Q E h => ?_) (fun cdv A outer s H vs Q E hr h => ?_)
  · obtain ⟨Z, ad, s, y, dy, rfl, _⟩ := h
    rfl
  · obtain ⟨Z, ad, sk, y, dy, rfl, M, hy, nl, k1, k2⟩ := h
    have hu := hu_of hr
    refine ⟨_, (pss_cons (ps_if (pt_not (pt_val (pe_call G_is_between (hr.mono (by decide)) rfl T.g_is_between T.F_is_between.kp T.b_is_between .nil pass0 (pa_cons (pv 1) (pa_cons pe_int (pa_cons (pe_glob (v := .int 1000000) rfl T.v_MOST_FRAME ⟨_, rfl⟩) pa_nil))))))
      (pss_one (ps_raise rfl (takes_of rfl rfl rfl rfl) (pmk_own PySem.F.excBase_ValueError T.x_BadCount T.c_BadCount T.k_BadCount (raises_own T.s_BadCount T.t_BadCount) rfl)))
      pss_nil)
    (pss_one (ps_ret (pe_lc (own := [("manner", 2)]) (g := (gName 2)) (tt := (tTest (tOp (rI0 fun i j => .bl (decide (i ≤ j))) (tVar 1) (tDGet (tFld K (tVar 0) "until") (tVar 2))))) (te := (tVar 2)) rfl sc_Marks_bad.nd (pi_list (pe_callB (call_sortedDI rfl) (by rfl) T.n_sorted (by decide +kernel) (pa_cons (pe_fld (pv 0) rfl) pa_nil))) (blkOk_by (own := [("manner", 2)]) (N := N_Marks_bad) (sc := defScope s_Marks_bad) (by decide +kernel)) (fun _ _ _ _ _ => (pg_name (i := 2) sc_Marks_bad.nd rfl (by first | exact Or.inl rfl | exact Or.inr rfl))) (fun _ _ _ _ _ => (pts_one (pt_cmpR op_le (pv 1) (pe_dget hu (pe_fld (pv 0) rfl) (pv 2) (fun _ _ => rfl)) (nomark _)))) (fun _ _ _ _ _ => (pv 2)))))), ?_⟩
    refine ⟨_, rfl, y, dy, 0, 1000000, rfl, hy, nl, _, rfl, ?_⟩
    refine iteB (fun hb => k1 (by simpa using hb)) (fun hb => ?_)
    have hb : between dy 0 1000000 = true := by simpa using hb
    cases dy with
    | int f =>
      cases hy
      have hf : 0 ≤ f ∧ f ≤ 1000000 := by simpa [between] using hb
      obtain ⟨⟨dx, ho⟩, _⟩ := id M
      obtain ⟨kvs, ks, hd, hks, hlt, hsort⟩ := until_keys M.u
      refine ⟨_, rfl, _, T.C_Marks, _, _, _, rfl, ho, T.cl_Marks, T.no_Marks_until, zip_lookup mkN_nd (i := 1) rfl rfl, ad.u, kvs, ks, rfl, Rd.of hd, hks, hlt, fun ys q hp hs hq => ?_⟩
      have e1 := hsort ys hp hs
      have s1 : Same H (upd H q (.lst (ys.map V.int))) := Same.upd_new hq
      refine ⟨q, rfl, ⟨_, SqL.of upd_same⟩, fun D hD => ?_⟩
      have s2 := s1.trans (Same.upd_new (o := .lst []) hD)
      have hDH := s1.free hD
      have nqD : q ≠ D := fun e => by rw [← e, upd_same] at hD; cases hD
      refine lc_list (K := K) (a := q) (xs := ys.map V.int) (fun i H2 => Same H H2 ∧ H2 q = some (.lst (ys.map V.int)) ∧ H2 D = some (.lst (((ys.take i).filter fun i => match sk.untl i with | some u => decide (f ≤ u) | none => false).map V.int)))
        ⟨s2, by rw [upd_ne nqD]; exact upd_same, upd_same⟩ (fun i H2 _ ⟨_, h2, _⟩ => SqL.of h2) ?_ ?_
      · rintro i v H2 hi ⟨s3, hq2, hD2⟩
        obtain ⟨m, hm, rfl⟩ := getmap hi
        have hil : i < ys.length := (List.getElem?_eq_some_iff.mp hm).1
        have hmy : m ∈ ys := List.mem_of_getElem? hm
        rw [e1, List.mem_filter] at hmy
        obtain ⟨u, hu2⟩ := Option.isSome_iff_exists.mp hmy.2
        have M2 := M.same s3
        obtain ⟨⟨dx2, ho2⟩, _⟩ := id M2
        have hg := M2.u.get m
        rw [hu2] at hg
        have hyl : ys.length ≤ 9 := by rw [e1]; exact List.length_filter_le _ _
        refine ⟨rfl, _, rfl, _, rfl, _, T.C_Marks, _, _, _, rfl, ho2, T.cl_Marks, T.no_Marks_until, zip_lookup mkN_nd (i := 1) rfl rfl, _, rfl, ad.u, .int u, rfl, hg, _, _, rfl, rfl, _, rfl, ?_⟩
        have htk := take_more hm
        refine iteD (fun hle => ?_) (fun hle => ⟨s3, hq2, ?_⟩)
        · refine ⟨_, rfl, _, hD2, ?_, ((Frm.of_same s3).own hDH (Frm.updL hD2)).same, by rw [upd_ne nqD]; exact hq2, ?_⟩
          · rw [List.length_map]
            have := List.length_filter_le (fun i => match sk.untl i with | some u => decide (f ≤ u) | none => false) (ys.take i)
            have := List.length_take_le i ys
            exact small1000 (by omega)
          · rw [upd_same, htk, List.filter_append, List.map_append]
            simp [List.filter, hu2, hle]
        · rw [hD2, htk, List.filter_append]
          simp [List.filter, hu2, hle]
      · rintro H2 ⟨s3, hq2, hD2⟩
        rw [List.length_map, List.take_length] at hD2
        refine k2 f rfl hf.1 hf.2 D H2 hDH ?_ s3
        rw [hD2, e1]
        congr 3
        unfold badF
        rw [List.filter_filter]
        apply List.filter_congr
        intro x _
        cases sk.untl x <;> simp
    | _ => exact absurd hb (by simp [between])

end
end TL

namespace TL
open PySem PySem.Spec PyProof.Rows L2
section
variable {P : Program} {w : World} {K : PySem.W.Frag} {mg : Str → Option Value} {base : Heap}
def sp_Marks_note (T : Txt K mg) : Sp := fun vs H Q E => ∃ (Z : List Addr) (ad : MAd) (s : MkS) (x y : V) (dx dy : PyData) (b : Bool), vs = [.ref ad.m, x, .bl b, y] ∧ MarksAt T.C_Marks Z H ad s ∧ Alloc Z H ∧ (∀ z ∈ ad.all, z ∈ Z) ∧ Dp K H x dx ∧ (∀ ds, dx ≠ .list ds) ∧ Dp K H y dy ∧ (∀ ds, dy ≠ .list ds) ∧
  (between dx 1 9 = false → E (.ref T.C_BadManners) none H) ∧ (between dx 1 9 = true → between dy 0 1000000 = false → E (.ref T.C_BadCount) none H) ∧
  (∀ m f, dx = .int m → dy = .int f → 1 ≤ m → m ≤ 9 → 0 ≤ f → f ≤ 1000000 → ∀ H', MarksAt T.C_Marks Z H' ad (noteF s m b f) → Frm ad.all H H' → Q (.bl (isMarked s m b)) H')
theorem ok_Marks_note (T : Txt K mg) : FnOk P w K mg base (L2.CX P w) 3 T.a_Marks_note T.fd_Marks_note P_Marks_note (sp_Marks_note T) := by
  have G_need_manner := ok_need_manner (P := P) (w := w) (base := base) T
  have G_is_between := ok_is_between (P := P) (w := w) (base := base) T
  refine T.F_Marks_note.okX sc_Marks_note (fun vs H Q E h => ?_) (fun cdv A outer s H vs Q E hr h => ?_)
  · obtain ⟨Z, ad, s, x, y, dx, dy, b, rfl, _⟩ := h
    rfl
  · obtain ⟨Z, ad, sk, x, y, dx, dy, b, rfl, M, AZ, hsub, hx, nlx, hy, nly, k1, k2, k3⟩ := h
    have hu := hu_of hr
    refine ⟨_, (pss_cons (ps_expr (pe_call G_need_manner (hr.mono (by decide)) rfl T.g_need_manner T.F_need_manner.kp T.b_need_manner .nil (passes_call (takes_of rfl rfl rfl rfl) (fun _ _ _ _ h => h)) (pa_cons (pv 1) pa_nil)))
    (pss_cons (ps_if (pt_not (pt_val (pe_call G_is_between (hr.mono (by decide)) rfl T.g_is_between T.F_is_between.kp T.b_is_between .nil pass0 (pa_cons (pv 3) (pa_cons pe_int (pa_cons (pe_glob (v := .int 1000000) rfl T.v_MOST_FRAME ⟨_, rfl⟩) pa_nil))))))
      (pss_one (ps_raise rfl (takes_of rfl rfl rfl rfl) (pmk_own PySem.F.excBase_ValueError T.x_BadCount T.c_BadCount T.k_BadCount (raises_own T.s_BadCount T.t_BadCount) rfl)))
      pss_nil)
    (pss_cons (ps_dput hu (pe_fld (pv 0) rfl) (pv 1) (pe_slice sl_list (pe_op op_cat (pe_dget2 hu (pe_fld (pv 0) rfl) (pv 1) (pe_lst pa_nil) ⟨rfl, rfl, rfl, rfl⟩) (pe_lst (pa_cons (pv 2) pa_nil))) (po_some (pe_op op_sub pe_int (pe_glob (v := .int 6) rfl T.v_LAST ⟨_, rfl⟩))) po_none) rfl)
    (pss_cons (ps_cut (ps_dput hu (pe_fld (pv 0) rfl) (pv 1) (pe_ifExp (pt_val (pv 2)) (pe_op op_add (pe_dget2 hu (pe_fld (pv 0) rfl) (pv 1) pe_int ⟨rfl, rfl, rfl, rfl⟩) pe_int) pe_int) rfl))
    (pss_cons (ps_cut (ps_if (pt_cmpR op_eq (pe_dget hu (pe_fld (pv 0) rfl) (pv 1) (fun _ _ => rfl)) (pe_glob (v := .int 32) rfl T.v_STAYS ⟨_, rfl⟩) (nomark _))
      (pss_one (ps_dput hu (pe_fld (pv 0) rfl) (pv 1) (pe_glob (v := .int 16) rfl T.v_FIRST ⟨_, rfl⟩) rfl))
      pss_nil))
    (pss_cons (ps_if (pt_cmpR op_lt (pe_bm PySem.F.plainAttrs_list PySem.F.slot_list_count PySem.F.type_list_count mt_countF (pe_dget hu (pe_fld (pv 0) rfl) (pv 1) (fun _ _ => rfl)) (pa_cons pe_bl pa_nil)) (pe_glob (v := .int 3) rfl T.v_LOST ⟨_, rfl⟩) (nomark _))
      (pss_one (ps_ret pe_bl))
      pss_nil)
    (pss_cons (ps_set (i := 4) sc_Marks_note.nd rfl (by first | exact Or.inl rfl | exact Or.inr rfl) (pe_dget2 hu (pe_fld (pv 0) rfl) (pv 1) (pe_glob (v := .int 16) rfl T.v_FIRST ⟨_, rfl⟩) ⟨rfl, rfl, rfl, rfl⟩))
    (pss_cons (ps_dput hu (pe_fld (pv 0) rfl) (pv 1) (pe_callB (call_max2 rfl) (by rfl) T.n_max (by decide +kernel) (pa_cons (pe_dget2 hu (pe_fld (pv 0) rfl) (pv 1) pe_int ⟨rfl, rfl, rfl, rfl⟩) (pa_cons (pe_op op_add (pv 3) (pv 4)) pa_nil))) rfl)
    (pss_cons (ps_dput hu (pe_fld (pv 0) rfl) (pv 1) (pe_callB (call_min2 rfl) (by rfl) T.n_min (by decide +kernel) (pa_cons (pe_glob (v := .int 256) rfl T.v_LONGEST ⟨_, rfl⟩) (pa_cons (pe_op op_mul pe_int (pv 4)) pa_nil))) rfl)
    (pss_cons (ps_dput hu (pe_fld (pv 0) rfl) (pv 1) (pe_lst pa_nil) rfl)
    (pss_one (ps_ret pe_bl)))))))))))), ?_⟩
    refine ⟨_, rfl, x, dx, rfl, hx, nlx, fun gx => ?_, k1⟩
    refine ⟨_, rfl, y, dy, 0, 1000000, rfl, hy, nly, _, rfl, ?_⟩
    refine iteB (fun hb => k2 gx (by simpa using hb)) (fun hb => ?_)
    have gy : between dy 0 1000000 = true := by simpa using hb
    obtain ⟨m, rfl, hm1, hm9⟩ : ∃ m, dx = .int m ∧ 1 ≤ m ∧ m ≤ 9 := by
      cases dx with
      | int m => exact ⟨m, rfl, by simpa [between] using gx⟩
      | _ => exact absurd gx (by simp [between])
    obtain ⟨f, rfl, hf0, hf1⟩ : ∃ f, dy = .int f ∧ 0 ≤ f ∧ f ≤ 1000000 := by
      cases dy with
      | int f => exact ⟨f, rfl, by simpa [between] using gy⟩
      | _ => exact absurd gy (by simp [between])
    cases hx; cases hy
    have k := k3 m f rfl rfl hm1 hm9 hf0 hf1
    -- tries
    obtain ⟨⟨dm, ho⟩, _⟩ := id M
    refine ⟨_, rfl, _, T.C_Marks, _, _, _, rfl, ho, T.cl_Marks, T.no_Marks_tries, zip_lookup mkN_nd (i := 3) rfl rfl, ad.t, rfl, (by obtain ⟨ta, ht, _⟩ := M.t; exact ht.isD), _, rfl, (by show 0 ≤ sizeLine; decide), fun e he => ?_⟩
    have s1 : Same H (upd H e (.lst [])) := Same.upd_new he
    have M1 := M.same s1
    obtain ⟨ta, ht, hls⟩ := id M1.t
    refine ⟨_, ht.get m, ?_⟩
    obtain ⟨l0, hl0, hc0, hb0⟩ : ∃ l0, ((fun i => (ta i).map V.ref) m).getD (.ref e) = .ref l0 ∧ (upd H e (.lst [])) l0 = some (.lst (((sk.tries m).getD []).map V.bl)) ∧ ((sk.tries m).getD []).length ≤ 6 := by
      rcases hls m with ⟨q1, q2⟩ | ⟨l, bs, q1, q2, q3, _, q4⟩
      · refine ⟨e, by simp [q1], ?_, ?_⟩
        · rw [q2]; exact upd_same
        · rw [q2]; exact Nat.zero_le _
      · refine ⟨l, by simp [q1], ?_, ?_⟩
        · rw [q2]; exact q3
        · rw [q2]; exact q4
    rw [hl0]
    refine ⟨_, rfl, (by show 1 ≤ sizeLine; decide), fun q hq => ?_⟩
    have s2 := Same.upd_new (o := .lst [.bl b]) hq
    refine ⟨l0, q, _, _, rfl, rfl, s2 _ _ hc0, upd_same, by rw [List.length_map]; exact Nat.le_of_lt (small1000 (by simp; omega)), fun c hc => ?_⟩
    have s3 := Same.upd_new (o := .lst (((sk.tries m).getD []).map V.bl ++ [.bl b])) hc
    refine ⟨_, _, rfl, rfl, _, rfl, c, _, rfl, SqL.of upd_same, fun l hl => ?_⟩
    have s4 := Same.upd_new (o := .lst (cutV (((sk.tries m).getD []).map V.bl ++ [.bl b]) (some (0 - 6)) none)) hl
    have s14 := ((s1.trans s2).trans s3).trans s4
    have M4 := M.same s14
    have hl4 : (upd (upd (upd (upd H e (.lst [])) q (.lst [.bl b])) c (.lst (((sk.tries m).getD []).map V.bl ++ [.bl b]))) l (.lst (cutV (((sk.tries m).getD []).map V.bl ++ [.bl b]) (some (0 - 6)) none))) l = some (.lst ((triesOf sk m b).map V.bl)) := by
      rw [upd_same, cut6]
      have e1 : ((sk.tries m).getD []).map V.bl ++ [.bl b] = ((sk.tries m).getD [] ++ [b]).map V.bl := by simp
      rw [e1, last6_map]
      rfl
    have hlZ : l ∉ Z := AZ.not (((s1.trans s2).trans s3).free hl)
    obtain ⟨H5, d5, M5, f5, hl5⟩ := M4.put_t hm1 hm9 hl4 hlZ (last6_len _)
    obtain ⟨⟨dm4, ho4⟩, _⟩ := id M4
    refine ⟨_, rfl, _, T.C_Marks, _, _, _, rfl, ho4, T.cl_Marks, T.no_Marks_tries, zip_lookup mkN_nd (i := 3) rfl rfl, _, rfl, ad.t, H5, rfl, d5, ?_⟩
    have F5 : Frm ad.all H H5 := (Frm.of_same s14).trans f5
    -- runs
    obtain ⟨⟨dm5, ho5⟩, _⟩ := id M5
    obtain ⟨H6, d6, M6, f6⟩ := M5.put_r hm1 hm9 (runOf sk m b)
    refine ⟨fun σ' H' => σ' = [some (.ref ad.m), some (.int m), some (.bl b), some (.int f), none] ∧ H' = H6, ?_, ?_⟩
    · refine ⟨_, rfl, ?_⟩
      cases b with
      | false =>
        refine ⟨_, rfl, ?_⟩
        refine iteB (fun z => by cases z) fun _ => ?_
        exact ⟨_, rfl, _, T.C_Marks, _, _, _, rfl, ho5, T.cl_Marks, T.no_Marks_runs, zip_lookup mkN_nd (i := 2) rfl rfl, _, rfl, ad.r, H6, rfl, d6, rfl, rfl⟩
      | true =>
        refine ⟨_, rfl, ?_⟩
        refine iteB (fun _ => ?_) fun z => by cases z
        refine ⟨_, rfl, _, T.C_Marks, _, _, _, rfl, ho5, T.cl_Marks, T.no_Marks_runs, zip_lookup mkN_nd (i := 2) rfl rfl, ad.r, rfl, M5.r.isD, _, rfl, _, M5.r.get m, ?_⟩
        have er : ((fun i => (sk.run i).map V.int) m).getD (.int 0) = .int ((sk.run m).getD 0) := by
          show ((sk.run m).map V.int).getD (.int 0) = _
          cases sk.run m <;> rfl
        refine ⟨_, _, er, rfl, ?_⟩
        exact ⟨_, rfl, _, T.C_Marks, _, _, _, rfl, ho5, T.cl_Marks, T.no_Marks_runs, zip_lookup mkN_nd (i := 2) rfl rfl, _, rfl, ad.r, H6, rfl, d6, rfl, rfl⟩
    rintro σ' H' ⟨rfl, rfl⟩
    have F6 := F5.trans f6
    -- the wait is sixteen again
    refine ⟨fun σ' H' => σ' = [some (.ref ad.m), some (.int m), some (.bl b), some (.int f), none] ∧ MarksAt T.C_Marks Z H' ad ⟨waitsOf sk m b, sk.untl, setA sk.run m (runOf sk m b), setA sk.tries m (triesOf sk m b)⟩ ∧ Frm ad.all H H', ?_, ?_⟩
    · obtain ⟨⟨dm6, ho6⟩, _⟩ := id M6
      have hg : DGet H' ad.r (.int m) (some (.int (runOf sk m b))) := by
        have q := M6.r.get m
        simpa [setA] using q
      refine ⟨_, rfl, _, T.C_Marks, _, _, _, rfl, ho6, T.cl_Marks, T.no_Marks_runs, zip_lookup mkN_nd (i := 2) rfl rfl, _, rfl, ad.r, _, rfl, hg, rfl, _, rfl, ?_⟩
      refine iteD (fun h32 => ?_) (fun h32 => ⟨rfl, ?_, F6⟩)
      · obtain ⟨H7, d7, M7, f7⟩ := M6.put_w hm1 hm9 16
        refine ⟨_, rfl, _, T.C_Marks, _, _, _, rfl, ho6, T.cl_Marks, T.no_Marks_waits, zip_lookup mkN_nd (i := 0) rfl rfl, _, rfl, ad.w, H7, rfl, d7, rfl, ?_, F6.trans f7⟩
        have : waitsOf sk m b = setA sk.wait m 16 := by unfold waitsOf; rw [if_pos (vint_inj.mp h32)]
        rw [this]
        exact M7
      · have : waitsOf sk m b = sk.wait := by unfold waitsOf; rw [if_neg fun z => h32 (by rw [z])]
        rw [this]
        exact M6
    rintro σ' H7 ⟨rfl, M7, F7⟩
    -- marked?
    obtain ⟨⟨dm7, ho7⟩, _⟩ := id M7
    obtain ⟨ta7, ht7, hls7⟩ := id M7.t
    obtain ⟨l7, hl7a, hl7⟩ : ∃ l, ta7 m = some l ∧ H7 l = some (.lst ((triesOf sk m b).map V.bl)) := by
      rcases hls7 m with ⟨_, q⟩ | ⟨l, bs, q1, q2, q3, _⟩
      · simp [setA] at q
      · simp [setA] at q2
        subst q2
        exact ⟨l, q1, q3⟩
    have hg7 : DGet H7 ad.t (.int m) (some (.ref l7)) := by
      have q := ht7.get m
      simpa [hl7a] using q
    refine ⟨_, rfl, _, T.C_Marks, _, _, _, rfl, ho7, T.cl_Marks, T.no_Marks_tries, zip_lookup mkN_nd (i := 3) rfl rfl, _, rfl, ad.t, _, rfl, hg7, .inl ⟨rfl, _, SqL.of hl7⟩, l7, _, _, rfl, rfl, SqL.of hl7, rfl, flat_bls _, _, _, rfl, rfl, _, rfl, ?_⟩
    rw [count_bl]
    have eM : isMarked sk m b = !decide (((triesOf sk m b).count false : Int) < 3) := rfl
    refine iteD (fun hlt => ?_) (fun hge => ?_)
    · have e0 : isMarked sk m b = false := by rw [eM, decide_eq_true hlt]; rfl
      have q := k H7 (by unfold noteF; rw [e0, if_neg (by simp)]; exact M7) F7
      rw [e0] at q
      exact q
    have e1 : isMarked sk m b = true := by rw [eM, decide_eq_false hge]; rfl
    -- the mark
    have ew : ((fun i => ((waitsOf sk m b) i).map V.int) m).getD (.int 16) = .int (((waitsOf sk m b) m).getD 16) := by
      show (((waitsOf sk m b) m).map V.int).getD (.int 16) = _
      cases (waitsOf sk m b) m <;> rfl
    refine ⟨_, rfl, _, T.C_Marks, _, _, _, rfl, ho7, T.cl_Marks, T.no_Marks_waits, zip_lookup mkN_nd (i := 0) rfl rfl, ad.w, rfl, M7.w.isD, _, rfl, _, M7.w.get m, ?_⟩
    rw [ew]
    have eu : ((fun i => (sk.untl i).map V.int) m).getD (.int 0) = .int ((sk.untl m).getD 0) := by
      show ((sk.untl m).map V.int).getD (.int 0) = _
      cases sk.untl m <;> rfl
    refine ⟨_, rfl, _, T.C_Marks, _, _, _, rfl, ho7, T.cl_Marks, T.no_Marks_until, zip_lookup mkN_nd (i := 1) rfl rfl, ad.u, rfl, M7.u.isD, _, rfl, _, M7.u.get m, ?_⟩
    rw [eu]
    refine ⟨_, rfl, _, rfl, _, _, rfl, rfl, _, _, rfl, ?_⟩
    have emax : ∀ i j : Int, (if j > i then j else i) = max i j := fun i j => by split <;> omega
    rw [emax]
    obtain ⟨H8, d8, M8, f8⟩ := M7.put_u hm1 hm9 (max ((sk.untl m).getD 0) (f + ((waitsOf sk m b) m).getD 16))
    refine ⟨_, rfl, _, T.C_Marks, _, _, _, rfl, ho7, T.cl_Marks, T.no_Marks_until, zip_lookup mkN_nd (i := 1) rfl rfl, _, rfl, ad.u, H8, rfl, d8, ?_⟩
    obtain ⟨⟨dm8, ho8⟩, _⟩ := id M8
    refine ⟨_, rfl, _, _, rfl, rfl, .inl ⟨by decide, by decide⟩, _, _, rfl, ?_⟩
    have emin : ∀ i j : Int, (if j < i then j else i) = min i j := fun i j => by split <;> omega
    rw [emin]
    obtain ⟨H9, d9, M9, f9⟩ := M8.put_w hm1 hm9 (min 256 (2 * ((waitsOf sk m b) m).getD 16))
    refine ⟨_, rfl, _, T.C_Marks, _, _, _, rfl, ho8, T.cl_Marks, T.no_Marks_waits, zip_lookup mkN_nd (i := 0) rfl rfl, _, rfl, ad.w, H9, rfl, d9, ?_⟩
    obtain ⟨⟨dm9, ho9⟩, _⟩ := id M9
    have F9 := (F7.trans f8).trans f9
    refine ⟨(by show 0 ≤ sizeLine; decide), fun n hn => ?_⟩
    have M10 := M9.same (Same.upd_new (o := .lst []) hn)
    obtain ⟨H11, d11, M11, f11, _⟩ := M10.put_t (bs := []) hm1 hm9 (l := n) upd_same (AZ.not (F9.free hn)) (Nat.zero_le _)
    obtain ⟨⟨dm10, ho10⟩, _⟩ := id M10
    refine ⟨_, rfl, _, T.C_Marks, _, _, _, rfl, ho10, T.cl_Marks, T.no_Marks_tries, zip_lookup mkN_nd (i := 3) rfl rfl, _, rfl, ad.t, H11, rfl, d11, ?_⟩
    have q := k H11 (by
      unfold noteF
      rw [e1, if_pos rfl]
      have e2 : setA (setA sk.tries m (triesOf sk m b)) m [] = setA sk.tries m [] := by
        funext j
        unfold setA
        split <;> rfl
      have M12 := M11
      simp only [e2] at M12
      exact M12) ((F9.trans (Frm.new hn)).trans f11)
    rw [e1] at q
    exact q

end
end TL

namespace TL
open PySem PySem.Spec PyProof.Rows L2
section
variable {P : Program} {w : World} {K : PySem.W.Frag} {mg : Str → Option Value} {base : Heap}
def sp__law_are_counts (T : Txt K mg) : Sp := fun vs H Q _ => ∃ d, vs = [.ref d] ∧ DiceAt H d ∧ LamX.Tabs T.tl H ∧ Alloc T.ps H ∧ d ∉ T.ps ∧ ∀ H', DiceAt H' d → LamX.Tabs T.tl H' → Frm (d :: T.ps) H H' → Q (.bl true) H'
/-- marks, dice and tables -/
structure IC (T : Txt K mg) (H0 H : Hp) (d : Addr) (m : MAd) (s : MkS) : Prop where
  D : DiceAt H d
  tb : LamX.Tabs T.tl H
  M : MarksAt T.C_Marks (d :: (T.ps ++ m.all)) H m s
  al : Alloc (d :: (T.ps ++ m.all)) H
  f : Frm (d :: T.ps) H0 H
  fr : ∀ x ∈ m.all, H0 x = none
  dm : d ≠ m.m
  dl : d ∉ m.all
  dp : d ∉ T.ps
  pm : m.m ∉ T.ps
  pl : ∀ x ∈ m.all, x ∉ T.ps
section
variable {T : Txt K mg} {H0 H H' : Hp} {d : Addr} {m : MAd} {s : MkS}
theorem IC.same (h : IC T H0 H d m s) (e : Same H H') : IC T H0 H' d m s := ⟨h.D.same e, tabs_same h.tb e, h.M.same e, h.al.frm (Frm.of_same (S := []) e), h.f.trans (Frm.of_same e), h.fr, h.dm, h.dl, h.dp, h.pm, h.pl⟩
theorem IC.dice (h : IC T H0 H d m s) (D : DiceAt H' d) (e : Frm [d] H H') : IC T H0 H' d m s :=
  ⟨D, tabs_dice h.tb h.D e, h.M.frm e (fun x hx => by simp at hx; simp [hx]) (by simp [Ne.symm h.dm]) (fun x hx z => by simp at z; subst z; exact h.dl hx), h.al.frm e, h.f.trans (e.mono fun x hx => by simp at hx; simp [hx]), h.fr, h.dm, h.dl, h.dp, h.pm, h.pl⟩
theorem IC.lam (h : IC T H0 H d m s) {P : Addr} (hP : P ∈ T.ps) (tb : LamX.Tabs T.tl H') (e : Frm [P] H H') : IC T H0 H' d m s :=
  ⟨h.D.frm e (by simp; rintro rfl; exact h.dp hP), tb, h.M.frm e (fun x hx => by simp at hx; subst hx; exact List.mem_cons_of_mem _ (List.mem_append_left _ hP)) (fun z => by simp at z; subst z; exact h.pm hP) (fun x hx z => by simp at z; subst z; exact h.pl x hx hP), h.al.frm e,
    h.f.trans (e.mono fun x hx => by simp at hx; subst hx; exact List.mem_cons_of_mem _ hP), h.fr, h.dm, h.dl, h.dp, h.pm, h.pl⟩
theorem IC.note (h : IC T H0 H d m s) {s' : MkS} (M : MarksAt T.C_Marks (d :: (T.ps ++ m.all)) H' m s') (e : Frm m.all H H') : IC T H0 H' d m s' :=
  ⟨h.D.frm e h.dl, tabs_S h.tb h.M.nox e, M, h.al.frm e, h.f.ownS h.fr e, h.fr, h.dm, h.dl, h.dp, h.pm, h.pl⟩
end
theorem ok__law_are_counts (T : Txt K mg) (TB : LamX.TabB base mg T.lC__law_are_counts T.lP__law_are_counts) : FnOk P w K mg base CX0 7 T.a__law_are_counts T.fd__law_are_counts P__law_are_counts (sp__law_are_counts T) := by
  have G_Marks_init := ok_Marks_init (P := P) (w := w) (base := base) T
  have G_Marks_bad := ok_Marks_bad (P := P) (w := w) (base := base) T
  have G__law_off := ok__law_off (P := P) (w := w) (base := base) T
  have G_Marks_note := ok_Marks_note (P := P) (w := w) (base := base) T
  have G__law_alike := ok__law_alike (P := P) (w := w) (base := base) T 4
  have bnw := T.b__law_word
  obtain ⟨ocw, odw, kVw, dcw, pmw, anw, cdw, ctw, slw, efw, lkw, hcw⟩ := T.F__law_word.ex
  rw [efw] at lkw bnw
  refine T.fl__law_are_counts.ok sc__law_are_counts (fun vs H Q E h => ?_) (fun A outer s H vs Q E hr h => ?_)
  · obtain ⟨d, rfl, _⟩ := h
    rfl
  · obtain ⟨d, rfl, D0, tb0, al0, dp0, k⟩ := h
    have hu64 : (A.deeper (envOfC "_law_are_counts" (defScope s__law_are_counts) s.heap.objs.size T.a__law_are_counts (.ref T.lC__law_are_counts))).units + 64 < cLine := by have := hr.un; omega
    refine ⟨_, (pss_cons (ps_set (i := 1) sc__law_are_counts.nd rfl (by first | exact Or.inl rfl | exact Or.inr rfl) (pe_callB (call_max2 rfl) (by rfl) T.n_max (by decide +kernel) (pa_cons pe_int (pa_cons (pe_op op_sub (pe_call G__law_off (hr.mono (by decide)) rfl T.g__law_off T.F__law_off.kp T.b__law_off .nil pass0 (pa_cons (pv 0) (pa_cons (pe_op op_pow pe_int pe_int) pa_nil))) pe_int) pa_nil))))
    (pss_cons (ps_set (i := 2) sc__law_are_counts.nd rfl (by first | exact Or.inl rfl | exact Or.inr rfl) (pe_make0 T.M_Marks G_Marks_init (hr.mono (by decide)) rfl T.c_Marks T.b_Marks_init .nil pass0))
    (pss_cons (ps_cut (ps_for PassesOwn.never rfl (pi_range1 rfl T.n_range (pa_cons (pe_call G__law_off (hr.mono (by decide)) rfl T.g__law_off T.F__law_off.kp T.b__law_off .nil pass0 (pa_cons (pv 0) (pa_cons pe_int pa_nil))) pa_nil)) (pg_name (i := 3) sc__law_are_counts.nd rfl (by first | exact Or.inl rfl | exact Or.inr rfl))
      (pss_one (ps_expr (pe_meth (pv 2) T.cl_Marks T.m_Marks_note G_Marks_note (hr.mono (by decide)) T.b_Marks_note .nil passL (pa_cons (pe_op op_add pe_int (pe_call G__law_off (hr.mono (by decide)) rfl T.g__law_off T.F__law_off.kp T.b__law_off .nil pass0 (pa_cons (pv 0) (pa_cons pe_int pa_nil)))) (pa_cons (pe_cmpR op_eq (pe_call G__law_off (hr.mono (by decide)) rfl T.g__law_off T.F__law_off.kp T.b__law_off .nil pass0 (pa_cons (pv 0) (pa_cons pe_int pa_nil))) pe_int (nomark _)) (pa_cons (pv 3) pa_nil))))))))
    (pss_cons (ps_set (i := 4) sc__law_are_counts.nd rfl (by first | exact Or.inl rfl | exact Or.inr rfl) (pe_meth (pv 2) T.cl_Marks T.m_Marks_bad G_Marks_bad (hr.mono (by decide)) T.b_Marks_bad .nil passL (pa_cons pe_int pa_nil)))
    (pss_cons (ps_cut (ps_set (i := 5) sc__law_are_counts.nd rfl (by first | exact Or.inl rfl | exact Or.inr rfl) (pe_ix ix_list (pe_lst (pa_cons pe_int (pa_cons pe_int (pa_cons (pe_op op_add pe_int (pv 1)) (pa_cons (pe_op op_sub (pe_un un_neg pe_int) (pv 1)) (pa_cons pe_bl (pa_cons pe_non pa_nil))))))) (pe_call G__law_off (hr.mono (by decide)) rfl T.g__law_off T.F__law_off.kp T.b__law_off .nil pass0 (pa_cons (pv 0) (pa_cons pe_int pa_nil))) (fun _ _ => rfl))))
    (pss_cons (ps_cut (ps_set (i := 3) sc__law_are_counts.nd rfl (by first | exact Or.inl rfl | exact Or.inr rfl) (pe_ix ix_list (pe_lst (pa_cons (pe_un un_neg pe_int) (pa_cons (pe_op op_sub (pe_un un_neg pe_int) (pv 1)) (pa_cons (pe_op op_add (pe_op op_pow pe_int pe_int) pe_int) (pa_cons (pe_op op_add (pe_op op_add (pe_op op_pow pe_int pe_int) pe_int) (pv 1)) pa_nil))))) (pe_call G__law_off (hr.mono (by decide)) rfl T.g__law_off T.F__law_off.kp T.b__law_off .nil pass0 (pa_cons (pv 0) (pa_cons pe_int pa_nil))) (fun _ _ => rfl))))
    (pss_cons (ps_cut (ps_if (pt_cmpR (op_neD hu64) (pe_word (k := 5) (sel := id) known_def rfl T.g__law_word T.F__law_word.kp lkw hcw bnw sc__law_word rfl (.inl rfl) (fun q => gives__law_word T rfl rfl rfl rfl rfl q) (hr.mono (by decide)) (pe_lamF (T := T.tl) TB rfl T.tm__law_are_counts T.tu__law_are_counts (NdefX.ndef_free (fr := []) (by show NdefX.ndefB (defScope s__law_are_counts) _ [] = true; decide +kernel)) rfl)) (pe_tup (pa_cons pe_str (pa_cons pe_int pa_nil))) (nomark _))
      (pss_one (ps_ret pe_bl))
      pss_nil))
    (pss_cons (ps_cut (ps_if (pt_cmpR (op_neD hu64) (pe_lst (pa_cons (pe_word (k := 5) (sel := id) known_def rfl T.g__law_word T.F__law_word.kp lkw hcw bnw sc__law_word rfl (.inl rfl) (fun q => gives__law_word T rfl rfl rfl rfl rfl q) (hr.mono (by decide)) (pe_lamF (T := T.tl) TB rfl T.tm__law_are_counts T.tu__law_are_counts (NdefX.ndef_free (fr := []) (by show NdefX.ndefB (defScope s__law_are_counts) _ [] = true; decide +kernel)) rfl)) (pa_cons (pe_word (k := 5) (sel := id) known_def rfl T.g__law_word T.F__law_word.kp lkw hcw bnw sc__law_word rfl (.inl rfl) (fun q => gives__law_word T rfl rfl rfl rfl rfl q) (hr.mono (by decide)) (pe_lamD (T := T.tl) TB rfl T.tm__law_are_counts T.tu__law_are_counts (NdefX.ndef_free (fr := []) (by show NdefX.ndefB (defScope s__law_are_counts) _ [] = true; decide +kernel)) rfl rfl)) pa_nil))) (pe_op op_rep (pe_lst (pa_cons (pe_tup (pa_cons pe_str (pa_cons pe_int pa_nil))) pa_nil)) pe_int) (nomark _))
      (pss_one (ps_ret pe_bl))
      pss_nil))
    (pss_one (ps_ret (pe_and (pe_call G__law_alike (hr.mono (by decide)) rfl T.g__law_alike T.F__law_alike.kp T.b__law_alike .nil pass0 (pa_cons (pe_meth (pv 2) T.cl_Marks T.m_Marks_bad G_Marks_bad (hr.mono (by decide)) T.b_Marks_bad .nil passL (pa_cons pe_int pa_nil)) (pa_cons (pv 4) pa_nil))) (pe_one (pe_cmpR (op_eqD hu64) (pe_meth (pv 2) T.cl_Marks T.m_Marks_bad G_Marks_bad (hr.mono (by decide)) T.b_Marks_bad .nil passL (pa_cons (pe_op op_pow pe_int pe_int) pa_nil)) (pe_lst pa_nil) (nomark _)))))))))))))), ?_⟩
    refine ⟨_, rfl, _, _, rfl, rfl, ⟨by decide, by decide, by decide⟩, d, _, rfl, D0, by decide, by decide, fun x H2 x0 x1 D2 f2 => ?_⟩
    refine ⟨_, _, rfl, rfl, _, _, rfl, ?_⟩
    obtain ⟨far, efar, far0⟩ : ∃ far : Int, (if x - 500000 > 0 then x - 500000 else 0) = far ∧ 0 ≤ far := ⟨_, rfl, by split <;> omega⟩
    rw [efar]
    -- the marks
    intro p0 x0' hp0 hx0 nd0
    have sa : Same H2 (upd (upd H2 x0' (.own p0)) p0 (.ins T.C_Marks x0' [])) := (Same.upd_new hx0).trans (Same.upd_new (by rw [upd_ne (Ne.symm nd0)]; exact hp0))
    refine ⟨p0, x0', rfl, upd_same, fun m H3 hm Mm hfr f3 => ⟨rfl, ?_⟩⟩
    subst hm
    have s3 : Same H2 H3 := ((Frm.of_same (S := []) sa).own hp0 f3).same
    have fr2 : ∀ y ∈ m.all, H2 y = none := fun y hy => (Frm.of_same (S := []) sa).free (hfr y hy)
    have fr0 : ∀ y ∈ m.all, H y = none := fun y hy => f2.free (fr2 y hy)
    have al3 : Alloc T.ps H3 := (al0.frm f2).frm (Frm.of_same (S := []) s3)
    have I3 : IC T H H3 d m .new := by
      have al2 : Alloc T.ps H2 := al0.frm f2
      refine ⟨D2.same s3, tabs_same (tabs_dice tb0 D0 f2) s3, Mm _, fun z hz => ?_, (f2.mono fun x hx => by simp at hx; simp [hx]).trans (Frm.of_same s3), fr0, ?_, ?_, dp0, ?_, ?_⟩
      · rcases List.mem_cons.mp hz with rfl | hz
        · obtain ⟨ns, e, _⟩ := D2.same s3
          exact ⟨_, e⟩
        · rcases List.mem_append.mp hz with hz | hz
          · exact al3 z hz
          · exact ((Mm []).out z hz).2
      · intro e
        obtain ⟨ns, q, _⟩ := D2
        rw [e, hp0] at q
        cases q
      · intro e
        obtain ⟨ns, q, _⟩ := D2
        rw [fr2 _ e] at q
        cases q
      · intro e
        obtain ⟨o, q⟩ := al2 _ e
        rw [hp0] at q
        cases q
      · intro y hy e
        obtain ⟨o, q⟩ := al2 _ e
        rw [fr2 _ hy] at q
        cases q
    -- some notes
    refine ⟨fun σ' H' => (∃ v3 : Option V, σ' = [some (V.ref d), some (.int far), some (.ref m.m), v3, none, none]) ∧ ∃ s : MkS, IC T H H' d m s ∧ mkSmall s, ?_, ?_⟩
    · refine ⟨_, rfl, d, _, rfl, I3.D, by decide, by decide, fun n H4 n0 n9 D4 f4 => ?_⟩
      refine ⟨n, rfl, by omega, by omega, for_range (lo := 0) (n := n.toNat) (fun i σ H' => (∃ v3 : Option V, σ = [some (V.ref d), some (.int far), some (.ref m.m), v3, none, none]) ∧ ∃ s : MkS, IC T H H' d m s ∧ mkSmall s)
        ⟨⟨_, rfl⟩, .new, I3.dice D4 f4, mkSmall.new⟩ ?_ (fun σ H' h => h)⟩
      rintro i σ H5 hi ⟨⟨v3, rfl⟩, s, I5, sm⟩
      obtain ⟨dx, hob⟩ := I5.M.ob
      refine ⟨_, rfl, m.m, dx, _, rfl, hob, zip_no (N := mkN) (by decide +kernel), _, rfl, d, 9, rfl, I5.D, by decide, by decide, fun r H6 r0 r9 D6 f6 => ?_⟩
      have I6 := I5.dice D6 f6
      refine ⟨_, _, rfl, rfl, _, rfl, d, 2, rfl, I6.D, by decide, by decide, fun r2 H7 r20 r22 D7 f7 => ?_⟩
      have I7 := I6.dice D7 f7
      refine ⟨rfl, _, rfl, _, m, s, _, _, _, _, _, rfl, I7.M, I7.al, (fun z hz => List.mem_cons_of_mem _ (List.mem_append_right _ hz)), .int _, (fun ds z => by cases z), .int _, (fun ds z => by cases z), (fun hb => ?_), (fun _ hb => ?_), fun m' f' e1 e2 _ _ _ _ H8 M8 f8 => ?_⟩
      · simp only [between, Bool.and_eq_false_iff, decide_eq_false_iff_not] at hb
        omega
      · simp only [between, Bool.and_eq_false_iff, decide_eq_false_iff_not] at hb
        omega
      · refine ⟨⟨_, rfl⟩, _, I7.note M8 f8, sm.note m' _ ?_⟩
        cases e2
        omega
    rintro σ' H4 ⟨⟨v3, rfl⟩, s, I4, sm⟩
    -- what is bad now
    obtain ⟨dx, hob⟩ := I4.M.ob
    refine ⟨_, rfl, m.m, dx, _, rfl, hob, zip_no (N := mkN) (by decide +kernel), _, m, s, _, _, rfl, I4.M, .int 9, (fun ds z => by cases z), (fun hb => by cases hb), fun f9 e9 _ _ p H5 hp hpL s5 => ?_⟩
    cases e9
    have I5 := I4.same s5
    have npd : p ≠ d := I4.D.ne_new hp
    have npa : p ∉ T.ps := fun z => by
      obtain ⟨o, q⟩ := I4.al p (List.mem_cons_of_mem _ (List.mem_append_left _ z))
      rw [hp] at q
      cases q
    have npm : p ∉ m.all := fun z => by
      obtain ⟨o, q⟩ := I4.al p (List.mem_cons_of_mem _ (List.mem_append_right _ z))
      rw [hp] at q
      cases q
    -- a manner that can't be
    refine ⟨fun σ' H' => ∃ (x : V) (dd : PyData), σ' = [some (V.ref d), some (.int far), some (.ref m.m), v3, some (.ref p), some x] ∧ Im H' x dd ∧ between dd 1 9 = false ∧ (∀ ds, dd ≠ .list ds) ∧ IC T H H' d m s ∧ Frm [d] H5 H', ?_, ?_⟩
    · refine ⟨_, rfl, _, _, rfl, rfl, _, rfl, _, rfl, _, _, rfl, rfl, (by show 6 ≤ sizeLine; decide), fun l hl => ?_⟩
      have s6 := Same.upd_new (o := .lst [.int 0, .int 10, .int (10 + far), .int (-1 - far), .bl true, .non]) hl
      have q6 := upd_same (H := H5) (a := l) (o := .lst [.int 0, .int 10, .int (10 + far), .int (-1 - far), .bl true, .non])
      have nl := I5.D.ne_new hl
      generalize upd H5 l (.lst [.int 0, .int 10, .int (10 + far), .int (-1 - far), .bl true, .non]) = H6 at s6 q6 ⊢
      have I6 := I5.same s6
      refine ⟨_, rfl, d, 6, rfl, I6.D, by decide, by decide, fun j H7 j0 j6 D7 f7 => ?_⟩
      have I7 := I6.dice D7 f7
      have q7 := f7 _ _ q6 (by simp [nl])
      obtain ⟨x, dd, hat, im, hb, nls⟩ : ∃ x dd, atI [V.int 0, .int 10, .int (10 + far), .int (-1 - far), .bl true, .non] j = some x ∧ Im H7 x dd ∧ between dd 1 9 = false ∧ ∀ ds, dd ≠ .list ds := by
        have : j = 0 ∨ j = 1 ∨ j = 2 ∨ j = 3 ∨ j = 4 ∨ j = 5 := by omega
        rcases this with rfl | rfl | rfl | rfl | rfl | rfl
        · exact ⟨_, _, rfl, .int _, rfl, fun ds z => by cases z⟩
        · exact ⟨_, _, rfl, .int _, rfl, fun ds z => by cases z⟩
        · exact ⟨_, _, rfl, .int _, by simp [between]; omega, fun ds z => by cases z⟩
        · exact ⟨_, _, rfl, .int _, by simp [between]; omega, fun ds z => by cases z⟩
        · exact ⟨_, _, rfl, .bl _, rfl, fun ds z => by cases z⟩
        · exact ⟨_, _, rfl, .non, rfl, fun ds z => by cases z⟩
      exact ⟨l, _, j, _, rfl, rfl, SqL.of q7, hat, x, dd, rfl, im, hb, nls, I7, (Frm.of_same s6).trans f7⟩
    rintro σ' H6 ⟨x, dd, rfl, imx, hbx, nlx, I6, f56⟩
    -- a frame that can't be
    refine ⟨fun σ' H' => ∃ k : Int, σ' = [some (V.ref d), some (.int far), some (.ref m.m), some (.int k), some (.ref p), some x] ∧ between (.int k) 0 1000000 = false ∧ IC T H H' d m s ∧ Frm [d] H6 H', ?_, ?_⟩
    · have e6 : (10 : Int) ^ (6 : Int).toNat = 1000000 := by decide
      refine ⟨_, rfl, _, rfl, _, rfl, _, _, rfl, rfl, _, _, rfl, rfl, ⟨by decide, by decide, by decide⟩, _, _, rfl, rfl, _, _, rfl, rfl, ⟨by decide, by decide, by decide⟩, _, _, rfl, rfl, _, rfl, _, _, rfl, rfl, (by show 4 ≤ sizeLine; decide), fun l hl => ?_⟩
      have s7 := Same.upd_new (o := .lst [.int (-1), .int (-1 - far), .int (10 ^ (6 : Int).toNat + 1), .int (10 ^ (6 : Int).toNat + 1 + far)]) hl
      have q7 := upd_same (H := H6) (a := l) (o := .lst [.int (-1), .int (-1 - far), .int (10 ^ (6 : Int).toNat + 1), .int (10 ^ (6 : Int).toNat + 1 + far)])
      have nl := I6.D.ne_new hl
      generalize upd H6 l (.lst [.int (-1), .int (-1 - far), .int (10 ^ (6 : Int).toNat + 1), .int (10 ^ (6 : Int).toNat + 1 + far)]) = H7 at s7 q7 ⊢
      have I7 := I6.same s7
      refine ⟨_, rfl, d, 4, rfl, I7.D, by decide, by decide, fun j H8 j0 j6 D8 f8 => ?_⟩
      have q8 := f8 _ _ q7 (by simp [nl])
      obtain ⟨x, hat, hb⟩ : ∃ x : Int, atI [V.int (-1), .int (-1 - far), .int (10 ^ (6 : Int).toNat + 1), .int (10 ^ (6 : Int).toNat + 1 + far)] j = some (.int x) ∧ between (.int x) 0 1000000 = false := by
        rw [e6]
        have : j = 0 ∨ j = 1 ∨ j = 2 ∨ j = 3 := by omega
        rcases this with rfl | rfl | rfl | rfl
        · exact ⟨_, rfl, rfl⟩
        · exact ⟨_, rfl, by simp [between]; omega⟩
        · exact ⟨_, rfl, rfl⟩
        · exact ⟨_, rfl, by simp [between]; omega⟩
      exact ⟨l, _, j, _, rfl, rfl, SqL.of q8, hat, x, rfl, hb, I7.dice D8 f8, (Frm.of_same s7).trans f8⟩
    rintro σ' H7 ⟨fr, rfl, hbf, I7, f67⟩
    have f57 : Frm (d :: T.ps) H5 H7 := (f56.trans f67).mono fun x hx => by simp at hx; simp [hx]
    have hP : T.lP__law_are_counts ∈ T.ps := .tail _ (.head _)
    have fP : ∀ {Ha Hb : Hp}, Frm [T.lP__law_are_counts] Ha Hb → Frm (d :: T.ps) Ha Hb := fun f => f.mono fun x hx => by simp at hx; subst hx; exact List.mem_cons_of_mem _ hP
    -- refused: a manner
    refine ⟨fun σ' H' => σ' = [some (V.ref d), some (.int far), some (.ref m.m), some (.int fr), some (.ref p), some x] ∧ IC T H H' d m s ∧ Frm (d :: T.ps) H7 H', ?_, ?_⟩
    · refine ⟨I7.tb, fun g c H8 e8 tb8 f8 gn gH cH => ⟨g, _, rfl, ready_of (js := [5, 3, 2]) (gH) (cH) (fun t z => by cases z) (lok_of (P := P) (w := w) (mg := mg) (base := base) (k := 4) (fr := ["_law_manner", "_law_frame", "_law_marks"]) (N := ["_law_manner", "_law_frame", "_law_marks"]) (ps := []) (vs := []) (tb := fun E => (tMeth T.C_Marks "note" _ [] E (tVar 2) (tCons (tVar 0) (tCons (tC (.bl false)) (tCons (tVar 1) tNil))))) (NdefX.nscope_by (by dsimp only; decide +kernel)) rfl (fun s doc pm ctv _ => ⟨[], .nil, .of_eq rfl⟩) (fun A outer s H E hr => (pe_meth (pv 2) T.cl_Marks T.m_Marks_note G_Marks_note (hr.mono (by decide)) T.b_Marks_note .nil pass_ncx (pa_cons (pv 0) (pa_cons pe_bl (pa_cons (pv 1) pa_nil)))))) ⟨rfl, NdefX.ndef_free (fr := []) (by show NdefX.ndefB (defScope s__law_are_counts) _ [] = true; dsimp only; decide +kernel), NdefX.ndef_fr (sc := defScope s__law_are_counts) (by dsimp only; decide +kernel), rfl⟩, fun cls d' H' => cls = .ref T.C_BadManners ∧ d' = none ∧ H' = H8, ?_, ?_⟩⟩
      · have I8 := I7.lam hP tb8 f8
        obtain ⟨dx, hob⟩ := I8.M.ob
        exact ⟨gH, (fun t z => by cases z), _, rfl, m.m, dx, _, rfl, hob, zip_no (N := mkN) (by decide +kernel), _, rfl, _, rfl, _, m, s, x, .int fr, dd, _, false, rfl, I8.M, I8.al, (fun z hz => List.mem_cons_of_mem _ (List.mem_append_right _ hz)), ((imx.frm f67).frm f8).dp, nlx, .int _, (fun ds z => by cases z), (fun _ => ⟨rfl, rfl, rfl⟩), (fun hb => by rw [hbx] at hb; cases hb), fun m' f' e1 _ h1 h2 => by
          subst e1
          simp only [between, Bool.and_eq_false_iff, decide_eq_false_iff_not] at hbx
          omega⟩
      · rintro cls d' H' ⟨rfl, rfl, rfl⟩
        refine ⟨0, 0, word_plain T.wk_BadManners (by decide) (by decide) (by decide) (by decide), fun u H9 s9 hu => ?_⟩
        rw [word0] at hu
        have I9 := (I7.lam hP tb8 f8).same s9
        refine ⟨(by show 2 ≤ sizeLine; decide), fun t ht => ne_word ht hu (by decide +kernel) fun H' s' => ⟨false, rfl, iteF ⟨rfl, ?_, ?_⟩⟩⟩
        · exact I9.same s'
        · exact (fP f8).trans (Frm.of_same (s9.trans s'))
    rintro σ' H8 ⟨rfl, I8, f8⟩
    -- refused: a frame
    refine ⟨fun σ' H' => σ' = [some (V.ref d), some (.int far), some (.ref m.m), some (.int fr), some (.ref p), some x] ∧ IC T H H' d m s ∧ Frm (d :: T.ps) H8 H', ?_, ?_⟩
    · refine ⟨I8.tb, fun g c H9 e9 tb9 f9 gn gH cH => ⟨g, _, rfl, ready_of (js := [3, 2]) (gH) (cH) (fun t z => by cases z) (lok_of (P := P) (w := w) (mg := mg) (base := base) (k := 4) (fr := ["_law_frame", "_law_marks"]) (N := ["_law_frame", "_law_marks"]) (ps := []) (vs := []) (tb := fun E => (tMeth T.C_Marks "note" _ [] E (tVar 1) (tCons (tC (.int 9)) (tCons (tC (.bl false)) (tCons (tVar 0) tNil))))) (NdefX.nscope_by (by dsimp only; decide +kernel)) rfl (fun s doc pm ctv _ => ⟨[], .nil, .of_eq rfl⟩) (fun A outer s H E hr => (pe_meth (pv 1) T.cl_Marks T.m_Marks_note G_Marks_note (hr.mono (by decide)) T.b_Marks_note .nil pass_ncx (pa_cons pe_int (pa_cons pe_bl (pa_cons (pv 0) pa_nil)))))) ⟨rfl, NdefX.ndef_free (fr := []) (by show NdefX.ndefB (defScope s__law_are_counts) _ [] = true; dsimp only; decide +kernel), NdefX.ndef_fr (sc := defScope s__law_are_counts) (by dsimp only; decide +kernel), rfl⟩, fun cls d' H' => cls = .ref T.C_BadCount ∧ d' = none ∧ H' = H9, ?_, ?_⟩⟩
      · have I9 := I8.lam hP tb9 f9
        obtain ⟨dx, hob⟩ := I9.M.ob
        exact ⟨gH, (fun t z => by cases z), _, rfl, m.m, dx, _, rfl, hob, zip_no (N := mkN) (by decide +kernel), _, rfl, _, m, s, .int 9, .int fr, .int 9, .int fr, false, rfl, I9.M, I9.al, (fun z hz => List.mem_cons_of_mem _ (List.mem_append_right _ hz)), .int _, (fun ds z => by cases z), .int _, (fun ds z => by cases z), (fun hb => by cases hb), (fun _ _ => ⟨rfl, rfl, rfl⟩), fun m' f' _ e2 _ _ h3 h4 => by
          cases e2
          simp only [between, Bool.and_eq_false_iff, decide_eq_false_iff_not] at hbf
          omega⟩
      · rintro cls d' H' ⟨rfl, rfl, rfl⟩
        refine ⟨1, 0, word_plain T.wk_BadCount (by decide) (by decide) (by decide) (by decide), fun u H10 s10 hu => ?_⟩
        rw [word1] at hu
        have I10 := (I8.lam hP tb9 f9).same s10
        refine ⟨I10.tb, fun tz g2 c2 H11 e11 tb11 f11 gn2 tzH gH2 cH2 => ⟨g2, _, rfl, ready_of (js := [3, 2]) (gH2) (cH2) (fun t z => by cases z; exact tzH) (lok_of (P := P) (w := w) (mg := mg) (base := base) (k := 4) (fr := ["_law_frame", "_law_marks"]) (N := ["_law_a", "_law_frame", "_law_marks"]) (ps := ["_law_a"]) (vs := [.int 0]) (tb := fun E => (tMeth T.C_Marks "bad" _ [] E (tVar 2) (tCons (tVar 1) tNil))) (NdefX.nscope_by (by dsimp only; decide +kernel)) rfl (fun s doc pm ctv h => by obtain ⟨u, ⟨o, ho, _, n, hd⟩, ru⟩ := h _ rfl; exact ⟨[u], .cons ru .nil, BindsTo.of_defaults rfl ho hd rfl rfl⟩) (fun A outer s H E hr => (pe_meth (pv 2) T.cl_Marks T.m_Marks_bad G_Marks_bad (hr.mono (by decide)) T.b_Marks_bad .nil pass_ncx (pa_cons (pv 1) pa_nil)))) ⟨rfl, NdefX.ndef_free (fr := []) (by show NdefX.ndefB (defScope s__law_are_counts) _ [] = true; dsimp only; decide +kernel), NdefX.ndef_fr (sc := defScope s__law_are_counts) (by dsimp only; decide +kernel), rfl⟩, fun cls d' H' => cls = .ref T.C_BadCount ∧ d' = none ∧ H' = H11, ?_, ?_⟩⟩
        · have I11 := I10.lam hP tb11 f11
          obtain ⟨dx, hob⟩ := I11.M.ob
          exact ⟨gH2, (fun t z => by cases z; exact tzH), _, rfl, m.m, dx, _, rfl, hob, zip_no (N := mkN) (by decide +kernel), _, rfl, _, m, s, .int fr, .int fr, rfl, I11.M, .int _, (fun ds z => by cases z), (fun _ => ⟨rfl, rfl, rfl⟩), fun f' e2 h3 h4 => by
            cases e2
            simp only [between, Bool.and_eq_false_iff, decide_eq_false_iff_not] at hbf
            omega⟩
        · rintro cls d' H' ⟨rfl, rfl, rfl⟩
          refine ⟨1, 0, word_plain T.wk_BadCount (by decide) (by decide) (by decide) (by decide), fun u2 H12 s12 hu2 => ?_⟩
          rw [word1] at hu2
          have I12 := (I10.lam hP tb11 f11).same s12
          have f912 : Frm (d :: T.ps) H8 H12 := (((fP f9).trans (Frm.of_same s10)).trans (fP f11)).trans (Frm.of_same s12)
          have hu12 : H12 u = some (.tup [.str "count", .int 0]) := s12 _ _ (f11.tups _ _ hu)
          refine ⟨(by show 2 ≤ sizeLine; decide), fun l hl => ?_⟩
          have s13 := Same.upd_new (o := .lst [.ref u, .ref u2]) hl
          have q13 := upd_same (H := H12) (a := l) (o := .lst [.ref u, .ref u2])
          generalize upd H12 l (.lst [.ref u, .ref u2]) = H13 at s13 q13 ⊢
          refine ⟨(by show 2 ≤ sizeLine; decide), fun t ht => ⟨(by show 1 ≤ sizeLine; decide), fun l2 hl2 => ?_⟩⟩
          have s14 := Same.upd_new (o := .tup [.str "count", .int 0]) ht
          have q14 := upd_same (H := H13) (a := t) (o := .tup [.str "count", .int 0])
          generalize upd H13 t (.tup [.str "count", .int 0]) = H14 at s14 q14 hl2 ⊢
          have s15 := Same.upd_new (o := .lst [.ref t]) hl2
          refine ⟨l2, 2, _, rfl, rfl, upd_same, by decide, by decide, (by show 1 * 2 ≤ sizeLine; decide), fun p2 hp2 => ?_⟩
          have q16 := upd_same (H := upd H14 l2 (.lst [.ref t])) (a := p2) (o := .lst (List.replicate (2 : Int).toNat [V.ref t]).flatten)
          have s16 := s15.trans (Same.upd_new (o := .lst (List.replicate (2 : Int).toNat [V.ref t]).flatten) hp2)
          generalize upd (upd H14 l2 (.lst [.ref t])) p2 (.lst (List.replicate (2 : Int).toNat [V.ref t]).flatten) = H16 at s16 q16 ⊢
          have s1316 := s14.trans s16
          have s1216 := s13.trans s1316
          have i1 := (im_word (s1216 _ _ hu12)).dp (K := K)
          have i2 := (im_word (s1216 _ _ hu2)).dp (K := K)
          have i3 := (im_word (s16 _ _ q14)).dp (K := K)
          have wl : lv 2 (.list [.tuple [.str "count", .int 0], .tuple [.str "count", .int 0]]) := by
            refine ⟨(by show 2 ≤ 100000; decide), fun x hx => ?_⟩
            simp only [List.mem_cons, List.not_mem_nil, or_false] at hx
            have : x = .tuple [.str "count", .int 0] := hx.elim id id
            rw [this]
            exact lv_word (by decide +kernel) 0
          refine ⟨.list [.tuple [.str "count", .int 0], .tuple [.str "count", .int 0]], .list [.tuple [.str "count", .int 0], .tuple [.str "count", .int 0]], .lst (SqL.of (s1316 _ _ q13)) (.cons i1 (.cons i2 .nil)), .lst (SqL.of q16) (.cons i3 (.cons i3 .nil)), shaped_lv wl (by decide), shaped_lv wl (by decide), false, congrArg V.bl (by rw [eqv_refl wl]; rfl), iteF ⟨rfl, I12.same s1216, f912.trans (Frm.of_same s1216)⟩⟩
    rintro σ' H9 ⟨rfl, I9, f9⟩
    have f59 := (f57.trans f8).trans f9
    have hpL9 : H9 p = some (.lst ((badF s 9).map V.int)) := f59 _ _ hpL (fun z => (List.mem_cons.mp z).elim npd npa)
    -- all stands as ahead
    obtain ⟨dx, hob⟩ := I9.M.ob
    refine ⟨_, rfl, m.m, dx, _, rfl, hob, zip_no (N := mkN) (by decide +kernel), _, m, s, _, _, rfl, I9.M, .int 9, (fun ds z => by cases z), (fun hb => by cases hb), fun f9' e9 _ _ p3 H10 hp3 hpL3 s10 => ?_⟩
    cases e9
    have I10 := I9.same s10
    have lvb : lv 1 (.list ((badF s 9).map .int)) := ⟨by rw [List.length_map]; have := bad_len s 9; omega, fun e he => by obtain ⟨i, _, rfl⟩ := List.mem_map.mp he; trivial⟩
    refine ⟨_, rfl, .ref p3, .ref p, .list ((badF s 9).map .int), rfl, .lst (SqL.of hpL3) (dp_ints _), .lst (SqL.of (s10 _ _ hpL9)) (dp_ints _), lv_mono (lv_mono lvb), fun H11 s11 => ⟨_, rfl, iteT ?_⟩⟩
    have I11 := I10.same s11
    obtain ⟨dx, hob⟩ := I11.M.ob
    have e6 : (10 : Int) ^ (6 : Int).toNat = 1000000 := by decide
    refine ⟨_, rfl, m.m, dx, _, rfl, hob, zip_no (N := mkN) (by decide +kernel), _, _, rfl, rfl, ⟨by decide, by decide, by decide⟩, _, m, s, _, _, rfl, I11.M, .int _, (fun ds z => by cases z), (fun hb => by rw [e6] at hb; cases hb), fun f6' e6' _ _ p4 H12 hp4 hpL4 s12 => ?_⟩
    cases e6'
    rw [e6, sm.bad (by decide)] at hpL4
    refine ⟨(by show 0 ≤ sizeLine; decide), fun e he => ?_⟩
    have s13 := Same.upd_new (o := .lst []) he
    refine ⟨.list [], .list [], .lst (SqL.of (s13 _ _ hpL4)) .nil, .lst (SqL.of upd_same) .nil, rfl, rfl, ?_⟩
    have I13 := (I11.same s12).same s13
    exact k _ I13.D I13.tb I13.f

end
end TL

namespace TL
open PySem PySem.Spec PyProof.Rows L2
section
variable {P : Program} {w : World} {K : PySem.W.Frag} {mg : Str → Option Value} {base : Heap}
def sp_End_need_part (T : Txt K mg) : Sp := fun vs H Q E => ∃ (Z : List Addr) (ad : EAd) (s : EndS) (y : V) (dy : PyData), vs = [.ref ad.e, y] ∧ EndAt T.C_End T.C_Marks Z H ad s ∧ Dp K H y dy ∧ (∀ ds, dy ≠ .list ds) ∧ 0 ≤ s.part ∧ s.part ≤ 1 ∧
  (dy = .int s.part → Q .non H) ∧ (dy ≠ .int s.part → E (.ref T.C_BadPart) none H)
theorem ok_End_need_part (T : Txt K mg) : FnOk P w K mg base (L2.CX P w) 2 T.a_End_need_part T.fd_End_need_part P_End_need_part (sp_End_need_part T) := by
  have G_is_between := ok_is_between (P := P) (w := w) (base := base) T
  refine T.F_End_need_part.okX sc_End_need_part (fun vs H Q E h => ?_) (fun cdv A outer s H vs Q E hr h => ?_)
  · obtain ⟨Z, ad, s, y, dy, rfl, _⟩ := h
    rfl
  · obtain ⟨Z, ad, sk, y, dy, rfl, M, hy, nl, p0, p1, k1, k2⟩ := h
    refine ⟨_, (pss_one (ps_if (PW.pt (pw_or (pt_not (pt_val (pe_call G_is_between (hr.mono (by decide)) rfl T.g_is_between T.F_is_between.kp T.b_is_between .nil pass0 (pa_cons (pv 1) (pa_cons (pe_glob (v := .int 0) rfl T.v_SLOW ⟨_, rfl⟩) (pa_cons (pe_glob (v := .int 1) rfl T.v_FAST ⟨_, rfl⟩) pa_nil)))))) (pw_or1 (pt_cmpR op_ne (pv 1) (pe_fld (pv 0) rfl) (nomark _)))))
      (pss_one (ps_raise rfl (takes_of rfl rfl rfl rfl) (pmk_own PySem.F.excBase_ValueError T.x_BadPart T.c_BadPart T.k_BadPart (raises_own T.s_BadPart T.t_BadPart) rfl)))
      pss_nil)), ?_⟩
    refine ⟨_, rfl, y, dy, 0, 1, rfl, hy, nl, _, rfl, ?_⟩
    refine iteB (fun hb => k2 fun e => ?_) (fun hb => ?_)
    · subst e
      simp [between, p0, p1] at hb
    have gy : between dy 0 1 = true := by simpa using hb
    obtain ⟨f, rfl⟩ : ∃ f, dy = .int f := by
      cases dy with
      | int f => exact ⟨f, rfl⟩
      | _ => exact absurd gy (by simp [between])
    cases hy
    obtain ⟨⟨dx, cv, mv, ov, ho, _⟩, _⟩ := id M
    refine ⟨_, rfl, _, rfl, _, T.C_End, _, _, _, rfl, ho, T.cl_End, T.no_End_part, zip_lookup enN_nd (i := 14) rfl rfl, rfl, _, rfl, ?_⟩
    refine iteN (fun hne => k2 fun e => hne ?_) (fun heq => k1 ?_)
    · cases e; rfl
    · cases heq; rfl

end
end TL

namespace TL
open PySem PySem.Spec PyProof.Rows L2
section
variable {P : Program} {w : World} {K : PySem.W.Frag} {mg : Str → Option Value} {base : Heap}
def sp_End_refresh (T : Txt K mg) : Sp := fun vs H Q _ => ∃ (Z : List Addr) (ad : EAd) (s : EndS), vs = [.ref ad.e] ∧ EndAt T.C_End T.C_Marks Z H ad s ∧ (∀ z ∈ ad.all, z ∈ Z) ∧ EndOk s ∧
  ∀ H', EndAt T.C_End T.C_Marks Z H' ad (refreshF s) → Frm ad.all H H' → Q .non H'
theorem ok_End_refresh (T : Txt K mg) : FnOk P w K mg base CX0 3 T.a_End_refresh T.fd_End_refresh P_End_refresh (sp_End_refresh T) := by
  have G_Marks_bad := ok_Marks_bad (P := P) (w := w) (base := base) T
  refine T.F_End_refresh.ok sc_End_refresh (fun vs H Q E h => ?_) (fun cdv A outer s H vs Q E hr h => ?_)
  · obtain ⟨Z, ad, s, rfl, _⟩ := h
    rfl
  · obtain ⟨Z, ad, sk, rfl, M, hsub, ok, k⟩ := h
    have hu64 := hr.units
    refine ⟨_, (pss_cons (ps_set (i := 1) sc_End_refresh.nd rfl (by first | exact Or.inl rfl | exact Or.inr rfl) (pe_tup (pa_cons (pe_fld (pv 0) rfl) (pa_cons (pe_callTy call_tuple_of (by rfl) T.n_tuple (by decide +kernel) (pa_cons (pe_meth (pe_fld (pv 0) rfl) T.cl_Marks T.m_Marks_bad G_Marks_bad (hr.mono (by decide)) T.b_Marks_bad .nil passL (pa_cons (pe_fld (pv 0) rfl) pa_nil)) pa_nil)) pa_nil))))
    (pss_one (ps_if (pt_cmpR (op_neD hu64) (pv 1) (pe_fld (pv 0) rfl) (nomark _))
      (pss_cons (ps_fld (pv 0) (pv 1) rfl)
      (pss_one (ps_fld (pv 0) (pe_op op_add (pe_fld (pv 0) rfl) pe_int) rfl)))
      pss_nil))), ?_⟩
    obtain ⟨⟨dx, cv, mv, ov, ho, hc, hm, hv⟩, _⟩ := id M
    obtain ⟨⟨dmk, hmk⟩, _⟩ := id M.mks
    refine ⟨_, rfl, _, T.C_End, _, _, _, rfl, ho, T.cl_End, T.no_End_can, zip_lookup enN_nd (i := 0) rfl rfl, _, rfl, _, T.C_End, _, _, _, rfl, ho, T.cl_End, T.no_End_marks, zip_lookup enN_nd (i := 1) rfl rfl, ad.mks.m, dmk, _, rfl, hmk, zip_no (by decide), _, rfl, _, T.C_End, _, _, _, rfl, ho, T.cl_End, T.no_End_over, zip_lookup enN_nd (i := 2) rfl rfl, ?_⟩
    refine ⟨Z, ad.mks, sk.mks, _, .int sk.over, rfl, M.mks, .int _, (fun ds z => by cases z), (fun z => ?_), fun f hf h0 h1 p H1 hpn hp s1 => ?_⟩
    · have := ok.o0
      have := ok.o1
      simp [between, *] at z
    cases hf
    refine ⟨p, _, rfl, .inl ⟨SqL.of hp, fun t ht => ?_⟩⟩
    have s2 := s1.trans (Same.upd_new (o := .tup ((badF sk.mks sk.over).map V.int)) ht)
    refine ⟨(by show 2 ≤ sizeLine; decide), fun u hun => ?_⟩
    have s3 := s2.trans (Same.upd_new (o := .tup [cv, .ref t]) hun)
    have M3 := M.same s3
    have hm3 : Im (upd (upd H1 t (.tup ((badF sk.mks sk.over).map V.int))) u (.tup [cv, .ref t])) (.ref u) (mindD (sk.can, badF sk.mks sk.over)) := by
      refine .tup upd_same (.cons (hc.same s3) (.cons (.tup (a := t) ?_ (im_ints _)) .nil))
      rw [upd_ne (ne_of_none upd_same hun)]
      exact upd_same
    obtain ⟨⟨dx3, cv3, mv3, ov3, ho3, hc3, hmm3, hv3⟩, _⟩ := id M3
    refine ⟨_, rfl, _, rfl, _, T.C_End, _, _, _, rfl, ho3, T.cl_End, T.no_End_mind, zip_lookup enN_nd (i := 4) rfl rfl, mindD (sk.can, badF sk.mks sk.over), mindD (sk.can, sk.bad), hm3.dp, hmm3.dp,
      shaped_lv (lv_mind ok.can.2.2.2 (Nat.le_trans (bad_len _ _) (by decide)) 0) (by decide), shaped_lv (lv_mind ok.can.2.2.2 (Nat.le_trans ok.bad (by decide)) 0) (by decide), _, rfl, ?_⟩
    rw [eqv_mind]
    refine iteN (fun hne => ?_) (fun heq => ?_)
    · have hne' : badF sk.mks sk.over ≠ sk.bad := fun z => hne (by rw [z])
      refine ⟨_, rfl, _, rfl, ?_⟩
      refine M3.sfld T.cl_End T.no_End_mind (hsub _ (by simp [EAd.all])) 4 (.ref u) { sk with bad := badF sk.mks sk.over } rfl (by decide) (fun cv mv ov h1 h2 h3 => ⟨cv, .ref u, ov, rfl, h1, hm3, h3⟩) rfl rfl rfl fun H4 M4 f4 => ?_
      obtain ⟨⟨dx4, cv4, mv4, ov4, ho4, _⟩, _⟩ := id M4
      refine ⟨_, rfl, _, T.C_End, _, _, _, rfl, ho4, T.cl_End, T.no_End_version, zip_lookup enN_nd (i := 3) rfl rfl, _, _, rfl, rfl, _, rfl, ?_⟩
      refine M4.sfld T.cl_End T.no_End_version (hsub _ (by simp [EAd.all])) 3 (.int (sk.ver + 1)) { sk with bad := badF sk.mks sk.over, ver := sk.ver + 1 } rfl (by decide) (fun cv mv ov h1 h2 h3 => ⟨cv, mv, ov, rfl, h1, h2, h3⟩) rfl rfl rfl fun H5 M5 f5 => ?_
      have e : refreshF sk = { sk with bad := badF sk.mks sk.over, ver := sk.ver + 1 } := by unfold refreshF; rw [if_neg hne']
      exact k H5 (by rw [e]; exact M5) (((Frm.of_same s3).trans f4).trans f5)
    · have heq' : badF sk.mks sk.over = sk.bad := (Prod.mk.inj heq).2
      have e : refreshF sk = sk := by unfold refreshF; rw [if_pos heq']
      exact k _ (by rw [e]; exact M3) (Frm.of_same s3)

end
end TL

namespace TL
open PySem PySem.Spec PyProof.Rows L2
section
variable {P : Program} {w : World} {K : PySem.W.Frag} {mg : Str → Option Value} {base : Heap}
def sp_End_say (T : Txt K mg) : Sp := fun vs H Q E => ∃ (Z : List Addr) (ad : EAd) (s : EndS) (y : V) (dy : PyData), vs = [.ref ad.e, y] ∧ EndAt T.C_End T.C_Marks Z H ad s ∧ (∀ z ∈ ad.all, z ∈ Z) ∧ EndOk s ∧ Dp K H y dy ∧ (∀ ds, dy ≠ .list ds) ∧ 0 ≤ s.part ∧ s.part ≤ 1 ∧
  (dy ≠ .int s.part → E (.ref T.C_BadPart) none H) ∧
  (dy = .int s.part → s.part = 0 → ∀ x H', EndAt T.C_End T.C_Marks Z H' ad (refreshF s) → Im H' x (.tuple [.int 0, slowD (slowOf (refreshF s))]) → Frm ad.all H H' → Q x H') ∧
  (dy = .int s.part → s.part = 1 → ∀ x H', EndAt T.C_End T.C_Marks Z H' ad s → Im H' x (.tuple [.int s.now, fastD (fastOf s)]) → Same H H' → Q x H')
theorem ok_End_say (T : Txt K mg) : FnOk P w K mg base (L2.CX P w) 4 T.a_End_say T.fd_End_say P_End_say (sp_End_say T) := by
  have G_End_need_part := ok_End_need_part (P := P) (w := w) (base := base) T
  have G_End_refresh := ok_End_refresh (P := P) (w := w) (base := base) T
  refine T.F_End_say.okX sc_End_say (fun vs H Q E h => ?_) (fun cdv A outer s H vs Q E hr h => ?_)
  · obtain ⟨Z, ad, s, y, dy, rfl, _⟩ := h
    rfl
  · obtain ⟨Z, ad, sk, y, dy, rfl, M, hsub, ok, hy, nl, p0, p1, k1, k2, k3⟩ := h
    have hu64 := hr.units
    refine ⟨_, (pss_cons (ps_expr (pe_meth (pv 0) T.cl_End T.m_End_need_part G_End_need_part (hr.mono (by decide)) T.b_End_need_part .nil (passes_call (takes_of rfl rfl rfl rfl) (fun _ _ _ _ h => h)) (pa_cons (pv 1) pa_nil)))
    (pss_cons (ps_if (pt_cmpR op_eq (pv 1) (pe_glob (v := .int 0) rfl T.v_SLOW ⟨_, rfl⟩) (nomark _))
      (pss_cons (ps_expr (pe_meth0 (pv 0) T.cl_End T.m_End_refresh G_End_refresh (hr.mono (by decide)) T.b_End_refresh .nil pass0))
      (pss_one (ps_ret (pe_tup (pa_cons pe_int (pa_cons (pe_tup (pa_cons (pe_fld (pv 0) rfl) (pa_cons (pe_fld (pv 0) rfl) (pa_cons (pe_fld (pv 0) rfl) pa_nil)))) pa_nil))))))
      pss_nil)
    (pss_cons (ps_set (i := 2) sc_End_say.nd rfl (by first | exact Or.inl rfl | exact Or.inr rfl) (pe_ifExp (pt_cmpR (op_neD hu64) (pe_fld (pv 0) rfl) (pe_lst pa_nil) (nomark _)) (pe_ix ix_list (pe_fld (pv 0) rfl) pe_int (fun _ _ => rfl)) pe_non))
    (pss_one (ps_ret (pe_tup (pa_cons (pe_fld (pv 0) rfl) (pa_cons (pe_tup (pa_cons (pe_fld (pv 0) rfl) (pa_cons (pv 2) (pa_cons (pe_callB call_len_seq (by rfl) T.n_len (by decide +kernel) (pa_cons (pe_fld (pv 0) rfl) pa_nil)) pa_nil)))) pa_nil)))))))), ?_⟩
    obtain ⟨⟨dx, cv, mv, ov, ho, hc, hm, hv⟩, _⟩ := id M
    refine ⟨_, rfl, ad.e, dx, _, rfl, ho, zip_no (by decide), _, rfl, Z, ad, sk, y, dy, rfl, M, hy, nl, p0, p1, fun e => ?_, k1⟩
    subst e
    cases hy
    refine ⟨_, rfl, rfl, _, rfl, ?_⟩
    refine iteD (fun hp => ?_) (fun hp => ?_)
    · have hp0 : sk.part = 0 := vint_inj.mp hp
      refine ⟨_, rfl, ad.e, dx, _, rfl, ho, zip_no (by decide), Z, ad, sk, rfl, M, hsub, ok, fun H1 M1 f1 => ?_⟩
      obtain ⟨⟨dx1, cv1, mv1, ov1, ho1, hc1, hm1, hv1⟩, _⟩ := id M1
      refine ⟨_, rfl, _, T.C_End, _, _, _, rfl, ho1, T.cl_End, T.no_End_version, zip_lookup enN_nd (i := 3) rfl rfl, _, rfl, _, T.C_End, _, _, _, rfl, ho1, T.cl_End, T.no_End_mind, zip_lookup enN_nd (i := 4) rfl rfl, _, rfl, _, T.C_End, _, _, _, rfl, ho1, T.cl_End, T.no_End_seen, zip_lookup enN_nd (i := 6) rfl rfl, (by show 3 ≤ sizeLine; decide), fun t ht => ?_⟩
      have s2 : Same H1 (upd H1 t (.tup [.int (refreshF sk).ver, mv1, .int (refreshF sk).seen])) := Same.upd_new ht
      refine ⟨(by show 2 ≤ sizeLine; decide), fun u hu => ?_⟩
      have s3 := s2.trans (Same.upd_new (o := .tup [.int 0, .ref t]) hu)
      refine k2 rfl hp0 _ _ (M1.same s3) (.tup upd_same (.cons (.int 0) (.cons (.tup (a := t) ?_ (.cons (.int _) (.cons (hm1.same s3) (.cons (.int _) .nil)))) .nil))) (f1.trans (Frm.of_same s3))
      rw [upd_ne (ne_of_none upd_same hu)]
      exact upd_same
    · have hp1 : sk.part = 1 := by
        have : sk.part ≠ 0 := fun z => hp (by rw [z])
        omega
      -- the item that is to come
      refine ⟨_, rfl, _, T.C_End, _, _, _, rfl, ho, T.cl_End, T.no_End_waiting, zip_lookup enN_nd (i := 11) rfl rfl, (by show 0 ≤ sizeLine; decide), fun e he => ?_⟩
      have s1 : Same H (upd H e (.lst [])) := Same.upd_new he
      have M1 := M.same s1
      obtain ⟨⟨dx1, cv1, mv1, ov1, ho1, hc1, hm1, hv1⟩, _⟩ := id M1
      refine ⟨.list (sk.wait.map .int), .list [], .lst (SqL.of M1.wt) (dp_ints _), .lst (SqL.of upd_same) .nil, shaped_ints _, shaped_ints [], _, rfl, ?_⟩
      have ee : PyData.eqv (.list (sk.wait.map .int)) (.list []) = decide (sk.wait = []) := eqvAll_ints sk.wait []
      rw [ee]
      refine iteN (fun hne => ?_) (fun hwe => ?_)
      · obtain ⟨w0, wr, hw⟩ : ∃ a r, sk.wait = a :: r := by
          cases h : sk.wait with
          | nil => exact absurd h hne
          | cons a r => exact ⟨a, r, rfl⟩
        refine ⟨_, rfl, _, T.C_End, _, _, _, rfl, ho1, T.cl_End, T.no_End_waiting, zip_lookup enN_nd (i := 11) rfl rfl, ad.w, _, _, .int w0, rfl, rfl, SqL.of M1.wt, atI_nat (j := 0) (by rw [hw]; rfl), ?_⟩
        refine ⟨_, rfl, _, T.C_End, _, _, _, rfl, ho1, T.cl_End, T.no_End_now, zip_lookup enN_nd (i := 9) rfl rfl, _, rfl, _, T.C_End, _, _, _, rfl, ho1, T.cl_End, T.no_End_count, zip_lookup enN_nd (i := 12) rfl rfl, _, rfl, _, rfl, _, T.C_End, _, _, _, rfl, ho1, T.cl_End, T.no_End_gathered, zip_lookup enN_nd (i := 13) rfl rfl, ad.g, _, rfl, .inl (SqL.of M1.gt), (by show 3 ≤ sizeLine; decide), fun t ht => ?_⟩
        have s2 := s1.trans (Same.upd_new (o := .tup [.int sk.count, .int w0, .int ((sk.got.map V.int).length : Nat)]) ht)
        refine ⟨(by show 2 ≤ sizeLine; decide), fun u hu => ?_⟩
        have s3 := s2.trans (Same.upd_new (o := .tup [.int sk.now, .ref t]) hu)
        refine k3 rfl hp1 _ _ (M.same s3) (.tup upd_same (.cons (.int _) (.cons (.tup (a := t) (xs := [.int sk.count, .int w0, .int ((sk.got.map V.int).length : Nat)]) ?_ ?_) .nil))) s3
        · rw [upd_ne (ne_of_none upd_same hu)]
          exact upd_same
        · rw [List.length_map]
          refine .cons (.int _) (.cons ?_ (.cons (.int _) .nil))
          show Im _ _ (optD sk.wait.head?)
          rw [hw]
          exact .int w0
      · refine ⟨_, rfl, _, T.C_End, _, _, _, rfl, ho1, T.cl_End, T.no_End_now, zip_lookup enN_nd (i := 9) rfl rfl, _, rfl, _, T.C_End, _, _, _, rfl, ho1, T.cl_End, T.no_End_count, zip_lookup enN_nd (i := 12) rfl rfl, _, rfl, _, rfl, _, T.C_End, _, _, _, rfl, ho1, T.cl_End, T.no_End_gathered, zip_lookup enN_nd (i := 13) rfl rfl, ad.g, _, rfl, .inl (SqL.of M1.gt), (by show 3 ≤ sizeLine; decide), fun t ht => ?_⟩
        have s2 := s1.trans (Same.upd_new (o := .tup [.int sk.count, .non, .int ((sk.got.map V.int).length : Nat)]) ht)
        refine ⟨(by show 2 ≤ sizeLine; decide), fun u hu => ?_⟩
        have s3 := s2.trans (Same.upd_new (o := .tup [.int sk.now, .ref t]) hu)
        refine k3 rfl hp1 _ _ (M.same s3) (.tup upd_same (.cons (.int _) (.cons (.tup (a := t) (xs := [.int sk.count, .non, .int ((sk.got.map V.int).length : Nat)]) ?_ ?_) .nil))) s3
        · rw [upd_ne (ne_of_none upd_same hu)]
          exact upd_same
        · rw [List.length_map]
          refine .cons (.int _) (.cons ?_ (.cons (.int _) .nil))
          show Im _ _ (optD sk.wait.head?)
          rw [hwe]
          exact .non

end
end TL

namespace TL
open PySem PySem.Spec PyProof.Rows L2
section
variable {P : Program} {w : World} {K : PySem.W.Frag} {mg : Str → Option Value} {base : Heap}
def sp_End_stands (T : Txt K mg) : Sp := fun vs H Q _ => ∃ (Z : List Addr) (ad : EAd) (s : EndS), vs = [.ref ad.e] ∧ EndAt T.C_End T.C_Marks Z H ad s ∧ ∀ l, H l = none → Q (.ref l) (upd H l (.tup [.int s.now, .bl s.joined]))
theorem ok_End_stands (T : Txt K mg) : FnOk P w K mg base CX0 1 T.a_End_stands T.fd_End_stands P_End_stands (sp_End_stands T) := by
  skip
  refine T.F_End_stands.ok sc_End_stands (fun vs H Q E h => ?_) (fun cdv A outer s H vs Q E hr h => ?_)
  · obtain ⟨Z, ad, s, rfl, _⟩ := h
    rfl
  · obtain ⟨Z, ad, sk, rfl, M, k⟩ := h
    refine ⟨_, (pss_one (ps_ret (pe_tup (pa_cons (pe_fld (pv 0) rfl) (pa_cons (pe_fld (pv 0) rfl) pa_nil))))), ?_⟩
    obtain ⟨⟨dx, cv, mv, ov, ho, _⟩, _⟩ := id M
    refine ⟨_, rfl, _, T.C_End, _, _, _, rfl, ho, T.cl_End, T.no_End_now, zip_lookup enN_nd (i := 9) rfl rfl, _, rfl, _, T.C_End, _, _, _, rfl, ho, T.cl_End, T.no_End_joined, zip_lookup enN_nd (i := 10) rfl rfl, (by show 2 ≤ sizeLine; decide), k⟩

end
end TL

namespace TL
open PySem PySem.Spec PyProof.Rows L2
section
variable {P : Program} {w : World} {K : PySem.W.Frag} {mg : Str → Option Value} {base : Heap}
def sp_End_take (T : Txt K mg) : Sp := fun vs H Q _ => ∃ (Z : List Addr) (ad : EAd) (s : EndS), vs = [.ref ad.e] ∧ EndAt T.C_End T.C_Marks Z H ad s ∧ Can s.can ∧ s.bad.length ≤ 9 ∧ (∀ m, s.oth = some m → Can m.1 ∧ m.2.length ≤ 9) ∧ ∀ H', Same H H' → Q (.int (takeF s)) H'
theorem ok_End_take (T : Txt K mg) : FnOk P w K mg base CX0 5 T.a_End_take T.fd_End_take P_End_take (sp_End_take T) := by
  have G_chosen := ok_chosen (P := P) (w := w) (base := base) T
  refine T.F_End_take.ok sc_End_take (fun vs H Q E h => ?_) (fun cdv A outer s H vs Q E hr h => ?_)
  · obtain ⟨Z, ad, s, rfl, _⟩ := h
    rfl
  · obtain ⟨Z, ad, sk, rfl, M, hcan, hbad, hoth, k⟩ := h
    refine ⟨_, (pss_cons (ps_if (pt_cmpR op_isN1 (pe_fld (pv 0) rfl) pe_non (nomark _))
      (pss_one (ps_ret pe_int))
      pss_nil)
    (pss_one (ps_ret (pe_call G_chosen (hr.mono (by decide)) rfl T.g_chosen T.F_chosen.kp T.b_chosen .nil passL (pa_cons (pe_fld (pv 0) rfl) (pa_cons (pe_ix ix_tup (pe_fld (pv 0) rfl) pe_int (fun _ _ => rfl)) (pa_cons (pe_op op_catA (pe_ix ix_tup (pe_fld (pv 0) rfl) pe_int (fun _ _ => rfl)) (pe_ix ix_tup (pe_fld (pv 0) rfl) pe_int (fun _ _ => rfl))) pa_nil))))))), ?_⟩
    obtain ⟨⟨dx, cv, mv, ov, ho, hc, hm, hv⟩, _⟩ := id M
    refine ⟨_, rfl, _, T.C_End, _, _, _, rfl, ho, T.cl_End, T.no_End_other, zip_lookup enN_nd (i := 5) rfl rfl, rfl, _, rfl, ?_⟩
    have hcs : sk.oth = none ∨ ∃ m, sk.oth = some m := by
      cases sk.oth with
      | none => exact .inl rfl
      | some m => exact .inr ⟨m, rfl⟩
    rcases hcs with hn | ⟨m, hsm⟩
    · rw [hn] at hv
      cases hv
      refine iteT ?_
      have e : takeF sk = 0 := by unfold takeF; rw [hn]
      rw [e] at k
      exact k H (.refl _)
    · rw [hsm] at hv
      obtain ⟨ot, o1, o2, rfl, hot, ho1, ho2⟩ := im_two_inv hv
      obtain ⟨c2, rfl, hc2⟩ := im_can_inv (ms := m.1) ho1
      obtain ⟨b2, rfl, hb2⟩ := im_can_inv (ms := m.2) ho2
      obtain ⟨mt, m1, m2, rfl, hmt, hm1, hm2⟩ := im_two_inv hm
      obtain ⟨c1, rfl, hc1⟩ := im_can_inv hc
      obtain ⟨b1, rfl, hb1⟩ := im_can_inv (ms := sk.bad) hm2
      obtain ⟨hcm, hbm⟩ := hoth m hsm
      refine iteF ?_
      refine ⟨_, rfl, _, T.C_End, _, _, _, rfl, ho, T.cl_End, T.no_End_can, zip_lookup enN_nd (i := 0) rfl rfl, _, rfl, _, T.C_End, _, _, _, rfl, ho, T.cl_End, T.no_End_other, zip_lookup enN_nd (i := 5) rfl rfl, ot, _, _, _, rfl, rfl, SqT.of hot, rfl, _, rfl, _, T.C_End, _, _, _, rfl, ho, T.cl_End, T.no_End_mind, zip_lookup enN_nd (i := 4) rfl rfl, mt, _, _, _, rfl, rfl, SqT.of hmt, rfl, _, rfl, _, T.C_End, _, _, _, rfl, ho, T.cl_End, T.no_End_other, zip_lookup enN_nd (i := 5) rfl rfl, ot, _, _, _, rfl, rfl, SqT.of hot, rfl, ?_⟩
      refine catA (SqT.of hb1) (SqT.of hb2) (by rw [List.length_map, List.length_map]; exact Nat.le_of_lt (small1000 (by omega))) fun u H1 hu s1 => ?_
      have hcD : Im H1 (.ref c1) (canD sk.can) := (Im.tup hc1 (im_ints _)).same s1
      have hcE : Im H1 (.ref c2) (canD m.1) := (Im.tup hc2 (im_ints _)).same s1
      refine ⟨_, _, _, canD sk.can, canD m.1, rfl, hcD.dp, mdat_ints hcan.2.2.2, hcE.dp, mdat_ints hcm.2.2.2, (fun z => absurd z (by show ¬ isMan (.tuple _) = false; rw [isMan_ints hcan]; simp)), (fun _ z => absurd z (by show ¬ isMan (.tuple _) = false; rw [isMan_ints hcm]; simp)), fun _ _ one other e1 e2 => ?_⟩
      have inj : ∀ {a b : List Int}, a.map PyData.int = b.map PyData.int → a = b := fun {a b} e => List.map_inj_right (fun x y z => by cases z; rfl) |>.mp e
      obtain rfl := inj (by injection e1)
      obtain rfl := inj (by injection e2)
      refine ⟨u, sk.bad ++ m.2, rfl, .inr (by rw [List.map_append]; exact hu), fun H2 s2 => ?_⟩
      have e : takeF sk = chosenF sk.can m.1 (sk.bad ++ m.2) := by unfold takeF; rw [hsm]
      rw [e] at k
      exact k H2 (s1.trans s2)

end
end TL

namespace TL
open PySem PySem.Spec PyProof.Rows L2
section
variable {P : Program} {w : World} {K : PySem.W.Frag} {mg : Str → Option Value} {base : Heap}
def sp_End_hear_slow (T : Txt K mg) : Sp := fun vs H Q _ => ∃ (Z : List Addr) (ad : EAd) (s : EndS) (z : V) (l : Option SlowL), vs = [.ref ad.e, z] ∧ EndAt T.C_End T.C_Marks Z H ad s ∧ (∀ z ∈ ad.all, z ∈ Z) ∧ EndOk s ∧ Im H z (slowO l) ∧ (∀ x, l = some x → Can x.2.1.1 ∧ x.2.1.2.length ≤ 9) ∧
  ∀ H', EndAt T.C_End T.C_Marks Z H' ad (hearSlowF s l) → Frm ad.all H H' → Q .non H'
theorem ok_End_hear_slow (T : Txt K mg) : FnOk P w K mg base CX0 6 T.a_End_hear_slow T.fd_End_hear_slow P_End_hear_slow (sp_End_hear_slow T) := by
  have G_End_refresh := ok_End_refresh (P := P) (w := w) (base := base) T
  have G_End_take := ok_End_take (P := P) (w := w) (base := base) T
  refine T.F_End_hear_slow.ok sc_End_hear_slow (fun vs H Q E h => ?_) (fun cdv A outer s H vs Q E hr h => ?_)
  · obtain ⟨Z, ad, s, z, l, rfl, _⟩ := h
    rfl
  · obtain ⟨Z, ad, sk, z, l, rfl, M, hsub, ok, hz, hl, k⟩ := h
    refine ⟨_, (pss_cons (ps_expr (pe_meth0 (pv 0) T.cl_End T.m_End_refresh G_End_refresh (hr.mono (by decide)) T.b_End_refresh .nil pass0))
    (pss_cons (ps_fld (pv 0) pe_bl rfl)
    (pss_cons (ps_cut (ps_if (pt_cmpR op_notN1 (pv 1) pe_non (nomark _))
      (pss_cons (ps_asg (pv 1) (pg_tup rfl (pgs_cons (pg_fld (pv 0)) (pgs_cons (pg_fld (pv 0)) (pgs_cons (pg_fld (pv 0)) pgs_nil)))))
      (pss_one (ps_fld (pv 0) (pe_cmpR op_eq (pe_fld (pv 0) rfl) (pe_fld (pv 0) rfl) (nomark _)) rfl)))
      pss_nil))
    (pss_one (ps_fld (pv 0) (pe_meth0 (pv 0) T.cl_End T.m_End_take G_End_take (hr.mono (by decide)) T.b_End_take .nil pass0) rfl))))), ?_⟩
    obtain ⟨⟨dx, cv, mv, ov, ho, hc, hm, hv⟩, _⟩ := id M
    refine ⟨_, rfl, ad.e, dx, _, rfl, ho, zip_no (by decide), Z, ad, sk, rfl, M, hsub, ok, fun H1 M1 f1 => ?_⟩
    have ok1 := ok.refresh
    refine ⟨_, rfl, M1.sfld T.cl_End T.no_End_ready (hsub _ (by simp [EAd.all])) 8 (.bl false) { refreshF sk with ready := false } rfl (by decide) (fun cv mv ov h1 h2 h3 => ⟨cv, mv, ov, rfl, h1, h2, h3⟩) rfl rfl rfl fun H2 M2 f2 => ?_⟩
    have f12 := f1.trans f2
    refine ⟨fun σ' H' => σ' = [some (.ref ad.e), some z] ∧ EndAt T.C_End T.C_Marks Z H' ad (heardS (refreshF sk) l) ∧ Frm ad.all H H', ?_, ?_⟩
    · refine ⟨_, rfl, rfl, _, rfl, ?_⟩
      cases l with
      | none =>
        cases hz
        exact iteF ⟨rfl, M2, f12⟩
      | some l =>
        obtain ⟨t, x, y, w, rfl, ht, hx, hy, hw⟩ := im_three_inv (hz.frm f12)
        have := im_int_inv hx; subst this
        have := im_int_inv hw; subst this
        refine iteT ?_
        refine ⟨_, rfl, t, _, rfl, SqT.of ht, rfl, _, _, rfl, ?_⟩
        refine M2.gfld T.cl_End T.no_End_seen (hsub _ (by simp [EAd.all])) 6 (.int l.1) { refreshF sk with ready := false, seen := l.1 } rfl (by decide) (fun cv mv ov h1 h2 h3 => ⟨cv, mv, ov, rfl, h1, h2, h3⟩) rfl rfl rfl fun H3 M3 f3 => ?_
        refine ⟨_, _, rfl, ?_⟩
        refine M3.gfld T.cl_End T.no_End_other (hsub _ (by simp [EAd.all])) 5 y { refreshF sk with ready := false, seen := l.1, oth := some l.2.1 } rfl (by decide) (fun cv mv ov h1 h2 h3 => ⟨cv, mv, y, rfl, h1, h2, hy.frm f3⟩) rfl rfl rfl fun H4 M4 f4 => ?_
        refine ⟨_, _, rfl, ?_⟩
        refine M4.gfld T.cl_End T.no_End_known (hsub _ (by simp [EAd.all])) 7 (.int l.2.2) { refreshF sk with ready := false, seen := l.1, oth := some l.2.1, known := l.2.2 } rfl (by decide) (fun cv mv ov h1 h2 h3 => ⟨cv, mv, ov, rfl, h1, h2, h3⟩) rfl rfl rfl fun H5 M5 f5 => ?_
        refine ⟨rfl, ?_⟩
        obtain ⟨⟨dx5, cv5, mv5, ov5, ho5, _⟩, _⟩ := id M5
        refine ⟨_, rfl, _, T.C_End, _, _, _, rfl, ho5, T.cl_End, T.no_End_known, zip_lookup enN_nd (i := 7) rfl rfl, _, rfl, _, T.C_End, _, _, _, rfl, ho5, T.cl_End, T.no_End_version, zip_lookup enN_nd (i := 3) rfl rfl, rfl, _, rfl, M5.sfld T.cl_End T.no_End_ready (hsub _ (by simp [EAd.all])) 8 _ (heardS (refreshF sk) (some l)) rfl (by decide) (fun cv mv ov h1 h2 h3 => ⟨cv, mv, ov, ?_, h1, h2, h3⟩) rfl rfl rfl fun H6 M6 f6 => ⟨rfl, M6, f12.trans (((f3.trans f4).trans f5).trans f6)⟩⟩
        have e : decide (V.int l.2.2 = V.int (refreshF sk).ver) = decide (l.2.2 = (refreshF sk).ver) := decide_eq_decide.mpr vint_inj
        rw [e]
        rfl
    rintro σ' H3 ⟨rfl, M3, f3⟩
    obtain ⟨⟨dx3, cv3, mv3, ov3, ho3, _⟩, _⟩ := id M3
    have hob : (heardS (refreshF sk) l).can = (refreshF sk).can ∧ (heardS (refreshF sk) l).bad = (refreshF sk).bad ∧ (∀ m, (heardS (refreshF sk) l).oth = some m → Can m.1 ∧ m.2.length ≤ 9) := by
      cases l with
      | none => exact ⟨rfl, rfl, ok1.oth⟩
      | some l => exact ⟨rfl, rfl, fun m e => by
          have e' : l.2.1 = m := Option.some.inj e
          rw [← e']
          exact hl l rfl⟩
    refine ⟨_, rfl, ad.e, dx3, _, rfl, ho3, zip_no (by decide), Z, ad, _, rfl, M3, by rw [hob.1]; exact ok1.can, by rw [hob.2.1]; exact ok1.bad, hob.2.2, fun H4 s4 => ?_⟩
    refine ⟨_, rfl, (M3.same s4).sfld T.cl_End T.no_End_now (hsub _ (by simp [EAd.all])) 9 _ (hearSlowF sk l) rfl (by decide) (fun cv mv ov h1 h2 h3 => ⟨cv, mv, ov, rfl, h1, h2, h3⟩) rfl rfl rfl fun H5 M5 f5 => ?_⟩
    exact k H5 M5 ((f3.trans (Frm.of_same s4)).trans f5)

end
end TL

namespace TL
open PySem PySem.Spec PyProof.Rows L2
section
variable {P : Program} {w : World} {K : PySem.W.Frag} {mg : Str → Option Value} {base : Heap}
def sp_End_hear_fast (T : Txt K mg) : Sp := fun vs H Q _ => ∃ (Z : List Addr) (ad : EAd) (s : EndS) (z : V) (l : Option FastL), vs = [.ref ad.e, z] ∧ EndAt T.C_End T.C_Marks Z H ad s ∧ (∀ z ∈ ad.all, z ∈ Z) ∧ Alloc Z H ∧ EndOk s ∧ Im H z (fastO l) ∧ (∀ x, l = some x → s.count < x.2.2 → s.wait ≠ []) ∧
  ∀ H', EndAt T.C_End T.C_Marks Z H' ad (hearFastF s l) → Frm ad.all H H' → Q .non H'
theorem ok_End_hear_fast (T : Txt K mg) : FnOk P w K mg base CX0 4 T.a_End_hear_fast T.fd_End_hear_fast P_End_hear_fast (sp_End_hear_fast T) := by
  have G_Marks_note := ok_Marks_note (P := P) (w := w) (base := base) T
  refine T.F_End_hear_fast.ok sc_End_hear_fast (fun vs H Q E h => ?_) (fun cdv A outer s H vs Q E hr h => ?_)
  · obtain ⟨Z, ad, s, z, l, rfl, _⟩ := h
    rfl
  · obtain ⟨Z, ad, sk, z, l, rfl, M, hsub, AZ, ok, hz, hl, k⟩ := h
    refine ⟨_, (pss_cons (ps_fld (pv 0) (pe_cmpR op_notN1 (pv 1) pe_non (nomark _)) rfl)
    (pss_cons (ps_cut (ps_if (PW.pt (pw_and (pt_cmpR op_gt (pe_fld (pv 0) rfl) pe_int (nomark _)) (pw_and1 (PW.pt (pw_or (pt_val (pe_fld (pv 0) rfl)) (pw_or1 (pt_val (pe_fld (pv 0) rfl))))))))
      (pss_one (ps_expr (pe_meth (pe_fld (pv 0) rfl) T.cl_Marks T.m_Marks_note G_Marks_note (hr.mono (by decide)) T.b_Marks_note .nil passL (pa_cons (pe_fld (pv 0) rfl) (pa_cons (pe_fld (pv 0) rfl) (pa_cons (pe_fld (pv 0) rfl) pa_nil))))))
      pss_nil))
    (pss_cons (ps_if (pt_cmpR op_isN1 (pv 1) pe_non (nomark _))
      (pss_one ps_retN)
      pss_nil)
    (pss_cons (ps_asg (pv 1) (pg_tup rfl (pgs_cons (pg_name (i := 2) sc_End_hear_fast.nd rfl (by first | exact Or.inl rfl | exact Or.inr rfl)) (pgs_cons (pg_name (i := 3) sc_End_hear_fast.nd rfl (by first | exact Or.inl rfl | exact Or.inr rfl)) (pgs_cons (pg_name (i := 4) sc_End_hear_fast.nd rfl (by first | exact Or.inl rfl | exact Or.inr rfl)) pgs_nil)))))
    (pss_cons (ps_cut (ps_if (PW.pt (pw_and (pt_cmpR op_notN1 (pv 3) pe_non (nomark _)) (pw_and1 (pt_cmpR op_eq (pv 2) (pe_callB call_len_seq (by rfl) T.n_len (by decide +kernel) (pa_cons (pe_fld (pv 0) rfl) pa_nil)) (nomark _)))))
      (pss_one (ps_expr (pe_bm PySem.F.plainAttrs_list PySem.F.slot_list_append PySem.F.type_list_append mt_append (pe_fld (pv 0) rfl) (pa_cons (pv 3) pa_nil))))
      pss_nil))
    (pss_one (ps_if (pt_cmpR op_gt (pv 4) (pe_fld (pv 0) rfl) (nomark _))
      (pss_cons (ps_fld (pv 0) (pv 4) rfl)
      (pss_one (ps_expr (pe_bm PySem.F.plainAttrs_list PySem.F.slot_list_pop PySem.F.type_list_pop mt_popAt (pe_fld (pv 0) rfl) (pa_cons pe_int pa_nil)))))
      pss_nil))))))), ?_⟩
    refine ⟨_, rfl, rfl, ?_⟩
    have ej : (!decide (z = V.non)) = l.isSome := by
      cases l with
      | none => cases hz; rfl
      | some l => obtain ⟨t, x, y, w, rfl, _⟩ := im_three_inv hz; rfl
    rw [ej]
    refine ⟨_, rfl, M.sfld T.cl_End T.no_End_joined (hsub _ (by simp [EAd.all])) 10 (.bl l.isSome) { sk with joined := l.isSome } rfl (by decide) (fun cv mv ov h1 h2 h3 => ⟨cv, mv, ov, rfl, h1, h2, h3⟩) rfl rfl rfl fun H1 M1 f1 => ?_⟩
    refine ⟨fun σ' H' => σ' = [some (.ref ad.e), some z, none, none, none] ∧ EndAt T.C_End T.C_Marks Z H' ad (notedF sk l.isSome) ∧ Frm ad.all H H', ?_, ?_⟩
    · obtain ⟨⟨dx1, cv1, mv1, ov1, ho1, _⟩, _⟩ := id M1
      have no : ∀ (h : ¬ (0 < sk.now ∧ (l.isSome = true ∨ sk.ready = true))), notedF sk l.isSome = { sk with joined := l.isSome } := fun h => by unfold notedF; rw [if_neg h]
      refine ⟨_, rfl, _, T.C_End, _, _, _, rfl, ho1, T.cl_End, T.no_End_now, zip_lookup enN_nd (i := 9) rfl rfl, _, _, rfl, rfl, _, rfl, ?_⟩
      refine iteD (fun hn => ?_) (fun hn => iteF ⟨rfl, by rw [no fun z => hn z.1]; exact M1, f1⟩)
      have go : (0 < sk.now ∧ (l.isSome = true ∨ sk.ready = true)) → True := fun _ => trivial
      have note : (0 < sk.now ∧ (l.isSome = true ∨ sk.ready = true)) → ∀ H3, MarksAt T.C_Marks Z H3 ad.mks (noteF sk.mks sk.now l.isSome sk.over) → Frm ad.mks.all H1 H3 → EndAt T.C_End T.C_Marks Z H3 ad (notedF sk l.isSome) ∧ Frm ad.all H H3 := fun hh H3 M3 f3 => by
        obtain ⟨g1, g2⟩ := M1.setM M3 f3
        have e : notedF sk l.isSome = { sk with joined := l.isSome, mks := noteF sk.mks sk.now l.isSome sk.over } := by unfold notedF; rw [if_pos hh]
        rw [e]
        exact ⟨g1, f1.trans g2⟩
      obtain ⟨⟨dmk, hmk⟩, _⟩ := id M1.mks
      have ob0 := ok.o0
      have ob1 := ok.o1
      have nb9 := ok.n9
      have hn' : 0 < sk.now := hn
      refine ⟨_, rfl, _, T.C_End, _, _, _, rfl, ho1, T.cl_End, T.no_End_joined, zip_lookup enN_nd (i := 10) rfl rfl, _, rfl, ?_⟩
      refine iteB (fun hj => iteT ?_) (fun hj => ⟨_, rfl, _, T.C_End, _, _, _, rfl, ho1, T.cl_End, T.no_End_ready, zip_lookup enN_nd (i := 8) rfl rfl, _, rfl, iteB (fun hr => ?_) (fun hr => ⟨rfl, by rw [no fun z => z.2.elim (fun q => Bool.noConfusion (q.symm.trans hj)) (fun q => Bool.noConfusion (q.symm.trans hr))]; exact M1, f1⟩)⟩)
      · refine ⟨_, rfl, _, T.C_End, _, _, _, rfl, ho1, T.cl_End, T.no_End_marks, zip_lookup enN_nd (i := 1) rfl rfl, ad.mks.m, dmk, _, rfl, hmk, zip_no (by decide), _, rfl, _, T.C_End, _, _, _, rfl, ho1, T.cl_End, T.no_End_now, zip_lookup enN_nd (i := 9) rfl rfl, _, rfl, _, T.C_End, _, _, _, rfl, ho1, T.cl_End, T.no_End_joined, zip_lookup enN_nd (i := 10) rfl rfl, _, rfl, _, T.C_End, _, _, _, rfl, ho1, T.cl_End, T.no_End_over, zip_lookup enN_nd (i := 2) rfl rfl, Z, ad.mks, sk.mks, _, _, .int sk.now, .int sk.over, l.isSome, rfl, M1.mks, AZ.frm f1, fun z hz => hsub z (ad.mk_all z hz), .int _, (fun ds z => by cases z), .int _, (fun ds z => by cases z), (fun z => ?_), (fun _ z => ?_), fun m f e1 e2 _ _ _ _ H3 M3 f3 => ?_⟩
        · simp [between] at z
          omega
        · simp [between] at z
          omega
        · cases e1
          cases e2
          obtain ⟨g1, g2⟩ := note ⟨hn', .inl hj⟩ H3 M3 f3
          exact ⟨rfl, g1, g2⟩
      · refine ⟨_, rfl, _, T.C_End, _, _, _, rfl, ho1, T.cl_End, T.no_End_marks, zip_lookup enN_nd (i := 1) rfl rfl, ad.mks.m, dmk, _, rfl, hmk, zip_no (by decide), _, rfl, _, T.C_End, _, _, _, rfl, ho1, T.cl_End, T.no_End_now, zip_lookup enN_nd (i := 9) rfl rfl, _, rfl, _, T.C_End, _, _, _, rfl, ho1, T.cl_End, T.no_End_joined, zip_lookup enN_nd (i := 10) rfl rfl, _, rfl, _, T.C_End, _, _, _, rfl, ho1, T.cl_End, T.no_End_over, zip_lookup enN_nd (i := 2) rfl rfl, Z, ad.mks, sk.mks, _, _, .int sk.now, .int sk.over, l.isSome, rfl, M1.mks, AZ.frm f1, fun z hz => hsub z (ad.mk_all z hz), .int _, (fun ds z => by cases z), .int _, (fun ds z => by cases z), (fun z => ?_), (fun _ z => ?_), fun m f e1 e2 _ _ _ _ H3 M3 f3 => ?_⟩
        · simp [between] at z
          omega
        · simp [between] at z
          omega
        · cases e1
          cases e2
          obtain ⟨g1, g2⟩ := note ⟨hn', .inr hr⟩ H3 M3 f3
          exact ⟨rfl, g1, g2⟩
    rintro σ' H2 ⟨rfl, M2, f2⟩
    refine ⟨_, rfl, rfl, _, rfl, ?_⟩
    cases l with
    | none =>
      cases hz
      exact iteT (k H2 M2 f2)
    | some l =>
      obtain ⟨t, x, y, w, rfl, ht, hx, hy, hw⟩ := im_three_inv (hz.frm f2)
      have := im_int_inv hx; subst this
      have := im_int_inv hw; subst this
      obtain ⟨n, i, c⟩ := l
      have M2 : EndAt T.C_End T.C_Marks Z H2 ad (notedF sk true) := M2
      refine iteF ?_
      refine ⟨_, rfl, t, _, rfl, SqT.of ht, rfl, _, _, rfl, _, _, rfl, _, _, rfl, rfl, ?_⟩
      have hgl : (notedF sk true).got = sk.got ∧ (notedF sk true).wait = sk.wait ∧ (notedF sk true).count = sk.count := by
        unfold notedF
        split <;> exact ⟨rfl, rfl, rfl⟩
      refine ⟨fun σ' H' => σ' = [some (.ref ad.e), some (.ref t), some (.int n), some y, some (.int c)] ∧ EndAt T.C_End T.C_Marks Z H' ad (gatherF (notedF sk true) n i) ∧ Frm ad.all H H', ?_, ?_⟩
      · refine ⟨_, rfl, rfl, _, rfl, ?_⟩
        cases i with
        | none =>
          cases hy
          exact iteF ⟨rfl, M2, f2⟩
        | some i =>
          cases hy
          obtain ⟨⟨dx2, cv2, mv2, ov2, ho2, _⟩, _⟩ := id M2
          refine iteT ⟨_, rfl, _, rfl, _, T.C_End, _, _, _, rfl, ho2, T.cl_End, T.no_End_gathered, zip_lookup enN_nd (i := 13) rfl rfl, ad.g, _, rfl, .inl (SqL.of M2.gt), rfl, _, rfl, ?_⟩
          have eg : ∀ q : n = ((notedF sk true).got.length : Nat), gatherF (notedF sk true) n (some i) = { notedF sk true with got := (notedF sk true).got ++ [i] } := fun q => by
            show (if n = ((notedF sk true).got.length : Nat) then _ else _) = _
            rw [if_pos q]
          have en : ∀ q : ¬ n = ((notedF sk true).got.length : Nat), gatherF (notedF sk true) n (some i) = notedF sk true := fun q => by
            show (if n = ((notedF sk true).got.length : Nat) then _ else _) = _
            rw [if_neg q]
          refine iteD (fun q => ?_) (fun q => ⟨rfl, by rw [en fun z => q (by rw [z, List.length_map]; rfl)]; exact M2, f2⟩)
          have q' := vint_inj.mp q
          rw [List.length_map] at q'
          refine ⟨_, rfl, _, T.C_End, _, _, _, rfl, ho2, T.cl_End, T.no_End_gathered, zip_lookup enN_nd (i := 13) rfl rfl, .inl ⟨rfl, _, SqL.of M2.gt⟩, _, rfl, ad.g, _, _, rfl, rfl, M2.gt, (by rw [List.length_map]; show (notedF sk true).got.length < sizeLine; rw [hgl.1]; have := ok.got; exact small1000 (by omega)), ?_⟩
          obtain ⟨M3, f3⟩ := M2.setG (hsub _ (by simp [EAd.all])) ((notedF sk true).got ++ [i])
          rw [List.map_append] at M3 f3
          exact ⟨rfl, by rw [eg q']; exact M3, f2.trans f3⟩
      rintro σ' H3 ⟨rfl, M3, f3⟩
      have hg3 : (gatherF (notedF sk true) n i).wait = sk.wait ∧ (gatherF (notedF sk true) n i).count = sk.count := by
        unfold gatherF
        split
        · exact hgl.2
        · split
          · exact hgl.2
          · exact hgl.2
      obtain ⟨⟨dx3, cv3, mv3, ov3, ho3, _⟩, _⟩ := id M3
      refine ⟨_, rfl, _, rfl, _, T.C_End, _, _, _, rfl, ho3, T.cl_End, T.no_End_count, zip_lookup enN_nd (i := 12) rfl rfl, _, _, rfl, rfl, _, rfl, ?_⟩
      have ek : hearFastF sk (some (n, i, c)) = if (gatherF (notedF sk true) n i).count < c then { gatherF (notedF sk true) n i with count := c, wait := (gatherF (notedF sk true) n i).wait.tail } else gatherF (notedF sk true) n i := rfl
      refine iteD (fun q => ?_) (fun q => k H3 (by rw [ek, if_neg q]; exact M3) f3)
      have hwn : sk.wait ≠ [] := hl _ rfl (by rw [hg3.2] at q; exact q)
      refine ⟨_, rfl, _, rfl, M3.sfld T.cl_End T.no_End_count (hsub _ (by simp [EAd.all])) 12 (.int c) { gatherF (notedF sk true) n i with count := c } rfl (by decide) (fun cv mv ov h1 h2 h3 => ⟨cv, mv, ov, rfl, h1, h2, h3⟩) rfl rfl rfl fun H4 M4 f4 => ?_⟩
      obtain ⟨⟨dx4, cv4, mv4, ov4, ho4, _⟩, _⟩ := id M4
      obtain ⟨w0, wr, hw⟩ : ∃ a r, sk.wait = a :: r := by
        cases h : sk.wait with
        | nil => exact absurd h hwn
        | cons a r => exact ⟨a, r, rfl⟩
      have hw4 : H4 ad.w = some (.lst ((w0 :: wr).map V.int)) := by
        have := M4.wt
        rw [show ({ gatherF (notedF sk true) n i with count := c } : EndS).wait = w0 :: wr from hg3.1.trans hw] at this
        exact this
      have s2 : seqIndex? 0 ((w0 :: wr).map V.int).length = some 0 := by
        have e : ixN ((w0 :: wr).map V.int).length 0 = some 0 := by
          unfold ixN
          simp only [List.length_map, List.length_cons]
          rw [if_pos (by omega), if_pos (by omega)]
          rfl
        exact (ixN_seq e).1
      refine ⟨_, rfl, _, T.C_End, _, _, _, rfl, ho4, T.cl_End, T.no_End_waiting, zip_lookup enN_nd (i := 11) rfl rfl, .inl ⟨rfl, _, SqL.of M4.wt⟩, ad.w, _, _, 0, .int w0, rfl, rfl, hw4, by decide, by decide, s2, rfl, ?_⟩
      obtain ⟨M5, f5⟩ := M4.setW (hsub _ (by simp [EAd.all])) wr
      refine k _ (by rw [ek, if_pos q, hg3.1, hw]; exact M5) ((f3.trans f4).trans f5)

end
end TL

namespace TL
open PySem PySem.Spec PyProof.Rows L2
section
variable {P : Program} {w : World} {K : PySem.W.Frag} {mg : Str → Option Value} {base : Heap}
def sp_End_hear (T : Txt K mg) : Sp := fun vs H Q E => ∃ (Z : List Addr) (ad : EAd) (s : EndS) (y z : V) (dy : PyData), vs = [.ref ad.e, y, z] ∧ EndAt T.C_End T.C_Marks Z H ad s ∧ (∀ z ∈ ad.all, z ∈ Z) ∧ Alloc Z H ∧ EndOk s ∧ Dp K H y dy ∧ (∀ ds, dy ≠ .list ds) ∧ 0 ≤ s.part ∧ s.part ≤ 1 ∧
  (dy ≠ .int s.part → E (.ref T.C_BadPart) none H) ∧
  (dy = .int s.part → s.part = 0 → ∃ l : Option SlowL, Im H z (slowO l) ∧ (∀ x, l = some x → Can x.2.1.1 ∧ x.2.1.2.length ≤ 9) ∧ ∀ H', EndAt T.C_End T.C_Marks Z H' ad (hearF0 s l) → Frm ad.all H H' → Q .non H') ∧
  (dy = .int s.part → s.part = 1 → ∃ l : Option FastL, Im H z (fastO l) ∧ (∀ x, l = some x → s.count < x.2.2 → s.wait ≠ []) ∧ ∀ H', EndAt T.C_End T.C_Marks Z H' ad (hearF1 s l) → Frm ad.all H H' → Q .non H')
theorem ok_End_hear (T : Txt K mg) : FnOk P w K mg base (L2.CX P w) 7 T.a_End_hear T.fd_End_hear P_End_hear (sp_End_hear T) := by
  have G_End_need_part := ok_End_need_part (P := P) (w := w) (base := base) T
  have G_End_hear_slow := ok_End_hear_slow (P := P) (w := w) (base := base) T
  have G_End_hear_fast := ok_End_hear_fast (P := P) (w := w) (base := base) T
  refine T.F_End_hear.okX sc_End_hear (fun vs H Q E h => ?_) (fun cdv A outer s H vs Q E hr h => ?_)
  · obtain ⟨Z, ad, s, y, z, dy, rfl, _⟩ := h
    rfl
  · obtain ⟨Z, ad, sk, y, z, dy, rfl, M, hsub, AZ, ok, hy, nl, p0, p1, k1, k2, k3⟩ := h
    refine ⟨_, (pss_cons (ps_expr (pe_meth (pv 0) T.cl_End T.m_End_need_part G_End_need_part (hr.mono (by decide)) T.b_End_need_part .nil (passes_call (takes_of rfl rfl rfl rfl) (fun _ _ _ _ h => h)) (pa_cons (pv 1) pa_nil)))
    (pss_one (ps_if (pt_cmpR op_eq (pv 1) (pe_glob (v := .int 0) rfl T.v_SLOW ⟨_, rfl⟩) (nomark _))
      (pss_cons (ps_expr (pe_meth (pv 0) T.cl_End T.m_End_hear_slow G_End_hear_slow (hr.mono (by decide)) T.b_End_hear_slow .nil pass0 (pa_cons (pv 2) pa_nil)))
      (pss_one (ps_fld (pv 0) (pe_glob (v := .int 1) rfl T.v_FAST ⟨_, rfl⟩) rfl)))
      (pss_cons (ps_expr (pe_meth (pv 0) T.cl_End T.m_End_hear_fast G_End_hear_fast (hr.mono (by decide)) T.b_End_hear_fast .nil pass0 (pa_cons (pv 2) pa_nil)))
      (pss_cons (ps_fld (pv 0) (pe_glob (v := .int 0) rfl T.v_SLOW ⟨_, rfl⟩) rfl)
      (pss_one (ps_fld (pv 0) (pe_op op_add (pe_fld (pv 0) rfl) pe_int) rfl))))))), ?_⟩
    obtain ⟨⟨dx, cv, mv, ov, ho, hc, hm, hv⟩, _⟩ := id M
    refine ⟨_, rfl, ad.e, dx, _, rfl, ho, zip_no (by decide), _, rfl, Z, ad, sk, y, dy, rfl, M, hy, nl, p0, p1, fun e => ?_, k1⟩
    subst e
    cases hy
    refine ⟨_, rfl, rfl, _, rfl, ?_⟩
    refine iteD (fun hp => ?_) (fun hp => ?_)
    · have hp0 : sk.part = 0 := vint_inj.mp hp
      obtain ⟨l, hz, hl, k⟩ := k2 rfl hp0
      refine ⟨_, rfl, ad.e, dx, _, rfl, ho, zip_no (by decide), _, rfl, Z, ad, sk, z, l, rfl, M, hsub, ok, hz, hl, fun H1 M1 f1 => ?_⟩
      refine ⟨_, rfl, M1.sfld T.cl_End T.no_End_part (hsub _ (by simp [EAd.all])) 14 (.int 1) (hearF0 sk l) rfl (by decide) (fun cv mv ov h1 h2 h3 => ⟨cv, mv, ov, rfl, h1, h2, h3⟩) rfl rfl rfl fun H2 M2 f2 => ?_⟩
      exact k H2 M2 (f1.trans f2)
    · have hp1 : sk.part = 1 := by
        have : sk.part ≠ 0 := fun z => hp (by rw [z])
        omega
      obtain ⟨l, hz, hl, k⟩ := k3 rfl hp1
      refine ⟨_, rfl, ad.e, dx, _, rfl, ho, zip_no (by decide), _, rfl, Z, ad, sk, z, l, rfl, M, hsub, AZ, ok, hz, hl, fun H1 M1 f1 => ?_⟩
      refine ⟨_, rfl, M1.sfld T.cl_End T.no_End_part (hsub _ (by simp [EAd.all])) 14 (.int 0) { hearFastF sk l with part := 0 } rfl (by decide) (fun cv mv ov h1 h2 h3 => ⟨cv, mv, ov, rfl, h1, h2, h3⟩) rfl rfl rfl fun H2 M2 f2 => ?_⟩
      obtain ⟨⟨dx2, cv2, mv2, ov2, ho2, _⟩, _⟩ := id M2
      refine ⟨_, rfl, _, T.C_End, _, _, _, rfl, ho2, T.cl_End, T.no_End_over, zip_lookup enN_nd (i := 2) rfl rfl, _, _, rfl, rfl, _, rfl, M2.sfld T.cl_End T.no_End_over (hsub _ (by simp [EAd.all])) 2 (.int ((hearFastF sk l).over + 1)) (hearF1 sk l) rfl (by decide) (fun cv mv ov h1 h2 h3 => ⟨cv, mv, ov, rfl, h1, h2, h3⟩) rfl rfl rfl fun H3 M3 f3 => ?_⟩
      exact k H3 M3 ((f1.trans f2).trans f3)

end
end TL

namespace TL
open PySem PySem.Spec PyProof.Rows L2
section
variable {P : Program} {w : World} {K : PySem.W.Frag} {mg : Str → Option Value} {base : Heap}
/-- an end, dice and tables -/
structure IE (T : Txt K mg) (H : Hp) (d : Addr) (a : EAd) (s : EndS) : Prop where
  D : DiceAt H d
  tb : LamX.Tabs T.tl H
  M : EndAt T.C_End T.C_Marks (d :: (T.ps ++ a.all)) H a s
  al : Alloc (d :: (T.ps ++ a.all)) H
  dl : d ∉ a.every
  dp : d ∉ T.ps
  pl : ∀ x ∈ a.every, x ∉ T.ps
section
variable {T : Txt K mg} {H H' : Hp} {d : Addr} {a : EAd} {s : EndS}
theorem IE.sub (h : IE T H d a s) : ∀ z ∈ a.all, z ∈ d :: (T.ps ++ a.all) := fun z hz => List.mem_cons_of_mem _ (List.mem_append_right _ hz)
theorem IE.same (h : IE T H d a s) (e : Same H H') : IE T H' d a s := ⟨h.D.same e, tabs_same h.tb e, h.M.same e, h.al.frm (Frm.of_same (S := []) e), h.dl, h.dp, h.pl⟩
theorem IE.dice (h : IE T H d a s) (D : DiceAt H' d) (e : Frm [d] H H') : IE T H' d a s :=
  ⟨D, tabs_dice h.tb h.D e, h.M.frm e (fun x hx => by simp at hx; simp [hx]) (fun x hx z => by simp at z; subst z; exact h.dl hx), h.al.frm e, h.dl, h.dp, h.pl⟩
theorem IE.lam (h : IE T H d a s) {P : Addr} (hP : P ∈ T.ps) (tb : LamX.Tabs T.tl H') (e : Frm [P] H H') : IE T H' d a s :=
  ⟨h.D.frm e (by simp; rintro rfl; exact h.dp hP), tb, h.M.frm e (fun x hx => by simp at hx; subst hx; exact List.mem_cons_of_mem _ (List.mem_append_left _ hP)) (fun x hx z => by simp at z; subst z; exact h.pl x hx hP), h.al.frm e, h.dl, h.dp, h.pl⟩
theorem IE.step (h : IE T H d a s) {s' : EndS} (M : EndAt T.C_End T.C_Marks (d :: (T.ps ++ a.all)) H' a s') (e : Frm a.all H H') : IE T H' d a s' :=
  ⟨h.D.frm e (fun z => h.dl (a.all_every _ z)), tabs_S h.tb h.M.nox e, M, h.al.frm e, h.dl, h.dp, h.pl⟩
end
/-! ### what an end says, and hears nothing -/
def sayF (s : EndS) : EndS := if s.part = 0 then refreshF s else s
def saidD (s : EndS) : PyData := if s.part = 0 then .tuple [.int 0, slowD (slowOf (refreshF s))] else .tuple [.int s.now, fastD (fastOf s)]
def deafF (s : EndS) : EndS := if s.part = 0 then hearF0 s none else hearF1 s none
theorem refresh_part (s : EndS) : (refreshF s).part = s.part := by
  unfold refreshF
  split <;> rfl
theorem say_part (s : EndS) : (sayF s).part = s.part := by
  unfold sayF
  split
  · exact refresh_part s
  · rfl
theorem say_again (s : EndS) : sayF (sayF s) = sayF s ∧ saidD (sayF s) = saidD s := by
  by_cases h : s.part = 0
  · have e : sayF s = refreshF s := if_pos h
    have p := (refresh_part s).trans h
    rw [e]
    unfold sayF saidD
    rw [if_pos p, if_pos h, if_pos p, refresh_twice]
    exact ⟨rfl, rfl⟩
  · have e : sayF s = s := if_neg h
    rw [e]
    exact ⟨e, rfl⟩
theorem lv_said {s : EndS} (ok : EndOk s) : lv 4 (saidD s) := by
  unfold saidD
  have g := ok.refresh
  have c := g.can.2.2.2
  have b := g.bad
  split
  · refine ⟨(by show 2 ≤ 100000; decide), fun x hx => ?_⟩
    simp only [List.mem_cons, List.not_mem_nil, or_false] at hx
    rcases hx with rfl | rfl
    · trivial
    · refine ⟨(by show 3 ≤ 100000; decide), fun y hy => ?_⟩
      simp only [List.mem_cons, List.not_mem_nil, or_false] at hy
      rcases hy with rfl | rfl | rfl
      · trivial
      · exact lv_mind (m := ((refreshF s).can, (refreshF s).bad)) c (Nat.le_trans b (by decide)) 0
      · trivial
  · refine ⟨(by show 2 ≤ 100000; decide), fun x hx => ?_⟩
    simp only [List.mem_cons, List.not_mem_nil, or_false] at hx
    rcases hx with rfl | rfl
    · trivial
    · refine ⟨(by show 3 ≤ 100000; decide), fun y hy => ?_⟩
      simp only [List.mem_cons, List.not_mem_nil, or_false] at hy
      rcases hy with rfl | rfl | rfl
      · trivial
      · cases (fastOf s).2.1 <;> trivial
      · trivial
theorem say_ok {s : EndS} (ok : EndOk s) : EndOk (sayF s) ∧ (sayF s).over = s.over ∧ (sayF s).wait = s.wait ∧ (sayF s).joined = s.joined := by
  unfold sayF
  split
  · obtain ⟨h1, h2, h3, h4, h5, h6, h7, h8, h9, h10, _⟩ := refresh_same s
    exact ⟨ok.refresh, h3, h10, h9⟩
  · exact ⟨ok, rfl, rfl, rfl⟩
theorem deaf_ok {s : EndS} (ok : EndOk s) (ho : s.over < 1000000) : EndOk (deafF (sayF s)) ∧ (deafF (sayF s)).over ≤ s.over + 1 ∧ (deafF (sayF s)).wait = s.wait ∧ (s.part = 0 → (deafF (sayF s)).part = 1 ∧ (deafF (sayF s)).joined = s.joined) ∧ (s.part ≠ 0 → (deafF (sayF s)).part = 0 ∧ (deafF (sayF s)).joined = false) := by
  by_cases h : s.part = 0
  · have e : deafF (sayF s) = hearF0 (refreshF s) none := by
      have e1 : sayF s = refreshF s := if_pos h
      rw [e1]
      exact if_pos ((refresh_part s).trans h)
    rw [e]
    obtain ⟨h1, h2, h3, h4, h5, h6, h7, h8, h9⟩ := slow_parts s none
    exact ⟨ok.slow (fun m z => by cases z), by rw [h3]; omega, h5, fun _ => ⟨rfl, h9⟩, fun n => absurd h n⟩
  · have e : deafF (sayF s) = hearF1 s none := by
      have e1 : sayF s = s := if_neg h
      rw [e1]
      exact if_neg h
    rw [e]
    obtain ⟨h1, h2, h3, h4, h5, h6, h7, h8, h9, _⟩ := fast_parts s none
    refine ⟨ok.fast none ho (by rw [h9]; exact ok.wait) (by rw [h7]; exact ok.got), by rw [h2]; exact Int.le_refl _, h9, fun z => absurd z h, fun _ => ⟨rfl, h6⟩⟩
theorem say_sp {T : Txt K mg} {H : Hp} {d : Addr} {a : EAd} {s : EndS} {Q : VK} {n : Int} (hn : n = s.part) (I : IE T H d a s) (ok : EndOk s) (p0 : 0 ≤ s.part) (p1 : s.part ≤ 1) (k : ∀ v H', IE T H' d a (sayF s) → Im H' v (saidD s) → Frm a.all H H' → Q v H') : sp_End_say T [.ref a.e, .int n] H Q E0 := by
  subst hn
  refine ⟨_, a, s, _, _, rfl, I.M, I.sub, ok, .int _, (fun ds z => by cases z), p0, p1, fun z => absurd rfl z, fun _ h v H' M im f => ?_, fun _ h v H' M im e => ?_⟩
  · refine k v H' (I.step ?_ f) ?_ f
    · unfold sayF; rw [if_pos h]; exact M
    · unfold saidD; rw [if_pos h]; exact im
  · have n : ¬ s.part = 0 := by omega
    refine k v H' (I.step ?_ (Frm.of_same e)) ?_ (Frm.of_same e)
    · unfold sayF; rw [if_neg n]; exact M
    · unfold saidD; rw [if_neg n]; exact im
theorem deaf_sp {T : Txt K mg} {H : Hp} {d : Addr} {a : EAd} {s : EndS} {Q : VK} {n : Int} (hn : n = s.part) (I : IE T H d a s) (ok : EndOk s) (p0 : 0 ≤ s.part) (p1 : s.part ≤ 1) (k : ∀ H', IE T H' d a (deafF s) → Frm a.all H H' → Q .non H') : sp_End_hear T [.ref a.e, .int n, .non] H Q E0 := by
  subst hn
  refine ⟨_, a, s, _, _, _, rfl, I.M, I.sub, I.al, ok, .int _, (fun ds z => by cases z), p0, p1, fun z => absurd rfl z, fun _ h => ⟨none, .non, (fun x z => by cases z), fun H' M f => ?_⟩, fun _ h => ⟨none, .non, (fun x z => by cases z), fun H' M f => ?_⟩⟩
  · refine k H' (I.step ?_ f) f
    unfold deafF; rw [if_pos h]; exact M
  · have n : ¬ s.part = 0 := by omega
    refine k H' (I.step ?_ f) f
    unfold deafF; rw [if_neg n]; exact M
def sp__law_are_parts (T : Txt K mg) : Sp := fun vs H Q _ => ∃ (d : Addr) (a : EAd) (s : EndS), vs = [.ref d, .ref a.e] ∧ IE T H d a s ∧ EndOk s ∧ s.part = 0 ∧ s.over = 0 ∧ ∀ (s' : EndS) (H' : Hp), IE T H' d a s' → s'.wait = s.wait → Q (.bl true) H'
theorem ok__law_are_parts (T : Txt K mg) (TB : LamX.TabB base mg T.lC__law_are_parts T.lP__law_are_parts) : FnOk P w K mg base CX0 10 T.a__law_are_parts T.fd__law_are_parts P__law_are_parts (sp__law_are_parts T) := by
  have G_End_say := ok_End_say (P := P) (w := w) (base := base) T
  have G__law_off := ok__law_off (P := P) (w := w) (base := base) T
  have G_End_stands := ok_End_stands (P := P) (w := w) (base := base) T
  have G_End_hear := ok_End_hear (P := P) (w := w) (base := base) T
  have bnw := T.b__law_word
  obtain ⟨ocw, odw, kVw, dcw, pmw, anw, cdw, ctw, slw, efw, lkw, hcw⟩ := T.F__law_word.ex
  rw [efw] at lkw bnw
  refine T.fl__law_are_parts.ok sc__law_are_parts (fun vs H Q E h => ?_) (fun A outer s H vs Q E hr h => ?_)
  · obtain ⟨d, a, s, rfl, _⟩ := h
    rfl
  · obtain ⟨d, a, sk, rfl, I0, ok0, hp0, ho0, k⟩ := h
    have hu64 : (A.deeper (envOfC "_law_are_parts" (defScope s__law_are_parts) s.heap.objs.size T.a__law_are_parts (.ref T.lC__law_are_parts))).units + 64 < cLine := by have := hr.un; omega
    refine ⟨_, (pss_cons (ps_set (i := 2) sc__law_are_parts.nd rfl (by first | exact Or.inl rfl | exact Or.inr rfl) (pe_callB (call_max2 rfl) (by rfl) T.n_max (by decide +kernel) (pa_cons pe_int (pa_cons (pe_op op_sub (pe_call G__law_off (hr.mono (by decide)) rfl T.g__law_off T.F__law_off.kp T.b__law_off .nil pass0 (pa_cons (pv 0) (pa_cons (pe_op op_pow pe_int pe_int) pa_nil))) pe_int) pa_nil))))
    (pss_cons (ps_for PassesOwn.never rfl (pi_range1 rfl T.n_range (pa_cons pe_int pa_nil)) (pg_name (i := 3) sc__law_are_parts.nd rfl (by first | exact Or.inl rfl | exact Or.inr rfl))
      (pss_cons (ps_cut (ps_set (i := 4) sc__law_are_parts.nd rfl (by first | exact Or.inl rfl | exact Or.inr rfl) (pe_ix ix_list (pe_lst (pa_cons (pe_op op_sub pe_int (pe_op op_mod (pv 3) pe_int)) (pa_cons (pe_op op_add pe_int (pv 2)) (pa_cons (pe_op op_sub (pe_un un_neg pe_int) (pv 2)) (pa_cons pe_non (pa_cons pe_str pa_nil)))))) (pe_call G__law_off (hr.mono (by decide)) rfl T.g__law_off T.F__law_off.kp T.b__law_off .nil pass0 (pa_cons (pv 0) (pa_cons pe_int pa_nil))) (fun _ _ => rfl))))
      (pss_cons (ps_cut (ps_set (i := 5) sc__law_are_parts.nd rfl (by first | exact Or.inl rfl | exact Or.inr rfl) (pe_meth (pv 1) T.cl_End T.m_End_say G_End_say (hr.mono (by decide)) T.b_End_say .nil passL (pa_cons (pe_op op_mod (pv 3) pe_int) pa_nil))))
      (pss_cons (ps_cut (ps_if (PW.pt (pw_or (pt_cmpR (op_neD hu64) (pe_word (k := 8) (sel := id) known_def rfl T.g__law_word T.F__law_word.kp lkw hcw bnw sc__law_word rfl (.inl rfl) (fun q => gives__law_word T rfl rfl rfl rfl rfl q) (hr.mono (by decide)) (pe_lamF (T := T.tl) TB rfl T.tm__law_are_parts T.tu__law_are_parts (NdefX.ndef_free (fr := []) (by show NdefX.ndefB (defScope s__law_are_parts) _ [] = true; decide +kernel)) rfl)) (pe_tup (pa_cons pe_str (pa_cons pe_int pa_nil))) (nomark _)) (pw_or1 (pt_cmpR (op_neD hu64) (pe_word (k := 8) (sel := id) known_def rfl T.g__law_word T.F__law_word.kp lkw hcw bnw sc__law_word rfl (.inl rfl) (fun q => gives__law_word T rfl rfl rfl rfl rfl q) (hr.mono (by decide)) (pe_lamD (T := T.tl) TB rfl T.tm__law_are_parts T.tu__law_are_parts (NdefX.ndef_free (fr := []) (by show NdefX.ndefB (defScope s__law_are_parts) _ [] = true; decide +kernel)) rfl rfl)) (pe_tup (pa_cons pe_str (pa_cons pe_int pa_nil))) (nomark _)))))
        (pss_one (ps_ret pe_bl))
        pss_nil))
      (pss_one (ps_cut (ps_if (PW.pt (pw_or (pt_cmpR (op_neD hu64) (pe_meth (pv 1) T.cl_End T.m_End_say G_End_say (hr.mono (by decide)) T.b_End_say .nil passL (pa_cons (pe_op op_mod (pv 3) pe_int) pa_nil)) (pv 5) (nomark _)) (pw_or1 (pt_cmpR op_notN1 (pe_meth (pv 1) T.cl_End T.m_End_hear G_End_hear (hr.mono (by decide)) T.b_End_hear .nil passL (pa_cons (pe_op op_mod (pv 3) pe_int) (pa_cons pe_non pa_nil))) pe_non (nomark _)))))
        (pss_one (ps_ret pe_bl))
        pss_nil)))))))
    (pss_one (ps_ret (pe_cmpR op_isBl (pe_ix ix_tup (pe_meth0 (pv 1) T.cl_End T.m_End_stands G_End_stands (hr.mono (by decide)) T.b_End_stands .nil pass0) pe_int (fun _ _ => rfl)) pe_bl (nomark _)))))), ?_⟩
    refine ⟨_, rfl, _, _, rfl, rfl, ⟨by decide, by decide, by decide⟩, d, _, rfl, I0.D, by decide, by decide, fun x H2 x0 x1 D2 f2 => ?_⟩
    refine ⟨_, _, rfl, rfl, _, _, rfl, ?_⟩
    obtain ⟨far, efar, far0⟩ : ∃ far : Int, (if x - 500000 > 0 then x - 500000 else 0) = far ∧ 0 ≤ far := ⟨_, rfl, by split <;> omega⟩
    rw [efar]
    have I2 := I0.dice D2 f2
    refine ⟨4, rfl, by decide, by decide, for_range (lo := 0) (n := 4) (fun i σ H' => (∃ v3 v4 v5 : Option V, σ = [some (V.ref d), some (.ref a.e), some (.int far), v3, v4, v5]) ∧ ∃ s : EndS, IE T H' d a s ∧ EndOk s ∧ s.part = (i : Int) % 2 ∧ s.over ≤ i ∧ s.wait = sk.wait ∧ (2 ≤ i → s.joined = false))
      ⟨⟨_, _, _, rfl⟩, sk, I2, ok0, hp0, by omega, rfl, fun h => absurd h (by decide)⟩ ?_ ?_⟩
    · rintro i σ H3 hi ⟨⟨v3, v4, v5, rfl⟩, s, I3, ok, hp, ho, hw, hj⟩
      have e0 : (0 : Int) + (i : Int) = (i : Nat) := by omega
      have ep : (i : Int) % 2 = 0 ∨ (i : Int) % 2 = 1 := by omega
      have p0 : 0 ≤ s.part := by omega
      have p1 : s.part ≤ 1 := by omega
      have hP : T.lP__law_are_parts ∈ T.ps := .tail _ (.tail _ (.head _))
      -- another part
      refine ⟨fun σ' H' => ∃ (x : V) (dd : PyData), σ' = [some (V.ref d), some (.ref a.e), some (.int far), some (.int (0 + (i : Nat))), some x, v5] ∧ Im H' x dd ∧ dd ≠ .int s.part ∧ (∀ ds, dd ≠ .list ds) ∧ IE T H' d a s, ?_, ?_⟩
      · refine ⟨_, rfl, _, _, rfl, rfl, (by show (0 : Int) < 2; decide), _, _, rfl, rfl, _, rfl, _, _, rfl, rfl, _, rfl, _, rfl, _, _, rfl, rfl, (by show 5 ≤ sizeLine; decide), fun l hl => ?_⟩
        have s4 := Same.upd_new (o := .lst [.int (1 - (0 + (i : Nat)) % 2), .int (2 + far), .int (-1 - far), .non, .str "0"]) hl
        have q4 := upd_same (H := H3) (a := l) (o := .lst [.int (1 - (0 + (i : Nat)) % 2), .int (2 + far), .int (-1 - far), .non, .str "0"])
        have nl := I3.D.ne_new hl
        generalize upd H3 l (.lst [.int (1 - (0 + (i : Nat)) % 2), .int (2 + far), .int (-1 - far), .non, .str "0"]) = H4 at s4 q4 ⊢
        have I4 := I3.same s4
        refine ⟨_, rfl, d, 5, rfl, I4.D, by decide, by decide, fun j H5 j0 j5 D5 f5 => ?_⟩
        have I5 := I4.dice D5 f5
        have q5 := f5 _ _ q4 (by simp [nl])
        obtain ⟨x, dd, hat, im, hb, nls⟩ : ∃ x dd, atI [V.int (1 - (0 + (i : Nat)) % 2), .int (2 + far), .int (-1 - far), .non, .str "0"] j = some x ∧ Im H5 x dd ∧ dd ≠ .int s.part ∧ ∀ ds, dd ≠ .list ds := by
          have : j = 0 ∨ j = 1 ∨ j = 2 ∨ j = 3 ∨ j = 4 := by omega
          have ne : ∀ {k : Int}, k ≠ s.part → PyData.int k ≠ .int s.part := fun h z => h (PyData.int.inj z)
          rcases this with rfl | rfl | rfl | rfl | rfl
          · exact ⟨_, _, rfl, .int _, ne (by omega), fun ds z => by cases z⟩
          · exact ⟨_, _, rfl, .int _, ne (by omega), fun ds z => by cases z⟩
          · exact ⟨_, _, rfl, .int _, ne (by omega), fun ds z => by cases z⟩
          · exact ⟨_, _, rfl, .non, (fun z => by cases z), fun ds z => by cases z⟩
          · exact ⟨_, _, rfl, .str _, (fun z => by cases z), fun ds z => by cases z⟩
        exact ⟨l, _, j, _, rfl, rfl, SqL.of q5, hat, x, dd, rfl, im, hb, nls, I5⟩
      rintro σ' H4 ⟨x, dd, rfl, imx, hbx, nlx, I4⟩
      have em : (0 + (i : Int)) % 2 = s.part := by omega
      -- it says
      refine ⟨fun σ' H' => ∃ v : V, σ' = [some (V.ref d), some (.ref a.e), some (.int far), some (.int (0 + (i : Nat))), some x, some v] ∧ Im H' v (saidD s) ∧ Im H' x dd ∧ IE T H' d a (sayF s), ?_, ?_⟩
      · obtain ⟨dx, cv, mv, ov, hob, _⟩ := I4.M.ob
        refine ⟨_, rfl, a.e, dx, _, rfl, hob, zip_no (N := enN) (by decide +kernel), _, rfl, _, _, rfl, rfl, (by show (0 : Int) < 2; decide), ?_⟩
        exact say_sp em I4 ok p0 p1 fun v H' I im f => ⟨v, rfl, im, imx.frm f, I⟩
      rintro σ' H5 ⟨v, rfl, imv, imx, I5⟩
      obtain ⟨ok5, o5, w5, j5⟩ := say_ok ok
      have pp : (sayF s).part = s.part := say_part s
      -- refused
      refine ⟨fun σ' H' => σ' = [some (V.ref d), some (.ref a.e), some (.int far), some (.int (0 + (i : Nat))), some x, some v] ∧ Im H' v (saidD s) ∧ IE T H' d a (sayF s), ?_, ?_⟩
      · refine ⟨I5.tb, fun g c H6 e6 tb6 f6 gn gH cH => ⟨g, _, rfl, ready_of (js := [4, 1]) (gH) (cH) (fun t z => by cases z) (lok_of (P := P) (w := w) (mg := mg) (base := base) (k := 7) (fr := ["_law_odd", "_law_end"]) (N := ["_law_odd", "_law_end"]) (ps := []) (vs := []) (tb := fun E => (tMeth T.C_End "say" _ [] E (tVar 1) (tCons (tVar 0) tNil))) (NdefX.nscope_by (by dsimp only; decide +kernel)) rfl (fun s doc pm ctv _ => ⟨[], .nil, .of_eq rfl⟩) (fun A outer s H E hr => (pe_meth (pv 1) T.cl_End T.m_End_say G_End_say (hr.mono (by decide)) T.b_End_say .nil pass_ncx (pa_cons (pv 0) pa_nil)))) ⟨rfl, NdefX.ndef_free (fr := []) (by show NdefX.ndefB (defScope s__law_are_parts) _ [] = true; dsimp only; decide +kernel), NdefX.ndef_fr (sc := defScope s__law_are_parts) (by dsimp only; decide +kernel), rfl⟩, fun cls d' H' => cls = .ref T.C_BadPart ∧ d' = none ∧ H' = H6, ?_, ?_⟩⟩
        · have I6 := I5.lam hP tb6 f6
          obtain ⟨dx, cv, mv, ov, hob, _⟩ := I6.M.ob
          refine ⟨gH, (fun t z => by cases z), _, rfl, a.e, dx, _, rfl, hob, zip_no (N := enN) (by decide +kernel), _, rfl, _, a, sayF s, x, dd, rfl, I6.M, I6.sub, ok5, (imx.frm f6).dp, nlx, by omega, by omega, (fun _ => ⟨rfl, rfl, rfl⟩), (fun z => absurd z (by rw [pp]; exact hbx)), fun z => absurd z (by rw [pp]; exact hbx)⟩
        · rintro cls d' H' ⟨rfl, rfl, rfl⟩
          refine ⟨2, 0, word_plain T.wk_BadPart (by decide) (by decide) (by decide) (by decide), fun u H7 s7 hu => ?_⟩
          rw [word2] at hu
          have I7 := (I5.lam hP tb6 f6).same s7
          have imx7 := (imx.frm f6).same s7
          have imv7 := (imv.frm f6).same s7
          refine ⟨(by show 2 ≤ sizeLine; decide), fun t ht => ne_word ht hu (by decide +kernel) fun H8 s8 => ⟨false, rfl, iteF ?_⟩⟩
          have I8 := I7.same s8
          have imx8 := imx7.same s8
          have imv8 := imv7.same s8
          refine ⟨I8.tb, fun tz g2 c2 H9 e9 tb9 f9 gn2 tzH gH2 cH2 => ⟨g2, _, rfl, ready_of (js := [4, 1]) (gH2) (cH2) (fun t z => by cases z; exact tzH) (lok_of (P := P) (w := w) (mg := mg) (base := base) (k := 7) (fr := ["_law_odd", "_law_end"]) (N := ["_law_a", "_law_odd", "_law_end"]) (ps := ["_law_a"]) (vs := [.int 0]) (tb := fun E => (tMeth T.C_End "hear" _ [] E (tVar 2) (tCons (tVar 1) (tCons (tC .non) tNil)))) (NdefX.nscope_by (by dsimp only; decide +kernel)) rfl (fun s doc pm ctv h => by obtain ⟨u, ⟨o, ho, _, n, hd⟩, ru⟩ := h _ rfl; exact ⟨[u], .cons ru .nil, BindsTo.of_defaults rfl ho hd rfl rfl⟩) (fun A outer s H E hr => (pe_meth (pv 2) T.cl_End T.m_End_hear G_End_hear (hr.mono (by decide)) T.b_End_hear .nil pass_ncx (pa_cons (pv 1) (pa_cons pe_non pa_nil))))) ⟨rfl, NdefX.ndef_free (fr := []) (by show NdefX.ndefB (defScope s__law_are_parts) _ [] = true; dsimp only; decide +kernel), NdefX.ndef_fr (sc := defScope s__law_are_parts) (by dsimp only; decide +kernel), rfl⟩, fun cls d' H' => cls = .ref T.C_BadPart ∧ d' = none ∧ H' = H9, ?_, ?_⟩⟩
          · have I9 := I8.lam hP tb9 f9
            obtain ⟨dx, cv, mv, ov, hob, _⟩ := I9.M.ob
            refine ⟨gH2, (fun t z => by cases z; exact tzH), _, rfl, a.e, dx, _, rfl, hob, zip_no (N := enN) (by decide +kernel), _, rfl, _, a, sayF s, x, _, dd, rfl, I9.M, I9.sub, I9.al, ok5, (imx8.frm f9).dp, nlx, by omega, by omega, (fun _ => ⟨rfl, rfl, rfl⟩), (fun z => absurd z (by rw [pp]; exact hbx)), fun z => absurd z (by rw [pp]; exact hbx)⟩
          · rintro cls d' H' ⟨rfl, rfl, rfl⟩
            refine ⟨2, 0, word_plain T.wk_BadPart (by decide) (by decide) (by decide) (by decide), fun u2 H10 s10 hu2 => ?_⟩
            rw [word2] at hu2
            have I10 := (I8.lam hP tb9 f9).same s10
            refine ⟨(by show 2 ≤ sizeLine; decide), fun t2 ht2 => ne_word ht2 hu2 (by decide +kernel) fun H11 s11 => ⟨false, rfl, ?_⟩⟩
            exact ⟨rfl, ((imv8.frm f9).same s10).same s11, I10.same s11⟩
      rintro σ' H6 ⟨rfl, imv6, I6⟩
      -- it says the same, and hears nothing
      refine ⟨fun σ' H' => (∃ v3 v4 v5 : Option V, σ' = [some (V.ref d), some (.ref a.e), some (.int far), v3, v4, v5]) ∧ IE T H' d a (deafF (sayF s)), ?_, ?_⟩
      · obtain ⟨dx, cv, mv, ov, hob, _⟩ := I6.M.ob
        refine ⟨_, rfl, a.e, dx, _, rfl, hob, zip_no (N := enN) (by decide +kernel), _, rfl, _, _, rfl, rfl, (by show (0 : Int) < 2; decide), ?_⟩
        refine say_sp (em.trans pp.symm) I6 ok5 (by omega) (by omega) fun v2 H7 I7 im2 f7 => ?_
        rw [(say_again s).1] at I7
        rw [(say_again s).2] at im2
        have lvs := lv_said ok
        refine ⟨_, rfl, _, _, im2.dp, (imv6.frm f7).dp, shaped_lv lvs (by decide), shaped_lv lvs (by decide), false, congrArg V.bl (by rw [eqv_refl lvs]; rfl), iteF ?_⟩
        obtain ⟨dx, cv, mv, ov, hob, _⟩ := I7.M.ob
        refine ⟨_, rfl, a.e, dx, _, rfl, hob, zip_no (N := enN) (by decide +kernel), _, rfl, _, _, rfl, rfl, (by show (0 : Int) < 2; decide), ?_⟩
        refine ⟨_, a, sayF s, _, _, _, rfl, I7.M, I7.sub, I7.al, ok5, .int _, (fun ds z => by cases z), by omega, by omega, (fun z => absurd (congrArg PyData.int (em.trans pp.symm)) z), fun _ h => ⟨none, .non, (fun x z => by cases z), fun H' M f => ⟨rfl, false, rfl, ⟨_, _, _, rfl⟩, I7.step ?_ f⟩⟩, fun _ h => ⟨none, .non, (fun x z => by cases z), fun H' M f => ⟨rfl, false, rfl, ⟨_, _, _, rfl⟩, I7.step ?_ f⟩⟩⟩
        · unfold deafF; rw [if_pos h]; exact M
        · have n : ¬ (sayF s).part = 0 := by omega
          unfold deafF; rw [if_neg n]; exact M
      rintro σ' H7 ⟨⟨w3, w4, w5', rfl⟩, I7⟩
      obtain ⟨g1, g2, g3, g4, g5⟩ := deaf_ok ok (by omega)
      refine ⟨⟨_, _, _, rfl⟩, _, I7, g1, ?_, by omega, g3.trans hw, fun h2 => ?_⟩
      · rcases ep with q | q
        · rw [(g4 (by omega)).1]; omega
        · rw [(g5 (by omega)).1]; omega
      · rcases ep with q | q
        · rw [(g4 (by omega)).2]
          exact hj (by omega)
        · exact (g5 (by omega)).2
    · rintro σ H3 ⟨⟨v3, v4, v5, rfl⟩, s, I3, ok, hp, ho, hw, hj⟩
      obtain ⟨dx, cv, mv, ov, hob, _⟩ := I3.M.ob
      refine ⟨_, rfl, a.e, dx, _, rfl, hob, zip_no (N := enN) (by decide +kernel), _, a, s, rfl, I3.M, fun l hl => ?_⟩
      have s4 := Same.upd_new (o := .tup [.int s.now, .bl s.joined]) hl
      refine ⟨l, _, _, _, rfl, rfl, SqT.of upd_same, atI_nat (j := 1) rfl, s.joined, false, rfl, rfl, ?_⟩
      rw [hj (by decide)] at s4 ⊢
      exact k s _ (I3.same s4) hw

end
end TL

namespace TL
open PySem PySem.Spec PyProof.Rows L2
section
variable {P : Program} {w : World} {K : PySem.W.Frag} {mg : Str → Option Value} {base : Heap}
def sp_End_init (T : Txt K mg) : Sp := fun vs H Q E => ∃ (p dx : Addr) (x : V) (d : PyData), vs = [.ref p, x] ∧ H p = some (.ins T.C_End dx []) ∧ Dp K H x d ∧ mdat d ∧
  (isMan d = false → ∀ H', Same H H' → E (.ref T.C_BadManners) none H') ∧
  (isMan d = true → ∀ ms : List Int, d = .tuple (ms.map .int) → Im H x (canD ms) ∧ ∀ (ad : EAd) (H' : Hp), ad.e = p → (∀ Z, EndAt T.C_End T.C_Marks Z H' ad (.new ms)) → (∀ x ∈ ad.every, x = p ∨ H x = none) → Frm [p] H H' → Q .non H')
theorem ok_End_init (T : Txt K mg) : FnOk P w K mg base (L2.CX P w) 4 T.a_End_init T.fd_End_init P_End_init (sp_End_init T) := by
  have G_need_manners := ok_need_manners (P := P) (w := w) (base := base) T
  have G_Marks_init := ok_Marks_init (P := P) (w := w) (base := base) T
  refine T.F_End_init.okX sc_End_init (fun vs H Q E h => ?_) (fun cdv A outer s H vs Q E hr h => ?_)
  · obtain ⟨p, dx, x, d, rfl, _⟩ := h
    rfl
  · obtain ⟨p, dx, x, d, rfl, hp, hx, mx, k1, k2⟩ := h
    refine ⟨_, (pss_cons (ps_expr (pe_call G_need_manners (hr.mono (by decide)) rfl T.g_need_manners T.F_need_manners.kp T.b_need_manners .nil (passes_call (takes_of rfl rfl rfl rfl) (fun _ _ _ _ h => h)) (pa_cons (pv 1) pa_nil)))
    (pss_cons (ps_fld (pv 0) (pv 1) rfl)
    (pss_cons (ps_fld (pv 0) (pe_make0 T.M_Marks G_Marks_init (hr.mono (by decide)) rfl T.c_Marks T.b_Marks_init .nil pass0) rfl)
    (pss_cons (ps_fld (pv 0) pe_int rfl)
    (pss_cons (ps_fld (pv 0) pe_int rfl)
    (pss_cons (ps_fld (pv 0) (pe_tup (pa_cons (pv 1) (pa_cons (pe_tup pa_nil) pa_nil))) rfl)
    (pss_cons (ps_fld (pv 0) pe_non rfl)
    (pss_cons (ps_fld (pv 0) pe_int rfl)
    (pss_cons (ps_fld (pv 0) pe_int rfl)
    (pss_cons (ps_fld (pv 0) pe_bl rfl)
    (pss_cons (ps_fld (pv 0) pe_int rfl)
    (pss_cons (ps_fld (pv 0) pe_bl rfl)
    (pss_cons (ps_fld (pv 0) (pe_lst pa_nil) rfl)
    (pss_cons (ps_fld (pv 0) pe_int rfl)
    (pss_cons (ps_fld (pv 0) (pe_lst pa_nil) rfl)
    (pss_one (ps_fld (pv 0) (pe_glob (v := .int 0) rfl T.v_SLOW ⟨_, rfl⟩) rfl))))))))))))))))), ?_⟩
    refine ⟨_, rfl, x, d, rfl, hx, mx, fun gx H1 s1 => ?_, fun gx H1 s1 => k1 gx H1 s1⟩
    obtain ⟨ms, rfl, _⟩ := man_tuple gx
    obtain ⟨im, k⟩ := k2 gx ms rfl
    have p1 : H1 p = some (.ins T.C_End dx (enN.zip [])) := s1 _ _ hp
    refine ⟨_, rfl, _, rfl, iniF x p1 T.cl_End T.no_End_can rfl fun H2 p2 f2 => ?_⟩
    -- marks
    intro m dm hm hdm ndm
    have npm : p ≠ m := ne_of_none p2 hm
    have npd : p ≠ dm := ne_of_none p2 hdm
    have sa : Same H2 (upd (upd H2 dm (.own m)) m (.ins T.C_Marks dm [])) := (Same.upd_new hdm).trans (Same.upd_new (by rw [upd_ne (Ne.symm ndm)]; exact hm))
    refine ⟨m, dm, rfl, upd_same, fun am H3 ham Mm hfr f3 => ⟨rfl, ?_⟩⟩
    subst ham
    have p3 := f3 _ _ (sa _ _ p2) (by simp [npm])
    have f23 : Frm [p] H2 H3 := (Frm.of_same sa).own hm f3
    have nall : ∀ x ∈ am.all, x ≠ p := fun x hx => Ne.symm (ne_of_none (sa _ _ p2) (hfr x hx))
    have hfr2 : ∀ x ∈ am.all, H2 x = none := fun x hx => (Frm.of_same (S := []) sa).free (hfr x hx)
    refine ⟨_, rfl, iniF (.ref am.m) p3 T.cl_End T.no_End_marks rfl fun H4 p4 f4 => ?_⟩
    refine ⟨_, rfl, iniF (.int 0) p4 T.cl_End T.no_End_over rfl fun H5 p5 f5 => ?_⟩
    refine ⟨_, rfl, iniF (.int 1) p5 T.cl_End T.no_End_version rfl fun H6 p6 f6 => ?_⟩
    -- (can, ())
    refine ⟨_, rfl, (by show 0 ≤ sizeLine; decide), fun e he => ⟨(by show 2 ≤ sizeLine; decide), fun t ht => ?_⟩⟩
    have s6 : Same H6 (upd (upd H6 e (.tup [])) t (.tup [x, .ref e])) := (Same.upd_new he).trans (Same.upd_new ht)
    have f16 : Frm [p] H1 H6 := (((f2.trans f23).trans f4).trans f5).trans f6
    have im6 : Im H6 x (canD ms) := (im.same s1).frm f16
    have mind : Im (upd (upd H6 e (.tup [])) t (.tup [x, .ref e])) (.ref t) (mindD (ms, [])) := .tup upd_same (.cons (im6.same s6) (.cons (.tup (a := e) (by rw [upd_ne (ne_of_none upd_same ht)]; exact upd_same) .nil) .nil))
    refine ⟨_, rfl, iniF (.ref t) (s6 _ _ p6) T.cl_End T.no_End_mind rfl fun H7 p7 f7 => ?_⟩
    refine ⟨_, rfl, iniF .non p7 T.cl_End T.no_End_other rfl fun H8 p8 f8 => ?_⟩
    refine ⟨_, rfl, iniF (.int 0) p8 T.cl_End T.no_End_seen rfl fun H9 p9 f9 => ?_⟩
    refine ⟨_, rfl, iniF (.int 0) p9 T.cl_End T.no_End_known rfl fun H10 p10 f10 => ?_⟩
    refine ⟨_, rfl, iniF (.bl false) p10 T.cl_End T.no_End_ready rfl fun H11 p11 f11 => ?_⟩
    refine ⟨_, rfl, iniF (.int 0) p11 T.cl_End T.no_End_now rfl fun H12 p12 f12 => ?_⟩
    refine ⟨_, rfl, iniF (.bl false) p12 T.cl_End T.no_End_joined rfl fun H13 p13 f13 => ?_⟩
    have f613 : Frm [p] H6 H13 := (((((((Frm.of_same s6).trans f7).trans f8).trans f9).trans f10).trans f11).trans f12).trans f13
    have f313 : Frm [p] H3 H13 := ((f4.trans f5).trans f6).trans f613
    refine ⟨(by show 0 ≤ sizeLine; decide), fun w hw => ?_⟩
    have s13 : Same H13 (upd H13 w (.lst [])) := Same.upd_new hw
    have npw : p ≠ w := ne_of_none p13 hw
    refine ⟨_, rfl, iniF (.ref w) (s13 _ _ p13) T.cl_End T.no_End_waiting rfl fun H14 p14 f14 => ?_⟩
    have w14 : H14 w = some (.lst []) := f14 _ _ upd_same (by simp [Ne.symm npw])
    refine ⟨_, rfl, iniF (.int 0) p14 T.cl_End T.no_End_count rfl fun H15 p15 f15 => ?_⟩
    have w15 : H15 w = some (.lst []) := f15 _ _ w14 (by simp [Ne.symm npw])
    refine ⟨(by show 0 ≤ sizeLine; decide), fun g hg => ?_⟩
    have s15 : Same H15 (upd H15 g (.lst [])) := Same.upd_new hg
    have npg : p ≠ g := ne_of_none p15 hg
    have nwg : w ≠ g := ne_of_none w15 hg
    refine ⟨_, rfl, iniF (.ref g) (s15 _ _ p15) T.cl_End T.no_End_gathered rfl fun H16 p16 f16' => ?_⟩
    refine ⟨_, rfl, iniF (.int 0) p16 T.cl_End T.no_End_part rfl fun H17 p17 f17 => ?_⟩
    have f1317 : Frm [p] H13 H17 := (((((Frm.of_same s13).trans f14).trans f15).trans (Frm.of_same s15)).trans f16').trans f17
    have f317 := f313.trans f1317
    have w17 : H17 w = some (.lst []) := f17 _ _ (f16' _ _ (s15 _ _ w15) (by simp [Ne.symm npw])) (by simp [Ne.symm npw])
    have g17 : H17 g = some (.lst []) := f17 _ _ (f16' _ _ upd_same (by simp [Ne.symm npg])) (by simp [Ne.symm npg])
    have M17 := MarksAt.ini Mm f317 npm nall
    have M13 := MarksAt.ini Mm f313 npm nall
    have f137 : Frm [p] H1 H17 := (f2.trans f23).trans f317
    have hmw : ∀ x ∈ am.m :: am.all, ∃ o, H13 x = some o := fun x hx => by
      rcases List.mem_cons.mp hx with rfl | hx
      · obtain ⟨⟨q, hq⟩, _⟩ := M13 []
        exact ⟨_, hq⟩
      · exact ((M13 []).out x hx).2
    have nw : ∀ x ∈ am.m :: am.all, x ≠ w := fun x hx => by
      obtain ⟨o, ho⟩ := hmw x hx
      exact ne_of_none ho hw
    have ng : ∀ x ∈ am.m :: am.all, x ≠ g := fun x hx => by
      obtain ⟨o, ho⟩ := hmw x hx
      obtain ⟨o', ho'⟩ := ((Frm.of_same (S := [p]) s13).trans f14 |>.trans f15).there _ _ ho
      exact ne_of_none ho' hg
    have nd := (Mm []).nd
    have mo := (Mm []).out
    have f01 : ∀ x, H1 x = none → H x = none := fun x => (Frm.of_same (S := []) s1).free
    refine k ⟨p, w, g, am⟩ H17 rfl (fun Z => ⟨⟨dx, x, .ref t, .non, p17, (im.same s1).frm f137, mind.frm (((((((f7.trans f8).trans f9).trans f10).trans f11).trans f12).trans f13).trans f1317), .non⟩, M17 Z, w17, g17, ?_⟩) ?_ ?_
    · obtain ⟨n1, n2, n3, n4, n5, n6⟩ := nd
      have a := am.mem
      have q1 := mo _ a.1
      have q2 := mo _ a.2.1
      have q3 := mo _ a.2.2.1
      have q4 := mo _ a.2.2.2
      have e1 := nall _ a.1
      have e2 := nall _ a.2.1
      have e3 := nall _ a.2.2.1
      have e4 := nall _ a.2.2.2
      have w1 := nw _ (List.mem_cons_of_mem _ a.1)
      have w2 := nw _ (List.mem_cons_of_mem _ a.2.1)
      have w3 := nw _ (List.mem_cons_of_mem _ a.2.2.1)
      have w4 := nw _ (List.mem_cons_of_mem _ a.2.2.2)
      have w0 := nw _ (List.mem_cons_self ..)
      have g1 := ng _ (List.mem_cons_of_mem _ a.1)
      have g2 := ng _ (List.mem_cons_of_mem _ a.2.1)
      have g3 := ng _ (List.mem_cons_of_mem _ a.2.2.1)
      have g4 := ng _ (List.mem_cons_of_mem _ a.2.2.2)
      have g0 := ng _ (List.mem_cons_self ..)
      simp only [EAd.every, EAd.all, List.nodup_cons, List.mem_cons, not_or, List.not_mem_nil, not_false_eq_true, List.nodup_nil, and_true]
      exact ⟨⟨Ne.symm npm, w0, g0, Ne.symm q1.1, Ne.symm q2.1, Ne.symm q3.1, Ne.symm q4.1⟩, ⟨npw, npg, Ne.symm e1, Ne.symm e2, Ne.symm e3, Ne.symm e4⟩, ⟨nwg, Ne.symm w1, Ne.symm w2, Ne.symm w3, Ne.symm w4⟩, ⟨Ne.symm g1, Ne.symm g2, Ne.symm g3, Ne.symm g4⟩, ⟨n1, n2, n3⟩, ⟨n4, n5⟩, n6⟩
    · intro y hy
      have m1 : H1 am.m = none := f2.free hm
      have mall : ∀ z ∈ am.all, H1 z = none := fun z hz => f2.free (hfr2 z hz)
      have ww : H1 w = none := ((f2.trans f23).trans f313).free hw
      have gg : H1 g = none := (((f2.trans f23).trans f313).trans (((Frm.of_same s13).trans f14).trans f15)).free hg
      simp [EAd.every, EAd.all] at hy
      rcases hy with rfl | rfl | rfl | rfl | rfl | rfl | rfl | rfl
      · exact .inr (f01 _ m1)
      · exact .inl rfl
      · exact .inr (f01 _ ww)
      · exact .inr (f01 _ gg)
      · exact .inr (f01 _ (mall _ (by simp [MAd.all])))
      · exact .inr (f01 _ (mall _ (by simp [MAd.all])))
      · exact .inr (f01 _ (mall _ (by simp [MAd.all])))
      · exact .inr (f01 _ (mall _ (by simp [MAd.all])))
    · exact (Frm.of_same s1).trans f137

end
end TL

namespace TL
open PySem PySem.Spec PyProof.Rows L2
section
variable {P : Program} {w : World} {K : PySem.W.Frag} {mg : Str → Option Value} {base : Heap}
def sp_End_left (T : Txt K mg) : Sp := fun vs H Q _ => ∃ (Z : List Addr) (ad : EAd) (s : EndS), vs = [.ref ad.e] ∧ EndAt T.C_End T.C_Marks Z H ad s ∧ Q (.int (s.wait.length : Nat)) H
theorem ok_End_left (T : Txt K mg) : FnOk P w K mg base CX0 1 T.a_End_left T.fd_End_left P_End_left (sp_End_left T) := by
  skip
  refine T.F_End_left.ok sc_End_left (fun vs H Q E h => ?_) (fun cdv A outer s H vs Q E hr h => ?_)
  · obtain ⟨Z, ad, s, rfl, _⟩ := h
    rfl
  · obtain ⟨Z, ad, sk, rfl, M, k⟩ := h
    refine ⟨_, (pss_one (ps_ret (pe_callB call_len_seq (by rfl) T.n_len (by decide +kernel) (pa_cons (pe_fld (pv 0) rfl) pa_nil)))), ?_⟩
    obtain ⟨⟨dx, cv, mv, ov, ho, _⟩, _⟩ := id M
    refine ⟨_, rfl, _, T.C_End, _, _, _, rfl, ho, T.cl_End, T.no_End_waiting, zip_lookup enN_nd (i := 11) rfl rfl, ad.w, _, rfl, .inl (SqL.of M.wt), ?_⟩
    rw [List.length_map]
    exact k

end
end TL

namespace TL
open PySem PySem.Spec PyProof.Rows L2
section
variable {P : Program} {w : World} {K : PySem.W.Frag} {mg : Str → Option Value} {base : Heap}
def sp_End_send (T : Txt K mg) : Sp := fun vs H Q E => ∃ (Z : List Addr) (ad : EAd) (s : EndS) (y : V) (dy : PyData), vs = [.ref ad.e, y] ∧ EndAt T.C_End T.C_Marks Z H ad s ∧ (∀ z ∈ ad.all, z ∈ Z) ∧ Dp K H y dy ∧ (∀ ds, dy ≠ .list ds) ∧ s.wait.length ≤ 20 ∧
  (between dy 0 999 = false → E (.ref T.C_BadItem) none H) ∧ (between dy 0 999 = true → s.wait.length = 20 → E (.ref T.C_Full) none H) ∧
  (∀ i, dy = .int i → 0 ≤ i → i ≤ 999 → s.wait.length < 20 → ∀ H', EndAt T.C_End T.C_Marks Z H' ad { s with wait := s.wait ++ [i] } → Frm ad.all H H' → Q .non H')
theorem ok_End_send (T : Txt K mg) : FnOk P w K mg base (L2.CX P w) 2 T.a_End_send T.fd_End_send P_End_send (sp_End_send T) := by
  have G_is_between := ok_is_between (P := P) (w := w) (base := base) T
  refine T.F_End_send.okX sc_End_send (fun vs H Q E h => ?_) (fun cdv A outer s H vs Q E hr h => ?_)
  · obtain ⟨Z, ad, s, y, dy, rfl, _⟩ := h
    rfl
  · obtain ⟨Z, ad, sk, y, dy, rfl, M, hsub, hy, nl, hl, k1, k2, k3⟩ := h
    refine ⟨_, (pss_cons (ps_if (pt_not (pt_val (pe_call G_is_between (hr.mono (by decide)) rfl T.g_is_between T.F_is_between.kp T.b_is_between .nil pass0 (pa_cons (pv 1) (pa_cons pe_int (pa_cons (pe_glob (v := .int 999) rfl T.v_MOST_ITEM ⟨_, rfl⟩) pa_nil))))))
      (pss_one (ps_raise rfl (takes_of rfl rfl rfl rfl) (pmk_own PySem.F.excBase_ValueError T.x_BadItem T.c_BadItem T.k_BadItem (raises_own T.s_BadItem T.t_BadItem) rfl)))
      pss_nil)
    (pss_cons (ps_if (pt_cmpR op_eq (pe_callB call_len_seq (by rfl) T.n_len (by decide +kernel) (pa_cons (pe_fld (pv 0) rfl) pa_nil)) (pe_glob (v := .int 20) rfl T.v_MOST_ITEMS ⟨_, rfl⟩) (nomark _))
      (pss_one (ps_raise rfl (takes_of rfl rfl rfl rfl) (pmk_own PySem.F.excBase_ValueError T.x_Full T.c_Full T.k_Full (raises_own T.s_Full T.t_Full) rfl)))
      pss_nil)
    (pss_one (ps_expr (pe_bm PySem.F.plainAttrs_list PySem.F.slot_list_append PySem.F.type_list_append mt_append (pe_fld (pv 0) rfl) (pa_cons (pv 1) pa_nil)))))), ?_⟩
    refine ⟨_, rfl, y, dy, 0, 999, rfl, hy, nl, _, rfl, ?_⟩
    refine iteB (fun hb => k1 (by simpa using hb)) (fun hb => ?_)
    have gy : between dy 0 999 = true := by simpa using hb
    obtain ⟨f, rfl⟩ : ∃ f, dy = .int f := by
      cases dy with
      | int f => exact ⟨f, rfl⟩
      | _ => exact absurd gy (by simp [between])
    have gf : 0 ≤ f ∧ f ≤ 999 := by simpa [between] using gy
    cases hy
    obtain ⟨⟨dx, cv, mv, ov, ho, _⟩, _⟩ := id M
    refine ⟨_, rfl, _, T.C_End, _, _, _, rfl, ho, T.cl_End, T.no_End_waiting, zip_lookup enN_nd (i := 11) rfl rfl, ad.w, _, rfl, .inl (SqL.of M.wt), rfl, _, rfl, ?_⟩
    refine iteD (fun he => k2 gy ?_) (fun he => ?_)
    · have := vint_inj.mp he
      rw [List.length_map] at this
      omega
    have hlt : sk.wait.length < 20 := by
      rcases Nat.lt_or_ge sk.wait.length 20 with q | q
      · exact q
      · exact absurd (by rw [List.length_map]; congr 1; omega) he
    refine ⟨_, rfl, _, T.C_End, _, _, _, rfl, ho, T.cl_End, T.no_End_waiting, zip_lookup enN_nd (i := 11) rfl rfl, .inl ⟨rfl, _, SqL.of M.wt⟩, _, rfl, ad.w, _, _, rfl, rfl, M.wt, by rw [List.length_map]; exact small1000 (by omega), ?_⟩
    obtain ⟨E1, f1⟩ := M.setW (hsub _ (by simp [EAd.all])) (sk.wait ++ [f])
    rw [List.map_append] at E1 f1
    exact k3 f rfl gf.1 gf.2 hlt _ E1 f1

end
end TL

namespace TL
open PySem PySem.Spec PyProof.Rows L2
section
variable {P : Program} {w : World} {K : PySem.W.Frag} {mg : Str → Option Value} {base : Heap}
def spLaw (K : PySem.W.Frag) (TL : List (Addr × Str)) : Sp := fun vs H Q _ => ∃ (a : Addr) (ns : List Int), vs = [.ref a] ∧ SqL K H a (ns.map V.int) ∧ ns.length ≤ 63 ∧ LamX.Tabs TL H ∧ ∀ H', Q (.bl true) H'
abbrev sp_law (T : Txt K mg) : Sp := spLaw K T.tl
/-- what stands from turn to turn -/
structure I01 (T : Txt K mg) (H : Hp) (d : Addr) : Prop where
  D : DiceAt H d
  T : LamX.Tabs T.tl H
section
variable {T : Txt K mg} {d : Addr} {H H' : Hp}
theorem I01.same (h : I01 T H d) (s : Same H H') : I01 T H' d := ⟨h.D.same s, tabs_same h.T s⟩
theorem I01.dice (h : I01 T H d) (D : DiceAt H' d) (f : Frm [d] H H') : I01 T H' d := ⟨D, tabs_dice h.T h.D f⟩
theorem tab_at (h : LamX.Tabs T.tl H) : ∀ x ∈ T.ps, ∃ ps, H x = some (.tbl ps) := fun x hx => by
  have go : ∀ q, (x, q) ∈ T.tl → ∃ ps, H x = some (.tbl ps) := fun q hq => let ⟨ps, e, _⟩ := h _ hq; ⟨ps, e⟩
  simp only [List.mem_cons, List.not_mem_nil, or_false] at hx
  rcases hx with rfl | rfl | rfl
  · exact go _ T.tm
  · exact go _ T.tm__law_are_counts
  · exact go _ T.tm__law_are_parts
theorem I01.np (h : I01 T H d) : d ∉ T.ps := fun z => by
  obtain ⟨ps, e⟩ := tab_at h.T d z
  obtain ⟨ns, q, _⟩ := h.D
  rw [e] at q
  cases q
theorem I01.lam (h : I01 T H d) {P : Addr} (hP : P ∈ T.ps) (tb : LamX.Tabs T.tl H') (e : Frm [P] H H') : I01 T H' d := ⟨h.D.frm e (by simp; rintro rfl; exact h.np hP), tb⟩
theorem I01.al (h : I01 T H d) : Alloc T.ps H := fun x hx => let ⟨ps, e⟩ := tab_at h.T x hx; ⟨_, e⟩
end
/-- the word that is due -/
def M0 : PyData := .tuple [.str "manners", .int 0]
def dueD (b : Bool) : PyData := if b = true then .none else M0
def duesD (b : Bool) : List PyData := [dueD b, M0, dueD b, dueD b, dueD b]
theorem lv_M0 : lv 1 M0 := lv_word (by decide +kernel) 0
theorem lv_due (b : Bool) : lv 1 (dueD b) := by
  cases b
  · exact lv_M0
  · trivial
theorem lv_dues (b : Bool) : lv 2 (.list (duesD b)) := by
  refine ⟨(by show 5 ≤ 100000; decide), fun x hx => ?_⟩
  simp only [duesD, List.mem_cons, List.not_mem_nil, or_false] at hx
  rcases hx with rfl | rfl | rfl | rfl | rfl
  · exact lv_due b
  · exact lv_M0
  · exact lv_due b
  · exact lv_due b
  · exact lv_due b
theorem SpD.mono {n m : Nat} {d : PyData} (h : SpD n d) (e : n ≤ m) : SpD m d := h.imp (fun ⟨ds, a, b⟩ => ⟨ds, a, b.mono e⟩) id
def bndP (i : Nat) : Nat := if i = 0 then 10 else if i = 1 then 21 else 43
theorem can_parts {ca : List Int} (h : Can ca) : partsD 10 (ca.map .int) := by
  refine ⟨?_, fun e he => ?_⟩
  · rw [List.length_map]
    have := pig 10 (ca.map (· + 1)) ?_ ?_
    · simpa using this
    · rw [List.nodup_iff_pairwise_ne, List.pairwise_map]
      exact h.2.1.imp fun q z => by omega
    · intro x hx
      obtain ⟨y, hy, rfl⟩ := List.mem_map.mp hx
      have := h.1 y hy
      show 1 ≤ y + 1 ∧ y + 1 ≤ ((10 : Nat) : Int)
      omega
  · obtain ⟨i, _, rfl⟩ := List.mem_map.mp he
    exact ⟨(fun l z => by cases z), trivial⟩
theorem IE.frm {T : Txt K mg} {H H' : Hp} {d : Addr} {a : EAd} {s : EndS} (h : IE T H d a s) (D : DiceAt H' d) (tb : LamX.Tabs T.tl H') (f : Frm (d :: T.ps) H H') : IE T H' d a s :=
  ⟨D, tb, h.M.frm f (fun x hx => (List.mem_cons.mp hx).elim (fun e => by rw [e]; exact .head _) fun z => List.mem_cons_of_mem _ (List.mem_append_left _ z)) (fun x hx z => (List.mem_cons.mp z).elim (fun e => h.dl (by rw [← e]; exact hx)) (h.pl x hx)), h.al.frm f, h.dl, h.dp, h.pl⟩
/-- an end with some items waiting -/
def waitS (ca ws : List Int) : EndS := { EndS.new ca with wait := ws }
theorem wait_ok {ca ws : List Int} (h : Can ca) (hl : ws.length ≤ 20) : EndOk (waitS ca ws) := by
  have e := EndOk.new h
  exact ⟨e.can, e.o0, e.o1, e.bad, e.oth, e.n0, e.n9, hl, e.got⟩
theorem ok_law (T : Txt K mg) (TB : LamX.TabB base mg T.lC T.lP) (TB__law_are_counts : LamX.TabB base mg T.lC__law_are_counts T.lP__law_are_counts) (TB__law_are_parts : LamX.TabB base mg T.lC__law_are_parts T.lP__law_are_parts) : FnOk P w K mg base CX0 13 T.a_law T.fd_law P_law (sp_law T) := by
  have G__law_dice := ok__law_dice (P := P) (w := w) (base := base) T
  have G_End_init := ok_End_init (P := P) (w := w) (base := base) T
  have G__law_can := ok__law_can (P := P) (w := w) (base := base) T
  have G__law_is_can := ok__law_is_can (P := P) (w := w) (base := base) T
  have G__law_off := ok__law_off (P := P) (w := w) (base := base) T
  have G__law_spoilt := ok__law_spoilt (P := P) (w := w) (base := base) T
  have G_chosen := ok_chosen (P := P) (w := w) (base := base) T
  have G_End_left := ok_End_left (P := P) (w := w) (base := base) T
  have G__law_are_counts := ok__law_are_counts (P := P) (w := w) (base := base) T TB__law_are_counts
  have G__law_are_parts := ok__law_are_parts (P := P) (w := w) (base := base) T TB__law_are_parts
  have G_judged := ok_judged (P := P) (w := w) (base := base) T
  have G_End_send := ok_End_send (P := P) (w := w) (base := base) T
  have bnw := T.b__law_word
  obtain ⟨ocw, odw, kVw, dcw, pmw, anw, cdw, ctw, slw, efw, lkw, hcw⟩ := T.F__law_word.ex
  rw [efw] at lkw bnw
  refine T.fl.ok sc_law (fun vs H Q E h => ?_) (fun A outer s H vs Q E hr h => ?_)
  · obtain ⟨a, ns, rfl, _⟩ := h
    rfl
  · obtain ⟨a, ns, rfl, hS, hlen, tb0, k⟩ := h
    have hu64 : (A.deeper (envOfC "law" (defScope s_law) s.heap.objs.size T.a_law (.ref T.lC))).units + 64 < cLine := by have := hr.un; omega
    refine ⟨_, (pss_cons (ps_set (i := 1) sc_law.nd rfl (by first | exact Or.inl rfl | exact Or.inr rfl) (pe_call G__law_dice (hr.mono (by decide)) rfl T.g__law_dice T.F__law_dice.kp T.b__law_dice .nil pass0 (pa_cons (pv 0) (pa_cons pe_int pa_nil))))
    (pss_cons (ps_for PassesOwn.never rfl (pi_range1 rfl T.n_range (pa_cons pe_int pa_nil)) (pg_name (i := 2) sc_law.nd rfl (by first | exact Or.inl rfl | exact Or.inr rfl))
      (pss_cons (ps_asg (pe_tup (pa_cons (pe_call G__law_can (hr.mono (by decide)) rfl T.g__law_can T.F__law_can.kp T.b__law_can .nil pass0 (pa_cons (pv 1) pa_nil)) (pa_cons (pe_call G__law_can (hr.mono (by decide)) rfl T.g__law_can T.F__law_can.kp T.b__law_can .nil pass0 (pa_cons (pv 1) pa_nil)) pa_nil))) (pg_tup rfl (pgs_cons (pg_name (i := 3) sc_law.nd rfl (by first | exact Or.inl rfl | exact Or.inr rfl)) (pgs_cons (pg_name (i := 4) sc_law.nd rfl (by first | exact Or.inl rfl | exact Or.inr rfl)) pgs_nil))))
      (pss_cons (ps_cut (ps_for PassesOwn.never rfl (pi_range1 rfl T.n_range (pa_cons (pe_op op_add pe_int (pe_call G__law_off (hr.mono (by decide)) rfl T.g__law_off T.F__law_off.kp T.b__law_off .nil pass0 (pa_cons (pv 1) (pa_cons pe_int pa_nil)))) pa_nil)) (pg_name (i := 5) sc_law.nd rfl (by first | exact Or.inl rfl | exact Or.inr rfl))
        (pss_one (ps_set (i := 4) sc_law.nd rfl (by first | exact Or.inl rfl | exact Or.inr rfl) (pe_ifExp (pt_val (pe_callB call_isi (by rfl) T.n_isinstance (by decide +kernel) (pa_cons (pv 4) (pa_cons (pe_bltn (v := .ty "tuple") (u := .type "tuple") (by rfl) T.n_tuple (by decide +kernel) rfl) pa_nil)))) (pe_call G__law_spoilt (hr.mono (by decide)) rfl T.g__law_spoilt T.F__law_spoilt.kp T.b__law_spoilt .nil pass0 (pa_cons (pv 1) (pa_cons (pv 4) pa_nil))) (pv 4))))))
      (pss_cons (ps_cut (ps_set (i := 6) sc_law.nd rfl (by first | exact Or.inl rfl | exact Or.inr rfl) (pe_ifExp (pt_val (pe_call G__law_is_can (hr.mono (by decide)) rfl T.g__law_is_can T.F__law_is_can.kp T.b__law_is_can .nil pass0 (pa_cons (pv 4) pa_nil))) pe_non (pe_tup (pa_cons pe_str (pa_cons pe_int pa_nil))))))
      (pss_cons (ps_set (i := 7) sc_law.nd rfl (by first | exact Or.inl rfl | exact Or.inr rfl) (pe_lst (pa_cons (pe_lamF (T := T.tl) TB rfl T.tm T.tu (NdefX.ndef_free (fr := []) (by show NdefX.ndefB (defScope s_law) _ [] = true; decide +kernel)) rfl) (pa_cons (pe_lamD (T := T.tl) TB rfl T.tm T.tu (NdefX.ndef_free (fr := []) (by show NdefX.ndefB (defScope s_law) _ [] = true; decide +kernel)) rfl rfl) (pa_cons (pe_lamD (T := T.tl) TB rfl T.tm T.tu (NdefX.ndef_free (fr := []) (by show NdefX.ndefB (defScope s_law) _ [] = true; decide +kernel)) rfl rfl) pa_nil)))))
      (pss_cons (ps_set (i := 7) sc_law.nd rfl (by first | exact Or.inl rfl | exact Or.inr rfl) (pe_op op_cat (pv 7) (pe_lst (pa_cons (pe_lamD (T := T.tl) TB rfl T.tm T.tu (NdefX.ndef_free (fr := []) (by show NdefX.ndefB (defScope s_law) _ [] = true; decide +kernel)) rfl rfl) (pa_cons (pe_lamD (T := T.tl) TB rfl T.tm T.tu (NdefX.ndef_free (fr := []) (by show NdefX.ndefB (defScope s_law) _ [] = true; decide +kernel)) rfl rfl) pa_nil)))))
      (pss_cons (ps_cut (ps_if (pt_cmpR (op_neD hu64) (pe_lcK (own := [("_law_work", 8)]) (g := (gName 8)) (tt := fun σL => tYes) (te := fun σL => (tWordX (cxOf CX0 P w K mg base N_law "law" (defScope s_law) T.a_law (.ref T.lC) A outer s H E).nox 11 (fun _ => σL) (tW T) (tVar 8))) rfl sc_law.nd (pi_list (pv 7)) (blkOk_by (own := [("_law_work", 8)]) (N := N_law) (sc := defScope s_law) (by decide +kernel)) (fun _ _ _ _ _ => (pg_name (i := 8) sc_law.nd rfl (by first | exact Or.inl rfl | exact Or.inr rfl))) (fun pins σL s0 H0 C cl ob J z => pts_nil) (fun pins σL s0 H0 C cl ob J z => (pe_word (k := 11) (sel := fun _ => σL) (known_blk J z) rfl T.g__law_word T.F__law_word.kp lkw hcw bnw sc__law_word rfl (.inl rfl) (fun q => gives__law_word T rfl rfl rfl rfl rfl q) (hr.mono (by decide)) (pv 8)))) (pe_lst (pa_cons (pv 6) (pa_cons (pe_tup (pa_cons pe_str (pa_cons pe_int pa_nil))) (pa_cons (pv 6) (pa_cons (pv 6) (pa_cons (pv 6) pa_nil)))))) (nomark _))
        (pss_one (ps_ret pe_bl))
        pss_nil))
      (pss_cons (ps_cut (ps_if (PW.pt (pw_and (pt_cmpR op_notN1 (pv 6) pe_non (nomark _)) (pw_and1 (pt_cmpR (op_neD hu64) (pe_word (k := 11) (sel := id) known_def rfl T.g__law_word T.F__law_word.kp lkw hcw bnw sc__law_word rfl (.inl rfl) (fun q => gives__law_word T rfl rfl rfl rfl rfl q) (hr.mono (by decide)) (pe_lamD (T := T.tl) TB rfl T.tm T.tu (NdefX.ndef_free (fr := []) (by show NdefX.ndefB (defScope s_law) _ [] = true; decide +kernel)) rfl rfl)) (pv 6) (nomark _)))))
        (pss_one (ps_ret pe_bl))
        pss_nil))
      (pss_cons (ps_set (i := 9) sc_law.nd rfl (by first | exact Or.inl rfl | exact Or.inr rfl) (pe_make T.M_End G_End_init (hr.mono (by decide)) rfl T.c_End T.b_End_init .nil passL (pa_cons (pv 3) pa_nil)))
      (pss_cons (ps_cut (ps_for PassesOwn.never rfl (pi_range1 rfl T.n_range (pa_cons pe_int pa_nil)) (pg_name (i := 10) sc_law.nd rfl (by first | exact Or.inl rfl | exact Or.inr rfl))
        (pss_cons (ps_cut (ps_set (i := 11) sc_law.nd rfl (by first | exact Or.inl rfl | exact Or.inr rfl) (pe_ix ix_list (pe_lst (pa_cons pe_int (pa_cons (pe_un un_neg pe_int) (pa_cons (pe_op op_add pe_int (pe_call G__law_off (hr.mono (by decide)) rfl T.g__law_off T.F__law_off.kp T.b__law_off .nil pass0 (pa_cons (pv 1) (pa_cons (pe_op op_pow pe_int pe_int) pa_nil)))) (pa_cons (pe_op op_sub (pe_un un_neg pe_int) (pe_call G__law_off (hr.mono (by decide)) rfl T.g__law_off T.F__law_off.kp T.b__law_off .nil pass0 (pa_cons (pv 1) (pa_cons (pe_op op_pow pe_int pe_int) pa_nil)))) (pa_cons pe_bl (pa_cons pe_non pa_nil))))))) (pe_call G__law_off (hr.mono (by decide)) rfl T.g__law_off T.F__law_off.kp T.b__law_off .nil pass0 (pa_cons (pv 1) (pa_cons pe_int pa_nil))) (fun _ _ => rfl))))
        (pss_one (ps_cut (ps_if (PW.pt (pw_or (pt_cmpR (op_neD hu64) (pe_word (k := 11) (sel := id) known_def rfl T.g__law_word T.F__law_word.kp lkw hcw bnw sc__law_word rfl (.inl rfl) (fun q => gives__law_word T rfl rfl rfl rfl rfl q) (hr.mono (by decide)) (pe_lamF (T := T.tl) TB rfl T.tm T.tu (NdefX.ndef_free (fr := []) (by show NdefX.ndefB (defScope s_law) _ [] = true; decide +kernel)) rfl)) (pe_tup (pa_cons pe_str (pa_cons pe_int pa_nil))) (nomark _)) (pw_or1 (pt_cmpR op_notN1 (pe_meth (pv 9) T.cl_End T.m_End_send G_End_send (hr.mono (by decide)) T.b_End_send .nil passL (pa_cons (pe_ix ix_list (pe_lst (pa_cons pe_int (pa_cons pe_int (pa_cons pe_int pa_nil)))) (pe_op op_mod (pv 10) pe_int) (fun _ _ => rfl)) pa_nil)) pe_non (nomark _)))))
          (pss_one (ps_ret pe_bl))
          pss_nil))))))
      (pss_cons (ps_cut (ps_if (PW.pt (pw_or (pt_cmpR (op_neD hu64) (pe_word (k := 11) (sel := id) known_def rfl T.g__law_word T.F__law_word.kp lkw hcw bnw sc__law_word rfl (.inl rfl) (fun q => gives__law_word T rfl rfl rfl rfl rfl q) (hr.mono (by decide)) (pe_lamF (T := T.tl) TB rfl T.tm T.tu (NdefX.ndef_free (fr := []) (by show NdefX.ndefB (defScope s_law) _ [] = true; decide +kernel)) rfl)) (pe_tup (pa_cons pe_str (pa_cons pe_int pa_nil))) (nomark _)) (pw_or1 (pt_cmpR (op_neD hu64) (pe_word (k := 11) (sel := id) known_def rfl T.g__law_word T.F__law_word.kp lkw hcw bnw sc__law_word rfl (.inl rfl) (fun q => gives__law_word T rfl rfl rfl rfl rfl q) (hr.mono (by decide)) (pe_lamD (T := T.tl) TB rfl T.tm T.tu (NdefX.ndef_free (fr := []) (by show NdefX.ndefB (defScope s_law) _ [] = true; decide +kernel)) rfl rfl)) (pe_tup (pa_cons pe_str (pa_cons pe_int pa_nil))) (nomark _)))))
        (pss_one (ps_ret pe_bl))
        pss_nil))
      (pss_one (ps_if (PW.pt (pw_or (pt_cmpR op_ne (pe_meth0 (pv 9) T.cl_End T.m_End_left G_End_left (hr.mono (by decide)) T.b_End_left .nil pass0) pe_int (nomark _)) (pw_or (pt_not (pt_val (pe_call G__law_are_counts (hr.mono (by decide)) rfl T.g__law_are_counts T.F__law_are_counts.kp T.b__law_are_counts .nil pass0 (pa_cons (pv 1) pa_nil)))) (pw_or (pt_not (pt_val (pe_call G__law_are_parts (hr.mono (by decide)) rfl T.g__law_are_parts T.F__law_are_parts.kp T.b__law_are_parts .nil pass0 (pa_cons (pv 1) (pa_cons (pv 9) pa_nil))))) (pw_or1 (pt_cmpR op_ne (pe_meth0 (pv 9) T.cl_End T.m_End_left G_End_left (hr.mono (by decide)) T.b_End_left .nil pass0) pe_int (nomark _)))))))
        (pss_one (ps_ret pe_bl))
        pss_nil)))))))))))))
    (pss_one (ps_ret pe_bl)))), ?_⟩
    have big : ∀ {n : Nat}, n ≤ 3000000 → n ≤ sizeLine := fun h => by show _ ≤ 16777216; omega
    have hP : T.lP ∈ T.ps := .head _
    refine ⟨_, rfl, a, ns, 0, rfl, hS, hlen, fun d H0 hd D0 s0 => ?_⟩
    have I0 : I01 T H0 d := ⟨D0, tabs_same tb0 s0⟩
    refine ⟨4, rfl, by decide, by decide, for_range (lo := 0) (n := 4) (fun i σ H' => (∃ v2 v3 v4 v5 v6 v7 v9 v10 v11 : Option V, σ = [some (V.ref a), some (.ref d), v2, v3, v4, v5, v6, v7, none, v9, v10, v11]) ∧ I01 T H' d)
      ⟨⟨_, _, _, _, _, _, _, _, _, rfl⟩, I0⟩ ?_ (fun σ H' _ => k H')⟩
    rintro turn σ H1 hturn ⟨⟨v2, v3, v4, v5, v6, v7, v9, v10, v11, rfl⟩, I1⟩
    refine ⟨_, rfl, d, rfl, I1.D, fun t0 ca H2 hca ht0 D2 f2 => ?_⟩
    have I2 := I1.dice D2 f2
    refine ⟨_, rfl, d, rfl, I2.D, fun t1 cb Ha hcb ht1a Da fa => ?_⟩
    have ht0a := fa.tups _ _ ht0
    have Ia := I2.dice Da fa
    refine ⟨(by show 2 ≤ sizeLine; decide), fun pr hpr => ?_⟩
    have sa := Same.upd_new (o := .tup [.ref t0, .ref t1]) hpr
    have qa := upd_same (H := Ha) (a := pr) (o := .tup [.ref t0, .ref t1])
    generalize upd Ha pr (.tup [.ref t0, .ref t1]) = H3 at sa qa ⊢
    have I3 := Ia.same sa
    have ht03 := sa _ _ ht0a
    have ht1 := sa _ _ ht1a
    refine ⟨pr, _, rfl, SqT.of qa, rfl, _, _, rfl, _, _, rfl, rfl, ?_⟩
    -- spoilt
    refine ⟨fun σ' H' => ∃ (vb : V) (db : PyData) (w5 : Option V), σ' = [some (V.ref a), some (.ref d), some (.int (0 + (turn : Nat))), some (.ref t0), some vb, w5, v6, v7, none, v9, v10, v11] ∧ Im H' vb db ∧ SpD 43 db ∧ I01 T H' d ∧ Frm [d] H3 H', ?_, ?_⟩
    · refine ⟨_, rfl, d, 2, rfl, I3.D, by decide, by decide, fun r H4 r0 r2 D4 f4 => ?_⟩
      have I4 := I3.dice D4 f4
      refine ⟨_, _, rfl, rfl, _, rfl, by omega, by omega, for_range (lo := 0) (n := (1 + r).toNat) (fun i σ H' => ∃ (vb : V) (db : PyData) (w5 : Option V), σ = [some (V.ref a), some (.ref d), some (.int (0 + (turn : Nat))), some (.ref t0), some vb, w5, v6, v7, none, v9, v10, v11] ∧ Im H' vb db ∧ SpD (bndP i) db ∧ I01 T H' d ∧ Frm [d] H3 H')
        ⟨.ref t1, .tuple (cb.map .int), _, rfl, .tup (f4.tups _ _ ht1) (im_ints _), .inl ⟨_, rfl, can_parts hcb⟩, I4, f4⟩ ?_ ?_⟩
      · rintro i σ H5 hi ⟨vb, db, w5, rfl, im, sp, I5, f5⟩
        have hi2 : i < 2 := by omega
        have step : 2 * bndP i + 1 ≤ bndP (i + 1) ∧ bndP i ≤ 100 := by
          have : i = 0 ∨ i = 1 := by omega
          rcases this with rfl | rfl <;> decide
        rcases sp with ⟨ds, rfl, hp⟩ | hn
        · obtain ⟨t, xs, rfl, ht, hA⟩ := im_tup_inv im
          refine ⟨_, rfl, _, _, _, _, _, rfl, .ty _, tyx_D (im.dp (K := K)), kit_ty kb_tt, _, rfl, iteT ?_⟩
          refine ⟨_, rfl, _, rfl, d, t, xs, ds, _, rfl, I5.D, ht, hA, hp, step.2, fun v dv H6 iv sv D6 f6 => ?_⟩
          exact ⟨v, dv, _, rfl, iv, sv.mono step.1, I5.dice D6 f6, f5.trans f6⟩
        · have sp' : SpD (bndP (i + 1)) db := .inr hn
          have fin : ∃ (vb' : V) (db' : PyData) (w5' : Option V), [some (V.ref a), some (.ref d), some (.int (0 + (turn : Nat))), some (.ref t0), some vb, some (.int (0 + (i : Nat))), v6, v7, none, v9, v10, v11] = [some (V.ref a), some (.ref d), some (.int (0 + (turn : Nat))), some (.ref t0), some vb', w5', v6, v7, none, v9, v10, v11] ∧ Im H5 vb' db' ∧ SpD (bndP (i + 1)) db' ∧ I01 T H5 d ∧ Frm [d] H3 H5 := ⟨vb, db, _, rfl, im, sp', I5, f5⟩
          rcases hn with rfl | rfl | rfl | rfl
          · exact ⟨_, rfl, _, _, _, _, _, rfl, .ty _, tyx_D (im.dp (K := K)), kit_ty kb_it, _, rfl, iteF ⟨_, rfl, fin⟩⟩
          · exact ⟨_, rfl, _, _, _, _, _, rfl, .ty _, tyx_D (im.dp (K := K)), kit_ty kb_nt, _, rfl, iteF ⟨_, rfl, fin⟩⟩
          · exact ⟨_, rfl, _, _, _, _, _, rfl, .ty _, tyx_D (im.dp (K := K)), kit_ty kb_st, _, rfl, iteF ⟨_, rfl, fin⟩⟩
          · exact ⟨_, rfl, _, _, _, _, _, rfl, .ty _, tyx_D (im.dp (K := K)), kit_ty kb_bt, _, rfl, iteF ⟨_, rfl, fin⟩⟩
      · rintro σ H5 ⟨vb, db, w5, rfl, im, sp, I5, f5⟩
        refine ⟨vb, db, _, rfl, im, sp.mono ?_, I5, f5⟩
        have : (1 + r).toNat = 1 ∨ (1 + r).toNat = 2 := by omega
        rcases this with q | q <;> rw [q] <;> decide
    rintro σ' H4 ⟨vb, db, w5, rfl, imb, spb, I4, f34⟩
    have mdb := spb.mdat (by decide)
    have ht04 := f34.tups _ _ ht03
    -- what is due
    refine ⟨fun σ' H' => ∃ dv : V, σ' = [some (V.ref a), some (.ref d), some (.int (0 + (turn : Nat))), some (.ref t0), some vb, w5, some dv, v7, none, v9, v10, v11] ∧ Im H' dv (dueD (isMan db)) ∧ Same H4 H', ?_, ?_⟩
    · refine ⟨_, rfl, vb, db, rfl, imb, mdb, fun H5 s5 => ⟨_, rfl, ?_⟩⟩
      cases hm : isMan db with
      | true => exact iteT ⟨.non, rfl, .non, s5⟩
      | false => exact iteF ⟨(by show 2 ≤ sizeLine; decide), fun t ht => ⟨.ref t, rfl, im_word upd_same, s5.trans (Same.upd_new ht)⟩⟩
    rintro σ' H5 ⟨dv, rfl, imd, s5⟩
    have I5 := I4.same s5
    have imb5 := imb.same s5
    have ht05 := s5 _ _ ht04
    have fP : ∀ {Ha Hb : Hp}, Frm [T.lP] Ha Hb → Frm T.ps Ha Hb := fun f => f.mono fun x hx => by simp at hx; subst hx; exact hP
    -- the works
    refine ⟨I5.T, fun g1 c1 H6 e6 tb6 f6 g1n g1H c1H => ⟨tb6, fun z2 g2 c2 H7 e7 tb7 f7 g2n z2H g2H c2H => ⟨tb7, fun z3 g3 c3 H8 e8 tb8 f8 g3n z3H g3H c3H => ⟨(by show 3 ≤ sizeLine; decide), fun W1 hW1 => ?_⟩⟩⟩⟩
    have I8 := ((I5.lam hP tb6 f6).lam hP tb7 f7).lam hP tb8 f8
    have s9 := Same.upd_new (o := .lst [.ref g1, .ref g2, .ref g3]) hW1
    have q9 := upd_same (H := H8) (a := W1) (o := .lst [.ref g1, .ref g2, .ref g3])
    generalize upd H8 W1 (.lst [.ref g1, .ref g2, .ref g3]) = H9 at s9 q9 ⊢
    have I9 := I8.same s9
    refine ⟨_, rfl, I9.T, fun z4 g4 c4 H10 e10 tb10 f10 g4n z4H g4H c4H => ⟨tb10, fun z5 g5 c5 H11 e11 tb11 f11 g5n z5H g5H c5H => ⟨(by show 2 ≤ sizeLine; decide), fun W2 hW2 => ?_⟩⟩⟩
    have I11 := (I9.lam hP tb10 f10).lam hP tb11 f11
    have s12 := Same.upd_new (o := .lst [.ref g4, .ref g5]) hW2
    have q12 := upd_same (H := H11) (a := W2) (o := .lst [.ref g4, .ref g5])
    generalize upd H11 W2 (.lst [.ref g4, .ref g5]) = H12 at s12 q12 ⊢
    have e911 : LamX.ExtN H9 H11 := e10.trans e11
    refine ⟨W1, W2, _, _, rfl, rfl, s12 _ _ (e911 _ _ q9 lst_ne), q12, (by show 3 + 2 ≤ sizeLine; decide), fun W hW => ?_⟩
    have s13 := Same.upd_new (o := .lst ([.ref g1, .ref g2, .ref g3] ++ [.ref g4, .ref g5])) hW
    have q13 : (upd H12 W (.lst ([.ref g1, .ref g2, .ref g3] ++ [.ref g4, .ref g5]))) W = some (.lst [.ref g1, .ref g2, .ref g3, .ref g4, .ref g5]) := upd_same
    generalize upd H12 W (.lst ([.ref g1, .ref g2, .ref g3] ++ [.ref g4, .ref g5])) = H13 at s13 q13 ⊢
    have s1113 := s12.trans s13
    have e513 : LamX.ExtN H5 H13 := fun b o z n => s1113 _ _ (e911 _ _ (s9 _ _ (e8 _ _ (e7 _ _ (e6 _ _ z n) n) n)) n)
    have e613 : LamX.ExtN H6 H13 := fun b o z n => s1113 _ _ (e911 _ _ (s9 _ _ (e8 _ _ (e7 _ _ z n) n)) n)
    have e713 : LamX.ExtN H7 H13 := fun b o z n => s1113 _ _ (e911 _ _ (s9 _ _ (e8 _ _ z n)) n)
    have e813 : LamX.ExtN H8 H13 := fun b o z n => s1113 _ _ (e911 _ _ (s9 _ _ z) n)
    have e1013 : LamX.ExtN H10 H13 := fun b o z n => s1113 _ _ (e11 _ _ z n)
    have I13 := I11.same s1113
    have g1H := e613 _ _ g1H lamAt_ne
    have c1H := e613 _ _ c1H LamX.codeO_ne
    have g2H := e713 _ _ g2H lamAt_ne
    have c2H := e713 _ _ c2H LamX.codeO_ne
    have z2H := e713 _ _ z2H tup_ne
    have g3H := e813 _ _ g3H lamAt_ne
    have c3H := e813 _ _ c3H LamX.codeO_ne
    have z3H := e813 _ _ z3H tup_ne
    have g4H := e1013 _ _ g4H lamAt_ne
    have c4H := e1013 _ _ c4H LamX.codeO_ne
    have z4H := e1013 _ _ z4H tup_ne
    have g5H := s1113 _ _ g5H
    have c5H := s1113 _ _ c5H
    have z5H := s1113 _ _ z5H
    have ht013 := e513 _ _ ht05 tup_ne
    have imb13 := imb5.ext e513
    have imd13 := imd.ext e513
    have goodM : isMan (.tuple (ca.map .int)) = true := isMan_ints hca
    have mdg : mdat (.tuple (ca.map .int)) := mdat_ints hca.2.2.2
    have rW : ∀ {cls : Value} {d' : Option Addr} {H' : Hp}, cls = .ref T.C_BadManners → d' = none → WordAt K [T.C_BadManners, T.C_BadCount, T.C_BadPart, T.C_BadItem, T.C_Full, T.C_BadLog, T.C_BadText, T.C_BadEnd, T.C_BadStep] T.C_LineError cls d' H' 0 0 := fun h1 h2 => by
      subst h1 h2
      exact word_plain T.wk_BadManners (by decide) (by decide) (by decide) (by decide)
    -- what they tell
    refine ⟨fun σ' H' => σ' = [some (V.ref a), some (.ref d), some (.int (0 + (turn : Nat))), some (.ref t0), some vb, w5, some dv, some (.ref W), none, v9, v10, v11] ∧ Same H13 H', ?_, ?_⟩
    · refine ⟨_, rfl, W, rfl, ⟨_, SqL.of q13⟩, fun D hD => ?_⟩
      have sD := Same.upd_new (o := .lst []) hD
      have fin : ∀ (i : Nat) (du : PyData) (H18 H' : Hp) (y : V) (xs : List V), (duesD (isMan db))[i]? = some du → Same H13 H18 → H18 D = some (.lst xs) → ImAll H18 xs ((duesD (isMan db)).take i) → Same H18 H' → Im H' y du →
          ∃ acc, H' D = some (.lst acc) ∧ acc.length < sizeLine ∧ (Same H13 (upd H' D (.lst (acc ++ [y]))) ∧ ∃ ys, (upd H' D (.lst (acc ++ [y]))) D = some (.lst ys) ∧ ImAll (upd H' D (.lst (acc ++ [y]))) ys ((duesD (isMan db)).take (i + 1))) := by
        intro i du H18 H' y xs hdu s18 hD18 hA18 s' hy
        have hD' := s' _ _ hD18
        have hl := hA18.length
        refine ⟨xs, hD', ?_, ((Frm.of_same (s18.trans s')).own hD (Frm.updL hD')).same, _, upd_same, ?_⟩
        · have := List.length_take_le i (duesD (isMan db))
          have : (duesD (isMan db)).length = 5 := rfl
          have := (List.getElem?_eq_some_iff.mp hdu).1
          show _ < 16777216
          omega
        · rw [take_more hdu]
          exact ((hA18.same s').append (.cons hy .nil)).updL hD'
      have good : ∀ {H' : Hp}, Same H13 H' → Im H' (.ref t0) (.tuple (ca.map .int)) := fun s' => .tup (s' _ _ ht013) (im_ints _)
      have bad : ∀ {H' : Hp}, Same H13 H' → Im H' vb db := fun s' => imb13.same s'
      have hT : isMan db = true → dueD (isMan db) = .none := fun z => by rw [z]; rfl
      have hF : isMan db = false → dueD (isMan db) = M0 := fun z => by rw [z]; rfl
      have emp : ∀ {H' : Hp} {e : Addr}, H' e = some (.tup []) → Im H' (.ref e) (.tuple []) := fun h => .tup h .nil
      have memp : mdat (.tuple []) := ⟨Nat.zero_le _, fun e he => by cases he⟩
      have z0 : 0 ≤ sizeLine := Nat.zero_le _
      refine lc_list (K := K) (a := W) (xs := [.ref g1, .ref g2, .ref g3, .ref g4, .ref g5]) (fun i H' => Same H13 H' ∧ ∃ ys, H' D = some (.lst ys) ∧ ImAll H' ys ((duesD (isMan db)).take i)) ⟨sD, [], upd_same, .nil⟩ (fun i H' _ h => SqL.of (h.1 _ _ q13)) ?_ ?_
      · rintro i x H18 hi ⟨s18, ys, hD18, hA18⟩
        have hi5 : i < 5 := (List.getElem?_eq_some_iff.mp hi).1
        have : i = 0 ∨ i = 1 ∨ i = 2 ∨ i = 3 ∨ i = 4 := by omega
        rcases this with rfl | rfl | rfl | rfl | rfl
        · cases hi
          refine ⟨rfl, _, rfl, g1, _, rfl, ready_of (js := [3, 4]) (s18 _ _ g1H) (s18 _ _ c1H) (fun t z => by cases z) (lok_of (P := P) (w := w) (mg := mg) (base := base) (k := 10) (fr := ["_law_good", "_law_bad"]) (N := ["_law_good", "_law_bad"]) (ps := []) (vs := []) (tb := fun E => (tCall _ [] E (tCons (tVar 0) (tCons (tVar 1) (tCons (tTup tNil) tNil))))) (NdefX.nscope_by (by dsimp only; decide +kernel)) rfl (fun s doc pm ctv _ => ⟨[], .nil, .of_eq rfl⟩) (fun A outer s H E hr => (pe_call G_chosen (hr.mono (by decide)) rfl T.g_chosen T.F_chosen.kp T.b_chosen .nil pass_ncx (pa_cons (pv 0) (pa_cons (pv 1) (pa_cons (pe_tup pa_nil) pa_nil)))))) ⟨rfl, NdefX.ndef_free (fr := []) (by show NdefX.ndefB (defScope s_law) _ [] = true; dsimp only; decide +kernel), NdefX.ndef_fr (sc := defScope s_law) (by dsimp only; decide +kernel), rfl⟩, fun cls d' H' => dueD (isMan db) = M0 ∧ cls = .ref T.C_BadManners ∧ d' = none ∧ Same H18 H', ?_, ?_⟩
          · refine ⟨s18 _ _ g1H, (fun t z => by cases z), _, rfl, _, rfl, z0, fun e he => ?_⟩
            have se := Same.upd_new (o := .tup []) he
            exact ⟨_, vb, .ref e, _, db, rfl, (good (s18.trans se)).dp, mdg, (bad (s18.trans se)).dp, mdb, (fun z => by rw [goodM] at z; cases z), (fun _ z H' s' => ⟨hF z, rfl, rfl, se.trans s'⟩),
              fun _ z one other e1 e2 => ⟨e, [], rfl, .inr (SqT.of upd_same), fun H' s' => fin 0 _ H18 H' _ ys rfl s18 hD18 hA18 (se.trans s') (by rw [hT z]; exact .non)⟩⟩
          · rintro cls d' H' ⟨hM, h1, h2, s19⟩
            refine ⟨0, 0, rW h1 h2, fun u H3 s3 hu => fin 0 _ H18 H3 _ ys rfl s18 hD18 hA18 (s19.trans s3) (by rw [hM]; exact im_word hu)⟩
        · cases hi
          refine ⟨rfl, _, rfl, g2, _, rfl, ready_of (js := [4]) (s18 _ _ g2H) (s18 _ _ c2H) (fun t z => by cases z; exact s18 _ _ z2H) (lok_of (P := P) (w := w) (mg := mg) (base := base) (k := 10) (fr := ["_law_bad"]) (N := ["_law_a", "_law_bad"]) (ps := ["_law_a"]) (vs := [.int 0]) (tb := fun E => (tCall _ [] E (tCons (tVar 1) (tCons (tTup tNil) (tCons (tTup tNil) tNil))))) (NdefX.nscope_by (by dsimp only; decide +kernel)) rfl (fun s doc pm ctv h => by obtain ⟨u, ⟨o, ho, _, n, hd⟩, ru⟩ := h _ rfl; exact ⟨[u], .cons ru .nil, BindsTo.of_defaults rfl ho hd rfl rfl⟩) (fun A outer s H E hr => (pe_call G_chosen (hr.mono (by decide)) rfl T.g_chosen T.F_chosen.kp T.b_chosen .nil pass_ncx (pa_cons (pv 1) (pa_cons (pe_tup pa_nil) (pa_cons (pe_tup pa_nil) pa_nil)))))) ⟨rfl, NdefX.ndef_free (fr := []) (by show NdefX.ndefB (defScope s_law) _ [] = true; dsimp only; decide +kernel), NdefX.ndef_fr (sc := defScope s_law) (by dsimp only; decide +kernel), rfl⟩, fun cls d' H' => cls = .ref T.C_BadManners ∧ d' = none ∧ Same H18 H', ?_, ?_⟩
          · refine ⟨s18 _ _ g2H, (fun t z => by cases z; exact s18 _ _ z2H), _, rfl, z0, fun e he => ⟨z0, fun e2 he2 => ?_⟩⟩
            have se := Same.upd_new (o := .tup []) he
            have qe := upd_same (H := H18) (a := e) (o := .tup [])
            generalize upd H18 e (.tup []) = H19 at se qe he2 ⊢
            have se2 := Same.upd_new (o := .tup []) he2
            have s1820 := se.trans se2
            exact ⟨vb, _, .ref e2, db, .tuple [], rfl, (bad (s18.trans s1820)).dp, mdb, (emp (se2 _ _ qe)).dp, memp, (fun z H' s' => ⟨rfl, rfl, s1820.trans s'⟩), (fun _ z H' s' => ⟨rfl, rfl, s1820.trans s'⟩), fun _ z => by cases z⟩
          · rintro cls d' H' ⟨h1, h2, s19⟩
            refine ⟨0, 0, rW h1 h2, fun u H3 s3 hu => fin 1 _ H18 H3 _ ys rfl s18 hD18 hA18 (s19.trans s3) (im_word hu)⟩
        · cases hi
          refine ⟨rfl, _, rfl, g3, _, rfl, ready_of (js := [4]) (s18 _ _ g3H) (s18 _ _ c3H) (fun t z => by cases z; exact s18 _ _ z3H) (lok_of (P := P) (w := w) (mg := mg) (base := base) (k := 10) (fr := ["_law_bad"]) (N := ["_law_b", "_law_bad"]) (ps := ["_law_b"]) (vs := [.int 0]) (tb := fun E => (tMake T.C_End _ [] E (tCons (tVar 1) tNil))) (NdefX.nscope_by (by dsimp only; decide +kernel)) rfl (fun s doc pm ctv h => by obtain ⟨u, ⟨o, ho, _, n, hd⟩, ru⟩ := h _ rfl; exact ⟨[u], .cons ru .nil, BindsTo.of_defaults rfl ho hd rfl rfl⟩) (fun A outer s H E hr => (pe_make T.M_End G_End_init (hr.mono (by decide)) rfl T.c_End T.b_End_init .nil pass_ncx (pa_cons (pv 1) pa_nil)))) ⟨rfl, NdefX.ndef_free (fr := []) (by show NdefX.ndefB (defScope s_law) _ [] = true; dsimp only; decide +kernel), NdefX.ndef_fr (sc := defScope s_law) (by dsimp only; decide +kernel), rfl⟩, fun cls d' H' => dueD (isMan db) = M0 ∧ cls = .ref T.C_BadManners ∧ d' = none ∧ Same H18 H', ?_, ?_⟩
          · refine ⟨s18 _ _ g3H, (fun t z => by cases z; exact s18 _ _ z3H), _, rfl, fun x dx hx hdx nd => ?_⟩
            have se := (Same.upd_new (o := .own x) hdx).trans (Same.upd_new (o := .ins T.C_End dx []) (by rw [upd_ne (Ne.symm nd)]; exact hx))
            exact ⟨x, dx, vb, db, rfl, upd_same, (bad (s18.trans se)).dp, mdb, (fun z H' s' => ⟨hF z, rfl, rfl, se.trans s'⟩), fun z ms e => ⟨by have q := bad (s18.trans se); rw [e] at q; exact q, fun ad H' _ _ _ f => ⟨rfl, fin 2 _ H18 H' _ ys rfl s18 hD18 hA18 ((Frm.of_same (S := []) se).own hx f).same (by rw [hT z]; exact .non)⟩⟩⟩
          · rintro cls d' H' ⟨hM, h1, h2, s19⟩
            refine ⟨0, 0, rW h1 h2, fun u H3 s3 hu => fin 2 _ H18 H3 _ ys rfl s18 hD18 hA18 (s19.trans s3) (by rw [hM]; exact im_word hu)⟩
        · cases hi
          refine ⟨rfl, _, rfl, g4, _, rfl, ready_of (js := [3, 4]) (s18 _ _ g4H) (s18 _ _ c4H) (fun t z => by cases z; exact s18 _ _ z4H) (lok_of (P := P) (w := w) (mg := mg) (base := base) (k := 10) (fr := ["_law_good", "_law_bad"]) (N := ["_law_c", "_law_good", "_law_bad"]) (ps := ["_law_c"]) (vs := [.int 0]) (tb := fun E => (tCall _ [] E (tCons (tVar 1) (tCons (tVar 2) (tCons (tLst tNil) tNil))))) (NdefX.nscope_by (by dsimp only; decide +kernel)) rfl (fun s doc pm ctv h => by obtain ⟨u, ⟨o, ho, _, n, hd⟩, ru⟩ := h _ rfl; exact ⟨[u], .cons ru .nil, BindsTo.of_defaults rfl ho hd rfl rfl⟩) (fun A outer s H E hr => (pe_call G_judged (hr.mono (by decide)) rfl T.g_judged T.F_judged.kp T.b_judged .nil pass_ncx (pa_cons (pv 1) (pa_cons (pv 2) (pa_cons (pe_lst pa_nil) pa_nil)))))) ⟨rfl, NdefX.ndef_free (fr := []) (by show NdefX.ndefB (defScope s_law) _ [] = true; dsimp only; decide +kernel), NdefX.ndef_fr (sc := defScope s_law) (by dsimp only; decide +kernel), rfl⟩, fun cls d' H' => dueD (isMan db) = M0 ∧ cls = .ref T.C_BadManners ∧ d' = none ∧ Same H18 H', ?_, ?_⟩
          · refine ⟨s18 _ _ g4H, (fun t z => by cases z; exact s18 _ _ z4H), _, rfl, _, rfl, z0, fun e he => ?_⟩
            have se := Same.upd_new (o := .lst []) he
            exact ⟨_, vb, e, _, db, rfl, (good (s18.trans se)).dp, mdg, (bad (s18.trans se)).dp, mdb, (fun z => by rw [goodM] at z; cases z), (fun _ z H' s' => ⟨hF z, rfl, rfl, se.trans s'⟩),
              fun _ z => ⟨SqL.of upd_same, fun H' s' => fin 3 _ H18 H' _ ys rfl s18 hD18 hA18 (se.trans s') (by rw [hT z]; exact .non)⟩⟩
          · rintro cls d' H' ⟨hM, h1, h2, s19⟩
            refine ⟨0, 0, rW h1 h2, fun u H3 s3 hu => fin 3 _ H18 H3 _ ys rfl s18 hD18 hA18 (s19.trans s3) (by rw [hM]; exact im_word hu)⟩
        · cases hi
          refine ⟨rfl, _, rfl, g5, _, rfl, ready_of (js := [4, 3]) (s18 _ _ g5H) (s18 _ _ c5H) (fun t z => by cases z; exact s18 _ _ z5H) (lok_of (P := P) (w := w) (mg := mg) (base := base) (k := 10) (fr := ["_law_bad", "_law_good"]) (N := ["_law_e", "_law_bad", "_law_good"]) (ps := ["_law_e"]) (vs := [.int 0]) (tb := fun E => (tCall _ [] E (tCons (tVar 1) (tCons (tVar 2) (tCons (tLst tNil) tNil))))) (NdefX.nscope_by (by dsimp only; decide +kernel)) rfl (fun s doc pm ctv h => by obtain ⟨u, ⟨o, ho, _, n, hd⟩, ru⟩ := h _ rfl; exact ⟨[u], .cons ru .nil, BindsTo.of_defaults rfl ho hd rfl rfl⟩) (fun A outer s H E hr => (pe_call G_judged (hr.mono (by decide)) rfl T.g_judged T.F_judged.kp T.b_judged .nil pass_ncx (pa_cons (pv 1) (pa_cons (pv 2) (pa_cons (pe_lst pa_nil) pa_nil)))))) ⟨rfl, NdefX.ndef_free (fr := []) (by show NdefX.ndefB (defScope s_law) _ [] = true; dsimp only; decide +kernel), NdefX.ndef_fr (sc := defScope s_law) (by dsimp only; decide +kernel), rfl⟩, fun cls d' H' => dueD (isMan db) = M0 ∧ cls = .ref T.C_BadManners ∧ d' = none ∧ Same H18 H', ?_, ?_⟩
          · refine ⟨s18 _ _ g5H, (fun t z => by cases z; exact s18 _ _ z5H), _, rfl, _, rfl, z0, fun e he => ?_⟩
            have se := Same.upd_new (o := .lst []) he
            exact ⟨vb, _, e, db, _, rfl, (bad (s18.trans se)).dp, mdb, (good (s18.trans se)).dp, mdg, (fun z H' s' => ⟨hF z, rfl, rfl, se.trans s'⟩), (fun _ z => by rw [goodM] at z; cases z),
              fun z _ => ⟨SqL.of upd_same, fun H' s' => fin 4 _ H18 H' _ ys rfl s18 hD18 hA18 (se.trans s') (by rw [hT z]; exact .non)⟩⟩
          · rintro cls d' H' ⟨hM, h1, h2, s19⟩
            refine ⟨0, 0, rW h1 h2, fun u H3 s3 hu => fin 4 _ H18 H3 _ ys rfl s18 hD18 hA18 (s19.trans s3) (by rw [hM]; exact im_word hu)⟩
      · rintro H18 ⟨s18, ys, hD18, hA18⟩
        have e5 : (duesD (isMan db)).take 5 = duesD (isMan db) := rfl
        have hA : ImAll H18 ys (duesD (isMan db)) := hA18
        refine ⟨_, rfl, (by show 2 ≤ sizeLine; decide), fun t ht => ⟨_, rfl, _, rfl, _, rfl, (by show 5 ≤ sizeLine; decide), fun l hl => ?_⟩⟩
        have s19 := Same.upd_new (o := .tup [.str "manners", .int 0]) ht
        have q19 := upd_same (H := H18) (a := t) (o := .tup [.str "manners", .int 0])
        generalize upd H18 t (.tup [.str "manners", .int 0]) = H19 at s19 q19 hl ⊢
        have s20 := Same.upd_new (o := .lst [dv, .ref t, dv, dv, dv]) hl
        have q20 := upd_same (H := H19) (a := l) (o := .lst [dv, .ref t, dv, dv, dv])
        generalize upd H19 l (.lst [dv, .ref t, dv, dv, dv]) = H20 at s20 q20 ⊢
        have s1820 := s19.trans s20
        have id' := (imd13.same (s18.trans s1820)).dp (K := K)
        have iw := (im_word (s20 _ _ q19)).dp (K := K)
        have lvs := lv_dues (isMan db)
        refine ⟨.list (duesD (isMan db)), .list (duesD (isMan db)), .lst (SqL.of (s1820 _ _ hD18)) (hA.same s1820).dp, .lst (SqL.of q20) (.cons id' (.cons iw (.cons id' (.cons id' (.cons id' .nil))))), shaped_lv lvs (by decide), shaped_lv lvs (by decide), false, congrArg V.bl (by rw [eqv_refl lvs]; rfl), iteF ⟨rfl, s18.trans s1820⟩⟩
    rintro σ' H14 ⟨rfl, s14⟩
    have I14 := I13.same s14
    have imb14 := imb13.same s14
    have imd14 := imd13.same s14
    have ht014 := s14 _ _ ht013
    -- two bad things at once
    refine ⟨fun σ' H' => σ' = [some (V.ref a), some (.ref d), some (.int (0 + (turn : Nat))), some (.ref t0), some vb, w5, some dv, some (.ref W), none, v9, v10, v11] ∧ I01 T H' d ∧ H' t0 = some (.tup (ca.map V.int)), ?_, ?_⟩
    · cases hm : isMan db with
      | true =>
        rw [hm] at imd14
        have im0 : Im H14 dv .none := imd14
        cases im0
        exact ⟨_, rfl, rfl, _, rfl, iteF (iteF ⟨rfl, I14, ht014⟩)⟩
      | false =>
        rw [hm] at imd14
        have imM : Im H14 dv M0 := imd14
        obtain ⟨td, xsd, rfl, _, _⟩ := im_tup_inv imM
        refine ⟨_, rfl, rfl, _, rfl, iteT ?_⟩
        refine ⟨I14.T, fun z6 g6 c6 H15 e15 tb15 f15 g6n z6H g6H c6H => ⟨g6, _, rfl, ready_of (js := [4]) (g6H) (c6H) (fun t z => by cases z; exact z6H) (lok_of (P := P) (w := w) (mg := mg) (base := base) (k := 10) (fr := ["_law_bad"]) (N := ["_law_f", "_law_bad"]) (ps := ["_law_f"]) (vs := [.int 0]) (tb := fun E => (tCall _ [] E (tCons (tVar 1) (tCons (tTup tNil) (tCons (tLst (tCons (tTup tNil) tNil)) tNil))))) (NdefX.nscope_by (by dsimp only; decide +kernel)) rfl (fun s doc pm ctv h => by obtain ⟨u, ⟨o, ho, _, n, hd⟩, ru⟩ := h _ rfl; exact ⟨[u], .cons ru .nil, BindsTo.of_defaults rfl ho hd rfl rfl⟩) (fun A outer s H E hr => (pe_call G_judged (hr.mono (by decide)) rfl T.g_judged T.F_judged.kp T.b_judged .nil pass_ncx (pa_cons (pv 1) (pa_cons (pe_tup pa_nil) (pa_cons (pe_lst (pa_cons (pe_tup pa_nil) pa_nil)) pa_nil)))))) ⟨rfl, NdefX.ndef_free (fr := []) (by show NdefX.ndefB (defScope s_law) _ [] = true; dsimp only; decide +kernel), NdefX.ndef_fr (sc := defScope s_law) (by dsimp only; decide +kernel), rfl⟩, fun cls d' H' => cls = .ref T.C_BadManners ∧ d' = none ∧ Same H15 H', ?_, ?_⟩⟩
        · refine ⟨g6H, (fun t z => by cases z; exact z6H), _, rfl, (by show 0 ≤ sizeLine; decide), fun e he => ⟨(by show 0 ≤ sizeLine; decide), fun e2 he2 => ⟨(by show 1 ≤ sizeLine; decide), fun l hl => ?_⟩⟩⟩
          have se := Same.upd_new (o := .tup []) he
          have qe := upd_same (H := H15) (a := e) (o := .tup [])
          generalize upd H15 e (.tup []) = H16 at se qe he2 hl ⊢
          have se2 := Same.upd_new (o := .tup []) he2
          generalize upd H16 e2 (.tup []) = H17 at se2 hl ⊢
          have s1518 := (se.trans se2).trans (Same.upd_new (o := .lst [.ref e2]) hl)
          have qe3 := ((se2.trans (Same.upd_new (o := .lst [.ref e2]) hl)) _ _ qe)
          exact ⟨vb, _, l, db, .tuple [], rfl, ((imb14.ext e15).same s1518).dp, mdb, (Im.tup qe3 .nil).dp, ⟨Nat.zero_le _, fun e he => by cases he⟩, (fun _ H' s' => ⟨rfl, rfl, s1518.trans s'⟩), (fun z => by rw [hm] at z; cases z), fun z => by rw [hm] at z; cases z⟩
        · rintro cls d' H' ⟨h1, h2, s16⟩
          refine ⟨0, 0, rW h1 h2, fun u H3 s3 hu => ?_⟩
          have s15 := s16.trans s3
          have iw : Im H3 (.ref u) M0 := im_word hu
          refine ⟨_, rfl, M0, M0, iw.dp, ((imM.ext e15).same s15).dp, shaped_lv lv_M0 (by decide), shaped_lv lv_M0 (by decide), false, congrArg V.bl (by rw [eqv_refl lv_M0]; rfl), iteF ⟨rfl, (I14.lam hP tb15 f15).same s15, s15 _ _ (f15.tups _ _ ht014)⟩⟩
    rintro σ' H15 ⟨rfl, I15, ht015⟩
    clear I14 imb14 imd14 ht014 s14 imd13 imb13 ht013 I13
    -- an end
    have im15 : Im H15 (.ref t0) (.tuple (ca.map .int)) := .tup ht015 (im_ints _)
    refine ⟨_, rfl, fun p dx hp hdx nd => ?_⟩
    have se := (Same.upd_new (o := .own p) hdx).trans (Same.upd_new (o := .ins T.C_End dx []) (by rw [upd_ne (Ne.symm nd)]; exact hp))
    refine ⟨p, dx, _, .tuple (ca.map .int), rfl, upd_same, (im15.same se).dp, mdg, (fun z => by rw [goodM] at z; cases z), fun _ ms e => ?_⟩
    have e := (List.map_inj_right (fun _ _ z => PyData.int.inj z)).mp (PyData.tuple.inj e)
    subst e
    refine ⟨im15.same se, fun ad H16 hae ME hfr f16 => ⟨rfl, ?_⟩⟩
    have fresh : ∀ y ∈ ad.every, H15 y = none := fun y hy => (hfr y hy).elim (fun e => by rw [e]; exact hp) fun z => (Frm.of_same (S := []) se).free z
    have s1516 : Same H15 H16 := ((Frm.of_same (S := []) se).own hp f16).same
    have I16 := I15.same s1516
    have E16 : IE T H16 d ad (waitS ca []) := by
      refine ⟨I16.D, I16.T, ME _, fun z hz => ?_, fun z => ?_, I16.np, fun x hx z => ?_⟩
      · rcases List.mem_cons.mp hz with rfl | hz
        · obtain ⟨ns, q, _⟩ := I16.D
          exact ⟨_, q⟩
        · rcases List.mem_append.mp hz with q | q
          · exact I16.al z q
          · exact (ME []).there z (ad.all_every z q)
      · obtain ⟨ns, q, _⟩ := I15.D
        rw [fresh d z] at q
        cases q
      · obtain ⟨ps, q⟩ := tab_at I15.T x z
        rw [fresh x hx] at q
        cases q
    subst hae
    -- twenty items
    refine ⟨fun σ' H' => ∃ (w10 : Option V) (x : V) (dd : PyData) (ws : List Int), σ' = [some (V.ref a), some (.ref d), some (.int (0 + (turn : Nat))), some (.ref t0), some vb, w5, some dv, some (.ref W), none, some (.ref ad.e), w10, some x] ∧ Im H' x dd ∧ between dd 0 999 = false ∧ (∀ ds, dd ≠ .list ds) ∧ ws.length = 20 ∧ IE T H' d ad (waitS ca ws), ?_, ?_⟩
    · refine ⟨20, rfl, by decide, by decide, for_range (lo := 0) (n := 20) (fun i σ H' => ∃ (w10 w11 : Option V) (ws : List Int), σ = [some (V.ref a), some (.ref d), some (.int (0 + (turn : Nat))), some (.ref t0), some vb, w5, some dv, some (.ref W), none, some (.ref ad.e), w10, w11] ∧ (i = 0 ∨ ∃ x dd, w11 = some x ∧ Im H' x dd ∧ between dd 0 999 = false ∧ (∀ ds, dd ≠ .list ds)) ∧ ws.length = i ∧ IE T H' d ad (waitS ca ws))
        ⟨_, _, [], rfl, .inl rfl, rfl, E16⟩ ?_ ?_⟩
      · rintro i σ H17 hi ⟨w10, w11, ws, rfl, _, hws, E17⟩
        -- what can't be sent
        refine ⟨fun σ' H' => ∃ (x : V) (dd : PyData), σ' = [some (V.ref a), some (.ref d), some (.int (0 + (turn : Nat))), some (.ref t0), some vb, w5, some dv, some (.ref W), none, some (.ref ad.e), some (.int (0 + (i : Nat))), some x] ∧ Im H' x dd ∧ between dd 0 999 = false ∧ (∀ ds, dd ≠ .list ds) ∧ IE T H' d ad (waitS ca ws), ?_, ?_⟩
        · refine ⟨_, rfl, _, rfl, _, _, rfl, rfl, ⟨by decide, by decide, by decide⟩, d, _, rfl, E17.D, by decide, by decide, fun r1 H18 r10 _ D18 f18 => ?_⟩
          have E18 := E17.dice D18 f18
          refine ⟨_, _, rfl, rfl, _, rfl, _, rfl, _, _, rfl, rfl, ⟨by decide, by decide, by decide⟩, d, _, rfl, E18.D, by decide, by decide, fun r2 H19 r20 _ D19 f19 => ?_⟩
          have E19 := E18.dice D19 f19
          refine ⟨_, _, rfl, rfl, (by show 6 ≤ sizeLine; decide), fun l hl => ?_⟩
          have s20 := Same.upd_new (o := .lst [.int 1000, .int (-1), .int (1000 + r1), .int (-1 - r2), .bl true, .non]) hl
          have q20 := upd_same (H := H19) (a := l) (o := .lst [.int 1000, .int (-1), .int (1000 + r1), .int (-1 - r2), .bl true, .non])
          have nl := E19.D.ne_new hl
          generalize upd H19 l (.lst [.int 1000, .int (-1), .int (1000 + r1), .int (-1 - r2), .bl true, .non]) = H20 at s20 q20 ⊢
          have E20 := E19.same s20
          refine ⟨_, rfl, d, 6, rfl, E20.D, by decide, by decide, fun j H21 j0 j6 D21 f21 => ?_⟩
          have q21 := f21 _ _ q20 (by simp [nl])
          obtain ⟨x, dd, hat, im, hb, nls⟩ : ∃ x dd, atI [V.int 1000, .int (-1), .int (1000 + r1), .int (-1 - r2), .bl true, .non] j = some x ∧ Im H21 x dd ∧ between dd 0 999 = false ∧ ∀ ds, dd ≠ .list ds := by
            have : j = 0 ∨ j = 1 ∨ j = 2 ∨ j = 3 ∨ j = 4 ∨ j = 5 := by omega
            rcases this with rfl | rfl | rfl | rfl | rfl | rfl
            · exact ⟨_, _, rfl, .int _, rfl, fun ds z => by cases z⟩
            · exact ⟨_, _, rfl, .int _, rfl, fun ds z => by cases z⟩
            · exact ⟨_, _, rfl, .int _, by simp [between]; omega, fun ds z => by cases z⟩
            · exact ⟨_, _, rfl, .int _, by simp [between]; omega, fun ds z => by cases z⟩
            · exact ⟨_, _, rfl, .bl _, rfl, fun ds z => by cases z⟩
            · exact ⟨_, _, rfl, .non, rfl, fun ds z => by cases z⟩
          exact ⟨l, _, j, _, rfl, rfl, SqL.of q21, hat, x, dd, rfl, im, hb, nls, E20.dice D21 f21⟩
        rintro σ' H18 ⟨x, dd, rfl, imx, hbx, nlx, E18⟩
        refine ⟨fun σ' H' => ∃ ws' : List Int, σ' = [some (V.ref a), some (.ref d), some (.int (0 + (turn : Nat))), some (.ref t0), some vb, w5, some dv, some (.ref W), none, some (.ref ad.e), some (.int (0 + (i : Nat))), some x] ∧ Im H' x dd ∧ ws'.length = i + 1 ∧ IE T H' d ad (waitS ca ws'), ?_, ?_⟩
        · refine ⟨E18.tb, fun g c H19 e19 tb19 f19 gn gH cH => ⟨g, _, rfl, ready_of (js := [11, 9]) (gH) (cH) (fun t z => by cases z) (lok_of (P := P) (w := w) (mg := mg) (base := base) (k := 10) (fr := ["_law_odd", "_law_end"]) (N := ["_law_odd", "_law_end"]) (ps := []) (vs := []) (tb := fun E => (tMeth T.C_End "send" _ [] E (tVar 1) (tCons (tVar 0) tNil))) (NdefX.nscope_by (by dsimp only; decide +kernel)) rfl (fun s doc pm ctv _ => ⟨[], .nil, .of_eq rfl⟩) (fun A outer s H E hr => (pe_meth (pv 1) T.cl_End T.m_End_send G_End_send (hr.mono (by decide)) T.b_End_send .nil pass_ncx (pa_cons (pv 0) pa_nil)))) ⟨rfl, NdefX.ndef_free (fr := []) (by show NdefX.ndefB (defScope s_law) _ [] = true; dsimp only; decide +kernel), NdefX.ndef_fr (sc := defScope s_law) (by dsimp only; decide +kernel), rfl⟩, fun cls d' H' => cls = .ref T.C_BadItem ∧ d' = none ∧ H' = H19, ?_, ?_⟩⟩
          · have E19 := E18.lam hP tb19 f19
            obtain ⟨dx', cv, mv, ov, hob, _⟩ := E19.M.ob
            exact ⟨gH, (fun t z => by cases z), _, rfl, ad.e, dx', _, rfl, hob, zip_no (N := enN) (by decide +kernel), _, rfl, _, ad, _, x, dd, rfl, E19.M, E19.sub, (imx.frm f19).dp, nlx, (by show ws.length ≤ 20; omega), (fun _ => ⟨rfl, rfl, rfl⟩), (fun z => by rw [hbx] at z; cases z), fun i' e1 z1 z2 => by
              subst e1
              simp only [between, Bool.and_eq_false_iff, decide_eq_false_iff_not] at hbx
              omega⟩
          · rintro cls d' H' ⟨rfl, rfl, rfl⟩
            refine ⟨3, 0, word_plain T.wk_BadItem (by decide) (by decide) (by decide) (by decide), fun u H20 s20 hu => ?_⟩
            rw [word3] at hu
            have E20 := (E18.lam hP tb19 f19).same s20
            have imx20 := (imx.frm f19).same s20
            refine ⟨(by show 2 ≤ sizeLine; decide), fun t ht => ne_word ht hu (by decide +kernel) fun H21 s21 => ⟨false, rfl, iteF ?_⟩⟩
            have E21 := E20.same s21
            have imx21 := imx20.same s21
            obtain ⟨dx', cv, mv, ov, hob, _⟩ := E21.M.ob
            refine ⟨_, rfl, ad.e, dx', _, rfl, hob, zip_no (N := enN) (by decide +kernel), (by show 3 ≤ sizeLine; decide), fun l hl => ?_⟩
            have s22 := Same.upd_new (o := .lst [.int 0, .int 999, .int 5]) hl
            have q22 := upd_same (H := H21) (a := l) (o := .lst [.int 0, .int 999, .int 5])
            generalize upd H21 l (.lst [.int 0, .int 999, .int 5]) = H22 at s22 q22 ⊢
            have E22 := E21.same s22
            obtain ⟨it, hit, it0, it9⟩ : ∃ it : Int, atI [V.int 0, .int 999, .int 5] ((0 + (i : Int)) % 3) = some (.int it) ∧ 0 ≤ it ∧ it ≤ 999 := by
              have : (0 + (i : Int)) % 3 = 0 ∨ (0 + (i : Int)) % 3 = 1 ∨ (0 + (i : Int)) % 3 = 2 := by omega
              rcases this with q | q | q <;> rw [q]
              · exact ⟨0, rfl, by decide, by decide⟩
              · exact ⟨999, rfl, by decide, by decide⟩
              · exact ⟨5, rfl, by decide, by decide⟩
            have hbt : between (.int it) 0 999 = true := by simp [between, it0, it9]
            refine ⟨_, rfl, _, _, rfl, rfl, (by show (0 : Int) < 3; decide), l, _, _, _, rfl, rfl, SqL.of q22, hit, _, ad, _, _, _, rfl, E22.M, E22.sub, .int it, (fun ds z => by cases z), (by show ws.length ≤ 20; omega), (fun z => by rw [hbt] at z; cases z), (fun _ z => absurd z (by show ws.length ≠ 20; omega)), fun i' e1 z1 z2 z3 H23 M23 f23 => ?_⟩
            exact ⟨rfl, false, rfl, ws ++ [i'], rfl, (imx21.same s22).frm f23, by rw [List.length_append, hws]; rfl, E22.step M23 f23⟩
        rintro σ' H19 ⟨ws', rfl, imx19, hws', E19⟩
        exact ⟨_, _, ws', rfl, .inr ⟨x, dd, rfl, imx19, hbx, nlx⟩, hws', E19⟩
      · rintro σ H17 ⟨w10, w11, ws, rfl, hx, hws, E17⟩
        rcases hx with hx | ⟨x, dd, rfl, imx, hbx, nlx⟩
        · cases hx
        · exact ⟨_, x, dd, ws, rfl, imx, hbx, nlx, hws, E17⟩
    rintro σ' H17 ⟨w10, x, dd, ws, rfl, imx, hbx, nlx, hws, E17⟩
    -- one more
    refine ⟨fun σ' H' => σ' = [some (V.ref a), some (.ref d), some (.int (0 + (turn : Nat))), some (.ref t0), some vb, w5, some dv, some (.ref W), none, some (.ref ad.e), w10, some x] ∧ IE T H' d ad (waitS ca ws), ?_, ?_⟩
    · refine ⟨E17.tb, fun g c H19 e19 tb19 f19 gn gH cH => ⟨g, _, rfl, ready_of (js := [11, 9]) (gH) (cH) (fun t z => by cases z) (lok_of (P := P) (w := w) (mg := mg) (base := base) (k := 10) (fr := ["_law_odd", "_law_end"]) (N := ["_law_odd", "_law_end"]) (ps := []) (vs := []) (tb := fun E => (tMeth T.C_End "send" _ [] E (tVar 1) (tCons (tVar 0) tNil))) (NdefX.nscope_by (by dsimp only; decide +kernel)) rfl (fun s doc pm ctv _ => ⟨[], .nil, .of_eq rfl⟩) (fun A outer s H E hr => (pe_meth (pv 1) T.cl_End T.m_End_send G_End_send (hr.mono (by decide)) T.b_End_send .nil pass_ncx (pa_cons (pv 0) pa_nil)))) ⟨rfl, NdefX.ndef_free (fr := []) (by show NdefX.ndefB (defScope s_law) _ [] = true; dsimp only; decide +kernel), NdefX.ndef_fr (sc := defScope s_law) (by dsimp only; decide +kernel), rfl⟩, fun cls d' H' => cls = .ref T.C_BadItem ∧ d' = none ∧ H' = H19, ?_, ?_⟩⟩
      · have E19 := E17.lam hP tb19 f19
        obtain ⟨dx', cv, mv, ov, hob, _⟩ := E19.M.ob
        exact ⟨gH, (fun t z => by cases z), _, rfl, ad.e, dx', _, rfl, hob, zip_no (N := enN) (by decide +kernel), _, rfl, _, ad, _, x, dd, rfl, E19.M, E19.sub, (imx.frm f19).dp, nlx, (by show ws.length ≤ 20; omega), (fun _ => ⟨rfl, rfl, rfl⟩), (fun z => by rw [hbx] at z; cases z), fun i' e1 z1 z2 => by
          subst e1
          simp only [between, Bool.and_eq_false_iff, decide_eq_false_iff_not] at hbx
          omega⟩
      · rintro cls d' H' ⟨rfl, rfl, rfl⟩
        refine ⟨3, 0, word_plain T.wk_BadItem (by decide) (by decide) (by decide) (by decide), fun u H20 s20 hu => ?_⟩
        rw [word3] at hu
        have E20 := (E17.lam hP tb19 f19).same s20
        refine ⟨(by show 2 ≤ sizeLine; decide), fun t ht => ne_word ht hu (by decide +kernel) fun H21 s21 => ⟨false, rfl, iteF ?_⟩⟩
        have E21 := E20.same s21
        refine ⟨E21.tb, fun tz g2 c2 H22 e22 tb22 f22 gn2 tzH gH2 cH2 => ⟨g2, _, rfl, ready_of (js := [9]) (gH2) (cH2) (fun t z => by cases z; exact tzH) (lok_of (P := P) (w := w) (mg := mg) (base := base) (k := 10) (fr := ["_law_end"]) (N := ["_law_a", "_law_end"]) (ps := ["_law_a"]) (vs := [.int 0]) (tb := fun E => (tMeth T.C_End "send" _ [] E (tVar 1) (tCons (tC (.int 1)) tNil))) (NdefX.nscope_by (by dsimp only; decide +kernel)) rfl (fun s doc pm ctv h => by obtain ⟨u, ⟨o, ho, _, n, hd⟩, ru⟩ := h _ rfl; exact ⟨[u], .cons ru .nil, BindsTo.of_defaults rfl ho hd rfl rfl⟩) (fun A outer s H E hr => (pe_meth (pv 1) T.cl_End T.m_End_send G_End_send (hr.mono (by decide)) T.b_End_send .nil pass_ncx (pa_cons pe_int pa_nil)))) ⟨rfl, NdefX.ndef_free (fr := []) (by show NdefX.ndefB (defScope s_law) _ [] = true; dsimp only; decide +kernel), NdefX.ndef_fr (sc := defScope s_law) (by dsimp only; decide +kernel), rfl⟩, fun cls d' H' => cls = .ref T.C_Full ∧ d' = none ∧ H' = H22, ?_, ?_⟩⟩
        · have E22 := E21.lam hP tb22 f22
          obtain ⟨dx', cv, mv, ov, hob, _⟩ := E22.M.ob
          exact ⟨gH2, (fun t z => by cases z; exact tzH), _, rfl, ad.e, dx', _, rfl, hob, zip_no (N := enN) (by decide +kernel), _, ad, _, _, _, rfl, E22.M, E22.sub, .int 1, (fun ds z => by cases z), (by show ws.length ≤ 20; omega), (fun z => by cases z), (fun _ _ => ⟨rfl, rfl, rfl⟩), fun i' _ _ _ z => absurd z (by show ¬ ws.length < 20; omega)⟩
        · rintro cls d' H' ⟨rfl, rfl, rfl⟩
          refine ⟨4, 0, word_plain T.wk_Full (by decide) (by decide) (by decide) (by decide), fun u2 H23 s23 hu2 => ?_⟩
          rw [word4] at hu2
          exact ⟨(by show 2 ≤ sizeLine; decide), fun t2 ht2 => ne_word ht2 hu2 (by decide +kernel) fun H24 s24 => ⟨false, rfl, rfl, ((E21.lam hP tb22 f22).same s23).same s24⟩⟩
    rintro σ' H18 ⟨rfl, E18⟩
    -- all stands as ahead
    have e20 : ∀ {s' : EndS}, s'.wait = ws → (V.int (s'.wait.length : Nat)) = V.int 20 := fun h => by rw [h, hws]; rfl
    obtain ⟨dx1, cv, mv, ov, hob, _⟩ := E18.M.ob
    refine ⟨_, rfl, ad.e, dx1, _, rfl, hob, zip_no (N := enN) (by decide +kernel), _, ad, _, rfl, E18.M, rfl, _, rfl, iteN (fun hne => absurd (e20 rfl) hne) (fun _ => ?_)⟩
    have I18 : I01 T H18 d := ⟨E18.D, E18.tb⟩
    refine ⟨_, rfl, d, rfl, E18.D, E18.tb, I18.al, I18.np, fun H19 D19 tb19 f19 => ⟨_, rfl, iteF ?_⟩⟩
    have E19 := E18.frm D19 tb19 f19
    refine ⟨_, rfl, _, rfl, d, ad, _, rfl, E19, wait_ok hca (by omega), rfl, rfl, fun s' H20 E20 hw => ⟨_, rfl, iteF ?_⟩⟩
    obtain ⟨dx2, cv2, mv2, ov2, hob2, _⟩ := E20.M.ob
    exact ⟨_, rfl, ad.e, dx2, _, rfl, hob2, zip_no (N := enN) (by decide +kernel), _, ad, _, rfl, E20.M, rfl, _, rfl, iteN (fun hne => absurd (e20 hw) hne) (fun _ => ⟨⟨_, _, _, _, _, _, _, _, _, rfl⟩, E20.D, E20.tb⟩)⟩

end
end TL

namespace TL
open PySem L2
/-! ### what the top has written; the last theorem -/
theorem all_mk {l : PySem.W.OpenLaw} {w : World} {K : PySem.W.Frag} {h : Heap} {mg : Str → Option Value} {fa : Addr} (X : K.In h) (G : h.Ns mainGlobals mg) (hfa : mg "law" = some (.ref fa)) (own : OwnTabs K mg ["law", "_law_are_counts", "_law_are_parts"] h) {C_LineError C_BadManners C_BadItem C_Full C_BadPart C_BadCount C_BadEnd C_BadStep C_BadLog C_BadText C_Marks C_End a__wall a_is_between a_are_manners a_need_manners a_chosen a_need_manner a_is_row a_need_log a_judged a__law_dice a__law_off a__law_alike a__law_word a__law_can a__law_is_can a__law_spoilt a__law_are_counts a__law_are_parts a_law a_Marks_init a_Marks_note a_Marks_bad a_End_init a_End_need_part a_End_refresh a_End_take a_End_say a_End_hear a_End_hear_slow a_End_hear_fast a_End_send a_End_got a_End_left a_End_stands lC lP lC__law_are_counts lP__law_are_counts lC__law_are_parts lP__law_are_parts : Addr}
    {od__wall an__wall od_is_between an_is_between od_are_manners an_are_manners od_need_manners an_need_manners od_chosen an_chosen od_need_manner an_need_manner od_is_row an_is_row od_need_log an_need_log od_judged an_judged od__law_dice an__law_dice od__law_off an__law_off od__law_alike an__law_alike od__law_word an__law_word od__law_can an__law_can od__law_is_can an__law_is_can od__law_spoilt an__law_spoilt od__law_are_counts an__law_are_counts od__law_are_parts an__law_are_parts od_law an_law od_Marks_init an_Marks_init od_Marks_note an_Marks_note od_Marks_bad an_Marks_bad od_End_init an_End_init od_End_need_part an_End_need_part od_End_refresh an_End_refresh od_End_take an_End_take od_End_say an_End_say od_End_hear an_End_hear od_End_hear_slow an_End_hear_slow od_End_hear_fast an_End_hear_fast od_End_send an_End_send od_End_got an_End_got od_End_left an_End_left od_End_stands an_End_stands : Option Addr} {sl__wall sl_is_between sl_are_manners sl_need_manners sl_chosen sl_need_manner sl_is_row sl_need_log sl_judged sl__law_dice sl__law_off sl__law_alike sl__law_word sl__law_can sl__law_is_can sl__law_spoilt sl__law_are_counts sl__law_are_parts sl_law sl_Marks_init sl_Marks_note sl_Marks_bad sl_End_init sl_End_need_part sl_End_refresh sl_End_take sl_End_say sl_End_hear sl_End_hear_slow sl_End_hear_fast sl_End_send sl_End_got sl_End_left sl_End_stands : Array (Option Value)} {oc__wall kV__wall dc__wall pm__wall cd__wall ct__wall oc_is_between kV_is_between dc_is_between pm_is_between cd_is_between ct_is_between oc_are_manners kV_are_manners dc_are_manners pm_are_manners cd_are_manners ct_are_manners oc_need_manners kV_need_manners dc_need_manners pm_need_manners cd_need_manners ct_need_manners oc_chosen kV_chosen dc_chosen pm_chosen cd_chosen ct_chosen oc_need_manner kV_need_manner dc_need_manner pm_need_manner cd_need_manner ct_need_manner oc_is_row kV_is_row dc_is_row pm_is_row cd_is_row ct_is_row oc_need_log kV_need_log dc_need_log pm_need_log cd_need_log ct_need_log oc_judged kV_judged dc_judged pm_judged cd_judged ct_judged oc__law_dice kV__law_dice dc__law_dice pm__law_dice cd__law_dice ct__law_dice oc__law_off kV__law_off dc__law_off pm__law_off cd__law_off ct__law_off oc__law_alike kV__law_alike dc__law_alike pm__law_alike cd__law_alike ct__law_alike oc__law_word kV__law_word dc__law_word pm__law_word cd__law_word ct__law_word oc__law_can kV__law_can dc__law_can pm__law_can cd__law_can ct__law_can oc__law_is_can kV__law_is_can dc__law_is_can pm__law_is_can cd__law_is_can ct__law_is_can oc__law_spoilt kV__law_spoilt dc__law_spoilt pm__law_spoilt cd__law_spoilt ct__law_spoilt oc__law_are_counts kV__law_are_counts dc__law_are_counts pm__law_are_counts ct__law_are_counts oc__law_are_parts kV__law_are_parts dc__law_are_parts pm__law_are_parts ct__law_are_parts oc_law kV_law dc_law pm_law ct_law oc_Marks_init kV_Marks_init dc_Marks_init pm_Marks_init cd_Marks_init ct_Marks_init oc_Marks_note kV_Marks_note dc_Marks_note pm_Marks_note cd_Marks_note ct_Marks_note oc_Marks_bad kV_Marks_bad dc_Marks_bad pm_Marks_bad cd_Marks_bad ct_Marks_bad oc_End_init kV_End_init dc_End_init pm_End_init cd_End_init ct_End_init oc_End_need_part kV_End_need_part dc_End_need_part pm_End_need_part cd_End_need_part ct_End_need_part oc_End_refresh kV_End_refresh dc_End_refresh pm_End_refresh cd_End_refresh ct_End_refresh oc_End_take kV_End_take dc_End_take pm_End_take cd_End_take ct_End_take oc_End_say kV_End_say dc_End_say pm_End_say cd_End_say ct_End_say oc_End_hear kV_End_hear dc_End_hear pm_End_hear cd_End_hear ct_End_hear oc_End_hear_slow kV_End_hear_slow dc_End_hear_slow pm_End_hear_slow cd_End_hear_slow ct_End_hear_slow oc_End_hear_fast kV_End_hear_fast dc_End_hear_fast pm_End_hear_fast cd_End_hear_fast ct_End_hear_fast oc_End_send kV_End_send dc_End_send pm_End_send cd_End_send ct_End_send oc_End_got kV_End_got dc_End_got pm_End_got cd_End_got ct_End_got oc_End_left kV_End_left dc_End_left pm_End_left cd_End_left ct_End_left oc_End_stands kV_End_stands dc_End_stands pm_End_stands cd_End_stands ct_End_stands : Value} {tk_MOST tk_FIRST tk_LONGEST tk_STAYS tk_LOST tk_LAST tk_MOST_FRAME tk_SLOW tk_FAST tk_MOST_ITEMS tk_MOST_ITEM tk_MOST_ROWS : Tok} {te : Value} {td : Option Addr} {tv : Array Value} {tsl : Array (Option Value)} {te__law_are_counts : Value} {td__law_are_counts : Option Addr} {tv__law_are_counts : Array Value} {tsl__law_are_counts : Array (Option Value)} {te__law_are_parts : Value} {td__law_are_parts : Option Addr} {tv__law_are_parts : Array Value} {tsl__law_are_parts : Array (Option Value)}
    (hC_LineError : PySem.W.nsIn K mainGlobals "LineError" = some (some (.ref C_LineError)))
    (hC_BadManners : PySem.W.nsIn K mainGlobals "BadManners" = some (some (.ref C_BadManners)))
    (hC_BadItem : PySem.W.nsIn K mainGlobals "BadItem" = some (some (.ref C_BadItem)))
    (hC_Full : PySem.W.nsIn K mainGlobals "Full" = some (some (.ref C_Full)))
    (hC_BadPart : PySem.W.nsIn K mainGlobals "BadPart" = some (some (.ref C_BadPart)))
    (hC_BadCount : PySem.W.nsIn K mainGlobals "BadCount" = some (some (.ref C_BadCount)))
    (hC_BadEnd : PySem.W.nsIn K mainGlobals "BadEnd" = some (some (.ref C_BadEnd)))
    (hC_BadStep : PySem.W.nsIn K mainGlobals "BadStep" = some (some (.ref C_BadStep)))
    (hC_BadLog : PySem.W.nsIn K mainGlobals "BadLog" = some (some (.ref C_BadLog)))
    (hC_BadText : PySem.W.nsIn K mainGlobals "BadText" = some (some (.ref C_BadText)))
    (hC_Marks : PySem.W.nsIn K mainGlobals "Marks" = some (some (.ref C_Marks)))
    (hC_End : PySem.W.nsIn K mainGlobals "End" = some (some (.ref C_End)))
    (hg__wall : PySem.W.nsIn K mainGlobals "_wall" = some (some (.ref a__wall)))
    (hl__wall : K.lookup a__wall = some ⟨oc__wall, od__wall, .func (PySem.W.fnOf "_wall" "_wall" (defArgs s__wall) (defBody s__wall) (defScope s__wall) .none kV__wall dc__wall pm__wall an__wall cd__wall ct__wall), sl__wall⟩)
    (hc__wall : PySem.W.codeIn K cd__wall "_wall" = true)
    (hk__wall : PySem.W.keepIn K (.ref a__wall) = true)
    (hg_is_between : PySem.W.nsIn K mainGlobals "is_between" = some (some (.ref a_is_between)))
    (hl_is_between : K.lookup a_is_between = some ⟨oc_is_between, od_is_between, .func (PySem.W.fnOf "is_between" "is_between" (defArgs s_is_between) (defBody s_is_between) (defScope s_is_between) .none kV_is_between dc_is_between pm_is_between an_is_between cd_is_between ct_is_between), sl_is_between⟩)
    (hc_is_between : PySem.W.codeIn K cd_is_between "is_between" = true)
    (hk_is_between : PySem.W.keepIn K (.ref a_is_between) = true)
    (hg_are_manners : PySem.W.nsIn K mainGlobals "are_manners" = some (some (.ref a_are_manners)))
    (hl_are_manners : K.lookup a_are_manners = some ⟨oc_are_manners, od_are_manners, .func (PySem.W.fnOf "are_manners" "are_manners" (defArgs s_are_manners) (defBody s_are_manners) (defScope s_are_manners) .none kV_are_manners dc_are_manners pm_are_manners an_are_manners cd_are_manners ct_are_manners), sl_are_manners⟩)
    (hc_are_manners : PySem.W.codeIn K cd_are_manners "are_manners" = true)
    (hk_are_manners : PySem.W.keepIn K (.ref a_are_manners) = true)
    (hg_need_manners : PySem.W.nsIn K mainGlobals "need_manners" = some (some (.ref a_need_manners)))
    (hl_need_manners : K.lookup a_need_manners = some ⟨oc_need_manners, od_need_manners, .func (PySem.W.fnOf "need_manners" "need_manners" (defArgs s_need_manners) (defBody s_need_manners) (defScope s_need_manners) .none kV_need_manners dc_need_manners pm_need_manners an_need_manners cd_need_manners ct_need_manners), sl_need_manners⟩)
    (hc_need_manners : PySem.W.codeIn K cd_need_manners "need_manners" = true)
    (hk_need_manners : PySem.W.keepIn K (.ref a_need_manners) = true)
    (hg_chosen : PySem.W.nsIn K mainGlobals "chosen" = some (some (.ref a_chosen)))
    (hl_chosen : K.lookup a_chosen = some ⟨oc_chosen, od_chosen, .func (PySem.W.fnOf "chosen" "chosen" (defArgs s_chosen) (defBody s_chosen) (defScope s_chosen) .none kV_chosen dc_chosen pm_chosen an_chosen cd_chosen ct_chosen), sl_chosen⟩)
    (hc_chosen : PySem.W.codeIn K cd_chosen "chosen" = true)
    (hk_chosen : PySem.W.keepIn K (.ref a_chosen) = true)
    (hg_need_manner : PySem.W.nsIn K mainGlobals "need_manner" = some (some (.ref a_need_manner)))
    (hl_need_manner : K.lookup a_need_manner = some ⟨oc_need_manner, od_need_manner, .func (PySem.W.fnOf "need_manner" "need_manner" (defArgs s_need_manner) (defBody s_need_manner) (defScope s_need_manner) .none kV_need_manner dc_need_manner pm_need_manner an_need_manner cd_need_manner ct_need_manner), sl_need_manner⟩)
    (hc_need_manner : PySem.W.codeIn K cd_need_manner "need_manner" = true)
    (hk_need_manner : PySem.W.keepIn K (.ref a_need_manner) = true)
    (hg_is_row : PySem.W.nsIn K mainGlobals "is_row" = some (some (.ref a_is_row)))
    (hl_is_row : K.lookup a_is_row = some ⟨oc_is_row, od_is_row, .func (PySem.W.fnOf "is_row" "is_row" (defArgs s_is_row) (defBody s_is_row) (defScope s_is_row) .none kV_is_row dc_is_row pm_is_row an_is_row cd_is_row ct_is_row), sl_is_row⟩)
    (hc_is_row : PySem.W.codeIn K cd_is_row "is_row" = true)
    (hk_is_row : PySem.W.keepIn K (.ref a_is_row) = true)
    (hg_need_log : PySem.W.nsIn K mainGlobals "need_log" = some (some (.ref a_need_log)))
    (hl_need_log : K.lookup a_need_log = some ⟨oc_need_log, od_need_log, .func (PySem.W.fnOf "need_log" "need_log" (defArgs s_need_log) (defBody s_need_log) (defScope s_need_log) .none kV_need_log dc_need_log pm_need_log an_need_log cd_need_log ct_need_log), sl_need_log⟩)
    (hc_need_log : PySem.W.codeIn K cd_need_log "need_log" = true)
    (hk_need_log : PySem.W.keepIn K (.ref a_need_log) = true)
    (hg_judged : PySem.W.nsIn K mainGlobals "judged" = some (some (.ref a_judged)))
    (hl_judged : K.lookup a_judged = some ⟨oc_judged, od_judged, .func (PySem.W.fnOf "judged" "judged" (defArgs s_judged) (defBody s_judged) (defScope s_judged) .none kV_judged dc_judged pm_judged an_judged cd_judged ct_judged), sl_judged⟩)
    (hc_judged : PySem.W.codeIn K cd_judged "judged" = true)
    (hk_judged : PySem.W.keepIn K (.ref a_judged) = true)
    (hg__law_dice : PySem.W.nsIn K mainGlobals "_law_dice" = some (some (.ref a__law_dice)))
    (hl__law_dice : K.lookup a__law_dice = some ⟨oc__law_dice, od__law_dice, .func (PySem.W.fnOf "_law_dice" "_law_dice" (defArgs s__law_dice) (defBody s__law_dice) (defScope s__law_dice) .none kV__law_dice dc__law_dice pm__law_dice an__law_dice cd__law_dice ct__law_dice), sl__law_dice⟩)
    (hc__law_dice : PySem.W.codeIn K cd__law_dice "_law_dice" = true)
    (hk__law_dice : PySem.W.keepIn K (.ref a__law_dice) = true)
    (hg__law_off : PySem.W.nsIn K mainGlobals "_law_off" = some (some (.ref a__law_off)))
    (hl__law_off : K.lookup a__law_off = some ⟨oc__law_off, od__law_off, .func (PySem.W.fnOf "_law_off" "_law_off" (defArgs s__law_off) (defBody s__law_off) (defScope s__law_off) .none kV__law_off dc__law_off pm__law_off an__law_off cd__law_off ct__law_off), sl__law_off⟩)
    (hc__law_off : PySem.W.codeIn K cd__law_off "_law_off" = true)
    (hk__law_off : PySem.W.keepIn K (.ref a__law_off) = true)
    (hg__law_alike : PySem.W.nsIn K mainGlobals "_law_alike" = some (some (.ref a__law_alike)))
    (hl__law_alike : K.lookup a__law_alike = some ⟨oc__law_alike, od__law_alike, .func (PySem.W.fnOf "_law_alike" "_law_alike" (defArgs s__law_alike) (defBody s__law_alike) (defScope s__law_alike) .none kV__law_alike dc__law_alike pm__law_alike an__law_alike cd__law_alike ct__law_alike), sl__law_alike⟩)
    (hc__law_alike : PySem.W.codeIn K cd__law_alike "_law_alike" = true)
    (hk__law_alike : PySem.W.keepIn K (.ref a__law_alike) = true)
    (hg__law_word : PySem.W.nsIn K mainGlobals "_law_word" = some (some (.ref a__law_word)))
    (hl__law_word : K.lookup a__law_word = some ⟨oc__law_word, od__law_word, .func (PySem.W.fnOf "_law_word" "_law_word" (defArgs s__law_word) (defBody s__law_word) (defScope s__law_word) .none kV__law_word dc__law_word pm__law_word an__law_word cd__law_word ct__law_word), sl__law_word⟩)
    (hc__law_word : PySem.W.codeIn K cd__law_word "_law_word" = true)
    (hk__law_word : PySem.W.keepIn K (.ref a__law_word) = true)
    (hg__law_can : PySem.W.nsIn K mainGlobals "_law_can" = some (some (.ref a__law_can)))
    (hl__law_can : K.lookup a__law_can = some ⟨oc__law_can, od__law_can, .func (PySem.W.fnOf "_law_can" "_law_can" (defArgs s__law_can) (defBody s__law_can) (defScope s__law_can) .none kV__law_can dc__law_can pm__law_can an__law_can cd__law_can ct__law_can), sl__law_can⟩)
    (hc__law_can : PySem.W.codeIn K cd__law_can "_law_can" = true)
    (hk__law_can : PySem.W.keepIn K (.ref a__law_can) = true)
    (hg__law_is_can : PySem.W.nsIn K mainGlobals "_law_is_can" = some (some (.ref a__law_is_can)))
    (hl__law_is_can : K.lookup a__law_is_can = some ⟨oc__law_is_can, od__law_is_can, .func (PySem.W.fnOf "_law_is_can" "_law_is_can" (defArgs s__law_is_can) (defBody s__law_is_can) (defScope s__law_is_can) .none kV__law_is_can dc__law_is_can pm__law_is_can an__law_is_can cd__law_is_can ct__law_is_can), sl__law_is_can⟩)
    (hc__law_is_can : PySem.W.codeIn K cd__law_is_can "_law_is_can" = true)
    (hk__law_is_can : PySem.W.keepIn K (.ref a__law_is_can) = true)
    (hg__law_spoilt : PySem.W.nsIn K mainGlobals "_law_spoilt" = some (some (.ref a__law_spoilt)))
    (hl__law_spoilt : K.lookup a__law_spoilt = some ⟨oc__law_spoilt, od__law_spoilt, .func (PySem.W.fnOf "_law_spoilt" "_law_spoilt" (defArgs s__law_spoilt) (defBody s__law_spoilt) (defScope s__law_spoilt) .none kV__law_spoilt dc__law_spoilt pm__law_spoilt an__law_spoilt cd__law_spoilt ct__law_spoilt), sl__law_spoilt⟩)
    (hc__law_spoilt : PySem.W.codeIn K cd__law_spoilt "_law_spoilt" = true)
    (hk__law_spoilt : PySem.W.keepIn K (.ref a__law_spoilt) = true)
    (hg__law_are_counts : PySem.W.nsIn K mainGlobals "_law_are_counts" = some (some (.ref a__law_are_counts)))
    (hl__law_are_counts : K.lookup a__law_are_counts = some ⟨oc__law_are_counts, od__law_are_counts, .func (PySem.W.fnOf "_law_are_counts" "_law_are_counts" (defArgs s__law_are_counts) (defBody s__law_are_counts) (defScope s__law_are_counts) .none kV__law_are_counts dc__law_are_counts pm__law_are_counts an__law_are_counts (.ref lC__law_are_counts) ct__law_are_counts), sl__law_are_counts⟩)
    (hc__law_are_counts : PySem.W.codeIn K (.ref lC__law_are_counts) "_law_are_counts" = true)
    (hk__law_are_counts : PySem.W.keepIn K (.ref a__law_are_counts) = true)
    (hg__law_are_parts : PySem.W.nsIn K mainGlobals "_law_are_parts" = some (some (.ref a__law_are_parts)))
    (hl__law_are_parts : K.lookup a__law_are_parts = some ⟨oc__law_are_parts, od__law_are_parts, .func (PySem.W.fnOf "_law_are_parts" "_law_are_parts" (defArgs s__law_are_parts) (defBody s__law_are_parts) (defScope s__law_are_parts) .none kV__law_are_parts dc__law_are_parts pm__law_are_parts an__law_are_parts (.ref lC__law_are_parts) ct__law_are_parts), sl__law_are_parts⟩)
    (hc__law_are_parts : PySem.W.codeIn K (.ref lC__law_are_parts) "_law_are_parts" = true)
    (hk__law_are_parts : PySem.W.keepIn K (.ref a__law_are_parts) = true)
    (hg_law : PySem.W.nsIn K mainGlobals "law" = some (some (.ref a_law)))
    (hl_law : K.lookup a_law = some ⟨oc_law, od_law, .func (PySem.W.fnOf "law" "law" (defArgs s_law) (defBody s_law) (defScope s_law) .none kV_law dc_law pm_law an_law (.ref lC) ct_law), sl_law⟩)
    (hc_law : PySem.W.codeIn K (.ref lC) "law" = true)
    (hk_law : PySem.W.keepIn K (.ref a_law) = true)
    (hg_Marks_init : PySem.W.findIn K (.ref C_Marks) "__init__" = some (some (.ref a_Marks_init)))
    (hi_Marks_init : PySem.W.isFn K (.ref a_Marks_init) = true)
    (hl_Marks_init : K.lookup a_Marks_init = some ⟨oc_Marks_init, od_Marks_init, .func (PySem.W.fnOf "__init__" "Marks.__init__" (defArgs s_Marks_init) (defBody s_Marks_init) (defScope s_Marks_init) .none kV_Marks_init dc_Marks_init pm_Marks_init an_Marks_init cd_Marks_init ct_Marks_init), sl_Marks_init⟩)
    (hc_Marks_init : PySem.W.codeIn K cd_Marks_init "Marks.__init__" = true)
    (hk_Marks_init : PySem.W.keepIn K (.ref a_Marks_init) = true)
    (hg_Marks_note : PySem.W.findIn K (.ref C_Marks) "note" = some (some (.ref a_Marks_note)))
    (hi_Marks_note : PySem.W.isFn K (.ref a_Marks_note) = true)
    (hl_Marks_note : K.lookup a_Marks_note = some ⟨oc_Marks_note, od_Marks_note, .func (PySem.W.fnOf "note" "Marks.note" (defArgs s_Marks_note) (defBody s_Marks_note) (defScope s_Marks_note) .none kV_Marks_note dc_Marks_note pm_Marks_note an_Marks_note cd_Marks_note ct_Marks_note), sl_Marks_note⟩)
    (hc_Marks_note : PySem.W.codeIn K cd_Marks_note "Marks.note" = true)
    (hk_Marks_note : PySem.W.keepIn K (.ref a_Marks_note) = true)
    (hg_Marks_bad : PySem.W.findIn K (.ref C_Marks) "bad" = some (some (.ref a_Marks_bad)))
    (hi_Marks_bad : PySem.W.isFn K (.ref a_Marks_bad) = true)
    (hl_Marks_bad : K.lookup a_Marks_bad = some ⟨oc_Marks_bad, od_Marks_bad, .func (PySem.W.fnOf "bad" "Marks.bad" (defArgs s_Marks_bad) (defBody s_Marks_bad) (defScope s_Marks_bad) .none kV_Marks_bad dc_Marks_bad pm_Marks_bad an_Marks_bad cd_Marks_bad ct_Marks_bad), sl_Marks_bad⟩)
    (hc_Marks_bad : PySem.W.codeIn K cd_Marks_bad "Marks.bad" = true)
    (hk_Marks_bad : PySem.W.keepIn K (.ref a_Marks_bad) = true)
    (hg_End_init : PySem.W.findIn K (.ref C_End) "__init__" = some (some (.ref a_End_init)))
    (hi_End_init : PySem.W.isFn K (.ref a_End_init) = true)
    (hl_End_init : K.lookup a_End_init = some ⟨oc_End_init, od_End_init, .func (PySem.W.fnOf "__init__" "End.__init__" (defArgs s_End_init) (defBody s_End_init) (defScope s_End_init) .none kV_End_init dc_End_init pm_End_init an_End_init cd_End_init ct_End_init), sl_End_init⟩)
    (hc_End_init : PySem.W.codeIn K cd_End_init "End.__init__" = true)
    (hk_End_init : PySem.W.keepIn K (.ref a_End_init) = true)
    (hg_End_need_part : PySem.W.findIn K (.ref C_End) "need_part" = some (some (.ref a_End_need_part)))
    (hi_End_need_part : PySem.W.isFn K (.ref a_End_need_part) = true)
    (hl_End_need_part : K.lookup a_End_need_part = some ⟨oc_End_need_part, od_End_need_part, .func (PySem.W.fnOf "need_part" "End.need_part" (defArgs s_End_need_part) (defBody s_End_need_part) (defScope s_End_need_part) .none kV_End_need_part dc_End_need_part pm_End_need_part an_End_need_part cd_End_need_part ct_End_need_part), sl_End_need_part⟩)
    (hc_End_need_part : PySem.W.codeIn K cd_End_need_part "End.need_part" = true)
    (hk_End_need_part : PySem.W.keepIn K (.ref a_End_need_part) = true)
    (hg_End_refresh : PySem.W.findIn K (.ref C_End) "refresh" = some (some (.ref a_End_refresh)))
    (hi_End_refresh : PySem.W.isFn K (.ref a_End_refresh) = true)
    (hl_End_refresh : K.lookup a_End_refresh = some ⟨oc_End_refresh, od_End_refresh, .func (PySem.W.fnOf "refresh" "End.refresh" (defArgs s_End_refresh) (defBody s_End_refresh) (defScope s_End_refresh) .none kV_End_refresh dc_End_refresh pm_End_refresh an_End_refresh cd_End_refresh ct_End_refresh), sl_End_refresh⟩)
    (hc_End_refresh : PySem.W.codeIn K cd_End_refresh "End.refresh" = true)
    (hk_End_refresh : PySem.W.keepIn K (.ref a_End_refresh) = true)
    (hg_End_take : PySem.W.findIn K (.ref C_End) "take" = some (some (.ref a_End_take)))
    (hi_End_take : PySem.W.isFn K (.ref a_End_take) = true)
    (hl_End_take : K.lookup a_End_take = some ⟨oc_End_take, od_End_take, .func (PySem.W.fnOf "take" "End.take" (defArgs s_End_take) (defBody s_End_take) (defScope s_End_take) .none kV_End_take dc_End_take pm_End_take an_End_take cd_End_take ct_End_take), sl_End_take⟩)
    (hc_End_take : PySem.W.codeIn K cd_End_take "End.take" = true)
    (hk_End_take : PySem.W.keepIn K (.ref a_End_take) = true)
    (hg_End_say : PySem.W.findIn K (.ref C_End) "say" = some (some (.ref a_End_say)))
    (hi_End_say : PySem.W.isFn K (.ref a_End_say) = true)
    (hl_End_say : K.lookup a_End_say = some ⟨oc_End_say, od_End_say, .func (PySem.W.fnOf "say" "End.say" (defArgs s_End_say) (defBody s_End_say) (defScope s_End_say) .none kV_End_say dc_End_say pm_End_say an_End_say cd_End_say ct_End_say), sl_End_say⟩)
    (hc_End_say : PySem.W.codeIn K cd_End_say "End.say" = true)
    (hk_End_say : PySem.W.keepIn K (.ref a_End_say) = true)
    (hg_End_hear : PySem.W.findIn K (.ref C_End) "hear" = some (some (.ref a_End_hear)))
    (hi_End_hear : PySem.W.isFn K (.ref a_End_hear) = true)
    (hl_End_hear : K.lookup a_End_hear = some ⟨oc_End_hear, od_End_hear, .func (PySem.W.fnOf "hear" "End.hear" (defArgs s_End_hear) (defBody s_End_hear) (defScope s_End_hear) .none kV_End_hear dc_End_hear pm_End_hear an_End_hear cd_End_hear ct_End_hear), sl_End_hear⟩)
    (hc_End_hear : PySem.W.codeIn K cd_End_hear "End.hear" = true)
    (hk_End_hear : PySem.W.keepIn K (.ref a_End_hear) = true)
    (hg_End_hear_slow : PySem.W.findIn K (.ref C_End) "hear_slow" = some (some (.ref a_End_hear_slow)))
    (hi_End_hear_slow : PySem.W.isFn K (.ref a_End_hear_slow) = true)
    (hl_End_hear_slow : K.lookup a_End_hear_slow = some ⟨oc_End_hear_slow, od_End_hear_slow, .func (PySem.W.fnOf "hear_slow" "End.hear_slow" (defArgs s_End_hear_slow) (defBody s_End_hear_slow) (defScope s_End_hear_slow) .none kV_End_hear_slow dc_End_hear_slow pm_End_hear_slow an_End_hear_slow cd_End_hear_slow ct_End_hear_slow), sl_End_hear_slow⟩)
    (hc_End_hear_slow : PySem.W.codeIn K cd_End_hear_slow "End.hear_slow" = true)
    (hk_End_hear_slow : PySem.W.keepIn K (.ref a_End_hear_slow) = true)
    (hg_End_hear_fast : PySem.W.findIn K (.ref C_End) "hear_fast" = some (some (.ref a_End_hear_fast)))
    (hi_End_hear_fast : PySem.W.isFn K (.ref a_End_hear_fast) = true)
    (hl_End_hear_fast : K.lookup a_End_hear_fast = some ⟨oc_End_hear_fast, od_End_hear_fast, .func (PySem.W.fnOf "hear_fast" "End.hear_fast" (defArgs s_End_hear_fast) (defBody s_End_hear_fast) (defScope s_End_hear_fast) .none kV_End_hear_fast dc_End_hear_fast pm_End_hear_fast an_End_hear_fast cd_End_hear_fast ct_End_hear_fast), sl_End_hear_fast⟩)
    (hc_End_hear_fast : PySem.W.codeIn K cd_End_hear_fast "End.hear_fast" = true)
    (hk_End_hear_fast : PySem.W.keepIn K (.ref a_End_hear_fast) = true)
    (hg_End_send : PySem.W.findIn K (.ref C_End) "send" = some (some (.ref a_End_send)))
    (hi_End_send : PySem.W.isFn K (.ref a_End_send) = true)
    (hl_End_send : K.lookup a_End_send = some ⟨oc_End_send, od_End_send, .func (PySem.W.fnOf "send" "End.send" (defArgs s_End_send) (defBody s_End_send) (defScope s_End_send) .none kV_End_send dc_End_send pm_End_send an_End_send cd_End_send ct_End_send), sl_End_send⟩)
    (hc_End_send : PySem.W.codeIn K cd_End_send "End.send" = true)
    (hk_End_send : PySem.W.keepIn K (.ref a_End_send) = true)
    (hg_End_got : PySem.W.findIn K (.ref C_End) "got" = some (some (.ref a_End_got)))
    (hi_End_got : PySem.W.isFn K (.ref a_End_got) = true)
    (hl_End_got : K.lookup a_End_got = some ⟨oc_End_got, od_End_got, .func (PySem.W.fnOf "got" "End.got" (defArgs s_End_got) (defBody s_End_got) (defScope s_End_got) .none kV_End_got dc_End_got pm_End_got an_End_got cd_End_got ct_End_got), sl_End_got⟩)
    (hc_End_got : PySem.W.codeIn K cd_End_got "End.got" = true)
    (hk_End_got : PySem.W.keepIn K (.ref a_End_got) = true)
    (hg_End_left : PySem.W.findIn K (.ref C_End) "left" = some (some (.ref a_End_left)))
    (hi_End_left : PySem.W.isFn K (.ref a_End_left) = true)
    (hl_End_left : K.lookup a_End_left = some ⟨oc_End_left, od_End_left, .func (PySem.W.fnOf "left" "End.left" (defArgs s_End_left) (defBody s_End_left) (defScope s_End_left) .none kV_End_left dc_End_left pm_End_left an_End_left cd_End_left ct_End_left), sl_End_left⟩)
    (hc_End_left : PySem.W.codeIn K cd_End_left "End.left" = true)
    (hk_End_left : PySem.W.keepIn K (.ref a_End_left) = true)
    (hg_End_stands : PySem.W.findIn K (.ref C_End) "stands" = some (some (.ref a_End_stands)))
    (hi_End_stands : PySem.W.isFn K (.ref a_End_stands) = true)
    (hl_End_stands : K.lookup a_End_stands = some ⟨oc_End_stands, od_End_stands, .func (PySem.W.fnOf "stands" "End.stands" (defArgs s_End_stands) (defBody s_End_stands) (defScope s_End_stands) .none kV_End_stands dc_End_stands pm_End_stands an_End_stands cd_End_stands ct_End_stands), sl_End_stands⟩)
    (hc_End_stands : PySem.W.codeIn K cd_End_stands "End.stands" = true)
    (hk_End_stands : PySem.W.keepIn K (.ref a_End_stands) = true)
    (pg_Marks : PySem.W.plainGet K C_Marks Str.empty = true)
    (hd_Marks : PySem.W.hasDictIn K C_Marks = true)
    (po_Marks : PySem.W.plainOver K C_Marks = true)
    (mk_Marks : PySem.W.makesIn K C_Marks = true)
    (kc_Marks : PySem.W.keepIn K (.ref C_Marks) = true)
    (sa_Marks : PySem.W.findIn K (.ref C_Marks) "__setattr__" = some (some (.builtin "object.__setattr__")))
    (no_Marks_waits : PySem.W.findIn K (.ref C_Marks) "waits" = some none)
    (no_Marks_until : PySem.W.findIn K (.ref C_Marks) "until" = some none)
    (no_Marks_runs : PySem.W.findIn K (.ref C_Marks) "runs" = some none)
    (no_Marks_tries : PySem.W.findIn K (.ref C_Marks) "tries" = some none)
    (pg_End : PySem.W.plainGet K C_End Str.empty = true)
    (hd_End : PySem.W.hasDictIn K C_End = true)
    (po_End : PySem.W.plainOver K C_End = true)
    (mk_End : PySem.W.makesIn K C_End = true)
    (kc_End : PySem.W.keepIn K (.ref C_End) = true)
    (sa_End : PySem.W.findIn K (.ref C_End) "__setattr__" = some (some (.builtin "object.__setattr__")))
    (no_End_can : PySem.W.findIn K (.ref C_End) "can" = some none)
    (no_End_marks : PySem.W.findIn K (.ref C_End) "marks" = some none)
    (no_End_over : PySem.W.findIn K (.ref C_End) "over" = some none)
    (no_End_version : PySem.W.findIn K (.ref C_End) "version" = some none)
    (no_End_mind : PySem.W.findIn K (.ref C_End) "mind" = some none)
    (no_End_other : PySem.W.findIn K (.ref C_End) "other" = some none)
    (no_End_seen : PySem.W.findIn K (.ref C_End) "seen" = some none)
    (no_End_known : PySem.W.findIn K (.ref C_End) "known" = some none)
    (no_End_ready : PySem.W.findIn K (.ref C_End) "ready" = some none)
    (no_End_now : PySem.W.findIn K (.ref C_End) "now" = some none)
    (no_End_joined : PySem.W.findIn K (.ref C_End) "joined" = some none)
    (no_End_waiting : PySem.W.findIn K (.ref C_End) "waiting" = some none)
    (no_End_count : PySem.W.findIn K (.ref C_End) "count" = some none)
    (no_End_gathered : PySem.W.findIn K (.ref C_End) "gathered" = some none)
    (no_End_part : PySem.W.findIn K (.ref C_End) "part" = some none)
    (x_LineError : PySem.W.excIn K C_LineError [.type "ValueError", .type "Exception", .type "BaseException", .type "object"] "ValueError.__new__" = true)
    (k_LineError : PySem.W.keepIn K (.ref C_LineError) = true)
    (s_LineError : PySem.W.subIn K (.ref C_LineError) (.type "BaseException") = some true)
    (t_LineError : PySem.W.typeIn K (.ref C_LineError) = some (.type "type"))
    (x_BadManners : PySem.W.excIn K C_BadManners [.type "ValueError", .type "Exception", .type "BaseException", .type "object"] "ValueError.__new__" = true)
    (k_BadManners : PySem.W.keepIn K (.ref C_BadManners) = true)
    (s_BadManners : PySem.W.subIn K (.ref C_BadManners) (.type "BaseException") = some true)
    (t_BadManners : PySem.W.typeIn K (.ref C_BadManners) = some (.type "type"))
    (x_BadItem : PySem.W.excIn K C_BadItem [.type "ValueError", .type "Exception", .type "BaseException", .type "object"] "ValueError.__new__" = true)
    (k_BadItem : PySem.W.keepIn K (.ref C_BadItem) = true)
    (s_BadItem : PySem.W.subIn K (.ref C_BadItem) (.type "BaseException") = some true)
    (t_BadItem : PySem.W.typeIn K (.ref C_BadItem) = some (.type "type"))
    (x_Full : PySem.W.excIn K C_Full [.type "ValueError", .type "Exception", .type "BaseException", .type "object"] "ValueError.__new__" = true)
    (k_Full : PySem.W.keepIn K (.ref C_Full) = true)
    (s_Full : PySem.W.subIn K (.ref C_Full) (.type "BaseException") = some true)
    (t_Full : PySem.W.typeIn K (.ref C_Full) = some (.type "type"))
    (x_BadPart : PySem.W.excIn K C_BadPart [.type "ValueError", .type "Exception", .type "BaseException", .type "object"] "ValueError.__new__" = true)
    (k_BadPart : PySem.W.keepIn K (.ref C_BadPart) = true)
    (s_BadPart : PySem.W.subIn K (.ref C_BadPart) (.type "BaseException") = some true)
    (t_BadPart : PySem.W.typeIn K (.ref C_BadPart) = some (.type "type"))
    (x_BadCount : PySem.W.excIn K C_BadCount [.type "ValueError", .type "Exception", .type "BaseException", .type "object"] "ValueError.__new__" = true)
    (k_BadCount : PySem.W.keepIn K (.ref C_BadCount) = true)
    (s_BadCount : PySem.W.subIn K (.ref C_BadCount) (.type "BaseException") = some true)
    (t_BadCount : PySem.W.typeIn K (.ref C_BadCount) = some (.type "type"))
    (x_BadEnd : PySem.W.excIn K C_BadEnd [.type "ValueError", .type "Exception", .type "BaseException", .type "object"] "ValueError.__new__" = true)
    (k_BadEnd : PySem.W.keepIn K (.ref C_BadEnd) = true)
    (s_BadEnd : PySem.W.subIn K (.ref C_BadEnd) (.type "BaseException") = some true)
    (t_BadEnd : PySem.W.typeIn K (.ref C_BadEnd) = some (.type "type"))
    (k_BadStep : PySem.W.keepIn K (.ref C_BadStep) = true)
    (s_BadStep : PySem.W.subIn K (.ref C_BadStep) (.type "BaseException") = some true)
    (t_BadStep : PySem.W.typeIn K (.ref C_BadStep) = some (.type "type"))
    (k_BadLog : PySem.W.keepIn K (.ref C_BadLog) = true)
    (s_BadLog : PySem.W.subIn K (.ref C_BadLog) (.type "BaseException") = some true)
    (t_BadLog : PySem.W.typeIn K (.ref C_BadLog) = some (.type "type"))
    (k_BadText : PySem.W.keepIn K (.ref C_BadText) = true)
    (s_BadText : PySem.W.subIn K (.ref C_BadText) (.type "BaseException") = some true)
    (t_BadText : PySem.W.typeIn K (.ref C_BadText) = some (.type "type"))
    (gs_LE : PySem.W.specialIn K (.ref C_LineError) "__getattribute__" = some (some (.builtin "type.__getattribute__")))
    (rd_LE : PySem.W.readsIn K C_LineError (.type "type") = true)
    (fi_LE : PySem.W.findCls K (.ref C_LineError) (.type "type") "__init__" = some (.val (.builtin "ValueError.__init__")))
    (gx_n : PySem.W.specialIn K (.builtin "object.__class__") "__get__" = some (some (.builtin "getset_descriptor.__get__")))
    (gx_t : PySem.W.takesIn K (.builtin "object.__class__") = some true)
    (ga_BadManners : PySem.W.findIn K (.ref C_BadManners) "__getattribute__" = some (some (.builtin "BaseException.__getattribute__")))
    (gg_BadManners : PySem.W.findIn K (.ref C_BadManners) "__getattr__" = some none)
    (hx_BadManners : PySem.W.hasDictIn K C_BadManners = true)
    (ga_BadCount : PySem.W.findIn K (.ref C_BadCount) "__getattribute__" = some (some (.builtin "BaseException.__getattribute__")))
    (gg_BadCount : PySem.W.findIn K (.ref C_BadCount) "__getattr__" = some none)
    (hx_BadCount : PySem.W.hasDictIn K C_BadCount = true)
    (ga_BadItem : PySem.W.findIn K (.ref C_BadItem) "__getattribute__" = some (some (.builtin "BaseException.__getattribute__")))
    (gg_BadItem : PySem.W.findIn K (.ref C_BadItem) "__getattr__" = some none)
    (hx_BadItem : PySem.W.hasDictIn K C_BadItem = true)
    (ga_Full : PySem.W.findIn K (.ref C_Full) "__getattribute__" = some (some (.builtin "BaseException.__getattribute__")))
    (gg_Full : PySem.W.findIn K (.ref C_Full) "__getattr__" = some none)
    (hx_Full : PySem.W.hasDictIn K C_Full = true)
    (ga_BadPart : PySem.W.findIn K (.ref C_BadPart) "__getattribute__" = some (some (.builtin "BaseException.__getattribute__")))
    (gg_BadPart : PySem.W.findIn K (.ref C_BadPart) "__getattr__" = some none)
    (hx_BadPart : PySem.W.hasDictIn K C_BadPart = true)
    (gc_BadManners : PySem.W.findIn K (.ref C_BadManners) "__class__" = some (some (.builtin "object.__class__")))
    (gm_BadManners : PySem.W.mroIn K C_BadManners (.type "object") = some true)
    (ik_BadManners_0 : PySem.W.kitOne K (.ref C_BadManners) (.ref C_BadManners) = some true)
    (ik_BadManners_1 : PySem.W.kitOne K (.ref C_BadManners) (.ref C_BadCount) = some false)
    (ik_BadManners_2 : PySem.W.kitOne K (.ref C_BadManners) (.ref C_BadPart) = some false)
    (ik_BadManners_3 : PySem.W.kitOne K (.ref C_BadManners) (.ref C_BadItem) = some false)
    (ik_BadManners_4 : PySem.W.kitOne K (.ref C_BadManners) (.ref C_Full) = some false)
    (ik_BadManners_5 : PySem.W.kitOne K (.ref C_BadManners) (.ref C_BadLog) = some false)
    (ik_BadManners_6 : PySem.W.kitOne K (.ref C_BadManners) (.ref C_BadText) = some false)
    (ik_BadManners_7 : PySem.W.kitOne K (.ref C_BadManners) (.ref C_BadEnd) = some false)
    (ik_BadManners_8 : PySem.W.kitOne K (.ref C_BadManners) (.ref C_BadStep) = some false)
    (iv_BadManners : PySem.W.kitOne K (.ref C_BadManners) (.type "ValueError") = some true)
    (xm_BadManners : PySem.W.exmOne K (.ref C_BadManners) (.ref C_LineError) = some true)
    (gc_BadCount : PySem.W.findIn K (.ref C_BadCount) "__class__" = some (some (.builtin "object.__class__")))
    (gm_BadCount : PySem.W.mroIn K C_BadCount (.type "object") = some true)
    (ik_BadCount_0 : PySem.W.kitOne K (.ref C_BadCount) (.ref C_BadManners) = some false)
    (ik_BadCount_1 : PySem.W.kitOne K (.ref C_BadCount) (.ref C_BadCount) = some true)
    (ik_BadCount_2 : PySem.W.kitOne K (.ref C_BadCount) (.ref C_BadPart) = some false)
    (ik_BadCount_3 : PySem.W.kitOne K (.ref C_BadCount) (.ref C_BadItem) = some false)
    (ik_BadCount_4 : PySem.W.kitOne K (.ref C_BadCount) (.ref C_Full) = some false)
    (ik_BadCount_5 : PySem.W.kitOne K (.ref C_BadCount) (.ref C_BadLog) = some false)
    (ik_BadCount_6 : PySem.W.kitOne K (.ref C_BadCount) (.ref C_BadText) = some false)
    (ik_BadCount_7 : PySem.W.kitOne K (.ref C_BadCount) (.ref C_BadEnd) = some false)
    (ik_BadCount_8 : PySem.W.kitOne K (.ref C_BadCount) (.ref C_BadStep) = some false)
    (iv_BadCount : PySem.W.kitOne K (.ref C_BadCount) (.type "ValueError") = some true)
    (xm_BadCount : PySem.W.exmOne K (.ref C_BadCount) (.ref C_LineError) = some true)
    (gc_BadItem : PySem.W.findIn K (.ref C_BadItem) "__class__" = some (some (.builtin "object.__class__")))
    (gm_BadItem : PySem.W.mroIn K C_BadItem (.type "object") = some true)
    (ik_BadItem_0 : PySem.W.kitOne K (.ref C_BadItem) (.ref C_BadManners) = some false)
    (ik_BadItem_1 : PySem.W.kitOne K (.ref C_BadItem) (.ref C_BadCount) = some false)
    (ik_BadItem_2 : PySem.W.kitOne K (.ref C_BadItem) (.ref C_BadPart) = some false)
    (ik_BadItem_3 : PySem.W.kitOne K (.ref C_BadItem) (.ref C_BadItem) = some true)
    (ik_BadItem_4 : PySem.W.kitOne K (.ref C_BadItem) (.ref C_Full) = some false)
    (ik_BadItem_5 : PySem.W.kitOne K (.ref C_BadItem) (.ref C_BadLog) = some false)
    (ik_BadItem_6 : PySem.W.kitOne K (.ref C_BadItem) (.ref C_BadText) = some false)
    (ik_BadItem_7 : PySem.W.kitOne K (.ref C_BadItem) (.ref C_BadEnd) = some false)
    (ik_BadItem_8 : PySem.W.kitOne K (.ref C_BadItem) (.ref C_BadStep) = some false)
    (iv_BadItem : PySem.W.kitOne K (.ref C_BadItem) (.type "ValueError") = some true)
    (xm_BadItem : PySem.W.exmOne K (.ref C_BadItem) (.ref C_LineError) = some true)
    (gc_Full : PySem.W.findIn K (.ref C_Full) "__class__" = some (some (.builtin "object.__class__")))
    (gm_Full : PySem.W.mroIn K C_Full (.type "object") = some true)
    (ik_Full_0 : PySem.W.kitOne K (.ref C_Full) (.ref C_BadManners) = some false)
    (ik_Full_1 : PySem.W.kitOne K (.ref C_Full) (.ref C_BadCount) = some false)
    (ik_Full_2 : PySem.W.kitOne K (.ref C_Full) (.ref C_BadPart) = some false)
    (ik_Full_3 : PySem.W.kitOne K (.ref C_Full) (.ref C_BadItem) = some false)
    (ik_Full_4 : PySem.W.kitOne K (.ref C_Full) (.ref C_Full) = some true)
    (ik_Full_5 : PySem.W.kitOne K (.ref C_Full) (.ref C_BadLog) = some false)
    (ik_Full_6 : PySem.W.kitOne K (.ref C_Full) (.ref C_BadText) = some false)
    (ik_Full_7 : PySem.W.kitOne K (.ref C_Full) (.ref C_BadEnd) = some false)
    (ik_Full_8 : PySem.W.kitOne K (.ref C_Full) (.ref C_BadStep) = some false)
    (iv_Full : PySem.W.kitOne K (.ref C_Full) (.type "ValueError") = some true)
    (xm_Full : PySem.W.exmOne K (.ref C_Full) (.ref C_LineError) = some true)
    (gc_BadPart : PySem.W.findIn K (.ref C_BadPart) "__class__" = some (some (.builtin "object.__class__")))
    (gm_BadPart : PySem.W.mroIn K C_BadPart (.type "object") = some true)
    (ik_BadPart_0 : PySem.W.kitOne K (.ref C_BadPart) (.ref C_BadManners) = some false)
    (ik_BadPart_1 : PySem.W.kitOne K (.ref C_BadPart) (.ref C_BadCount) = some false)
    (ik_BadPart_2 : PySem.W.kitOne K (.ref C_BadPart) (.ref C_BadPart) = some true)
    (ik_BadPart_3 : PySem.W.kitOne K (.ref C_BadPart) (.ref C_BadItem) = some false)
    (ik_BadPart_4 : PySem.W.kitOne K (.ref C_BadPart) (.ref C_Full) = some false)
    (ik_BadPart_5 : PySem.W.kitOne K (.ref C_BadPart) (.ref C_BadLog) = some false)
    (ik_BadPart_6 : PySem.W.kitOne K (.ref C_BadPart) (.ref C_BadText) = some false)
    (ik_BadPart_7 : PySem.W.kitOne K (.ref C_BadPart) (.ref C_BadEnd) = some false)
    (ik_BadPart_8 : PySem.W.kitOne K (.ref C_BadPart) (.ref C_BadStep) = some false)
    (iv_BadPart : PySem.W.kitOne K (.ref C_BadPart) (.type "ValueError") = some true)
    (xm_BadPart : PySem.W.exmOne K (.ref C_BadPart) (.ref C_LineError) = some true)
    (tb_1 : K.lookup lC = some ⟨te, td, .fields tv, tsl⟩)
    (tb_2 : tv[11]? = some (.ref lP))
    (tb_3 : K.lookup lP = none)
    (tb_4 : PySem.W.codeHdIn K lC lP = true)
    (tb_1__law_are_counts : K.lookup lC__law_are_counts = some ⟨te__law_are_counts, td__law_are_counts, .fields tv__law_are_counts, tsl__law_are_counts⟩)
    (tb_2__law_are_counts : tv__law_are_counts[11]? = some (.ref lP__law_are_counts))
    (tb_3__law_are_counts : K.lookup lP__law_are_counts = none)
    (tb_4__law_are_counts : PySem.W.codeHdIn K lC__law_are_counts lP__law_are_counts = true)
    (tb_1__law_are_parts : K.lookup lC__law_are_parts = some ⟨te__law_are_parts, td__law_are_parts, .fields tv__law_are_parts, tsl__law_are_parts⟩)
    (tb_2__law_are_parts : tv__law_are_parts[11]? = some (.ref lP__law_are_parts))
    (tb_3__law_are_parts : K.lookup lP__law_are_parts = none)
    (tb_4__law_are_parts : PySem.W.codeHdIn K lC__law_are_parts lP__law_are_parts = true)
    (nP__law_are_counts : lP ≠ lP__law_are_counts)
    (nP__law_are_parts : lP ≠ lP__law_are_parts)
    (nP__law_are_counts__law_are_parts : lP__law_are_counts ≠ lP__law_are_parts)
    (hv_MOST : PySem.W.nsIn K mainGlobals "MOST" = some (some (.int 9 tk_MOST)))
    (hv_FIRST : PySem.W.nsIn K mainGlobals "FIRST" = some (some (.int 16 tk_FIRST)))
    (hv_LONGEST : PySem.W.nsIn K mainGlobals "LONGEST" = some (some (.int 256 tk_LONGEST)))
    (hv_STAYS : PySem.W.nsIn K mainGlobals "STAYS" = some (some (.int 32 tk_STAYS)))
    (hv_LOST : PySem.W.nsIn K mainGlobals "LOST" = some (some (.int 3 tk_LOST)))
    (hv_LAST : PySem.W.nsIn K mainGlobals "LAST" = some (some (.int 6 tk_LAST)))
    (hv_MOST_FRAME : PySem.W.nsIn K mainGlobals "MOST_FRAME" = some (some (.int 1000000 tk_MOST_FRAME)))
    (hv_SLOW : PySem.W.nsIn K mainGlobals "SLOW" = some (some (.int 0 tk_SLOW)))
    (hv_FAST : PySem.W.nsIn K mainGlobals "FAST" = some (some (.int 1 tk_FAST)))
    (hv_MOST_ITEMS : PySem.W.nsIn K mainGlobals "MOST_ITEMS" = some (some (.int 20 tk_MOST_ITEMS)))
    (hv_MOST_ITEM : PySem.W.nsIn K mainGlobals "MOST_ITEM" = some (some (.int 999 tk_MOST_ITEM)))
    (hv_MOST_ROWS : PySem.W.nsIn K mainGlobals "MOST_ROWS" = some (some (.int 300 tk_MOST_ROWS)))
    (z_ValueError : PySem.W.nsIn K mainGlobals "ValueError" = some none)
    (z_abs : PySem.W.nsIn K mainGlobals "abs" = some none)
    (z_all : PySem.W.nsIn K mainGlobals "all" = some none)
    (z_bool : PySem.W.nsIn K mainGlobals "bool" = some none)
    (z_enumerate : PySem.W.nsIn K mainGlobals "enumerate" = some none)
    (z_int : PySem.W.nsIn K mainGlobals "int" = some none)
    (z_isinstance : PySem.W.nsIn K mainGlobals "isinstance" = some none)
    (z_len : PySem.W.nsIn K mainGlobals "len" = some none)
    (z_list : PySem.W.nsIn K mainGlobals "list" = some none)
    (z_max : PySem.W.nsIn K mainGlobals "max" = some none)
    (z_min : PySem.W.nsIn K mainGlobals "min" = some none)
    (z_range : PySem.W.nsIn K mainGlobals "range" = some none)
    (z_set : PySem.W.nsIn K mainGlobals "set" = some none)
    (z_sorted : PySem.W.nsIn K mainGlobals "sorted" = some none)
    (z_str : PySem.W.nsIn K mainGlobals "str" = some none)
    (z_tuple : PySem.W.nsIn K mainGlobals "tuple" = some none) :
    LamX.LawAtS l w K CX0 13 63 "_law_script" mg fa h := by
  have e := hfa.symm.trans (PySem.W.mg_of X G hg_law)
  cases e
  let T : Txt K mg := {
    a__wall := a__wall
    fd__wall := _
    F__wall := fun_mk (st := s__wall) hl__wall hc__wall hk__wall
    g__wall := PySem.W.mg_of X G hg__wall
    b__wall := (fun_mk (st := s__wall) hl__wall hc__wall hk__wall).binds (ps := P__wall) (fun _ _ _ _ _ _ us hl => match us, hl with | [_], _ => rfl)
    a_is_between := a_is_between
    fd_is_between := _
    F_is_between := fun_mk (st := s_is_between) hl_is_between hc_is_between hk_is_between
    g_is_between := PySem.W.mg_of X G hg_is_between
    b_is_between := (fun_mk (st := s_is_between) hl_is_between hc_is_between hk_is_between).binds (ps := P_is_between) (fun _ _ _ _ _ _ us hl => match us, hl with | [_, _, _], _ => rfl)
    a_are_manners := a_are_manners
    fd_are_manners := _
    F_are_manners := fun_mk (st := s_are_manners) hl_are_manners hc_are_manners hk_are_manners
    g_are_manners := PySem.W.mg_of X G hg_are_manners
    b_are_manners := (fun_mk (st := s_are_manners) hl_are_manners hc_are_manners hk_are_manners).binds (ps := P_are_manners) (fun _ _ _ _ _ _ us hl => match us, hl with | [_], _ => rfl)
    a_need_manners := a_need_manners
    fd_need_manners := _
    F_need_manners := fun_mk (st := s_need_manners) hl_need_manners hc_need_manners hk_need_manners
    g_need_manners := PySem.W.mg_of X G hg_need_manners
    b_need_manners := (fun_mk (st := s_need_manners) hl_need_manners hc_need_manners hk_need_manners).binds (ps := P_need_manners) (fun _ _ _ _ _ _ us hl => match us, hl with | [_], _ => rfl)
    a_chosen := a_chosen
    fd_chosen := _
    F_chosen := fun_mk (st := s_chosen) hl_chosen hc_chosen hk_chosen
    g_chosen := PySem.W.mg_of X G hg_chosen
    b_chosen := (fun_mk (st := s_chosen) hl_chosen hc_chosen hk_chosen).binds (ps := P_chosen) (fun _ _ _ _ _ _ us hl => match us, hl with | [_, _, _], _ => rfl)
    a_need_manner := a_need_manner
    fd_need_manner := _
    F_need_manner := fun_mk (st := s_need_manner) hl_need_manner hc_need_manner hk_need_manner
    g_need_manner := PySem.W.mg_of X G hg_need_manner
    b_need_manner := (fun_mk (st := s_need_manner) hl_need_manner hc_need_manner hk_need_manner).binds (ps := P_need_manner) (fun _ _ _ _ _ _ us hl => match us, hl with | [_], _ => rfl)
    a_is_row := a_is_row
    fd_is_row := _
    F_is_row := fun_mk (st := s_is_row) hl_is_row hc_is_row hk_is_row
    g_is_row := PySem.W.mg_of X G hg_is_row
    b_is_row := (fun_mk (st := s_is_row) hl_is_row hc_is_row hk_is_row).binds (ps := P_is_row) (fun _ _ _ _ _ _ us hl => match us, hl with | [_], _ => rfl)
    a_need_log := a_need_log
    fd_need_log := _
    F_need_log := fun_mk (st := s_need_log) hl_need_log hc_need_log hk_need_log
    g_need_log := PySem.W.mg_of X G hg_need_log
    b_need_log := (fun_mk (st := s_need_log) hl_need_log hc_need_log hk_need_log).binds (ps := P_need_log) (fun _ _ _ _ _ _ us hl => match us, hl with | [_], _ => rfl)
    a_judged := a_judged
    fd_judged := _
    F_judged := fun_mk (st := s_judged) hl_judged hc_judged hk_judged
    g_judged := PySem.W.mg_of X G hg_judged
    b_judged := (fun_mk (st := s_judged) hl_judged hc_judged hk_judged).binds (ps := P_judged) (fun _ _ _ _ _ _ us hl => match us, hl with | [_, _, _], _ => rfl)
    a__law_dice := a__law_dice
    fd__law_dice := _
    F__law_dice := fun_mk (st := s__law_dice) hl__law_dice hc__law_dice hk__law_dice
    g__law_dice := PySem.W.mg_of X G hg__law_dice
    b__law_dice := (fun_mk (st := s__law_dice) hl__law_dice hc__law_dice hk__law_dice).binds (ps := P__law_dice) (fun _ _ _ _ _ _ us hl => match us, hl with | [_, _], _ => rfl)
    a__law_off := a__law_off
    fd__law_off := _
    F__law_off := fun_mk (st := s__law_off) hl__law_off hc__law_off hk__law_off
    g__law_off := PySem.W.mg_of X G hg__law_off
    b__law_off := (fun_mk (st := s__law_off) hl__law_off hc__law_off hk__law_off).binds (ps := P__law_off) (fun _ _ _ _ _ _ us hl => match us, hl with | [_, _], _ => rfl)
    a__law_alike := a__law_alike
    fd__law_alike := _
    F__law_alike := fun_mk (st := s__law_alike) hl__law_alike hc__law_alike hk__law_alike
    g__law_alike := PySem.W.mg_of X G hg__law_alike
    b__law_alike := (fun_mk (st := s__law_alike) hl__law_alike hc__law_alike hk__law_alike).binds (ps := P__law_alike) (fun _ _ _ _ _ _ us hl => match us, hl with | [_, _], _ => rfl)
    a__law_word := a__law_word
    fd__law_word := _
    F__law_word := fun_mk (st := s__law_word) hl__law_word hc__law_word hk__law_word
    g__law_word := PySem.W.mg_of X G hg__law_word
    b__law_word := (fun_mk (st := s__law_word) hl__law_word hc__law_word hk__law_word).binds (ps := P__law_word) (fun _ _ _ _ _ _ us hl => match us, hl with | [_], _ => rfl)
    a__law_can := a__law_can
    fd__law_can := _
    F__law_can := fun_mk (st := s__law_can) hl__law_can hc__law_can hk__law_can
    g__law_can := PySem.W.mg_of X G hg__law_can
    b__law_can := (fun_mk (st := s__law_can) hl__law_can hc__law_can hk__law_can).binds (ps := P__law_can) (fun _ _ _ _ _ _ us hl => match us, hl with | [_], _ => rfl)
    a__law_is_can := a__law_is_can
    fd__law_is_can := _
    F__law_is_can := fun_mk (st := s__law_is_can) hl__law_is_can hc__law_is_can hk__law_is_can
    g__law_is_can := PySem.W.mg_of X G hg__law_is_can
    b__law_is_can := (fun_mk (st := s__law_is_can) hl__law_is_can hc__law_is_can hk__law_is_can).binds (ps := P__law_is_can) (fun _ _ _ _ _ _ us hl => match us, hl with | [_], _ => rfl)
    a__law_spoilt := a__law_spoilt
    fd__law_spoilt := _
    F__law_spoilt := fun_mk (st := s__law_spoilt) hl__law_spoilt hc__law_spoilt hk__law_spoilt
    g__law_spoilt := PySem.W.mg_of X G hg__law_spoilt
    b__law_spoilt := (fun_mk (st := s__law_spoilt) hl__law_spoilt hc__law_spoilt hk__law_spoilt).binds (ps := P__law_spoilt) (fun _ _ _ _ _ _ us hl => match us, hl with | [_, _], _ => rfl)
    a__law_are_counts := a__law_are_counts
    fd__law_are_counts := _
    F__law_are_counts := fun_mk (st := s__law_are_counts) hl__law_are_counts hc__law_are_counts hk__law_are_counts
    g__law_are_counts := PySem.W.mg_of X G hg__law_are_counts
    b__law_are_counts := (fun_mk (st := s__law_are_counts) hl__law_are_counts hc__law_are_counts hk__law_are_counts).binds (ps := P__law_are_counts) (fun _ _ _ _ _ _ us hl => match us, hl with | [_], _ => rfl)
    a__law_are_parts := a__law_are_parts
    fd__law_are_parts := _
    F__law_are_parts := fun_mk (st := s__law_are_parts) hl__law_are_parts hc__law_are_parts hk__law_are_parts
    g__law_are_parts := PySem.W.mg_of X G hg__law_are_parts
    b__law_are_parts := (fun_mk (st := s__law_are_parts) hl__law_are_parts hc__law_are_parts hk__law_are_parts).binds (ps := P__law_are_parts) (fun _ _ _ _ _ _ us hl => match us, hl with | [_, _], _ => rfl)
    a_law := fa
    fd_law := _
    F_law := fun_mk (st := s_law) hl_law hc_law hk_law
    g_law := PySem.W.mg_of X G hg_law
    b_law := (fun_mk (st := s_law) hl_law hc_law hk_law).binds (ps := P_law) (fun _ _ _ _ _ _ us hl => match us, hl with | [_], _ => rfl)
    a_Marks_init := a_Marks_init
    fd_Marks_init := _
    F_Marks_init := fun_mk (st := s_Marks_init) hl_Marks_init hc_Marks_init hk_Marks_init
    b_Marks_init := (fun_mk (st := s_Marks_init) hl_Marks_init hc_Marks_init hk_Marks_init).binds (ps := P_Marks_init) (fun _ _ _ _ _ _ us hl => match us, hl with | [_], _ => rfl)
    a_Marks_note := a_Marks_note
    fd_Marks_note := _
    F_Marks_note := fun_mk (st := s_Marks_note) hl_Marks_note hc_Marks_note hk_Marks_note
    b_Marks_note := (fun_mk (st := s_Marks_note) hl_Marks_note hc_Marks_note hk_Marks_note).binds (ps := P_Marks_note) (fun _ _ _ _ _ _ us hl => match us, hl with | [_, _, _, _], _ => rfl)
    a_Marks_bad := a_Marks_bad
    fd_Marks_bad := _
    F_Marks_bad := fun_mk (st := s_Marks_bad) hl_Marks_bad hc_Marks_bad hk_Marks_bad
    b_Marks_bad := (fun_mk (st := s_Marks_bad) hl_Marks_bad hc_Marks_bad hk_Marks_bad).binds (ps := P_Marks_bad) (fun _ _ _ _ _ _ us hl => match us, hl with | [_, _], _ => rfl)
    a_End_init := a_End_init
    fd_End_init := _
    F_End_init := fun_mk (st := s_End_init) hl_End_init hc_End_init hk_End_init
    b_End_init := (fun_mk (st := s_End_init) hl_End_init hc_End_init hk_End_init).binds (ps := P_End_init) (fun _ _ _ _ _ _ us hl => match us, hl with | [_, _], _ => rfl)
    a_End_need_part := a_End_need_part
    fd_End_need_part := _
    F_End_need_part := fun_mk (st := s_End_need_part) hl_End_need_part hc_End_need_part hk_End_need_part
    b_End_need_part := (fun_mk (st := s_End_need_part) hl_End_need_part hc_End_need_part hk_End_need_part).binds (ps := P_End_need_part) (fun _ _ _ _ _ _ us hl => match us, hl with | [_, _], _ => rfl)
    a_End_refresh := a_End_refresh
    fd_End_refresh := _
    F_End_refresh := fun_mk (st := s_End_refresh) hl_End_refresh hc_End_refresh hk_End_refresh
    b_End_refresh := (fun_mk (st := s_End_refresh) hl_End_refresh hc_End_refresh hk_End_refresh).binds (ps := P_End_refresh) (fun _ _ _ _ _ _ us hl => match us, hl with | [_], _ => rfl)
    a_End_take := a_End_take
    fd_End_take := _
    F_End_take := fun_mk (st := s_End_take) hl_End_take hc_End_take hk_End_take
    b_End_take := (fun_mk (st := s_End_take) hl_End_take hc_End_take hk_End_take).binds (ps := P_End_take) (fun _ _ _ _ _ _ us hl => match us, hl with | [_], _ => rfl)
    a_End_say := a_End_say
    fd_End_say := _
    F_End_say := fun_mk (st := s_End_say) hl_End_say hc_End_say hk_End_say
    b_End_say := (fun_mk (st := s_End_say) hl_End_say hc_End_say hk_End_say).binds (ps := P_End_say) (fun _ _ _ _ _ _ us hl => match us, hl with | [_, _], _ => rfl)
    a_End_hear := a_End_hear
    fd_End_hear := _
    F_End_hear := fun_mk (st := s_End_hear) hl_End_hear hc_End_hear hk_End_hear
    b_End_hear := (fun_mk (st := s_End_hear) hl_End_hear hc_End_hear hk_End_hear).binds (ps := P_End_hear) (fun _ _ _ _ _ _ us hl => match us, hl with | [_, _, _], _ => rfl)
    a_End_hear_slow := a_End_hear_slow
    fd_End_hear_slow := _
    F_End_hear_slow := fun_mk (st := s_End_hear_slow) hl_End_hear_slow hc_End_hear_slow hk_End_hear_slow
    b_End_hear_slow := (fun_mk (st := s_End_hear_slow) hl_End_hear_slow hc_End_hear_slow hk_End_hear_slow).binds (ps := P_End_hear_slow) (fun _ _ _ _ _ _ us hl => match us, hl with | [_, _], _ => rfl)
    a_End_hear_fast := a_End_hear_fast
    fd_End_hear_fast := _
    F_End_hear_fast := fun_mk (st := s_End_hear_fast) hl_End_hear_fast hc_End_hear_fast hk_End_hear_fast
    b_End_hear_fast := (fun_mk (st := s_End_hear_fast) hl_End_hear_fast hc_End_hear_fast hk_End_hear_fast).binds (ps := P_End_hear_fast) (fun _ _ _ _ _ _ us hl => match us, hl with | [_, _], _ => rfl)
    a_End_send := a_End_send
    fd_End_send := _
    F_End_send := fun_mk (st := s_End_send) hl_End_send hc_End_send hk_End_send
    b_End_send := (fun_mk (st := s_End_send) hl_End_send hc_End_send hk_End_send).binds (ps := P_End_send) (fun _ _ _ _ _ _ us hl => match us, hl with | [_, _], _ => rfl)
    a_End_got := a_End_got
    fd_End_got := _
    F_End_got := fun_mk (st := s_End_got) hl_End_got hc_End_got hk_End_got
    b_End_got := (fun_mk (st := s_End_got) hl_End_got hc_End_got hk_End_got).binds (ps := P_End_got) (fun _ _ _ _ _ _ us hl => match us, hl with | [_], _ => rfl)
    a_End_left := a_End_left
    fd_End_left := _
    F_End_left := fun_mk (st := s_End_left) hl_End_left hc_End_left hk_End_left
    b_End_left := (fun_mk (st := s_End_left) hl_End_left hc_End_left hk_End_left).binds (ps := P_End_left) (fun _ _ _ _ _ _ us hl => match us, hl with | [_], _ => rfl)
    a_End_stands := a_End_stands
    fd_End_stands := _
    F_End_stands := fun_mk (st := s_End_stands) hl_End_stands hc_End_stands hk_End_stands
    b_End_stands := (fun_mk (st := s_End_stands) hl_End_stands hc_End_stands hk_End_stands).binds (ps := P_End_stands) (fun _ _ _ _ _ _ us hl => match us, hl with | [_], _ => rfl)
    C_Marks := C_Marks
    c_Marks := PySem.W.mg_of X G hC_Marks
    cl_Marks := ⟨pg_Marks, hd_Marks, po_Marks, sa_Marks⟩
    no_Marks_waits := no_Marks_waits
    no_Marks_until := no_Marks_until
    no_Marks_runs := no_Marks_runs
    no_Marks_tries := no_Marks_tries
    M_Marks := ⟨mk_Marks, hg_Marks_init, hi_Marks_init, kc_Marks⟩
    m_Marks_note := ⟨hg_Marks_note, hi_Marks_note, hk_Marks_note⟩
    m_Marks_bad := ⟨hg_Marks_bad, hi_Marks_bad, hk_Marks_bad⟩
    C_End := C_End
    c_End := PySem.W.mg_of X G hC_End
    cl_End := ⟨pg_End, hd_End, po_End, sa_End⟩
    no_End_can := no_End_can
    no_End_marks := no_End_marks
    no_End_over := no_End_over
    no_End_version := no_End_version
    no_End_mind := no_End_mind
    no_End_other := no_End_other
    no_End_seen := no_End_seen
    no_End_known := no_End_known
    no_End_ready := no_End_ready
    no_End_now := no_End_now
    no_End_joined := no_End_joined
    no_End_waiting := no_End_waiting
    no_End_count := no_End_count
    no_End_gathered := no_End_gathered
    no_End_part := no_End_part
    M_End := ⟨mk_End, hg_End_init, hi_End_init, kc_End⟩
    m_End_need_part := ⟨hg_End_need_part, hi_End_need_part, hk_End_need_part⟩
    m_End_refresh := ⟨hg_End_refresh, hi_End_refresh, hk_End_refresh⟩
    m_End_take := ⟨hg_End_take, hi_End_take, hk_End_take⟩
    m_End_say := ⟨hg_End_say, hi_End_say, hk_End_say⟩
    m_End_hear := ⟨hg_End_hear, hi_End_hear, hk_End_hear⟩
    m_End_hear_slow := ⟨hg_End_hear_slow, hi_End_hear_slow, hk_End_hear_slow⟩
    m_End_hear_fast := ⟨hg_End_hear_fast, hi_End_hear_fast, hk_End_hear_fast⟩
    m_End_send := ⟨hg_End_send, hi_End_send, hk_End_send⟩
    m_End_got := ⟨hg_End_got, hi_End_got, hk_End_got⟩
    m_End_left := ⟨hg_End_left, hi_End_left, hk_End_left⟩
    m_End_stands := ⟨hg_End_stands, hi_End_stands, hk_End_stands⟩
    C_LineError := C_LineError
    c_LineError := PySem.W.mg_of X G hC_LineError
    k_LineError := k_LineError
    s_LineError := s_LineError
    t_LineError := t_LineError
    x_LineError := x_LineError
    C_BadManners := C_BadManners
    c_BadManners := PySem.W.mg_of X G hC_BadManners
    k_BadManners := k_BadManners
    s_BadManners := s_BadManners
    t_BadManners := t_BadManners
    x_BadManners := x_BadManners
    C_BadItem := C_BadItem
    c_BadItem := PySem.W.mg_of X G hC_BadItem
    k_BadItem := k_BadItem
    s_BadItem := s_BadItem
    t_BadItem := t_BadItem
    x_BadItem := x_BadItem
    C_Full := C_Full
    c_Full := PySem.W.mg_of X G hC_Full
    k_Full := k_Full
    s_Full := s_Full
    t_Full := t_Full
    x_Full := x_Full
    C_BadPart := C_BadPart
    c_BadPart := PySem.W.mg_of X G hC_BadPart
    k_BadPart := k_BadPart
    s_BadPart := s_BadPart
    t_BadPart := t_BadPart
    x_BadPart := x_BadPart
    C_BadCount := C_BadCount
    c_BadCount := PySem.W.mg_of X G hC_BadCount
    k_BadCount := k_BadCount
    s_BadCount := s_BadCount
    t_BadCount := t_BadCount
    x_BadCount := x_BadCount
    C_BadEnd := C_BadEnd
    c_BadEnd := PySem.W.mg_of X G hC_BadEnd
    k_BadEnd := k_BadEnd
    s_BadEnd := s_BadEnd
    t_BadEnd := t_BadEnd
    x_BadEnd := x_BadEnd
    C_BadStep := C_BadStep
    c_BadStep := PySem.W.mg_of X G hC_BadStep
    k_BadStep := k_BadStep
    s_BadStep := s_BadStep
    t_BadStep := t_BadStep
    C_BadLog := C_BadLog
    c_BadLog := PySem.W.mg_of X G hC_BadLog
    k_BadLog := k_BadLog
    s_BadLog := s_BadLog
    t_BadLog := t_BadLog
    C_BadText := C_BadText
    c_BadText := PySem.W.mg_of X G hC_BadText
    k_BadText := k_BadText
    s_BadText := s_BadText
    t_BadText := t_BadText
    bc_LineError := ⟨gs_LE, rd_LE, fi_LE, k_LineError⟩
    wk_BadManners := ⟨⟨ga_BadManners, gg_BadManners, s_BadManners, hx_BadManners, gc_BadManners, gx_n, gx_t, gm_BadManners⟩, kinds9 ik_BadManners_0 ik_BadManners_1 ik_BadManners_2 ik_BadManners_3 ik_BadManners_4 ik_BadManners_5 ik_BadManners_6 ik_BadManners_7 ik_BadManners_8 (by decide), iv_BadManners, xm_BadManners⟩
    wk_BadCount := ⟨⟨ga_BadCount, gg_BadCount, s_BadCount, hx_BadCount, gc_BadCount, gx_n, gx_t, gm_BadCount⟩, kinds9 ik_BadCount_0 ik_BadCount_1 ik_BadCount_2 ik_BadCount_3 ik_BadCount_4 ik_BadCount_5 ik_BadCount_6 ik_BadCount_7 ik_BadCount_8 (by decide), iv_BadCount, xm_BadCount⟩
    wk_BadItem := ⟨⟨ga_BadItem, gg_BadItem, s_BadItem, hx_BadItem, gc_BadItem, gx_n, gx_t, gm_BadItem⟩, kinds9 ik_BadItem_0 ik_BadItem_1 ik_BadItem_2 ik_BadItem_3 ik_BadItem_4 ik_BadItem_5 ik_BadItem_6 ik_BadItem_7 ik_BadItem_8 (by decide), iv_BadItem, xm_BadItem⟩
    wk_Full := ⟨⟨ga_Full, gg_Full, s_Full, hx_Full, gc_Full, gx_n, gx_t, gm_Full⟩, kinds9 ik_Full_0 ik_Full_1 ik_Full_2 ik_Full_3 ik_Full_4 ik_Full_5 ik_Full_6 ik_Full_7 ik_Full_8 (by decide), iv_Full, xm_Full⟩
    wk_BadPart := ⟨⟨ga_BadPart, gg_BadPart, s_BadPart, hx_BadPart, gc_BadPart, gx_n, gx_t, gm_BadPart⟩, kinds9 ik_BadPart_0 ik_BadPart_1 ik_BadPart_2 ik_BadPart_3 ik_BadPart_4 ik_BadPart_5 ik_BadPart_6 ik_BadPart_7 ik_BadPart_8 (by decide), iv_BadPart, xm_BadPart⟩
    lC := lC
    lP := lP
    fl := ⟨_, _, _, _, _, _, _, _, rfl, hl_law, hc_law⟩
    lC__law_are_counts := lC__law_are_counts
    lP__law_are_counts := lP__law_are_counts
    fl__law_are_counts := ⟨_, _, _, _, _, _, _, _, rfl, hl__law_are_counts, hc__law_are_counts⟩
    lC__law_are_parts := lC__law_are_parts
    lP__law_are_parts := lP__law_are_parts
    fl__law_are_parts := ⟨_, _, _, _, _, _, _, _, rfl, hl__law_are_parts, hc__law_are_parts⟩
    nP__law_are_counts := nP__law_are_counts
    nP__law_are_parts := nP__law_are_parts
    nP__law_are_counts__law_are_parts := nP__law_are_counts__law_are_parts
    tk_MOST := tk_MOST
    v_MOST := PySem.W.mg_of X G hv_MOST
    tk_FIRST := tk_FIRST
    v_FIRST := PySem.W.mg_of X G hv_FIRST
    tk_LONGEST := tk_LONGEST
    v_LONGEST := PySem.W.mg_of X G hv_LONGEST
    tk_STAYS := tk_STAYS
    v_STAYS := PySem.W.mg_of X G hv_STAYS
    tk_LOST := tk_LOST
    v_LOST := PySem.W.mg_of X G hv_LOST
    tk_LAST := tk_LAST
    v_LAST := PySem.W.mg_of X G hv_LAST
    tk_MOST_FRAME := tk_MOST_FRAME
    v_MOST_FRAME := PySem.W.mg_of X G hv_MOST_FRAME
    tk_SLOW := tk_SLOW
    v_SLOW := PySem.W.mg_of X G hv_SLOW
    tk_FAST := tk_FAST
    v_FAST := PySem.W.mg_of X G hv_FAST
    tk_MOST_ITEMS := tk_MOST_ITEMS
    v_MOST_ITEMS := PySem.W.mg_of X G hv_MOST_ITEMS
    tk_MOST_ITEM := tk_MOST_ITEM
    v_MOST_ITEM := PySem.W.mg_of X G hv_MOST_ITEM
    tk_MOST_ROWS := tk_MOST_ROWS
    v_MOST_ROWS := PySem.W.mg_of X G hv_MOST_ROWS
    n_ValueError := PySem.W.mg_none_of X G z_ValueError
    n_abs := PySem.W.mg_none_of X G z_abs
    n_all := PySem.W.mg_none_of X G z_all
    n_bool := PySem.W.mg_none_of X G z_bool
    n_enumerate := PySem.W.mg_none_of X G z_enumerate
    n_int := PySem.W.mg_none_of X G z_int
    n_isinstance := PySem.W.mg_none_of X G z_isinstance
    n_len := PySem.W.mg_none_of X G z_len
    n_list := PySem.W.mg_none_of X G z_list
    n_max := PySem.W.mg_none_of X G z_max
    n_min := PySem.W.mg_none_of X G z_min
    n_range := PySem.W.mg_none_of X G z_range
    n_set := PySem.W.mg_none_of X G z_set
    n_sorted := PySem.W.mg_none_of X G z_sorted
    n_str := PySem.W.mg_none_of X G z_str
    n_tuple := PySem.W.mg_none_of X G z_tuple }
  refine ⟨_, [(lC, lP), (lC__law_are_counts, lP__law_are_counts), (lC__law_are_parts, lP__law_are_parts)], spLaw K [(lP, lamQ), (lP__law_are_counts, lamQ__law_are_counts), (lP__law_are_parts, lamQ__law_are_parts)], ?_, ?_, ?_, fun s v => .of_eq rfl, fun H a ns hn _ hT hS => ⟨a, ns, rfl, hS, hn, ?_, fun _ => rfl⟩, fun base _ _ hB => ok_law T (hB _ (.head _)) (hB _ (.tail _ (.head _))) (hB _ (.tail _ (.tail _ (.head _))))⟩
  · exact fun p hp => by
      simp only [List.mem_cons, List.not_mem_nil, or_false] at hp
      rcases hp with rfl | rfl | rfl
      · exact own "law" _ (.head _) (PySem.W.mg_of X G hg_law) lC lP _ _ _ _ _ _ hl_law rfl rfl tb_1 tb_2
      · exact own "_law_are_counts" _ (.tail _ (.head _)) (PySem.W.mg_of X G hg__law_are_counts) lC__law_are_counts lP__law_are_counts _ _ _ _ _ _ hl__law_are_counts rfl rfl tb_1__law_are_counts tb_2__law_are_counts
      · exact own "_law_are_parts" _ (.tail _ (.tail _ (.head _))) (PySem.W.mg_of X G hg__law_are_parts) lC__law_are_parts lP__law_are_parts _ _ _ _ _ _ hl__law_are_parts rfl rfl tb_1__law_are_parts tb_2__law_are_parts
  · exact fun p hp => by
      simp only [List.mem_cons, List.not_mem_nil, or_false] at hp
      rcases hp with rfl | rfl | rfl
      · exact tb_3
      · exact tb_3__law_are_counts
      · exact tb_3__law_are_parts
  · exact fun p hp => by
      simp only [List.mem_cons, List.not_mem_nil, or_false] at hp
      rcases hp with rfl | rfl | rfl
      · exact PySem.W.codeHd_of_K X tb_4
      · exact PySem.W.codeHd_of_K X tb_4__law_are_counts
      · exact PySem.W.codeHd_of_K X tb_4__law_are_parts
  · exact fun p hp => by
      simp only [List.mem_cons, List.not_mem_nil, or_false] at hp
      rcases hp with rfl | rfl | rfl
      · exact LamX.TabS.nil (hT _ (.head _))
      · exact LamX.TabS.nil (hT _ (.tail _ (.head _)))
      · exact LamX.TabS.nil (hT _ (.tail _ (.tail _ (.head _))))
theorem walk {l : PySem.W.OpenLaw} {q : Program} {loose : List Str} {XP : (Str → Option Value) → Heap → Prop} {YP : World → Heap → Prop} {d : DefRec} {K : Params → PySem.W.Frag} (hn : l.most = some 63) (hdf : d.params.defaults = []) (hrec : ∀ y ∈ (["law", "_law_are_counts", "_law_are_parts"] : List Str), ((PyProof.Rows.recsOf q).any fun e => e.name == y) = true)
    (hY : ∀ (w : World) (h : Heap), YP w h → (K w.params).In h)
    (F : ∀ (w : World) (mg : Str → Option Value) (fa : Addr) (h : Heap), YP w h → (K w.params).In h → h.Ns mainGlobals mg → mg d.name = some (.ref fa) → OwnTabs (K w.params) mg ["law", "_law_are_counts", "_law_are_parts"] h → LamX.LawAtS l w (K w.params) CX0 13 63 "_law_script" mg fa h) :
    PySem.W.WalkO q loose XP YP l.row.toRowW d [] (fun f vs => PySem.call f vs) :=
  walk_tabs (n := 63) (k := 13) (x := "_law_script") (CX := fun _ => CX0) hn (by decide) hdf ⟨rfl, by decide, by decide⟩ hrec hY F fun _ _ _ _ _ z => z
end TL
open PySem PySem.W PyProof.Rows
set_option maxRecDepth 100000 in
set_option maxHeartbeats 0 in
theorem PySem.Challenge.cw_trainline_k01_refused_holds : PySem.Challenge.rw_trainline_k01_refused.Holds := by
  w_on; o_law; k_head; (case hw => w_witness2)
  k_fill
  refine TL.walk (l := PySem.Challenge.rw_trainline_k01_refused) rfl rfl (fun y hy => by simp only [List.mem_cons, List.not_mem_nil, or_false] at hy; rcases hy with rfl | rfl | rfl <;> rfl) (fun w h Y => PySem.W.km_in_of Y) ?F
  case F =>
    intro w mg fa h Y KX G hmg own
    refine' TL.all_mk KX G hmg own ?hC_LineError ?hC_BadManners ?hC_BadItem ?hC_Full ?hC_BadPart ?hC_BadCount ?hC_BadEnd ?hC_BadStep ?hC_BadLog ?hC_BadText ?hC_Marks ?hC_End ?hg__wall ?hl__wall ?hc__wall ?hk__wall ?hg_is_between ?hl_is_between ?hc_is_between ?hk_is_between ?hg_are_manners ?hl_are_manners ?hc_are_manners ?hk_are_manners ?hg_need_manners ?hl_need_manners ?hc_need_manners ?hk_need_manners ?hg_chosen ?hl_chosen ?hc_chosen ?hk_chosen ?hg_need_manner ?hl_need_manner ?hc_need_manner ?hk_need_manner ?hg_is_row ?hl_is_row ?hc_is_row ?hk_is_row ?hg_need_log ?hl_need_log ?hc_need_log ?hk_need_log ?hg_judged ?hl_judged ?hc_judged ?hk_judged ?hg__law_dice ?hl__law_dice ?hc__law_dice ?hk__law_dice ?hg__law_off ?hl__law_off ?hc__law_off ?hk__law_off ?hg__law_alike ?hl__law_alike ?hc__law_alike ?hk__law_alike ?hg__law_word ?hl__law_word ?hc__law_word ?hk__law_word ?hg__law_can ?hl__law_can ?hc__law_can ?hk__law_can ?hg__law_is_can ?hl__law_is_can ?hc__law_is_can ?hk__law_is_can ?hg__law_spoilt ?hl__law_spoilt ?hc__law_spoilt ?hk__law_spoilt ?hg__law_are_counts ?hl__law_are_counts ?hc__law_are_counts ?hk__law_are_counts ?hg__law_are_parts ?hl__law_are_parts ?hc__law_are_parts ?hk__law_are_parts ?hg_law ?hl_law ?hc_law ?hk_law ?hg_Marks_init ?hi_Marks_init ?hl_Marks_init ?hc_Marks_init ?hk_Marks_init ?hg_Marks_note ?hi_Marks_note ?hl_Marks_note ?hc_Marks_note ?hk_Marks_note ?hg_Marks_bad ?hi_Marks_bad ?hl_Marks_bad ?hc_Marks_bad ?hk_Marks_bad ?hg_End_init ?hi_End_init ?hl_End_init ?hc_End_init ?hk_End_init ?hg_End_need_part ?hi_End_need_part ?hl_End_need_part ?hc_End_need_part ?hk_End_need_part ?hg_End_refresh ?hi_End_refresh ?hl_End_refresh ?hc_End_refresh ?hk_End_refresh ?hg_End_take ?hi_End_take ?hl_End_take ?hc_End_take ?hk_End_take ?hg_End_say ?hi_End_say ?hl_End_say ?hc_End_say ?hk_End_say ?hg_End_hear ?hi_End_hear ?hl_End_hear ?hc_End_hear ?hk_End_hear ?hg_End_hear_slow ?hi_End_hear_slow ?hl_End_hear_slow ?hc_End_hear_slow ?hk_End_hear_slow ?hg_End_hear_fast ?hi_End_hear_fast ?hl_End_hear_fast ?hc_End_hear_fast ?hk_End_hear_fast ?hg_End_send ?hi_End_send ?hl_End_send ?hc_End_send ?hk_End_send ?hg_End_got ?hi_End_got ?hl_End_got ?hc_End_got ?hk_End_got ?hg_End_left ?hi_End_left ?hl_End_left ?hc_End_left ?hk_End_left ?hg_End_stands ?hi_End_stands ?hl_End_stands ?hc_End_stands ?hk_End_stands ?pg_Marks ?hd_Marks ?po_Marks ?mk_Marks ?kc_Marks ?sa_Marks ?no_Marks_waits ?no_Marks_until ?no_Marks_runs ?no_Marks_tries ?pg_End ?hd_End ?po_End ?mk_End ?kc_End ?sa_End ?no_End_can ?no_End_marks ?no_End_over ?no_End_version ?no_End_mind ?no_End_other ?no_End_seen ?no_End_known ?no_End_ready ?no_End_now ?no_End_joined ?no_End_waiting ?no_End_count ?no_End_gathered ?no_End_part ?x_LineError ?k_LineError ?s_LineError ?t_LineError ?x_BadManners ?k_BadManners ?s_BadManners ?t_BadManners ?x_BadItem ?k_BadItem ?s_BadItem ?t_BadItem ?x_Full ?k_Full ?s_Full ?t_Full ?x_BadPart ?k_BadPart ?s_BadPart ?t_BadPart ?x_BadCount ?k_BadCount ?s_BadCount ?t_BadCount ?x_BadEnd ?k_BadEnd ?s_BadEnd ?t_BadEnd ?k_BadStep ?s_BadStep ?t_BadStep ?k_BadLog ?s_BadLog ?t_BadLog ?k_BadText ?s_BadText ?t_BadText ?gs_LE ?rd_LE ?fi_LE ?gx_n ?gx_t ?ga_BadManners ?gg_BadManners ?hx_BadManners ?ga_BadCount ?gg_BadCount ?hx_BadCount ?ga_BadItem ?gg_BadItem ?hx_BadItem ?ga_Full ?gg_Full ?hx_Full ?ga_BadPart ?gg_BadPart ?hx_BadPart ?gc_BadManners ?gm_BadManners ?ik_BadManners_0 ?ik_BadManners_1 ?ik_BadManners_2 ?ik_BadManners_3 ?ik_BadManners_4 ?ik_BadManners_5 ?ik_BadManners_6 ?ik_BadManners_7 ?ik_BadManners_8 ?iv_BadManners ?xm_BadManners ?gc_BadCount ?gm_BadCount ?ik_BadCount_0 ?ik_BadCount_1 ?ik_BadCount_2 ?ik_BadCount_3 ?ik_BadCount_4 ?ik_BadCount_5 ?ik_BadCount_6 ?ik_BadCount_7 ?ik_BadCount_8 ?iv_BadCount ?xm_BadCount ?gc_BadItem ?gm_BadItem ?ik_BadItem_0 ?ik_BadItem_1 ?ik_BadItem_2 ?ik_BadItem_3 ?ik_BadItem_4 ?ik_BadItem_5 ?ik_BadItem_6 ?ik_BadItem_7 ?ik_BadItem_8 ?iv_BadItem ?xm_BadItem ?gc_Full ?gm_Full ?ik_Full_0 ?ik_Full_1 ?ik_Full_2 ?ik_Full_3 ?ik_Full_4 ?ik_Full_5 ?ik_Full_6 ?ik_Full_7 ?ik_Full_8 ?iv_Full ?xm_Full ?gc_BadPart ?gm_BadPart ?ik_BadPart_0 ?ik_BadPart_1 ?ik_BadPart_2 ?ik_BadPart_3 ?ik_BadPart_4 ?ik_BadPart_5 ?ik_BadPart_6 ?ik_BadPart_7 ?ik_BadPart_8 ?iv_BadPart ?xm_BadPart ?tb_1 ?tb_2 ?tb_3 ?tb_4 ?tb_1__law_are_counts ?tb_2__law_are_counts ?tb_3__law_are_counts ?tb_4__law_are_counts ?tb_1__law_are_parts ?tb_2__law_are_parts ?tb_3__law_are_parts ?tb_4__law_are_parts ?nP__law_are_counts ?nP__law_are_parts ?nP__law_are_counts__law_are_parts ?hv_MOST ?hv_FIRST ?hv_LONGEST ?hv_STAYS ?hv_LOST ?hv_LAST ?hv_MOST_FRAME ?hv_SLOW ?hv_FAST ?hv_MOST_ITEMS ?hv_MOST_ITEM ?hv_MOST_ROWS ?z_ValueError ?z_abs ?z_all ?z_bool ?z_enumerate ?z_int ?z_isinstance ?z_len ?z_list ?z_max ?z_min ?z_range ?z_set ?z_sorted ?z_str ?z_tuple
    (case hC_LineError => first | k_is | rfl)
    (case hC_BadManners => first | k_is | rfl)
    (case hC_BadItem => first | k_is | rfl)
    (case hC_Full => first | k_is | rfl)
    (case hC_BadPart => first | k_is | rfl)
    (case hC_BadCount => first | k_is | rfl)
    (case hC_BadEnd => first | k_is | rfl)
    (case hC_BadStep => first | k_is | rfl)
    (case hC_BadLog => first | k_is | rfl)
    (case hC_BadText => first | k_is | rfl)
    (case hC_Marks => first | k_is | rfl)
    (case hC_End => first | k_is | rfl)
    (case hg__wall => first | k_is | rfl)
    (case hl__wall => first | k_is | rfl)
    (case hc__wall => first | k_is | rfl)
    (case hk__wall => first | k_is | rfl)
    (case hg_is_between => first | k_is | rfl)
    (case hl_is_between => first | k_is | rfl)
    (case hc_is_between => first | k_is | rfl)
    (case hk_is_between => first | k_is | rfl)
    (case hg_are_manners => first | k_is | rfl)
    (case hl_are_manners => first | k_is | rfl)
    (case hc_are_manners => first | k_is | rfl)
    (case hk_are_manners => first | k_is | rfl)
    (case hg_need_manners => first | k_is | rfl)
    (case hl_need_manners => first | k_is | rfl)
    (case hc_need_manners => first | k_is | rfl)
    (case hk_need_manners => first | k_is | rfl)
    (case hg_chosen => first | k_is | rfl)
    (case hl_chosen => first | k_is | rfl)
    (case hc_chosen => first | k_is | rfl)
    (case hk_chosen => first | k_is | rfl)
    (case hg_need_manner => first | k_is | rfl)
    (case hl_need_manner => first | k_is | rfl)
    (case hc_need_manner => first | k_is | rfl)
    (case hk_need_manner => first | k_is | rfl)
    (case hg_is_row => first | k_is | rfl)
    (case hl_is_row => first | k_is | rfl)
    (case hc_is_row => first | k_is | rfl)
    (case hk_is_row => first | k_is | rfl)
    (case hg_need_log => first | k_is | rfl)
    (case hl_need_log => first | k_is | rfl)
    (case hc_need_log => first | k_is | rfl)
    (case hk_need_log => first | k_is | rfl)
    (case hg_judged => first | k_is | rfl)
    (case hl_judged => first | k_is | rfl)
    (case hc_judged => first | k_is | rfl)
    (case hk_judged => first | k_is | rfl)
    (case hg__law_dice => first | k_is | rfl)
    (case hl__law_dice => first | k_is | rfl)
    (case hc__law_dice => first | k_is | rfl)
    (case hk__law_dice => first | k_is | rfl)
    (case hg__law_off => first | k_is | rfl)
    (case hl__law_off => first | k_is | rfl)
    (case hc__law_off => first | k_is | rfl)
    (case hk__law_off => first | k_is | rfl)
    (case hg__law_alike => first | k_is | rfl)
    (case hl__law_alike => first | k_is | rfl)
    (case hc__law_alike => first | k_is | rfl)
    (case hk__law_alike => first | k_is | rfl)
    (case hg__law_word => first | k_is | rfl)
    (case hl__law_word => first | k_is | rfl)
    (case hc__law_word => first | k_is | rfl)
    (case hk__law_word => first | k_is | rfl)
    (case hg__law_can => first | k_is | rfl)
    (case hl__law_can => first | k_is | rfl)
    (case hc__law_can => first | k_is | rfl)
    (case hk__law_can => first | k_is | rfl)
    (case hg__law_is_can => first | k_is | rfl)
    (case hl__law_is_can => first | k_is | rfl)
    (case hc__law_is_can => first | k_is | rfl)
    (case hk__law_is_can => first | k_is | rfl)
    (case hg__law_spoilt => first | k_is | rfl)
    (case hl__law_spoilt => first | k_is | rfl)
    (case hc__law_spoilt => first | k_is | rfl)
    (case hk__law_spoilt => first | k_is | rfl)
    (case hg__law_are_counts => first | k_is | rfl)
    (case hl__law_are_counts => first | k_is | rfl)
    (case hc__law_are_counts => first | k_is | rfl)
    (case hk__law_are_counts => first | k_is | rfl)
    (case hg__law_are_parts => first | k_is | rfl)
    (case hl__law_are_parts => first | k_is | rfl)
    (case hc__law_are_parts => first | k_is | rfl)
    (case hk__law_are_parts => first | k_is | rfl)
    (case hg_law => first | k_is | rfl)
    (case hl_law => first | k_is | rfl)
    (case hc_law => first | k_is | rfl)
    (case hk_law => first | k_is | rfl)
    (case hg_Marks_init => first | k_is | rfl)
    (case hi_Marks_init => first | k_is | rfl)
    (case hl_Marks_init => first | k_is | rfl)
    (case hc_Marks_init => first | k_is | rfl)
    (case hk_Marks_init => first | k_is | rfl)
    (case hg_Marks_note => first | k_is | rfl)
    (case hi_Marks_note => first | k_is | rfl)
    (case hl_Marks_note => first | k_is | rfl)
    (case hc_Marks_note => first | k_is | rfl)
    (case hk_Marks_note => first | k_is | rfl)
    (case hg_Marks_bad => first | k_is | rfl)
    (case hi_Marks_bad => first | k_is | rfl)
    (case hl_Marks_bad => first | k_is | rfl)
    (case hc_Marks_bad => first | k_is | rfl)
    (case hk_Marks_bad => first | k_is | rfl)
    (case hg_End_init => first | k_is | rfl)
    (case hi_End_init => first | k_is | rfl)
    (case hl_End_init => first | k_is | rfl)
    (case hc_End_init => first | k_is | rfl)
    (case hk_End_init => first | k_is | rfl)
    (case hg_End_need_part => first | k_is | rfl)
    (case hi_End_need_part => first | k_is | rfl)
    (case hl_End_need_part => first | k_is | rfl)
    (case hc_End_need_part => first | k_is | rfl)
    (case hk_End_need_part => first | k_is | rfl)
    (case hg_End_refresh => first | k_is | rfl)
    (case hi_End_refresh => first | k_is | rfl)
    (case hl_End_refresh => first | k_is | rfl)
    (case hc_End_refresh => first | k_is | rfl)
    (case hk_End_refresh => first | k_is | rfl)
    (case hg_End_take => first | k_is | rfl)
    (case hi_End_take => first | k_is | rfl)
    (case hl_End_take => first | k_is | rfl)
    (case hc_End_take => first | k_is | rfl)
    (case hk_End_take => first | k_is | rfl)
    (case hg_End_say => first | k_is | rfl)
    (case hi_End_say => first | k_is | rfl)
    (case hl_End_say => first | k_is | rfl)
    (case hc_End_say => first | k_is | rfl)
    (case hk_End_say => first | k_is | rfl)
    (case hg_End_hear => first | k_is | rfl)
    (case hi_End_hear => first | k_is | rfl)
    (case hl_End_hear => first | k_is | rfl)
    (case hc_End_hear => first | k_is | rfl)
    (case hk_End_hear => first | k_is | rfl)
    (case hg_End_hear_slow => first | k_is | rfl)
    (case hi_End_hear_slow => first | k_is | rfl)
    (case hl_End_hear_slow => first | k_is | rfl)
    (case hc_End_hear_slow => first | k_is | rfl)
    (case hk_End_hear_slow => first | k_is | rfl)
    (case hg_End_hear_fast => first | k_is | rfl)
    (case hi_End_hear_fast => first | k_is | rfl)
    (case hl_End_hear_fast => first | k_is | rfl)
    (case hc_End_hear_fast => first | k_is | rfl)
    (case hk_End_hear_fast => first | k_is | rfl)
    (case hg_End_send => first | k_is | rfl)
    (case hi_End_send => first | k_is | rfl)
    (case hl_End_send => first | k_is | rfl)
    (case hc_End_send => first | k_is | rfl)
    (case hk_End_send => first | k_is | rfl)
    (case hg_End_got => first | k_is | rfl)
    (case hi_End_got => first | k_is | rfl)
    (case hl_End_got => first | k_is | rfl)
    (case hc_End_got => first | k_is | rfl)
    (case hk_End_got => first | k_is | rfl)
    (case hg_End_left => first | k_is | rfl)
    (case hi_End_left => first | k_is | rfl)
    (case hl_End_left => first | k_is | rfl)
    (case hc_End_left => first | k_is | rfl)
    (case hk_End_left => first | k_is | rfl)
    (case hg_End_stands => first | k_is | rfl)
    (case hi_End_stands => first | k_is | rfl)
    (case hl_End_stands => first | k_is | rfl)
    (case hc_End_stands => first | k_is | rfl)
    (case hk_End_stands => first | k_is | rfl)
    (case pg_Marks => first | k_is | rfl)
    (case hd_Marks => first | k_is | rfl)
    (case po_Marks => first | k_is | rfl)
    (case mk_Marks => first | k_is | rfl)
    (case kc_Marks => first | k_is | rfl)
    (case sa_Marks => first | k_is | rfl)
    (case no_Marks_waits => first | k_is | rfl)
    (case no_Marks_until => first | k_is | rfl)
    (case no_Marks_runs => first | k_is | rfl)
    (case no_Marks_tries => first | k_is | rfl)
    (case pg_End => first | k_is | rfl)
    (case hd_End => first | k_is | rfl)
    (case po_End => first | k_is | rfl)
    (case mk_End => first | k_is | rfl)
    (case kc_End => first | k_is | rfl)
    (case sa_End => first | k_is | rfl)
    (case no_End_can => first | k_is | rfl)
    (case no_End_marks => first | k_is | rfl)
    (case no_End_over => first | k_is | rfl)
    (case no_End_version => first | k_is | rfl)
    (case no_End_mind => first | k_is | rfl)
    (case no_End_other => first | k_is | rfl)
    (case no_End_seen => first | k_is | rfl)
    (case no_End_known => first | k_is | rfl)
    (case no_End_ready => first | k_is | rfl)
    (case no_End_now => first | k_is | rfl)
    (case no_End_joined => first | k_is | rfl)
    (case no_End_waiting => first | k_is | rfl)
    (case no_End_count => first | k_is | rfl)
    (case no_End_gathered => first | k_is | rfl)
    (case no_End_part => first | k_is | rfl)
    (case x_LineError => k_exc)
    (case k_LineError => first | k_is | rfl)
    (case s_LineError => first | k_is | rfl)
    (case t_LineError => first | k_is | rfl)
    (case x_BadManners => k_exc)
    (case k_BadManners => first | k_is | rfl)
    (case s_BadManners => first | k_is | rfl)
    (case t_BadManners => first | k_is | rfl)
    (case x_BadItem => k_exc)
    (case k_BadItem => first | k_is | rfl)
    (case s_BadItem => first | k_is | rfl)
    (case t_BadItem => first | k_is | rfl)
    (case x_Full => k_exc)
    (case k_Full => first | k_is | rfl)
    (case s_Full => first | k_is | rfl)
    (case t_Full => first | k_is | rfl)
    (case x_BadPart => k_exc)
    (case k_BadPart => first | k_is | rfl)
    (case s_BadPart => first | k_is | rfl)
    (case t_BadPart => first | k_is | rfl)
    (case x_BadCount => k_exc)
    (case k_BadCount => first | k_is | rfl)
    (case s_BadCount => first | k_is | rfl)
    (case t_BadCount => first | k_is | rfl)
    (case x_BadEnd => k_exc)
    (case k_BadEnd => first | k_is | rfl)
    (case s_BadEnd => first | k_is | rfl)
    (case t_BadEnd => first | k_is | rfl)
    (case k_BadStep => first | k_is | rfl)
    (case s_BadStep => first | k_is | rfl)
    (case t_BadStep => first | k_is | rfl)
    (case k_BadLog => first | k_is | rfl)
    (case s_BadLog => first | k_is | rfl)
    (case t_BadLog => first | k_is | rfl)
    (case k_BadText => first | k_is | rfl)
    (case s_BadText => first | k_is | rfl)
    (case t_BadText => first | k_is | rfl)
    (case gs_LE => first | k_is | rfl)
    (case rd_LE => first | k_is | rfl)
    (case fi_LE => first | k_is | rfl)
    (case gx_n => first | k_is | rfl)
    (case gx_t => first | k_is | rfl)
    (case ga_BadManners => first | k_is | rfl)
    (case gg_BadManners => first | k_is | rfl)
    (case hx_BadManners => first | k_is | rfl)
    (case ga_BadCount => first | k_is | rfl)
    (case gg_BadCount => first | k_is | rfl)
    (case hx_BadCount => first | k_is | rfl)
    (case ga_BadItem => first | k_is | rfl)
    (case gg_BadItem => first | k_is | rfl)
    (case hx_BadItem => first | k_is | rfl)
    (case ga_Full => first | k_is | rfl)
    (case gg_Full => first | k_is | rfl)
    (case hx_Full => first | k_is | rfl)
    (case ga_BadPart => first | k_is | rfl)
    (case gg_BadPart => first | k_is | rfl)
    (case hx_BadPart => first | k_is | rfl)
    (case gc_BadManners => first | k_is | rfl)
    (case gm_BadManners => first | k_is | rfl)
    (case ik_BadManners_0 => first | k_is | rfl)
    (case ik_BadManners_1 => first | k_is | rfl)
    (case ik_BadManners_2 => first | k_is | rfl)
    (case ik_BadManners_3 => first | k_is | rfl)
    (case ik_BadManners_4 => first | k_is | rfl)
    (case ik_BadManners_5 => first | k_is | rfl)
    (case ik_BadManners_6 => first | k_is | rfl)
    (case ik_BadManners_7 => first | k_is | rfl)
    (case ik_BadManners_8 => first | k_is | rfl)
    (case iv_BadManners => first | k_is | rfl)
    (case xm_BadManners => first | k_is | rfl)
    (case gc_BadCount => first | k_is | rfl)
    (case gm_BadCount => first | k_is | rfl)
    (case ik_BadCount_0 => first | k_is | rfl)
    (case ik_BadCount_1 => first | k_is | rfl)
    (case ik_BadCount_2 => first | k_is | rfl)
    (case ik_BadCount_3 => first | k_is | rfl)
    (case ik_BadCount_4 => first | k_is | rfl)
    (case ik_BadCount_5 => first | k_is | rfl)
    (case ik_BadCount_6 => first | k_is | rfl)
    (case ik_BadCount_7 => first | k_is | rfl)
    (case ik_BadCount_8 => first | k_is | rfl)
    (case iv_BadCount => first | k_is | rfl)
    (case xm_BadCount => first | k_is | rfl)
    (case gc_BadItem => first | k_is | rfl)
    (case gm_BadItem => first | k_is | rfl)
    (case ik_BadItem_0 => first | k_is | rfl)
    (case ik_BadItem_1 => first | k_is | rfl)
    (case ik_BadItem_2 => first | k_is | rfl)
    (case ik_BadItem_3 => first | k_is | rfl)
    (case ik_BadItem_4 => first | k_is | rfl)
    (case ik_BadItem_5 => first | k_is | rfl)
    (case ik_BadItem_6 => first | k_is | rfl)
    (case ik_BadItem_7 => first | k_is | rfl)
    (case ik_BadItem_8 => first | k_is | rfl)
    (case iv_BadItem => first | k_is | rfl)
    (case xm_BadItem => first | k_is | rfl)
    (case gc_Full => first | k_is | rfl)
    (case gm_Full => first | k_is | rfl)
    (case ik_Full_0 => first | k_is | rfl)
    (case ik_Full_1 => first | k_is | rfl)
    (case ik_Full_2 => first | k_is | rfl)
    (case ik_Full_3 => first | k_is | rfl)
    (case ik_Full_4 => first | k_is | rfl)
    (case ik_Full_5 => first | k_is | rfl)
    (case ik_Full_6 => first | k_is | rfl)
    (case ik_Full_7 => first | k_is | rfl)
    (case ik_Full_8 => first | k_is | rfl)
    (case iv_Full => first | k_is | rfl)
    (case xm_Full => first | k_is | rfl)
    (case gc_BadPart => first | k_is | rfl)
    (case gm_BadPart => first | k_is | rfl)
    (case ik_BadPart_0 => first | k_is | rfl)
    (case ik_BadPart_1 => first | k_is | rfl)
    (case ik_BadPart_2 => first | k_is | rfl)
    (case ik_BadPart_3 => first | k_is | rfl)
    (case ik_BadPart_4 => first | k_is | rfl)
    (case ik_BadPart_5 => first | k_is | rfl)
    (case ik_BadPart_6 => first | k_is | rfl)
    (case ik_BadPart_7 => first | k_is | rfl)
    (case ik_BadPart_8 => first | k_is | rfl)
    (case iv_BadPart => first | k_is | rfl)
    (case xm_BadPart => first | k_is | rfl)
    (case tb_1 => first | k_is | rfl)
    (case tb_2 => first | k_is | rfl)
    (case tb_3 => first | k_is | rfl)
    (case tb_4 => first | k_is | rfl)
    (case tb_1__law_are_counts => first | k_is | rfl)
    (case tb_2__law_are_counts => first | k_is | rfl)
    (case tb_3__law_are_counts => first | k_is | rfl)
    (case tb_4__law_are_counts => first | k_is | rfl)
    (case tb_1__law_are_parts => first | k_is | rfl)
    (case tb_2__law_are_parts => first | k_is | rfl)
    (case tb_3__law_are_parts => first | k_is | rfl)
    (case tb_4__law_are_parts => first | k_is | rfl)
    (case nP__law_are_counts => decide)
    (case nP__law_are_parts => decide)
    (case nP__law_are_counts__law_are_parts => decide)
    (case hv_MOST => first | k_is | rfl)
    (case hv_FIRST => first | k_is | rfl)
    (case hv_LONGEST => first | k_is | rfl)
    (case hv_STAYS => first | k_is | rfl)
    (case hv_LOST => first | k_is | rfl)
    (case hv_LAST => first | k_is | rfl)
    (case hv_MOST_FRAME => first | k_is | rfl)
    (case hv_SLOW => first | k_is | rfl)
    (case hv_FAST => first | k_is | rfl)
    (case hv_MOST_ITEMS => first | k_is | rfl)
    (case hv_MOST_ITEM => first | k_is | rfl)
    (case hv_MOST_ROWS => first | k_is | rfl)
    (case z_ValueError => first | k_is | rfl)
    (case z_abs => first | k_is | rfl)
    (case z_all => first | k_is | rfl)
    (case z_bool => first | k_is | rfl)
    (case z_enumerate => first | k_is | rfl)
    (case z_int => first | k_is | rfl)
    (case z_isinstance => first | k_is | rfl)
    (case z_len => first | k_is | rfl)
    (case z_list => first | k_is | rfl)
    (case z_max => first | k_is | rfl)
    (case z_min => first | k_is | rfl)
    (case z_range => first | k_is | rfl)
    (case z_set => first | k_is | rfl)
    (case z_sorted => first | k_is | rfl)
    (case z_str => first | k_is | rfl)
    (case z_tuple => first | k_is | rfl)
