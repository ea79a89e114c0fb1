import PyProof.Rows.All
import Wide.All
import OpenK.AllK
import Wide.FinOn
import HandS.ForMost
import HandS.Exc
import HandS.TryOnly
import HandS.ExcOwn
import HandS.WordsExc
import HandS.IsInst
import HandS.TupAny
import HandS.SetFor
import HandS.Strs
import HandS.Steps
import HandS.Style
import HandS.Deep
import HandS.Conv
import HandS.More
import HandS.HeadHook3
import KE.GoesNew
import KE.KExcIs
import HandS.ExcIs
import HandS.ExcField
import HandS.ExcInit
import HandS.Lambda
import HandS.EndOwn
import HandS.Nested
import KE.KDflt
import HandS.RaiseMore
import PySem.Challenge.RW_trainline_k17_plays
set_option Elab.async false
set_option linter.all false
set_option maxRecDepth 100000
set_option maxHeartbeats 4000000
namespace TL
open PySem PySem.Spec PyProof.Rows L2
/-! ### heaps -/
/-- what was tracked and isn't in S stays; tuples stay; nothing goes -/
structure Frm (S : List Addr) (H H' : Hp) : Prop where
  keep : ∀ b o, H b = some o → b ∉ S → H' b = some o
  tups : ∀ b ys, H b = some (.tup ys) → H' b = some (.tup ys)
  there : ∀ b o, H b = some o → ∃ o', H' b = some o'
instance {S : List Addr} {H H' : Hp} : CoeFun (Frm S H H') (fun _ => ∀ b o, H b = some o → b ∉ S → H' b = some o) := ⟨Frm.keep⟩
theorem Frm.refl (S : List Addr) (H : Hp) : Frm S H H := ⟨fun _ _ e _ => e, fun _ _ e => e, fun _ o e => ⟨o, e⟩⟩
theorem Frm.trans {S : List Addr} {H H1 H2 : Hp} (a : Frm S H H1) (b : Frm S H1 H2) : Frm S H H2 := ⟨fun c o e h => b.keep c o (a.keep c o e h) h, fun c o e => b.tups c o (a.tups c o e), fun c o e => let ⟨o', e'⟩ := a.there c o e; b.there c o' e'⟩
theorem Frm.mono {S S' : List Addr} {H H1 : Hp} (a : Frm S H H1) (h : ∀ x ∈ S, x ∈ S') : Frm S' H H1 := ⟨fun c o e hn => a.keep c o e fun z => hn (h _ z), a.tups, a.there⟩
theorem Frm.of_same {S : List Addr} {H H1 : Hp} (a : Same H H1) : Frm S H H1 := ⟨fun c o e _ => a c o e, fun c o e => a c _ e, fun c o e => ⟨o, a c o e⟩⟩
theorem Frm.same {H H1 : Hp} (a : Frm [] H H1) : Same H H1 := fun c o e => a.keep c o e (by simp)
theorem upd_there {H : Hp} {d b : Addr} {o u : HO} (e : H b = some u) : ∃ o', L2.upd H d o b = some o' := by
  by_cases h : b = d
  · subst h; exact ⟨o, upd_same⟩
  · exact ⟨u, by rw [upd_ne h]; exact e⟩
/-- something that is no tuple is written -/
theorem Frm.updN {H : Hp} {d : Addr} {o : HO} (n : ∀ ys, H d ≠ some (.tup ys)) : Frm [d] H (L2.upd H d o) := ⟨fun b u e h => by
  rw [upd_ne (fun z => h (by simp [z]))]
  exact e, fun b ys e => by
  rw [upd_ne (fun z => by rw [z] at e; exact n ys e)]
  exact e, fun b u e => upd_there e⟩
theorem Frm.updL {H : Hp} {d : Addr} {o : HO} {xs : List V} (h : H d = some (.lst xs)) : Frm [d] H (L2.upd H d o) := Frm.updN fun ys z => by rw [h] at z; cases z
theorem Frm.updI {H : Hp} {d C dx : Addr} {o : HO} {fs : List (Str × V)} (h : H d = some (.ins C dx fs)) : Frm [d] H (L2.upd H d o) := Frm.updN fun ys z => by rw [h] at z; cases z
theorem Frm.updK {H : Hp} {d : Addr} {o : HO} {kvs : List (Key × V)} (h : H d = some (.dK kvs)) : Frm [d] H (L2.upd H d o) := Frm.updN fun ys z => by rw [h] at z; cases z
theorem Frm.new {S : List Addr} {H : Hp} {p : Addr} {o : HO} (n : H p = none) : Frm S H (L2.upd H p o) := ⟨fun b u e _ => by
  rw [upd_ne (ne_of_none e n)]
  exact e, fun b u e => by
  rw [upd_ne (ne_of_none e n)]
  exact e, fun b u e => upd_there e⟩
/-- what is written was made since: all that stood ahead stands -/
theorem Frm.own {S : List Addr} {H H1 H2 : Hp} (a : Frm S H H1) {l : Addr} (hl : H l = none) (b : Frm [l] H1 H2) : Frm S H H2 := ⟨fun c o e h => b.keep c o (a.keep c o e h) (by
  simp only [List.mem_singleton]
  exact ne_of_none e hl), fun c o e => b.tups c o (a.tups c o e), fun c o e => let ⟨o', e'⟩ := a.there c o e; b.there c o' e'⟩
theorem Frm.free {S : List Addr} {H H1 : Hp} (a : Frm S H H1) {l : Addr} (h : H1 l = none) : H l = none := by
  cases q : H l with
  | none => rfl
  | some o =>
    obtain ⟨o', e⟩ := a.there l o q
    rw [e] at h
    cases h
/-- all that S names stands -/
def Alloc (S : List Addr) (H : Hp) : Prop := ∀ z ∈ S, ∃ o, H z = some o
theorem Alloc.frm {S Z : List Addr} {H H' : Hp} (a : Alloc Z H) (f : Frm S H H') : Alloc Z H' := fun z hz => let ⟨o, e⟩ := a z hz; f.there z o e
theorem Alloc.not {Z : List Addr} {H : Hp} (a : Alloc Z H) {l : Addr} (h : H l = none) : l ∉ Z := fun z => by
  obtain ⟨o, e⟩ := a l z
  rw [h] at e
  cases e
/-! ### attributes by their places -/
theorem zip_lookup : ∀ {N : List Str} {vs : List V} {i : Nat} {f : Str} {v : V}, N.Nodup → N[i]? = some f → vs[i]? = some v → (N.zip vs).lookup f = some v
  | [], _, _, _, _, _, h, _ => by simp at h
  | _ :: _, [], _, _, _, _, _, h => by simp at h
  | n :: N, x :: vs, 0, f, v, nd, h, g => by
    simp at h g
    subst h g
    simp [List.lookup]
  | n :: N, x :: vs, i + 1, f, v, nd, h, g => by
    rw [List.nodup_cons] at nd
    simp at h g
    have hne : (f == n) = false := by
      rw [beq_eq_false_iff_ne]
      rintro rfl
      exact nd.1 (List.mem_of_getElem? h)
    rw [List.zip_cons_cons, List.lookup, hne]
    exact zip_lookup nd.2 h g
theorem zip_no : ∀ {N : List Str} {vs : List V} {f : Str}, f ∉ N → (N.zip vs).lookup f = none
  | [], _, _, _ => rfl
  | _ :: _, [], _, _ => rfl
  | n :: N, x :: vs, f, h => by
    simp at h
    have hne : (f == n) = false := by rw [beq_eq_false_iff_ne]; exact h.1
    rw [List.zip_cons_cons, List.lookup, hne]
    exact zip_no h.2
/-- an attribute is stored again -/
theorem zip_put : ∀ {N : List Str} {vs : List V} {i : Nat} {f : Str} {v : V}, N.Nodup → N[i]? = some f → i < vs.length → putF f v (N.zip vs) = N.zip (vs.set i v)
  | [], _, _, _, _, _, h, _ => by simp at h
  | _ :: _, [], _, _, _, _, _, h => by simp at h
  | n :: N, x :: vs, 0, f, v, nd, h, g => by
    simp at h
    subst h
    simp [putF]
  | n :: N, x :: vs, i + 1, f, v, nd, h, g => by
    rw [List.nodup_cons] at nd
    simp at h g
    have hne : ¬ n = f := by
      rintro rfl
      exact nd.1 (List.mem_of_getElem? h)
    rw [List.zip_cons_cons]
    show (if n = f then _ else _) = _
    rw [if_neg hne, zip_put nd.2 h g]
    rfl
/-- an attribute is stored for the first time, the next by its place -/
theorem zip_add : ∀ {N : List Str} {vs : List V} {f : Str} {v : V}, N.Nodup → N[vs.length]? = some f → putF f v (N.zip vs) = N.zip (vs ++ [v])
  | [], _, _, _, _, h => by simp at h
  | n :: N, [], f, v, nd, h => by
    simp at h
    subst h
    simp [putF]
  | n :: N, x :: vs, f, v, nd, h => by
    rw [List.nodup_cons] at nd
    simp at h
    have hne : ¬ n = f := by
      rintro rfl
      exact nd.1 (List.mem_of_getElem? h)
    rw [List.zip_cons_cons]
    show (if n = f then _ else _) = _
    rw [if_neg hne, zip_add nd.2 h]
    rfl
theorem zip_small {N : List Str} {vs : List V} (h : N.length < 1000) : (N.zip vs).length < 1000 := by
  rw [List.length_zip]
  omega
theorem Same.upd_new {H : Hp} {p : Addr} {o : HO} (n : H p = none) : Same H (L2.upd H p o) := fun b u e => by
  rw [upd_ne (ne_of_none e n)]
  exact e
/-- a tuple isn't among what may be written -/
theorem iteD {p A B : Prop} [Decidable p] (h1 : p → A) (h2 : ¬ p → B) : if decide p = true then A else B := by
  by_cases h : p
  · rw [if_pos (decide_eq_true h)]
    exact h1 h
  · rw [if_neg (by simp [h])]
    exact h2 h
theorem iteN {p A B : Prop} [Decidable p] (h1 : ¬ p → A) (h2 : p → B) : if (!decide p) = true then A else B := by
  by_cases h : p
  · rw [if_neg (by simp [h])]
    exact h2 h
  · rw [if_pos (by simp [h])]
    exact h1 h
theorem iteB {b : Bool} {A B : Prop} (h1 : b = true → A) (h2 : b = false → B) : if b = true then A else B := by
  cases b
  · rw [if_neg (by simp)]; exact h2 rfl
  · rw [if_pos rfl]; exact h1 rfl
theorem vint_inj {i j : Int} : (V.int i = V.int j) ↔ i = j := ⟨fun h => by cases h; rfl, fun h => by rw [h]⟩
theorem getmap {α : Type} {f : α → V} {ns : List α} {i : Nat} {y : V} (h : (ns.map f)[i]? = some y) : ∃ z, ns[i]? = some z ∧ y = f z := by
  rw [List.getElem?_map] at h
  cases e : ns[i]? with
  | none => rw [e] at h; cases h
  | some z => rw [e] at h; exact ⟨z, rfl, (Option.some.inj h).symm⟩
theorem take_more {α : Type} : ∀ {l : List α} {i : Nat} {x : α}, l[i]? = some x → l.take (i + 1) = l.take i ++ [x]
  | [], i, x, h => by simp at h
  | a :: l, 0, x, h => by
    have e : a = x := Option.some.inj h
    subst e
    rfl
  | a :: l, i + 1, x, h => by
    have ih := take_more (l := l) (i := i) (x := x) h
    show a :: l.take (i + 1) = a :: l.take i ++ [x]
    rw [ih]
    rfl
/-! ### loops over enumerate(..) -/
/-- the invariant of a for over J -/
abbrev ForW (J : It) (g : TG) (tb : TS) (D : Ends) (σ : L2.St) (H : Hp) : Prop :=
  ∃ W : Nat → Nat → L2.St → Hp → Prop, (∃ m, W 0 m σ H) ∧ ∀ i m σ H, W i m σ H → (J.stop i H ∧ D.nx σ H) ∨
    (J.go i H ∧ ∃ N : L2.St → Hp → Prop, (∀ σ' H', N σ' H' → ∃ m', m' < m ∧ W (i + 1) m' σ' H') ∧ ∀ x H', J.yld i H x H' → g x σ H' fun σ2 H2 => tb { D with nx := N, ct := N, bk := D.nx } σ2 H2)
abbrev LcW (J : It) (g : TG) (tt : TT) (te : TE) (vs : List Nat) (σ : L2.St) (H1 : Hp) (D : Addr) (Qd : Hp → Prop) : Prop :=
  ∃ W : Nat → Nat → Hp → Prop, (∃ m, W 0 m (upd H1 D (.lst []))) ∧ ∀ i m H, W i m H → (J.stop i H ∧ Qd H) ∨
    (J.go i H ∧ ∃ Nx : Hp → Prop, (∀ H', Nx H' → ∃ m', m' < m ∧ W (i + 1) m' H') ∧ ∀ x H', J.yld i H x H' → g x (wipe σ vs) H' fun σ2 H2 => wipe σ2 vs = wipe σ vs ∧ tt σ2 H2 fun b H3 =>
      if b = true then te σ2 H3 fun y H4 => ∃ acc, H4 D = some (.lst acc) ∧ acc.length < sizeLine ∧ Nx (upd H4 D (.lst (acc ++ [y]))) else Nx H3)
theorem for_enum {K : PySem.W.Frag} {a : Addr} {xs : List V} {g : TG} {tb : TS} {D : Ends} {σ : L2.St} {H : Hp} (Pv : Nat → L2.St → Hp → Prop) (h0 : Pv 0 σ H) (hl : ∀ i σ H, i ≤ xs.length → Pv i σ H → SqL K H a xs)
    (hs : ∀ (i : Nat) (x : V) (T : Addr) (σ : L2.St) (H : Hp), xs[i]? = some x → Pv i σ H → H T = none → g (.ref T) σ (upd H T (.tup [.int (i : Nat), x])) fun σ2 H2 => tb { D with nx := Pv (i + 1), ct := Pv (i + 1), bk := D.nx } σ2 H2)
    (hd : ∀ σ H, Pv xs.length σ H → D.nx σ H) : ForW (Ite K a) g tb D σ H := by
  refine ⟨fun i m σ H => m = xs.length - i ∧ i ≤ xs.length ∧ Pv i σ H, ⟨_, rfl, Nat.zero_le _, h0⟩, fun i m σ H hw => ?_⟩
  obtain ⟨rfl, hi, p⟩ := hw
  have q := hl i σ H hi p
  rcases Nat.lt_or_ge i xs.length with hlt | hge
  · refine .inr ⟨⟨xs, xs[i], q, by simp [hlt]⟩, Pv (i + 1), fun σ' H' p' => ⟨xs.length - (i + 1), by omega, rfl, hlt, p'⟩, fun v H' y => ?_⟩
    obtain ⟨T, x, rfl, hT, rfl, hx⟩ := y
    exact hs i x T σ H (hx xs q) p hT
  · have e : i = xs.length := by omega
    subst e
    exact .inl ⟨⟨xs, q, Nat.le_refl _⟩, hd σ H p⟩
theorem lc_enum {K : PySem.W.Frag} {a : Addr} {xs : List V} {g : TG} {tt : TT} {te : TE} {vs : List Nat} {σ : L2.St} {H1 : Hp} {D : Addr} {Qd : Hp → Prop} (Pv : Nat → Hp → Prop) (h0 : Pv 0 (upd H1 D (.lst []))) (hl : ∀ i H, i ≤ xs.length → Pv i H → SqL K H a xs)
    (hs : ∀ (i : Nat) (x : V) (T : Addr) (H : Hp), xs[i]? = some x → Pv i H → H T = none → g (.ref T) (wipe σ vs) (upd H T (.tup [.int (i : Nat), x])) fun σ2 H2 => wipe σ2 vs = wipe σ vs ∧ tt σ2 H2 fun b H3 =>
      if b = true then te σ2 H3 fun y H4 => ∃ acc, H4 D = some (.lst acc) ∧ acc.length < sizeLine ∧ Pv (i + 1) (upd H4 D (.lst (acc ++ [y]))) else Pv (i + 1) H3)
    (hd : ∀ H, Pv xs.length H → Qd H) : LcW (Ite K a) g tt te vs σ H1 D Qd := by
  refine ⟨fun i m H => m = xs.length - i ∧ i ≤ xs.length ∧ Pv i H, ⟨_, rfl, Nat.zero_le _, h0⟩, fun i m H hw => ?_⟩
  obtain ⟨rfl, hi, p⟩ := hw
  have q := hl i H hi p
  rcases Nat.lt_or_ge i xs.length with hlt | hge
  · refine .inr ⟨⟨xs, xs[i], q, by simp [hlt]⟩, Pv (i + 1), fun H' p' => ⟨xs.length - (i + 1), by omega, rfl, hlt, p'⟩, fun v H' y => ?_⟩
    obtain ⟨T, x, rfl, hT, rfl, hx⟩ := y
    exact hs i x T H (hx xs q) p hT
  · have e : i = xs.length := by omega
    subst e
    exact .inl ⟨⟨xs, q, Nat.le_refl _⟩, hd H p⟩
/-! ### o.f as one of several targets -/
def gFld (K : PySem.W.Frag) (to : TE) (f : Str) : TG := fun v σ H Q => to σ H fun x H1 => ∃ a C dx fs, x = .ref a ∧ H1 a = some (.ins C dx fs) ∧ Cls K C ∧ NoAttr K C f ∧ fs.length < 1000 ∧ Q σ (upd H1 a (.ins C dx (putF f v fs)))
theorem pg_fld {X : Cx} {o : Expr} {f : Str} {pos : Pos} {to : TE} (ho : PE X o to) : PG X (.Attribute o f pos) (gFld X.K to f) := by
  refine ⟨fun pins s σ H v u Q I r h => ?_⟩
  rw [assign_Attribute]
  refine wpAny_bind (wpAny_holding (thn (ho.run pins s σ H _ I h) fun ov s1 ⟨x, H1, I1, rx, a, C, dx, fs, ex, ea, c, n, l, q⟩ => ?_))
  subst ex
  obtain rfl : ov = Value.ref a := rx
  refine wpAny_bind (wpAny_standAt (wpAny_bind (wpAny_holding (setattr_ok I1 ea c n l r fun s2 I2 => ?_))))
  exact wpAny_release ⟨σ, _, I2, q⟩
/-! ### a comprehension within a comprehension -/
def FrIn (sc : Scope) : List Str → Prop
  | [] => True
  | n :: r => (sc.names.lookup n = some .cell ∨ sc.names.lookup n = some .free) ∧ FrIn sc r
def frees (scope : Scope) : List Str := (scope.names.filter fun y => y.2 == .free).map (·.1)
def blkD (N : List Str) (scope : Scope) (own : List (Str × Nat)) : Bool :=
  (match scope.kind with | .function => true | _ => false) && (scope.names.all fun y => decide (scope.names.lookup y.1 = some y.2)) && (own.all fun p => decide (N[p.2]? = some p.1)) &&
    (scope.names.all fun y => match y.2 with
      | .local => decide (y.1 ∈ own.map (·.1)) || decide (y.1 ∉ N)
      | .cell => decide (y.1 ∈ own.map (·.1)) || decide (y.1 ∉ N)
      | _ => true)
theorem FrIn.of {sc : Scope} : ∀ {l : List Str} {n : Str}, FrIn sc l → n ∈ l → sc.names.lookup n = some .cell ∨ sc.names.lookup n = some .free
  | [], _, _, h => by simp at h
  | a :: r, n, f, h => by
    rcases List.mem_cons.mp h with rfl | h
    · exact f.1
    · exact FrIn.of f.2 h
theorem blkOk_in {N : List Str} {sc scope : Scope} {own : List (Str × Nat)} (h : blkD N scope own = true) (hf : FrIn sc (frees scope)) : BlkOk N sc scope own := by
  unfold blkD at h
  simp only [Bool.and_eq_true, List.all_eq_true, decide_eq_true_eq] at h
  obtain ⟨⟨⟨h1, h2⟩, h3⟩, h4⟩ := h
  refine ⟨?_, h2, h3, fun y hy e => ?_, fun y hy e => ?_⟩
  · split at h1
    · assumption
    · cases h1
  · refine hf.of ?_
    unfold frees
    rw [List.mem_map]
    exact ⟨y, by rw [List.mem_filter]; exact ⟨hy, by rw [e]; rfl⟩, rfl⟩
  · have q := h4 y hy
    rcases e with e | e
    · rw [e] at q
      simpa using q
    · rw [e] at q
      simpa using q
/-- a comprehension over a list of two -/
theorem lc_two {K : PySem.W.Frag} {a : Addr} {v0 v1 : V} {g : TG} {tt : TT} {te : TE} {vs : List Nat} {σ : L2.St} {H1 : Hp} {D : Addr} {Qd : Hp → Prop} (P0 P1 P2 : Hp → Prop) (h0 : P0 (upd H1 D (.lst []))) (l0 : ∀ H, P0 H → SqL K H a [v0, v1]) (l1 : ∀ H, P1 H → SqL K H a [v0, v1]) (l2 : ∀ H, P2 H → SqL K H a [v0, v1])
    (s0 : ∀ H, P0 H → g v0 (wipe σ vs) H fun σ2 H2 => wipe σ2 vs = wipe σ vs ∧ tt σ2 H2 fun b H3 => if b = true then te σ2 H3 fun y H4 => ∃ acc, H4 D = some (.lst acc) ∧ acc.length < sizeLine ∧ P1 (upd H4 D (.lst (acc ++ [y]))) else P1 H3)
    (s1 : ∀ H, P1 H → g v1 (wipe σ vs) H fun σ2 H2 => wipe σ2 vs = wipe σ vs ∧ tt σ2 H2 fun b H3 => if b = true then te σ2 H3 fun y H4 => ∃ acc, H4 D = some (.lst acc) ∧ acc.length < sizeLine ∧ P2 (upd H4 D (.lst (acc ++ [y]))) else P2 H3)
    (hd : ∀ H, P2 H → Qd H) : LcW (Itl K a) g tt te vs σ H1 D Qd := by
  refine lc_list (K := K) (a := a) (xs := [v0, v1]) (fun i H => match i with | 0 => P0 H | 1 => P1 H | _ => P2 H) h0 ?_ ?_ hd
  · intro i H hi p
    match i, p with
    | 0, p => exact l0 H p
    | 1, p => exact l1 H p
    | _ + 2, p => exact l2 H p
  · intro i x H hx p
    match i, hx, p with
    | 0, hx, p =>
      have e : v0 = x := Option.some.inj hx
      subst e
      exact s0 H p
    | 1, hx, p =>
      have e : v1 = x := Option.some.inj hx
      subst e
      exact s1 H p
    | n + 2, hx, p => simp at hx
/-- a loop over 0, 1 -/
theorem for_two {g : TG} {tb : TS} {D : Ends} {σ : L2.St} {H : Hp} (P0 P1 P2 : L2.St → Hp → Prop) (h0 : P0 σ H)
    (s0 : ∀ σ H, P0 σ H → g (.int 0) σ H fun σ2 H2 => tb { D with nx := P1, ct := P1, bk := D.nx } σ2 H2)
    (s1 : ∀ σ H, P1 σ H → g (.int 1) σ H fun σ2 H2 => tb { D with nx := P2, ct := P2, bk := D.nx } σ2 H2)
    (hd : ∀ σ H, P2 σ H → D.nx σ H) : ForW (Itr 0 2) g tb D σ H := by
  refine for_range (lo := 0) (n := 2) (fun i σ H => match i with | 0 => P0 σ H | 1 => P1 σ H | _ => P2 σ H) h0 ?_ hd
  intro i σ H hi p
  match i, hi, p with
  | 0, _, p => exact s0 σ H p
  | 1, _, p => exact s1 σ H p
/-! ### where ways come together -/
/-- behind t N holds, and from N on the rest goes -/
def tCut (t : TS) : TS := fun D σ H => ∃ N : L2.St → Hp → Prop, t { D with nx := N } σ H ∧ ∀ σ' H', N σ' H' → D.nx σ' H'
theorem ps_cut {X : Cx} {st : Stmt} {t : TS} (h : PS X st t) : PS X st (tCut t) := ⟨fun pins s σ H D I ⟨N, h1, h2⟩ => thn (h.run pins s σ H { D with nx := N } I h1) fun f s' q => by
  cases f with
  | next =>
    obtain ⟨σ', H', I', n⟩ := q
    exact ⟨σ', H', I', h2 _ _ n⟩
  | brk => exact q
  | cont => exact q
  | ret u => exact q⟩
/-- the same of an expression: its value, and of a test -/
def tCutE (t : TE) : TE := fun σ H Q => ∃ N : VK, t σ H N ∧ ∀ v H', N v H' → Q v H'
theorem pe_cut {X : Cx} {e : Expr} {t : TE} (h : PE X e t) : PE X e (tCutE t) := ⟨fun pins s σ H Q I ⟨N, h1, h2⟩ => thn (h.run pins s σ H N I h1) fun u s' ⟨x, H', I', r, n⟩ => ⟨x, H', I', r, h2 _ _ n⟩⟩
def tCutT (t : TT) : TT := fun σ H Q => ∃ N : Bool → Hp → Prop, t σ H N ∧ ∀ b H', N b H' → Q b H'
theorem pt_cut {X : Cx} {e : Expr} {t : TT} (h : PT X e t) : PT X e (tCutT t) := ⟨fun pins s σ H Q I ⟨N, h1, h2⟩ => thn (h.run pins s σ H N I h1) fun c s' ⟨H', I', n⟩ => ⟨H', I', h2 _ _ n⟩⟩
/-! ### set(t), t a tuple of whole numbers -/
section
variable {X : Cx}
def rSetT (K : PySem.W.Frag) (w : World) : List V → Hp → VK → Prop := fun xs H Q => ∃ (p : Addr) (ns : List Int), xs = [.ref p] ∧ SqT K H p (ns.map V.int) ∧ ns.length ≤ 1000 ∧
  ∀ (q : Addr) (c : Nat), H q = none → c ≤ ns.length → Q (.ref q) (upd H q (SetO w q (fun j => decide (j ∈ ns)) c))
theorem cr_setT (hc : X.calm = true) : CallR X (.type "set") (rSetT X.K X.w) := by
  intro pins s σ H xs us Q I rv h
  obtain ⟨p0, ns, rfl, hq, hl, q⟩ := h
  cases rv with
  | cons r rr =>
    cases rr
    cases r
    obtain ⟨its, rv, pt, hz⟩ := I.tuple hq
    have hi : IntsAre its.toArray.toList ns := ints_of_vals rv
    refine call_set_tupI ns (I.ok.hd hc) (show s.heap.IsTuple p0 its.toArray from pt) hi (by unfold scanBound; omega) fun h' tk c R1 hcn k => ?_
    exact ⟨.ref _, upd H s.heap.objs.size (SetO X.w s.heap.objs.size (fun j => decide (j ∈ ns)) c), I.laid (t' := tk) k (Nat.le_refl _) (setO_new R1), rfl, q _ _ (I.hok.fresh (Nat.le_refl _)) hcn⟩
/-! ### xs.count(y), flat items -/
def rCountF (K : PySem.W.Frag) : V → List V → Hp → VK → Prop := fun x xs H Q => ∃ (p : Addr) (ys : List V) (y : V), x = .ref p ∧ xs = [y] ∧ SqL K H p ys ∧ flatV y = true ∧ ys.all flatV = true ∧ Q (.int (ys.countP (fun z => eqV z y) : Nat)) H
theorem countP_eqU {y : V} : ∀ {ys : List V} {us : List Value}, Vals ys us → ys.all flatV = true → us.countP (eqU y) = ys.countP (fun z => eqV z y)
  | _, _, .nil, _ => rfl
  | _, _, .cons r t, f => by
    simp only [List.all_cons, Bool.and_eq_true] at f
    rw [List.countP_cons, List.countP_cons, countP_eqU t f.2, eqU_of r f.1]
theorem mt_countF : MtR X "list.count" (rCountF X.K) := by
  intro pins s σ H x xs v us Q I rx rxs h
  obtain ⟨p, ys, y, rfl, rfl, hs, fy, fys, q⟩ := h
  cases rx
  obtain ⟨u, rfl, ru⟩ := rxs.one
  obtain ⟨its, rv, ⟨⟨cls, dd, data, sl⟩, n, ho, hc, hdn, hd⟩, hlen⟩ := I.list hs
  simp only at hc hd
  subst hc hd
  refine call_meets PySem.F.slot_list_count ⟨_, ho, rfl⟩ PySem.F.entry_list_count (PySem.F.args_list_count_2 _ _)
    (SeqAt.list_countAt p its.toArray n dd sl u (eqU y)) ⟨ho, fun z hz => mem_eqAt ru fy rv fys z (by simpa using hz), ?_⟩
  have ec : its.toArray.toList.countP (eqU y) = ys.countP (fun z => eqV z y) := countP_eqU rv fys
  refine ⟨.int (ys.countP (fun z => eqV z y) : Nat), H, I.tok _, ⟨s.toks, ?_⟩, q⟩
  show Value.int ((its.toArray.toList.countP (eqU y) : Nat) : Int) s.toks = Value.int ((ys.countP (fun z => eqV z y) : Nat) : Int) s.toks
  rw [ec]
end
theorem count_int (ns : List Int) (k : Int) : (ns.map V.int).countP (fun z => eqV z (.int k)) = ns.count k := by
  induction ns with
  | nil => rfl
  | cons a r ih =>
    rw [List.map_cons, List.countP_cons, ih, List.count_cons]
    rfl
/-! ### data and ints -/
theorem flat_ints (ns : List Int) : (ns.map V.int).all flatV = true := by
  rw [List.all_map, List.all_eq_true]
  intro _ _
  rfl
theorem inV_int (k : Int) (ns : List Int) : inV (.int k) (ns.map V.int) = decide (k ∈ ns) := by
  unfold inV
  rw [List.any_map]
  induction ns with
  | nil => rfl
  | cons a r ih =>
    rw [List.any_cons, ih]
    show (a == k || decide (k ∈ r)) = _
    by_cases e : a = k
    · subst e; simp
    · have e' : ¬ k = a := fun z => e z.symm
      simp [e, e']
end TL

namespace L2
open PySem PySem.Spec PyProof.Rows
mutual
theorem Dp.same {K : PySem.W.Frag} {H H' : Hp} (e : Same H H') : ∀ {x : V} {d : PyData}, Dp K H x d → Dp K H' x d
  | _, _, .non => .non
  | _, _, .bl b => .bl b
  | _, _, .int i => .int i
  | _, _, .str z => .str z
  | _, _, .lst h a => .lst (e.seq h) (DpAll.same e a)
  | _, _, .tup h a => .tup (by
      rcases h with (h | ⟨o, h⟩) | h
      · exact .inl (.inl (e _ _ h))
      · exact .inl (.inr ⟨o, e _ _ h⟩)
      · exact .inr h) (DpAll.same e a)
theorem DpAll.same {K : PySem.W.Frag} {H H' : Hp} (e : Same H H') : ∀ {xs : List V} {ds : List PyData}, DpAll K H xs ds → DpAll K H' xs ds
  | _, _, .nil => .nil
  | _, _, .cons h t => .cons (Dp.same e h) (DpAll.same e t)
end
theorem SqT_same {K : PySem.W.Frag} {H H' : Hp} {a : Addr} {xs : List V} (e : Same H H') (h : SqT K H a xs) : SqT K H' a xs := by
  rcases h with (h | ⟨o, h⟩) | h
  · exact .inl (.inl (e _ _ h))
  · exact .inl (.inr ⟨o, e _ _ h⟩)
  · exact .inr h
theorem DpAll.length {K : PySem.W.Frag} {H : Hp} : ∀ {xs : List V} {ds : List PyData}, DpAll K H xs ds → xs.length = ds.length
  | _, _, .nil => rfl
  | _, _, .cons _ t => by rw [List.length_cons, List.length_cons, DpAll.length t]
theorem DpAll.get {K : PySem.W.Frag} {H : Hp} : ∀ {xs : List V} {ds : List PyData} {i : Nat} {d : PyData}, DpAll K H xs ds → ds[i]? = some d → ∃ x, xs[i]? = some x ∧ Dp K H x d
  | _, _, i, d, .nil, e => by simp at e
  | _, _, 0, d, .cons h t, e => by simp at e; subst e; exact ⟨_, rfl, h⟩
  | _, _, i + 1, d, .cons h t, e => by
    obtain ⟨x, h1, h2⟩ := DpAll.get (i := i) (d := d) t (by simpa using e)
    exact ⟨x, by simpa using h1, h2⟩
theorem dp_ints {K : PySem.W.Frag} {H : Hp} : ∀ ns : List Int, DpAll K H (ns.map V.int) (ns.map PyData.int)
  | [] => .nil
  | n :: r => .cons (.int n) (dp_ints r)
theorem DpAll.append {K : PySem.W.Frag} {H : Hp} : ∀ {xs ys : List V} {ds es : List PyData}, DpAll K H xs ds → DpAll K H ys es → DpAll K H (xs ++ ys) (ds ++ es)
  | _, _, _, _, .nil, b => b
  | _, _, _, _, .cons h t, b => .cons h (DpAll.append t b)
theorem DpAll.get' {K : PySem.W.Frag} {H : Hp} : ∀ {xs : List V} {ds : List PyData} {i : Nat} {x : V}, DpAll K H xs ds → xs[i]? = some x → ∃ d, ds[i]? = some d ∧ Dp K H x d
  | _, _, i, d, .nil, e => by simp at e
  | _, _, 0, d, .cons h t, e => by simp at e; subst e; exact ⟨_, rfl, h⟩
  | _, _, i + 1, d, .cons h t, e => by
    obtain ⟨x, h1, h2⟩ := DpAll.get' (i := i) (x := d) t (by simpa using e)
    exact ⟨x, by simpa using h1, h2⟩
theorem DpAll.ints_inv {K : PySem.W.Frag} {H : Hp} : ∀ {xs : List V} {ns : List Int}, DpAll K H xs (ns.map .int) → xs = ns.map V.int
  | _, [], .nil => rfl
  | _, n :: r, .cons h t => by
    cases h
    rw [List.map_cons, DpAll.ints_inv t]
end L2
namespace TL
open PySem PySem.Spec PyProof.Rows L2
/-! ### isinstance, by the kinds -/
theorem kb_ii : kitB "int" "int" = some true := by decide +kernel
theorem kb_ib : kitB "int" "bool" = some false := by decide +kernel
theorem kb_is : kitB "int" "str" = some false := by decide +kernel
theorem kb_it : kitB "int" "tuple" = some false := by decide +kernel
theorem kb_il : kitB "int" "list" = some false := by decide +kernel
theorem kb_bi : kitB "bool" "int" = some true := by decide +kernel
theorem kb_bb : kitB "bool" "bool" = some true := by decide +kernel
theorem kb_bt : kitB "bool" "tuple" = some false := by decide +kernel
theorem kb_bs : kitB "bool" "str" = some false := by decide +kernel
theorem kb_si : kitB "str" "int" = some false := by decide +kernel
theorem kb_sb : kitB "str" "bool" = some false := by decide +kernel
theorem kb_ss : kitB "str" "str" = some true := by decide +kernel
theorem kb_st : kitB "str" "tuple" = some false := by decide +kernel
theorem kb_ni : kitB "NoneType" "int" = some false := by decide +kernel
theorem kb_nb : kitB "NoneType" "bool" = some false := by decide +kernel
theorem kb_nt : kitB "NoneType" "tuple" = some false := by decide +kernel
theorem kb_ns : kitB "NoneType" "str" = some false := by decide +kernel
theorem kb_ti : kitB "tuple" "int" = some false := by decide +kernel
theorem kb_tb : kitB "tuple" "bool" = some false := by decide +kernel
theorem kb_ts : kitB "tuple" "str" = some false := by decide +kernel
theorem kb_tt : kitB "tuple" "tuple" = some true := by decide +kernel
theorem kb_tl : kitB "tuple" "list" = some false := by decide +kernel
theorem kb_li : kitB "list" "int" = some false := by decide +kernel
theorem kb_lb : kitB "list" "bool" = some false := by decide +kernel
theorem kb_ls : kitB "list" "str" = some false := by decide +kernel
theorem kb_lt : kitB "list" "tuple" = some false := by decide +kernel
theorem kb_ll : kitB "list" "list" = some true := by decide +kernel
theorem tyx_L {K : PySem.W.Frag} {H : Hp} {a : Addr} {xs : List V} (h : SqL K H a xs) : TyX K H (.ref a) (.type "list") := by
  rcases h with (h | ⟨o, h⟩) | ⟨o, its, n, hk, hc, _⟩
  · exact .base (.lst h)
  · exact .base (.frz h)
  · exact .kList hk hc
theorem tyx_T {K : PySem.W.Frag} {H : Hp} {a : Addr} {xs : List V} (h : SqT K H a xs) : TyX K H (.ref a) (.type "tuple") := by
  rcases h with (h | ⟨o, h⟩) | ⟨o, its, n, hk, hc, _⟩
  · exact .base (.tup h)
  · exact .fTuple h
  · exact .kTuple hk hc
/-- what is, by its kind: the type that isinstance asks -/
def kty : PyData → String
  | .none => "NoneType" | .bool _ => "bool" | .int _ => "int" | .str _ => "str" | .list _ => "list" | .tuple _ => "tuple" | .dict _ => "dict"
theorem tyx_D {K : PySem.W.Frag} {H : Hp} {x : V} {d : PyData} (h : Dp K H x d) : TyX K H x (.type (kty d)) := by
  cases h with
  | non => exact .base .non
  | bl b => exact .base (.bl b)
  | int i => exact .base (.int i)
  | str z => exact .base (.str z)
  | lst h _ => exact tyx_L h
  | tup h _ => exact tyx_T h
/-- isinstance(x, c) of data -/
theorem isi_D {K : PySem.W.Frag} {H : Hp} {x : V} {d : PyData} {c : String} {b : Bool} {Q : VK} (h : Dp K H x d) (k : kitB (kty d) c = some b) (q : Q (.bl b) H) : rIsi K [x, .ty c] H Q :=
  ⟨x, .ty c, _, _, b, rfl, .ty c, tyx_D h, kit_ty k, q⟩
/-- numbers, texts, truths, None, lists and tuples of these, nested no more than n deep -/
def lv : Nat → PyData → Prop
  | _, .none => True | _, .bool _ => True | _, .int _ => True | _, .str x => (PyData.str x).canLay0 = true
  | n + 1, .list ds => ds.length ≤ 100000 ∧ ∀ d ∈ ds, lv n d
  | n + 1, .tuple ds => ds.length ≤ 100000 ∧ ∀ d ∈ ds, lv n d
  | _, _ => False
/-- such data are laid out and compared -/
theorem lv_ok : ∀ (n : Nat) (d : PyData), lv n d → d.canLay0 = true ∧ d.depth ≤ n
  | _, .none, _ => ⟨rfl, by simp [PyData.depth]⟩
  | _, .bool _, _ => ⟨rfl, by simp [PyData.depth]⟩
  | _, .int _, _ => ⟨rfl, by simp [PyData.depth]⟩
  | _, .str _, h => ⟨by simpa [lv] using h, by simp [PyData.depth]⟩
  | 0, .list _, h => by simp [lv] at h
  | 0, .tuple _, h => by simp [lv] at h
  | n + 1, .list ds, h => by
    simp only [lv] at h
    have q : ∀ es : List PyData, (∀ d ∈ es, lv n d) → PyData.canLayAll0 es = true ∧ PyData.depthAll es ≤ n := by
      intro es
      induction es with
      | nil => intro _; exact ⟨rfl, by simp [PyData.depthAll]⟩
      | cons e r ih =>
        intro z
        obtain ⟨a1, a2⟩ := lv_ok n e (z e (by simp))
        obtain ⟨b1, b2⟩ := ih fun d hd => z d (by simp [hd])
        exact ⟨by simp [PyData.canLayAll0, a1, b1], by simp only [PyData.depthAll]; omega⟩
    obtain ⟨q1, q2⟩ := q ds h.2
    exact ⟨by simpa [PyData.canLay0] using q1, by simp only [PyData.depth]; omega⟩
  | n + 1, .tuple ds, h => by
    simp only [lv] at h
    have q : ∀ es : List PyData, (∀ d ∈ es, lv n d) → PyData.canLayAll0 es = true ∧ PyData.depthAll es ≤ n := by
      intro es
      induction es with
      | nil => intro _; exact ⟨rfl, by simp [PyData.depthAll]⟩
      | cons e r ih =>
        intro z
        obtain ⟨a1, a2⟩ := lv_ok n e (z e (by simp))
        obtain ⟨b1, b2⟩ := ih fun d hd => z d (by simp [hd])
        exact ⟨by simp [PyData.canLayAll0, a1, b1], by simp only [PyData.depthAll]; omega⟩
    obtain ⟨q1, q2⟩ := q ds h.2
    exact ⟨by simpa [PyData.canLay0] using q1, by simp only [PyData.depth]; omega⟩
  | 0, .dict _, h => by simp [lv] at h
  | _ + 1, .dict _, h => by simp [lv] at h
theorem shaped_lv {n : Nat} {d : PyData} (h : lv n d) (hn : n ≤ 64) : SeqAt.shaped d = true := by
  obtain ⟨a, b⟩ := lv_ok n d h
  unfold SeqAt.shaped
  rw [a, decide_eq_true (Nat.le_trans b hn)]
  rfl
theorem eqvAll_ints : ∀ ns ms : List Int, PyData.eqvAll (ns.map .int) (ms.map .int) = decide (ns = ms)
  | [], [] => rfl
  | [], _ :: _ => rfl
  | _ :: _, [] => rfl
  | a :: r, b :: s => by
    rw [List.map_cons, List.map_cons]
    show (PyData.eqv (.int a) (.int b) && PyData.eqvAll _ _) = _
    rw [eqvAll_ints r s]
    show ((a == b) && decide (r = s)) = _
    by_cases h : a = b
    · subst h; simp
    · simp [h]
theorem canLay_ints (ns : List Int) : (PyData.list (ns.map .int)).canLay0 = true := by
  induction ns with
  | nil => rfl
  | cons a r ih => exact ih
theorem depth_ints (ns : List Int) : (PyData.list (ns.map .int)).depth ≤ 2 := by
  induction ns with
  | nil => decide
  | cons a r ih =>
    revert ih
    simp only [PyData.depth, PyData.depthAll, List.map_cons]
    omega
theorem shaped_ints (ns : List Int) : SeqAt.shaped (.list (ns.map .int)) = true := by
  unfold SeqAt.shaped
  rw [canLay_ints, decide_eq_true (Nat.le_trans (depth_ints ns) (by decide))]
  rfl
/-! ### what can't be changed: numbers, texts, truths, None, tuples of these -/
mutual
inductive Im (H : Hp) : V → PyData → Prop
  | non : Im H .non .none
  | bl (b : Bool) : Im H (.bl b) (.bool b)
  | int (i : Int) : Im H (.int i) (.int i)
  | str (x : Str) : Im H (.str x) (.str x)
  | tup {a : Addr} {xs : List V} {ds : List PyData} : H a = some (.tup xs) → ImAll H xs ds → Im H (.ref a) (.tuple ds)
inductive ImAll (H : Hp) : List V → List PyData → Prop
  | nil : ImAll H [] []
  | cons {v : V} {vs : List V} {d : PyData} {ds : List PyData} : Im H v d → ImAll H vs ds → ImAll H (v :: vs) (d :: ds)
end
mutual
theorem Im.dp {K : PySem.W.Frag} {H : Hp} : ∀ {x : V} {d : PyData}, Im H x d → Dp K H x d
  | _, _, .non => .non
  | _, _, .bl b => .bl b
  | _, _, .int i => .int i
  | _, _, .str z => .str z
  | _, _, .tup h a => .tup (SqT.of h) (ImAll.dp a)
theorem ImAll.dp {K : PySem.W.Frag} {H : Hp} : ∀ {xs : List V} {ds : List PyData}, ImAll H xs ds → DpAll K H xs ds
  | _, _, .nil => .nil
  | _, _, .cons h t => .cons (Im.dp h) (ImAll.dp t)
end
mutual
theorem Im.frm {S : List Addr} {H H' : Hp} (e : Frm S H H') : ∀ {x : V} {d : PyData}, Im H x d → Im H' x d
  | _, _, .non => .non
  | _, _, .bl b => .bl b
  | _, _, .int i => .int i
  | _, _, .str z => .str z
  | _, _, .tup h a => .tup (e.tups _ _ h) (ImAll.frm e a)
theorem ImAll.frm {S : List Addr} {H H' : Hp} (e : Frm S H H') : ∀ {xs : List V} {ds : List PyData}, ImAll H xs ds → ImAll H' xs ds
  | _, _, .nil => .nil
  | _, _, .cons h t => .cons (Im.frm e h) (ImAll.frm e t)
end
theorem ImAll.same {H H' : Hp} {xs : List V} {ds : List PyData} (h : ImAll H xs ds) (e : Same H H') : ImAll H' xs ds := h.frm (S := []) (.of_same e)
theorem Im.same {H H' : Hp} {x : V} {d : PyData} (h : Im H x d) (e : Same H H') : Im H' x d := h.frm (S := []) (.of_same e)
theorem ImAll.new {H : Hp} {xs : List V} {ds : List PyData} {p : Addr} {o : HO} (h : ImAll H xs ds) (n : H p = none) : ImAll (upd H p o) xs ds := h.same (Same.upd_new n)
theorem Im.new {H : Hp} {x : V} {d : PyData} {p : Addr} {o : HO} (h : Im H x d) (n : H p = none) : Im (upd H p o) x d := h.same (Same.upd_new n)
theorem ImAll.updL {H : Hp} {xs : List V} {ds : List PyData} {p : Addr} {o : HO} {ys : List V} (h : ImAll H xs ds) (n : H p = some (.lst ys)) : ImAll (upd H p o) xs ds := h.frm (Frm.updL n)
theorem Im.updL {H : Hp} {x : V} {d : PyData} {p : Addr} {o : HO} {ys : List V} (h : Im H x d) (n : H p = some (.lst ys)) : Im (upd H p o) x d := h.frm (Frm.updL n)
theorem ImAll.length {H : Hp} : ∀ {xs : List V} {ds : List PyData}, ImAll H xs ds → xs.length = ds.length
  | _, _, .nil => rfl
  | _, _, .cons _ t => by rw [List.length_cons, List.length_cons, ImAll.length t]
theorem ImAll.append {H : Hp} : ∀ {xs ys : List V} {ds es : List PyData}, ImAll H xs ds → ImAll H ys es → ImAll H (xs ++ ys) (ds ++ es)
  | _, _, _, _, .nil, b => b
  | _, _, _, _, .cons h t, b => .cons h (ImAll.append t b)
theorem ImAll.get {H : Hp} : ∀ {xs : List V} {ds : List PyData} {i : Nat} {d : PyData}, ImAll H xs ds → ds[i]? = some d → ∃ x, xs[i]? = some x ∧ Im H x d
  | _, _, i, d, .nil, e => by simp at e
  | _, _, 0, d, .cons h t, e => by simp at e; subst e; exact ⟨_, rfl, h⟩
  | _, _, i + 1, d, .cons h t, e => by
    obtain ⟨x, h1, h2⟩ := ImAll.get (i := i) (d := d) t (by simpa using e)
    exact ⟨x, by simpa using h1, h2⟩
theorem ImAll.get' {H : Hp} : ∀ {xs : List V} {ds : List PyData} {i : Nat} {x : V}, ImAll H xs ds → xs[i]? = some x → ∃ d, ds[i]? = some d ∧ Im H x d
  | _, _, i, d, .nil, e => by simp at e
  | _, _, 0, d, .cons h t, e => by simp at e; subst e; exact ⟨_, rfl, h⟩
  | _, _, i + 1, d, .cons h t, e => by
    obtain ⟨x, h1, h2⟩ := ImAll.get' (i := i) (x := d) t (by simpa using e)
    exact ⟨x, by simpa using h1, h2⟩
theorem ImAll.take {H : Hp} : ∀ {xs : List V} {ds : List PyData} (n : Nat), ImAll H xs ds → ImAll H (xs.take n) (ds.take n)
  | _, _, 0, _ => .nil
  | _, _, n + 1, .nil => .nil
  | _, _, n + 1, .cons h t => .cons h (ImAll.take n t)
theorem ImAll.drop {H : Hp} : ∀ {xs : List V} {ds : List PyData} (n : Nat), ImAll H xs ds → ImAll H (xs.drop n) (ds.drop n)
  | _, _, 0, h => h
  | _, _, n + 1, .nil => .nil
  | _, _, n + 1, .cons h t => ImAll.drop n t
theorem ImAll.set {H : Hp} {x : V} {d : PyData} (h : Im H x d) : ∀ {xs : List V} {ds : List PyData} (n : Nat), ImAll H xs ds → ImAll H (xs.set n x) (ds.set n d)
  | _, _, _, .nil => .nil
  | _, _, 0, .cons _ t => .cons h t
  | _, _, n + 1, .cons g t => .cons g (ImAll.set h n t)
theorem ImAll.rep {H : Hp} {xs : List V} {ds : List PyData} (h : ImAll H xs ds) : ∀ n : Nat, ImAll H (List.replicate n xs).flatten (List.replicate n ds).flatten
  | 0 => .nil
  | n + 1 => by
    rw [List.replicate_succ, List.replicate_succ, List.flatten_cons, List.flatten_cons]
    exact h.append (ImAll.rep h n)
theorem im_ints {H : Hp} : ∀ ns : List Int, ImAll H (ns.map V.int) (ns.map PyData.int)
  | [] => .nil
  | n :: r => .cons (.int n) (im_ints r)
mutual
theorem eqv_refl : ∀ {n : Nat} {d : PyData}, lv n d → PyData.eqv d d = true
  | _, .none, _ => rfl
  | _, .bool b, _ => by simp [PyData.eqv]
  | _, .int i, _ => by simp [PyData.eqv]
  | _, .str z, _ => by simp [PyData.eqv]
  | 0, .list _, h => by simp [lv] at h
  | 0, .tuple _, h => by simp [lv] at h
  | n + 1, .list ds, h => by
    simp only [lv] at h
    simp only [PyData.eqv]
    exact eqvAll_refl h.2
  | n + 1, .tuple ds, h => by
    simp only [lv] at h
    simp only [PyData.eqv]
    exact eqvAll_refl h.2
  | 0, .dict _, h => by simp [lv] at h
  | _ + 1, .dict _, h => by simp [lv] at h
theorem eqvAll_refl : ∀ {n : Nat} {ds : List PyData}, (∀ d ∈ ds, lv n d) → PyData.eqvAll ds ds = true
  | _, [], _ => rfl
  | n, d :: r, h => by
    simp only [PyData.eqvAll, Bool.and_eq_true]
    exact ⟨eqv_refl (h d (by simp)), eqvAll_refl (n := n) fun x hx => h x (by simp [hx])⟩
end
theorem lv_mono : ∀ {n : Nat} {d : PyData}, lv n d → lv (n + 1) d
  | _, .none, _ => by simp [lv]
  | _, .bool b, _ => by simp [lv]
  | _, .int i, _ => by simp [lv]
  | _, .str z, h => by simpa [lv] using h
  | 0, .list _, h => by simp [lv] at h
  | 0, .tuple _, h => by simp [lv] at h
  | n + 1, .list ds, h => by
    simp only [lv] at h ⊢
    exact ⟨h.1, fun d hd => lv_mono (h.2 d hd)⟩
  | n + 1, .tuple ds, h => by
    simp only [lv] at h ⊢
    exact ⟨h.1, fun d hd => lv_mono (h.2 d hd)⟩
  | 0, .dict _, h => by simp [lv] at h
  | _ + 1, .dict _, h => by simp [lv] at h
end TL

namespace TL
open PySem PySem.Spec PyProof.Rows L2
/-- the dice: a list of whole numbers, two at least -/
def DiceAt (H : Hp) (d : Addr) : Prop := ∃ ns : List Int, H d = some (.lst (ns.map V.int)) ∧ 2 ≤ ns.length ∧ ns.length ≤ 65
theorem DiceAt.frm {S : List Addr} {H H' : Hp} {d : Addr} (h : DiceAt H d) (e : Frm S H H') (n : d ∉ S) : DiceAt H' d := by
  obtain ⟨ns, h1, h2⟩ := h
  exact ⟨ns, e _ _ h1 n, h2⟩
theorem DiceAt.upd_ne {H : Hp} {d l : Addr} {o : HO} (h : DiceAt H d) (n : d ≠ l) : DiceAt (upd H l o) d := by
  obtain ⟨ns, h1, h2⟩ := h
  exact ⟨ns, by rw [L2.upd_ne n]; exact h1, h2⟩
theorem DiceAt.same {H H' : Hp} {d : Addr} (h : DiceAt H d) (e : Same H H') : DiceAt H' d := by
  obtain ⟨ns, h1, h2⟩ := h
  exact ⟨ns, e _ _ h1, h2⟩
theorem DiceAt.new {H : Hp} {d l : Addr} {o : HO} (h : DiceAt H d) (n : H l = none) : DiceAt (upd H l o) d := h.same (Same.upd_new n)
theorem DiceAt.ne_new {H : Hp} {d l : Addr} (h : DiceAt H d) (n : H l = none) : l ≠ d := by
  obtain ⟨ns, h1, h2⟩ := h
  exact fun e => by rw [e, h1] at n; cases n
theorem DiceAt.ne_tup {H : Hp} {d t : Addr} {xs : List V} (h : DiceAt H d) (e : H t = some (.tup xs)) : t ≠ d := by
  obtain ⟨ns, h1, h2⟩ := h
  exact ne_of e h1 (by intro q; cases q)
/-! ### manners -/
def intOf : PyData → Int
  | .int i => i
  | _ => 0
/-- a number within bounds -/
def between : PyData → Int → Int → Bool
  | .int i, lo, hi => decide (lo ≤ i) && decide (i ≤ hi)
  | _, _, _ => false
def isMan : PyData → Bool
  | .tuple ds => ds.all (fun e => between e 0 9) && (decide ((ds.map intOf).Pairwise (· < ·)) && decide (0 ∈ ds.map intOf))
  | _ => false
/-- what may be handed in in the place of manners -/
def mdat : PyData → Prop
  | .list _ => False
  | .dict _ => False
  | .str x => (PyData.str x).canLay0 = true
  | .tuple ds => ds.length ≤ 60 ∧ ∀ e ∈ ds, (∀ l, e ≠ .list l) ∧ lv 1 e
  | _ => True
theorem mdat.nolist {d : PyData} (h : mdat d) : ∀ ds, d ≠ .list ds := fun ds e => by subst e; exact h
theorem ints_of_between : ∀ {ds : List PyData}, ds.all (fun e => between e 0 9) = true → ds = (ds.map intOf).map .int
  | [], _ => rfl
  | d :: r, h => by
    rw [List.all_cons, Bool.and_eq_true] at h
    rw [List.map_cons, List.map_cons, ← ints_of_between h.2]
    cases d with
    | int i => rfl
    | _ => exact absurd h.1 (by simp [between])
theorem between_of {ds : List PyData} (h : ds.all (fun e => between e 0 9) = true) : ∀ i ∈ ds.map intOf, 0 ≤ i ∧ i ≤ 9 := fun i hi => by
  obtain ⟨d, hd, rfl⟩ := List.mem_map.mp hi
  have q := List.all_eq_true.mp h d hd
  cases d with
  | int j => simpa [between, intOf] using q
  | _ => exact absurd q (by simp [between])
/-- manners as numbers -/
def Can (ms : List Int) : Prop := (∀ i ∈ ms, 0 ≤ i ∧ i ≤ 9) ∧ ms.Pairwise (· < ·) ∧ 0 ∈ ms ∧ ms.length ≤ 60
theorem isMan_ints {ms : List Int} (h : Can ms) : isMan (.tuple (ms.map .int)) = true := by
  have e : (ms.map PyData.int).map intOf = ms := by
    rw [List.map_map]
    have : (intOf ∘ PyData.int) = id := rfl
    rw [this, List.map_id]
  simp only [isMan]
  rw [e, decide_eq_true h.2.1, decide_eq_true h.2.2.1]
  simp only [Bool.and_true, List.all_map, List.all_eq_true]
  intro i hi
  have := h.1 i hi
  simp [between, this]
theorem mdat_ints {ms : List Int} (h : ms.length ≤ 60) : mdat (.tuple (ms.map .int)) := by
  refine ⟨by rw [List.length_map]; exact h, fun e he => ?_⟩
  obtain ⟨i, _, rfl⟩ := List.mem_map.mp he
  exact ⟨fun l z => PyData.noConfusion z, trivial⟩
theorem sorted_ext : ∀ {a b : List Int}, a.Pairwise (· < ·) → b.Pairwise (· < ·) → (∀ k, k ∈ a ↔ k ∈ b) → a = b
  | [], [], _, _, _ => rfl
  | [], y :: s, _, _, h => absurd ((h y).mpr (by simp)) (by simp)
  | x :: r, [], _, _, h => absurd ((h x).mp (by simp)) (by simp)
  | x :: r, y :: s, ha, hb, h => by
    rw [List.pairwise_cons] at ha hb
    have hxy : x = y := by
      rcases List.mem_cons.mp ((h x).mp (by simp)) with e | e
      · exact e
      · rcases List.mem_cons.mp ((h y).mpr (by simp)) with e' | e'
        · exact e'.symm
        · have := ha.1 y e'
          have := hb.1 x e
          omega
    subst hxy
    rw [sorted_ext ha.2 hb.2 fun k => ?_]
    constructor
    · intro hk
      rcases List.mem_cons.mp ((h k).mp (by simp [hk])) with e | e
      · have := ha.1 k hk
        omega
      · exact e
    · intro hk
      rcases List.mem_cons.mp ((h k).mpr (by simp [hk])) with e | e
      · have := hb.1 k hk
        omega
      · exact e
/-- the greatest that both can and that isn't bad -/
def chosenF (one other bad : List Int) : Int := (one.filter fun m => decide (m ∈ other) && !decide (m ∈ bad)).foldl max 0
def IsChosen (one other bad : List Int) (m : Int) : Prop := (m = 0 ∨ (m ∈ one ∧ m ∈ other ∧ m ∉ bad)) ∧ 0 ≤ m ∧ ∀ y ∈ one, y ∈ other → y ∉ bad → y ≤ m
theorem foldl_max : ∀ (l : List Int) (a : Int), a ≤ l.foldl max a ∧ (∀ y ∈ l, y ≤ l.foldl max a) ∧ (l.foldl max a = a ∨ l.foldl max a ∈ l)
  | [], a => ⟨Int.le_refl _, by simp, .inl rfl⟩
  | x :: r, a => by
    obtain ⟨h1, h2, h3⟩ := foldl_max r (max a x)
    rw [List.foldl_cons]
    refine ⟨by omega, fun y hy => ?_, ?_⟩
    · rcases List.mem_cons.mp hy with rfl | hy
      · omega
      · exact h2 y hy
    · rcases h3 with h3 | h3
      · rw [h3]
        by_cases hax : a ≤ x
        · right
          rw [Int.max_eq_right hax]
          simp
        · left
          exact Int.max_eq_left (by omega)
      · right
        exact List.mem_cons_of_mem _ h3
theorem isChosen_F (one other bad : List Int) : IsChosen one other bad (chosenF one other bad) := by
  obtain ⟨h1, h2, h3⟩ := foldl_max (one.filter fun m => decide (m ∈ other) && !decide (m ∈ bad)) 0
  refine ⟨?_, h1, fun y h4 h5 h6 => h2 y ?_⟩
  · rcases h3 with h3 | h3
    · exact .inl h3
    · right
      have := List.mem_filter.mp h3
      simp only [Bool.and_eq_true, decide_eq_true_eq, Bool.not_eq_true', decide_eq_false_iff_not] at this
      exact this
  · rw [List.mem_filter]
    simp [h4, h5, h6]
theorem IsChosen.unique {one other bad : List Int} {m k : Int} (a : IsChosen one other bad m) (b : IsChosen one other bad k) : m = k := by
  have h1 : m ≤ k := by
    rcases a.1 with e | ⟨e1, e2, e3⟩
    · rw [e]; exact b.2.1
    · exact b.2.2 m e1 e2 e3
  have h2 : k ≤ m := by
    rcases b.1 with e | ⟨e1, e2, e3⟩
    · rw [e]; exact a.2.1
    · exact a.2.2 k e1 e2 e3
  omega
theorem IsChosen.eq {one other bad : List Int} {m : Int} (a : IsChosen one other bad m) : m = chosenF one other bad := a.unique (isChosen_F _ _ _)
theorem IsChosen.symm {one other bad : List Int} {m : Int} (a : IsChosen one other bad m) : IsChosen other one bad m :=
  ⟨a.1.imp id fun h => ⟨h.2.1, h.1, h.2.2⟩, a.2.1, fun y h1 h2 h3 => a.2.2 y h2 h1 h3⟩
theorem IsChosen.congr {one other bad bad' : List Int} {m : Int} (a : IsChosen one other bad m) (h : ∀ x, x ∈ bad ↔ x ∈ bad') : IsChosen one other bad' m :=
  ⟨a.1.imp id fun z => ⟨z.1, z.2.1, fun q => z.2.2 ((h _).mpr q)⟩, a.2.1, fun y h1 h2 h3 => a.2.2 y h1 h2 fun q => h3 ((h _).mp q)⟩
theorem man_tuple {d : PyData} (h : isMan d = true) : ∃ ns : List Int, d = .tuple (ns.map .int) ∧ (∀ i ∈ ns, 0 ≤ i ∧ i ≤ 9) := by
  cases d with
  | tuple ds =>
    simp only [isMan, Bool.and_eq_true] at h
    exact ⟨ds.map intOf, by rw [← ints_of_between h.1], between_of h.1⟩
  | _ => exact absurd h (by simp [isMan])
end TL

namespace TL
open PySem PySem.Spec PyProof.Rows L2
/-! ### rows of a log -/
abbrev Row := Int × Bool × Int × Bool
def rowV (r : Row) : List V := [.int r.1, .bl r.2.1, .int r.2.2.1, .bl r.2.2.2]
def rowD (r : Row) : PyData := .tuple [.int r.1, .bool r.2.1, .int r.2.2.1, .bool r.2.2.2]
def okRow (r : Row) : Prop := (0 ≤ r.1 ∧ r.1 ≤ 9) ∧ 0 ≤ r.2.2.1 ∧ r.2.2.1 ≤ 9
theorem im_row {H : Hp} {t : Addr} {r : Row} (h : H t = some (.tup (rowV r))) : Im H (.ref t) (rowD r) :=
  .tup h (.cons (.int _) (.cons (.bl _) (.cons (.int _) (.cons (.bl _) .nil))))
theorem im_row_inv {H : Hp} {x : V} {r : Row} (h : Im H x (rowD r)) : ∃ t, x = .ref t ∧ H t = some (.tup (rowV r)) := by
  obtain ⟨a, b, c, d⟩ := r
  generalize e : rowD (a, b, c, d) = dd at h
  cases h with
  | tup ht ha =>
    rename_i t xs ds
    injection e with e
    subst e
    cases ha with
    | cons h1 ha => cases h1; cases ha with
      | cons h1 ha => cases h1; cases ha with
        | cons h1 ha => cases h1; cases ha with
          | cons h1 ha => cases h1; cases ha; exact ⟨t, rfl, ht⟩
  | _ => exact PyData.noConfusion e
theorem rows_get {H : Hp} {xs : List V} {rs : List Row} {i : Nat} {r : Row} (h : ImAll H xs (rs.map rowD)) (e : rs[i]? = some r) : ∃ t, xs[i]? = some (.ref t) ∧ H t = some (.tup (rowV r)) := by
  obtain ⟨x, h1, h2⟩ := h.get (i := i) (d := rowD r) (by rw [List.getElem?_map, e]; rfl)
  obtain ⟨t, rfl, h3⟩ := im_row_inv h2
  exact ⟨t, h1, h3⟩
theorem rows_get' {H : Hp} {xs : List V} {rs : List Row} {i : Nat} {x : V} (h : ImAll H xs (rs.map rowD)) (e : xs[i]? = some x) : ∃ t r, rs[i]? = some r ∧ x = .ref t ∧ H t = some (.tup (rowV r)) := by
  obtain ⟨d, h1, h2⟩ := h.get' e
  rw [List.getElem?_map] at h1
  cases q : rs[i]? with
  | none => rw [q] at h1; cases h1
  | some r =>
    rw [q] at h1
    have h1' : rowD r = d := Option.some.inj h1
    subst h1'
    obtain ⟨t, h3, h4⟩ := im_row_inv h2
    exact ⟨t, r, rfl, h3, h4⟩
theorem rows_len {H : Hp} {xs : List V} {rs : List Row} (h : ImAll H xs (rs.map rowD)) : xs.length = rs.length := by
  rw [h.length, List.length_map]
theorem lv_row (r : Row) : lv 1 (rowD r) := by
  refine ⟨by show 4 ≤ 100000; decide, fun d hd => ?_⟩
  simp at hd
  rcases hd with rfl | rfl | rfl | rfl <;> exact trivial
theorem lv_rows {rs : List Row} (h : rs.length ≤ 100000) : lv 2 (.list (rs.map rowD)) := by
  refine ⟨by rw [List.length_map]; exact h, fun d hd => ?_⟩
  obtain ⟨r, _, rfl⟩ := List.mem_map.mp hd
  exact lv_row r
theorem eqv_rows_nil (rs : List Row) : PyData.eqv (.list (rs.map rowD)) (.list []) = decide (rs = []) := by
  cases rs with
  | nil => rfl
  | cons a r => rfl
/-! ### what is a row -/
def isB : PyData → Bool
  | .bool _ => true
  | _ => false
def isRowD : PyData → Bool
  | .tuple [a, b, c, d] => between a 0 9 && (between c 0 9 && (isB b && isB d))
  | _ => false
theorem isRow_row {r : Row} (h : okRow r) : isRowD (rowD r) = true := by
  obtain ⟨⟨h1, h2⟩, h3, h4⟩ := h
  simp [isRowD, rowD, between, isB, h1, h2, h3, h4]
/-- what may be handed in as a row -/
def rdat : PyData → Prop
  | .list _ => False
  | .dict _ => False
  | .tuple ds => ∀ e ∈ ds, ∀ l, e ≠ .list l
  | _ => True
theorem rdat_row (r : Row) : rdat (rowD r) := by
  intro e he l
  simp at he
  rcases he with rfl | rfl | rfl | rfl <;> exact fun z => PyData.noConfusion z
theorem rdat.nolist {d : PyData} (h : rdat d) : ∀ ds, d ≠ .list ds := fun ds e => by subst e; exact h
/-! ### stretches -/
/-- the manner by which both were joined -/
def mark (r : Row) : Option Int := if r.2.1 = true ∧ r.2.2.2 = true ∧ r.1 = r.2.2.1 then some r.1 else none
abbrev Str3 := Int × Int × Int
def strV (s : Str3) : List V := [.int s.1, .int s.2.1, .int s.2.2]
def strD (s : Str3) : PyData := .tuple [.int s.1, .int s.2.1, .int s.2.2]
theorem im_str {H : Hp} {t : Addr} {s : Str3} (h : H t = some (.tup (strV s))) : Im H (.ref t) (strD s) := .tup h (.cons (.int _) (.cons (.int _) (.cons (.int _) .nil)))
theorem im_str_inv {H : Hp} {x : V} {s : Str3} (h : Im H x (strD s)) : ∃ t, x = .ref t ∧ H t = some (.tup (strV s)) := by
  obtain ⟨a, b, c⟩ := s
  generalize e : strD (a, b, c) = dd at h
  cases h with
  | tup ht ha =>
    rename_i t xs ds
    injection e with e
    subst e
    cases ha with
    | cons h1 ha => cases h1; cases ha with
      | cons h1 ha => cases h1; cases ha with
        | cons h1 ha => cases h1; cases ha; exact ⟨t, rfl, ht⟩
  | _ => exact PyData.noConfusion e
/-- one row more: the last stretch grows, or a new one begins -/
def stStep (acc : List Str3) (i : Nat) (m : Option Int) : List Str3 :=
  match m with
  | none => acc
  | some m => match acc.getLast? with
    | some (k, s, e) => if k = m ∧ e = (i : Int) then acc.dropLast ++ [(m, s, (i : Int) + 1)] else acc ++ [(m, (i : Int), (i : Int) + 1)]
    | none => acc ++ [(m, (i : Int), (i : Int) + 1)]
/-- the stretches of the first i rows -/
def stTo (ms : List (Option Int)) : Nat → List Str3
  | 0 => []
  | i + 1 => stStep (stTo ms i) i (ms.getD i none)
theorem stTo_len (ms : List (Option Int)) : ∀ i, (stTo ms i).length ≤ i
  | 0 => Nat.le_refl _
  | i + 1 => by
    have ih := stTo_len ms i
    unfold stTo stStep
    cases ms.getD i none with
    | none => exact Nat.le_succ_of_le ih
    | some m =>
      cases h : (stTo ms i).getLast? with
      | none => simp; omega
      | some k =>
        obtain ⟨k, s, e⟩ := k
        simp only
        split
        · simp; omega
        · simp; omega
/-- no stretch ends behind what was gone through -/
theorem stTo_end (ms : List (Option Int)) : ∀ i (x : Str3), (stTo ms i).getLast? = some x → x.2.2 ≤ i
  | 0, x, h => by simp [stTo] at h
  | i + 1, x, h => by
    have ih := stTo_end ms i
    unfold stTo stStep at h
    cases hm : ms.getD i none with
    | none =>
      rw [hm] at h
      have := ih x h
      omega
    | some m =>
      rw [hm] at h
      cases hl : (stTo ms i).getLast? with
      | none =>
        rw [hl] at h
        simp at h
        subst h
        simp
      | some k =>
        obtain ⟨k, s, e⟩ := k
        rw [hl] at h
        simp only at h
        split at h
        · simp at h
          subst h
          simp
        · simp at h
          subst h
          simp
/-- at i a new stretch begins, if one does -/
def Fresh (ms : List (Option Int)) (i : Nat) : Prop := ∀ k s e, (stTo ms i).getLast? = some (k, s, e) → e = (i : Int) → ms.getD i none ≠ some k
theorem stTo_none {ms : List (Option Int)} {i : Nat} (h : ms.getD i none = none) : stTo ms (i + 1) = stTo ms i := by
  show stStep _ _ _ = _
  rw [h]
  rfl
theorem stTo_first {ms : List (Option Int)} {i : Nat} {m : Int} (h : ms.getD i none = some m) (f : Fresh ms i) : stTo ms (i + 1) = stTo ms i ++ [(m, (i : Int), (i : Int) + 1)] := by
  show stStep _ _ _ = _
  rw [h]
  unfold stStep
  cases hl : (stTo ms i).getLast? with
  | none => rfl
  | some k =>
    obtain ⟨k, s, e⟩ := k
    simp only
    rw [if_neg]
    rintro ⟨rfl, h2⟩
    exact f _ _ _ hl h2 h
theorem stTo_more {ms : List (Option Int)} {a j : Nat} {m : Int} (h : ms.getD j none = some m) (e : stTo ms j = stTo ms a ++ [(m, (a : Int), (j : Int))]) : stTo ms (j + 1) = stTo ms a ++ [(m, (a : Int), (j : Int) + 1)] := by
  show stStep _ _ _ = _
  rw [h, e]
  unfold stStep
  simp
def markV : Option Int → V
  | none => .non
  | some m => .int m
theorem lv_strs (l : List Str3) (h : l.length ≤ 100000) : lv 3 (.list (l.map strD)) := by
  refine lv_mono ⟨by rw [List.length_map]; exact h, fun d hd => ?_⟩
  obtain ⟨s, _, rfl⟩ := List.mem_map.mp hd
  refine ⟨by show 3 ≤ 100000; decide, fun d hd => ?_⟩
  simp at hd
  rcases hd with rfl | rfl | rfl <;> exact trivial
/-- what stands within a turn: the dice, the rows at p -/
structure Got (H : Hp) (d p : Addr) (xs : List V) (rs : List Row) : Prop where
  D : DiceAt H d
  L : H p = some (.lst xs)
  A : ImAll H xs (rs.map rowD)
  ok : ∀ r ∈ rs, okRow r
  len : rs.length ≤ 300
  np : p ≠ d
theorem Got.same {H H' : Hp} {d p : Addr} {xs : List V} {rs : List Row} (g : Got H d p xs rs) (e : Same H H') : Got H' d p xs rs := ⟨g.D.same e, e _ _ g.L, g.A.same e, g.ok, g.len, g.np⟩
/-- another list is written -/
theorem Got.updL {H : Hp} {d p : Addr} {xs : List V} {rs : List Row} (g : Got H d p xs rs) {l : Addr} {ys : List V} {o : HO} (h : H l = some (.lst ys)) (n1 : l ≠ d) (n2 : l ≠ p) : Got (upd H l o) d p xs rs :=
  ⟨g.D.upd_ne (Ne.symm n1), by rw [upd_ne (Ne.symm n2)]; exact g.L, g.A.updL h, g.ok, g.len, g.np⟩
/-- whether a row can be -/
def unl (ca cb : List Int) (m : Int) : Bool := !decide (m ∈ ca) || !decide (m ∈ cb)
def goodRow (ca cb : List Int) (r : Row) : Bool := !(unl ca cb r.1) && (!(unl ca cb r.2.2.1) && !((r.2.1 || r.2.2.2) && !decide (r.1 = r.2.2.1)))
end TL

namespace TL
open PySem PySem.Spec PyProof.Rows L2
/-! ### marks: the mirror -/
structure MkS where
  wait : Int → Option Int
  untl : Int → Option Int
  run : Int → Option Int
  tries : Int → Option (List Bool)
def MkS.new : MkS := ⟨fun _ => none, fun _ => none, fun _ => none, fun _ => none⟩
def setA {α : Type} (f : Int → Option α) (i : Int) (v : α) : Int → Option α := fun j => if j = i then some v else f j
def last6 {α : Type} (l : List α) : List α := l.drop (l.length - 6)
/-- what a note leaves: the tries and runs; the wait -/
def triesOf (s : MkS) (m : Int) (p : Bool) : List Bool := last6 ((s.tries m).getD [] ++ [p])
def runOf (s : MkS) (m : Int) (p : Bool) : Int := if p = true then (s.run m).getD 0 + 1 else 0
def waitsOf (s : MkS) (m : Int) (p : Bool) : Int → Option Int := if runOf s m p = 32 then setA s.wait m 16 else s.wait
def isMarked (s : MkS) (m : Int) (p : Bool) : Bool := !decide (((triesOf s m p).count false : Int) < 3)
def noteF (s : MkS) (m : Int) (p : Bool) (f : Int) : MkS :=
  if isMarked s m p = true then
    { wait := setA (waitsOf s m p) m (min 256 (2 * ((waitsOf s m p) m).getD 16)), untl := setA s.untl m (max ((s.untl m).getD 0) (f + ((waitsOf s m p) m).getD 16)), run := setA s.run m (runOf s m p), tries := setA s.tries m [] }
  else { s with wait := waitsOf s m p, run := setA s.run m (runOf s m p), tries := setA s.tries m (triesOf s m p) }
def nine : List Int := [1, 2, 3, 4, 5, 6, 7, 8, 9]
def badF (s : MkS) (f : Int) : List Int := nine.filter fun i => match s.untl i with | some u => decide (f ≤ u) | none => false
/-! ### a dict whose keys are manners -/
def DictM (H : Hp) (a : Addr) (f : Int → Option V) : Prop :=
  ∃ kvs : List (Key × V), H a = some (.dK kvs) ∧ (kvs.map (·.1)).Nodup ∧ (∀ kv ∈ kvs, ∃ i : Int, kv.1 = .inl i ∧ 1 ≤ i ∧ i ≤ 9) ∧ ∀ i : Int, valV kvs (.inl i) = f i
theorem DictM.new {H : Hp} {a : Addr} (h : H a = some (.dK [])) : DictM H a fun _ => none := ⟨[], h, List.nodup_nil, by simp, fun _ => rfl⟩
theorem DictM.frm {S : List Addr} {H H' : Hp} {a : Addr} {f : Int → Option V} (h : DictM H a f) (e : Frm S H H') (n : a ∉ S) : DictM H' a f := by
  obtain ⟨kvs, h1, h2⟩ := h
  exact ⟨kvs, e _ _ h1 n, h2⟩
theorem pig : ∀ (n : Nat) (l : List Int), l.Nodup → (∀ x ∈ l, 1 ≤ x ∧ x ≤ n) → l.length ≤ n
  | 0, l, _, h => by
    match l with
    | [] => simp
    | x :: r => have := h x (by simp); omega
  | n + 1, l, nd, h => by
    by_cases hm : ((n + 1 : Nat) : Int) ∈ l
    · have h1 := pig n (l.erase ((n + 1 : Nat) : Int)) (nd.erase _) fun x hx => by
        have hx' := (nd.mem_erase_iff).mp hx
        have := h x hx'.2
        have := hx'.1
        omega
      rw [List.length_erase_of_mem hm] at h1
      omega
    · have h1 := pig n l nd fun x hx => by
        have := h x hx
        have hne : x ≠ ((n + 1 : Nat) : Int) := fun e => hm (by rw [← e]; exact hx)
        omega
      omega
theorem keys_int {kvs : List (Key × V)} (h : ∀ kv ∈ kvs, ∃ i : Int, kv.1 = .inl i ∧ 1 ≤ i ∧ i ≤ 9) : ∃ ks : List Int, kvs.map (·.1) = ks.map Sum.inl ∧ ∀ k ∈ ks, 1 ≤ k ∧ k ≤ 9 := by
  induction kvs with
  | nil => exact ⟨[], rfl, by simp⟩
  | cons a r ih =>
    obtain ⟨ks, e, hk⟩ := ih fun kv hkv => h kv (by simp [hkv])
    obtain ⟨i, hi, h1, h9⟩ := h a (by simp)
    refine ⟨i :: ks, by simp [hi, e], fun k hk' => ?_⟩
    rcases List.mem_cons.mp hk' with rfl | hk'
    · exact ⟨h1, h9⟩
    · exact hk k hk'
theorem nodup_inl {ks : List Int} (h : (ks.map (Sum.inl : Int → Key)).Nodup) : ks.Nodup := by
  rw [List.nodup_iff_pairwise_ne, List.pairwise_map] at h
  rw [List.nodup_iff_pairwise_ne]
  exact h.imp fun hne e => hne (by rw [e])
theorem dict_len {kvs : List (Key × V)} (nd : (kvs.map (·.1)).Nodup) (h : ∀ kv ∈ kvs, ∃ i : Int, kv.1 = .inl i ∧ 1 ≤ i ∧ i ≤ 9) : kvs.length ≤ 9 := by
  obtain ⟨ks, e, hk⟩ := keys_int h
  rw [e] at nd
  have := pig 9 ks (nodup_inl nd) hk
  have hl : kvs.length = ks.length := by
    have := congrArg List.length e
    simpa using this
  omega
theorem mem_key {kvs : List (Key × V)} {k : Key} : (valV kvs k).isSome = true ↔ k ∈ kvs.map (·.1) := by
  rw [← valV_any, List.any_eq_true, List.mem_map]
  constructor
  · rintro ⟨p, hp, h⟩
    exact ⟨p, hp, by simpa using h⟩
  · rintro ⟨p, hp, h⟩
    exact ⟨p, hp, by simpa using h⟩
theorem putK_keys {kvs : List (Key × V)} {k : Key} {v : V} : ((putK kvs k v).map (·.1)) = if (valV kvs k).isSome = true then kvs.map (·.1) else kvs.map (·.1) ++ [k] := by
  unfold putK
  rw [valV_any]
  by_cases h : (valV kvs k).isSome = true
  · rw [if_pos h, if_pos h, List.map_map]
    apply List.map_congr_left
    intro p _
    simp only [Function.comp]
    split
    · rfl
    · rfl
  · rw [if_neg h, if_neg h, List.map_append]
    rfl
/-- d[i] = v -/
theorem DictM.put {H : Hp} {a : Addr} {f : Int → Option V} (h : DictM H a f) {i : Int} (h1 : 1 ≤ i) (h9 : i ≤ 9) (v : V) : ∃ H', DPut H a (.int i) v H' ∧ DictM H' a (setA f i v) ∧ Frm [a] H H' := by
  obtain ⟨kvs, e, nd, hk, hv⟩ := h
  have hl := dict_len nd hk
  refine ⟨_, DPut.k (k := Sum.inl i) e (small1000 (by omega)), ⟨_, upd_same, ?_, ?_, fun j => ?_⟩, Frm.updK e⟩
  · rw [putK_keys]
    split
    · exact nd
    · rename_i hn
      rw [List.nodup_append]
      exact ⟨nd, by simp, fun x hx y hy => by simp at hy; subst hy; rintro rfl; exact hn (mem_key.mpr hx)⟩
  · intro kv hkv
    have hm : kv.1 ∈ (putK kvs (Sum.inl i : Key) v).map (·.1) := List.mem_map_of_mem hkv
    rw [putK_keys] at hm
    have hin : kv.1 ∈ kvs.map (·.1) ∨ kv.1 = Sum.inl i := by
      split at hm
      · exact .inl hm
      · rcases List.mem_append.mp hm with q | q
        · exact .inl q
        · exact .inr (by simpa using q)
    rcases hin with q | q
    · obtain ⟨p, hp, hpe⟩ := List.mem_map.mp q
      rw [← hpe]
      exact hk p hp
    · exact ⟨i, q, h1, h9⟩
  · rw [valV_put, hv]
    unfold setA
    by_cases q : j = i
    · subst q; simp
    · rw [if_neg (fun z => q (Sum.inl.inj z)), if_neg q]
theorem DictM.get {H : Hp} {a : Addr} {f : Int → Option V} (h : DictM H a f) (i : Int) : DGet H a (.int i) (f i) := by
  obtain ⟨kvs, e, nd, hk, hv⟩ := h
  rw [← hv i]
  exact DGet.k (k := Sum.inl i) e
theorem DictM.isD {H : Hp} {a : Addr} {f : Int → Option V} (h : DictM H a f) : IsD H a := by
  obtain ⟨kvs, e, _⟩ := h
  exact .inl ⟨kvs, Rd.of e⟩
theorem DictM.at_ {H : Hp} {a : Addr} {f : Int → Option V} (h : DictM H a f) : ∃ o, H a = some o := by
  obtain ⟨kvs, e, _⟩ := h
  exact ⟨_, e⟩
/-! ### marks in the heap -/
structure MAd where
  m : Addr
  w : Addr
  u : Addr
  r : Addr
  t : Addr
def MAd.all (a : MAd) : List Addr := [a.w, a.u, a.r, a.t]
abbrev mkN : List Str := ["waits", "until", "runs", "tries"]
theorem mkN_nd : mkN.Nodup := by decide +kernel
def mkV (a : MAd) : List V := [.ref a.w, .ref a.u, .ref a.r, .ref a.t]
/-- C: the class; Z: what may be written, of all that stands -/
structure MarksAt (C : Addr) (Z : List Addr) (H : Hp) (a : MAd) (s : MkS) : Prop where
  ob : ∃ dx, H a.m = some (.ins C dx (mkN.zip (mkV a)))
  w : DictM H a.w fun i => (s.wait i).map V.int
  u : DictM H a.u fun i => (s.untl i).map V.int
  r : DictM H a.r fun i => (s.run i).map V.int
  t : ∃ ta : Int → Option Addr, DictM H a.t (fun i => (ta i).map V.ref) ∧ ∀ i, (ta i = none ∧ s.tries i = none) ∨ ∃ l bs, ta i = some l ∧ s.tries i = some bs ∧ H l = some (.lst (bs.map V.bl)) ∧ l ∉ Z ∧ bs.length ≤ 6
  nd : a.w ≠ a.u ∧ a.w ≠ a.r ∧ a.w ≠ a.t ∧ a.u ≠ a.r ∧ a.u ≠ a.t ∧ a.r ≠ a.t
theorem MarksAt.frm {C : Addr} {Z S : List Addr} {H H' : Hp} {a : MAd} {s : MkS} (h : MarksAt C Z H a s) (e : Frm S H H') (hS : ∀ x ∈ S, x ∈ Z) (hm : a.m ∉ S) (hd : ∀ x ∈ a.all, x ∉ S) : MarksAt C Z H' a s := by
  obtain ⟨⟨dx, h0⟩, hw, hu, hr, ⟨ta, ht, hl⟩, nd⟩ := h
  refine ⟨⟨dx, e _ _ h0 hm⟩, hw.frm e (hd _ (by simp [MAd.all])), hu.frm e (hd _ (by simp [MAd.all])), hr.frm e (hd _ (by simp [MAd.all])), ⟨ta, ht.frm e (hd _ (by simp [MAd.all])), fun i => ?_⟩, nd⟩
  rcases hl i with q | ⟨l, bs, h1, h2, h3, h4⟩
  · exact .inl q
  · exact .inr ⟨l, bs, h1, h2, e _ _ h3 fun z => h4.1 (hS _ z), h4⟩
theorem MarksAt.same {C : Addr} {Z : List Addr} {H H' : Hp} {a : MAd} {s : MkS} (h : MarksAt C Z H a s) (e : Same H H') : MarksAt C Z H' a s := h.frm (S := []) (.of_same e) (by simp) (by simp) (by simp)
/-- something new may be written, too -/
theorem MarksAt.more {C : Addr} {Z Z' : List Addr} {H : Hp} {a : MAd} {s : MkS} (h : MarksAt C Z H a s) (hz : ∀ x ∈ Z', x ∈ Z ∨ ∀ bs, H x ≠ some (.lst bs)) : MarksAt C Z' H a s := by
  obtain ⟨h0, hw, hu, hr, ⟨ta, ht, hl⟩, nd⟩ := h
  refine ⟨h0, hw, hu, hr, ⟨ta, ht, fun i => ?_⟩, nd⟩
  rcases hl i with q | ⟨l, bs, h1, h2, h3, h4⟩
  · exact .inl q
  · exact .inr ⟨l, bs, h1, h2, h3, fun z => (hz l z).elim h4.1 fun q => q _ h3, h4.2⟩
theorem MarksAt.out {C : Addr} {Z : List Addr} {H : Hp} {a : MAd} {s : MkS} (h : MarksAt C Z H a s) : ∀ x ∈ a.all, x ≠ a.m ∧ ∃ o, H x = some o := by
  obtain ⟨⟨dx, h0⟩, ⟨_, hw, _⟩, ⟨_, hu, _⟩, ⟨_, hr, _⟩, ⟨ta, ⟨_, ht, _⟩, hl⟩, nd⟩ := h
  intro x hx
  simp [MAd.all] at hx
  rcases hx with rfl | rfl | rfl | rfl
  · exact ⟨ne_of hw h0 (by intro z; cases z), _, hw⟩
  · exact ⟨ne_of hu h0 (by intro z; cases z), _, hu⟩
  · exact ⟨ne_of hr h0 (by intro z; cases z), _, hr⟩
  · exact ⟨ne_of ht h0 (by intro z; cases z), _, ht⟩
theorem MAd.mem (a : MAd) : a.w ∈ a.all ∧ a.u ∈ a.all ∧ a.r ∈ a.all ∧ a.t ∈ a.all := by simp [MAd.all]
/-- one of the dicts is written -/
theorem MarksAt.lists {C : Addr} {Z : List Addr} {H H' : Hp} {a : MAd} {ta : Int → Option Addr} {tr : Int → Option (List Bool)} {d : Addr} (hl : ∀ i, (ta i = none ∧ tr i = none) ∨ ∃ l bs, ta i = some l ∧ tr i = some bs ∧ H l = some (.lst (bs.map V.bl)) ∧ l ∉ Z ∧ bs.length ≤ 6)
    (e : Frm [d] H H') {f : Int → Option V} (hd : DictM H d f) : ∀ i, (ta i = none ∧ tr i = none) ∨ ∃ l bs, ta i = some l ∧ tr i = some bs ∧ H' l = some (.lst (bs.map V.bl)) ∧ l ∉ Z ∧ bs.length ≤ 6 := fun i => by
  rcases hl i with q | ⟨l, bs, h1, h2, h3, h4⟩
  · exact .inl q
  · obtain ⟨kvs, h5, _⟩ := hd
    exact .inr ⟨l, bs, h1, h2, e _ _ h3 (by simp only [List.mem_singleton]; exact ne_of h3 h5 (by intro z; cases z)), h4⟩
theorem setA_map (f : Int → Option Int) (i v : Int) : (fun j => (setA f i v j).map V.int) = setA (fun j => (f j).map V.int) i (.int v) := by
  funext j
  unfold setA
  split <;> rfl
theorem MarksAt.obk {C : Addr} {Z : List Addr} {H H' : Hp} {a : MAd} {s : MkS} (h : MarksAt C Z H a s) {d : Addr} (hd : d ∈ a.all) (e : Frm [d] H H') : ∃ dx, H' a.m = some (.ins C dx (mkN.zip (mkV a))) := by
  have ho := (h.out d hd).1
  obtain ⟨⟨dx, h0⟩, _⟩ := h
  exact ⟨dx, e _ _ h0 (by simp only [List.mem_singleton]; exact Ne.symm ho)⟩
theorem Frm.sub {S : List Addr} {H H' : Hp} {d : Addr} (e : Frm [d] H H') (h : d ∈ S) : Frm S H H' := e.mono fun x hx => by simp at hx; subst hx; exact h
theorem MarksAt.put_w {C : Addr} {Z : List Addr} {H : Hp} {a : MAd} {s : MkS} (h : MarksAt C Z H a s) {i : Int} (h1 : 1 ≤ i) (h9 : i ≤ 9) (v : Int) : ∃ H', DPut H a.w (.int i) (.int v) H' ∧ MarksAt C Z H' a { s with wait := setA s.wait i v } ∧ Frm a.all H H' := by
  obtain ⟨H', h2, h3, h4⟩ := h.w.put h1 h9 (.int v)
  have ob := h.obk a.mem.1 h4
  obtain ⟨n1, n2, n3, n4, n5, n6⟩ := h.nd
  obtain ⟨ta, ht, hl⟩ := h.t
  refine ⟨H', h2, ⟨ob, by rw [setA_map]; exact h3, h.u.frm h4 (by simp [Ne.symm n1]), h.r.frm h4 (by simp [Ne.symm n2]), ⟨ta, ht.frm h4 (by simp [Ne.symm n3]), MarksAt.lists (C := C) (a := a) hl h4 h.w⟩, h.nd⟩, h4.sub a.mem.1⟩
theorem MarksAt.put_u {C : Addr} {Z : List Addr} {H : Hp} {a : MAd} {s : MkS} (h : MarksAt C Z H a s) {i : Int} (h1 : 1 ≤ i) (h9 : i ≤ 9) (v : Int) : ∃ H', DPut H a.u (.int i) (.int v) H' ∧ MarksAt C Z H' a { s with untl := setA s.untl i v } ∧ Frm a.all H H' := by
  obtain ⟨H', h2, h3, h4⟩ := h.u.put h1 h9 (.int v)
  have ob := h.obk a.mem.2.1 h4
  obtain ⟨n1, n2, n3, n4, n5, n6⟩ := h.nd
  obtain ⟨ta, ht, hl⟩ := h.t
  refine ⟨H', h2, ⟨ob, h.w.frm h4 (by simp [n1]), by rw [setA_map]; exact h3, h.r.frm h4 (by simp [Ne.symm n4]), ⟨ta, ht.frm h4 (by simp [Ne.symm n5]), MarksAt.lists (C := C) (a := a) hl h4 h.u⟩, h.nd⟩, h4.sub a.mem.2.1⟩
theorem MarksAt.put_r {C : Addr} {Z : List Addr} {H : Hp} {a : MAd} {s : MkS} (h : MarksAt C Z H a s) {i : Int} (h1 : 1 ≤ i) (h9 : i ≤ 9) (v : Int) : ∃ H', DPut H a.r (.int i) (.int v) H' ∧ MarksAt C Z H' a { s with run := setA s.run i v } ∧ Frm a.all H H' := by
  obtain ⟨H', h2, h3, h4⟩ := h.r.put h1 h9 (.int v)
  have ob := h.obk a.mem.2.2.1 h4
  obtain ⟨n1, n2, n3, n4, n5, n6⟩ := h.nd
  obtain ⟨ta, ht, hl⟩ := h.t
  refine ⟨H', h2, ⟨ob, h.w.frm h4 (by simp [n2]), h.u.frm h4 (by simp [n4]), by rw [setA_map]; exact h3, ⟨ta, ht.frm h4 (by simp [Ne.symm n6]), MarksAt.lists (C := C) (a := a) hl h4 h.r⟩, h.nd⟩, h4.sub a.mem.2.2.1⟩
/-- a list of tries, made since -/
theorem MarksAt.put_t {C : Addr} {Z : List Addr} {H : Hp} {a : MAd} {s : MkS} (h : MarksAt C Z H a s) {i : Int} (h1 : 1 ≤ i) (h9 : i ≤ 9) {l : Addr} {bs : List Bool} (hl : H l = some (.lst (bs.map V.bl))) (hz : l ∉ Z) (hb : bs.length ≤ 6) :
    ∃ H', DPut H a.t (.int i) (.ref l) H' ∧ MarksAt C Z H' a { s with tries := setA s.tries i bs } ∧ Frm a.all H H' ∧ H' l = some (.lst (bs.map V.bl)) := by
  obtain ⟨n1, n2, n3, n4, n5, n6⟩ := h.nd
  obtain ⟨ta, ht, hls⟩ := id h.t
  obtain ⟨H', h2, h3, h4⟩ := ht.put h1 h9 (.ref l)
  have ob := h.obk a.mem.2.2.2 h4
  have hl' : H' l = some (.lst (bs.map V.bl)) := h4 _ _ hl (by
    obtain ⟨kvs, h5, _⟩ := ht
    simp only [List.mem_singleton]
    exact ne_of hl h5 (by intro z; cases z))
  refine ⟨H', h2, ⟨ob, h.w.frm h4 (by simp [n3]), h.u.frm h4 (by simp [n5]), h.r.frm h4 (by simp [n6]), ⟨setA ta i l, ?_, fun j => ?_⟩, h.nd⟩, h4.sub a.mem.2.2.2, hl'⟩
  · have e : (fun j => (setA ta i l j).map V.ref) = setA (fun j => (ta j).map V.ref) i (.ref l) := by
      funext j
      unfold setA
      split <;> rfl
    rw [e]
    exact h3
  · show (setA ta i l j = none ∧ setA s.tries i bs j = none) ∨ ∃ l' bs', setA ta i l j = some l' ∧ setA s.tries i bs j = some bs' ∧ H' l' = some (.lst (bs'.map V.bl)) ∧ l' ∉ Z ∧ bs'.length ≤ 6
    by_cases q : j = i
    · have e1 : setA ta i l j = some l := if_pos q
      have e2 : setA s.tries i bs j = some bs := if_pos q
      rw [e1, e2]
      exact .inr ⟨l, bs, rfl, rfl, hl', hz, hb⟩
    · have e1 : setA ta i l j = ta j := if_neg q
      have e2 : setA s.tries i bs j = s.tries j := if_neg q
      rw [e1, e2]
      exact MarksAt.lists (C := C) (a := a) hls h4 ht j
theorem last6_len {α : Type} (l : List α) : (last6 l).length ≤ 6 := by
  unfold last6
  rw [List.length_drop]
  omega
theorem cut6 (xs : List V) : cutV xs (some (0 - 6)) none = last6 xs := by
  unfold cutV last6
  have e1 : HT.sIx xs.length 0 (some (0 - 6)) = xs.length - 6 := by
    show (if (0 - 6 : Int) < 0 then ((0 - 6 : Int) + (xs.length : Nat)).toNat else min (0 - 6 : Int).toNat xs.length) = _
    rw [if_pos (by decide)]
    omega
  rw [e1, HT.sIx_none]
  apply List.take_of_length_le
  rw [List.length_drop]
  omega
theorem last6_map {α β : Type} (f : α → β) (l : List α) : last6 (l.map f) = (last6 l).map f := by
  unfold last6
  rw [List.length_map, List.map_drop]
theorem count_bl (bs : List Bool) (b : Bool) : (bs.map V.bl).countP (fun z => eqV z (.bl b)) = bs.count b := by
  induction bs with
  | nil => rfl
  | cons a r ih =>
    rw [List.map_cons, List.countP_cons, ih, List.count_cons]
    rfl
theorem flat_bls (bs : List Bool) : (bs.map V.bl).all flatV = true := by
  rw [List.all_map, List.all_eq_true]
  intro _ _
  rfl
/-- the marked ones, rising -/
theorem until_keys {H : Hp} {a : Addr} {f : Int → Option Int} (h : DictM H a fun i => (f i).map V.int) : ∃ (kvs : List (Key × V)) (ks : List Int), H a = some (.dK kvs) ∧ kvs.map (·.1) = ks.map Sum.inl ∧ ks.length < 64 ∧
    ∀ ys : List Int, ys.Perm ks → ys.Pairwise (· ≤ ·) → ys = nine.filter fun i => (f i).isSome := by
  obtain ⟨kvs, e, nd, hk, hv⟩ := h
  obtain ⟨ks, ek, h19⟩ := keys_int hk
  have ndk := nodup_inl (by rw [← ek]; exact nd)
  refine ⟨kvs, ks, e, ek, by have := pig 9 ks ndk h19; omega, fun ys hp hs => ?_⟩
  have ndy := hp.nodup_iff.mpr ndk
  refine sorted_ext ?_ ?_ fun k => ?_
  · rw [List.nodup_iff_pairwise_ne] at ndy
    exact hs.imp₂ (fun _ _ h1 h2 => by omega) ndy
  · exact List.Pairwise.filter _ (by decide)
  · rw [hp.mem_iff, List.mem_filter]
    have h1 : k ∈ ks ↔ (f k).isSome = true := by
      have h2 : (Sum.inl k : Key) ∈ kvs.map (·.1) ↔ k ∈ ks := by
        rw [ek, List.mem_map]
        exact ⟨fun ⟨x, hx, q⟩ => by cases q; exact hx, fun hx => ⟨k, hx, rfl⟩⟩
      rw [← h2, ← mem_key, hv k]
      show ((f k).map V.int).isSome = true ↔ _
      cases f k <;> simp
    rw [h1]
    refine ⟨fun q => ⟨?_, q⟩, fun q => q.2⟩
    have := h19 k (h1.mpr q)
    have : k = 1 ∨ k = 2 ∨ k = 3 ∨ k = 4 ∨ k = 5 ∨ k = 6 ∨ k = 7 ∨ k = 8 ∨ k = 9 := by omega
    simp [nine, this]
end TL

namespace TL
open PySem PySem.Spec PyProof.Rows L2
/-! ### an end: the mirror -/
abbrev Mind := List Int × List Int
abbrev SlowL := Int × Mind × Int
abbrev FastL := Int × Option Int × Int
structure EndS where
  can : List Int
  mks : MkS
  over : Int
  ver : Int
  bad : List Int
  oth : Option Mind
  seen : Int
  known : Int
  ready : Bool
  now : Int
  joined : Bool
  wait : List Int
  count : Int
  got : List Int
  part : Int
def EndS.new (can : List Int) : EndS := ⟨can, .new, 0, 1, [], none, 0, 0, false, 0, false, [], 0, [], 0⟩
def refreshF (s : EndS) : EndS := if badF s.mks s.over = s.bad then s else { s with bad := badF s.mks s.over, ver := s.ver + 1 }
def takeF (s : EndS) : Int := match s.oth with
  | none => 0
  | some m => chosenF s.can m.1 (s.bad ++ m.2)
def slowOf (s : EndS) : SlowL := (s.ver, (s.can, s.bad), s.seen)
def fastOf (s : EndS) : FastL := (s.count, s.wait.head?, (s.got.length : Nat))
/-- what is told, ahead of the walk of the fast letter -/
def heardS (s : EndS) (l : Option SlowL) : EndS := match l with
  | none => { s with ready := false }
  | some l => { s with seen := l.1, oth := some l.2.1, known := l.2.2, ready := decide (l.2.2 = s.ver) }
def hearSlowF (s : EndS) (l : Option SlowL) : EndS := { heardS (refreshF s) l with now := takeF (heardS (refreshF s) l) }
def notedF (s : EndS) (j : Bool) : EndS := if 0 < s.now ∧ (j = true ∨ s.ready = true) then { s with joined := j, mks := noteF s.mks s.now j s.over } else { s with joined := j }
def gatherF (s : EndS) (number : Int) (item : Option Int) : EndS := match item with
  | none => s
  | some i => if number = (s.got.length : Nat) then { s with got := s.got ++ [i] } else s
def knowF (s : EndS) (came : Int) : EndS := if s.count < came then { s with count := came, wait := s.wait.tail } else s
def hearFastF (s : EndS) (l : Option FastL) : EndS := match l with
  | none => notedF s false
  | some l => knowF (gatherF (notedF s true) l.1 l.2.1) l.2.2
/-! ### letters as data -/
def canD (ms : List Int) : PyData := .tuple (ms.map .int)
def mindD (m : Mind) : PyData := .tuple [canD m.1, canD m.2]
def othD : Option Mind → PyData
  | none => .none
  | some m => mindD m
def slowD (l : SlowL) : PyData := .tuple [.int l.1, mindD l.2.1, .int l.2.2]
def optD : Option Int → PyData
  | none => .none
  | some i => .int i
def fastD (l : FastL) : PyData := .tuple [.int l.1, optD l.2.1, .int l.2.2]
def slowO : Option SlowL → PyData
  | none => .none
  | some l => slowD l
def fastO : Option FastL → PyData
  | none => .none
  | some l => fastD l
theorem lv_can {ms : List Int} (h : ms.length ≤ 60) (n : Nat) : lv (n + 1) (canD ms) := by
  unfold canD
  simp only [lv]
  exact ⟨by rw [List.length_map]; omega, fun d hd => by
    obtain ⟨i, _, rfl⟩ := List.mem_map.mp hd
    cases n <;> trivial⟩
theorem lv_mind {m : Mind} (h1 : m.1.length ≤ 60) (h2 : m.2.length ≤ 60) (n : Nat) : lv (n + 2) (mindD m) := by
  unfold mindD
  simp only [lv]
  refine ⟨by simp, fun d hd => ?_⟩
  rcases List.mem_cons.mp hd with rfl | hd
  · exact lv_can h1 n
  · rw [List.mem_singleton] at hd
    subst hd
    exact lv_can h2 n
theorem eqv_mind (m k : Mind) : PyData.eqv (mindD m) (mindD k) = decide (m = k) := by
  show (PyData.eqvAll (m.1.map .int) (k.1.map .int) && (PyData.eqvAll (m.2.map .int) (k.2.map .int) && true)) = _
  rw [eqvAll_ints, eqvAll_ints, Bool.and_true]
  obtain ⟨a, b⟩ := m
  obtain ⟨c, d⟩ := k
  by_cases h1 : a = c <;> by_cases h2 : b = d <;> simp [h1, h2]
/-! ### an end in the heap -/
structure EAd where
  e : Addr
  w : Addr
  g : Addr
  mks : MAd
/-- what an end's methods write -/
def EAd.all (a : EAd) : List Addr := [a.e, a.w, a.g, a.mks.w, a.mks.u, a.mks.r, a.mks.t]
def EAd.every (a : EAd) : List Addr := a.mks.m :: a.all
abbrev enN : List Str := ["can", "marks", "over", "version", "mind", "other", "seen", "known", "ready", "now", "joined", "waiting", "count", "gathered", "part"]
theorem enN_nd : enN.Nodup := by decide +kernel
def enV (a : EAd) (s : EndS) (cv mv ov : V) : List V := [cv, .ref a.mks.m, .int s.over, .int s.ver, mv, ov, .int s.seen, .int s.known, .bl s.ready, .int s.now, .bl s.joined, .ref a.w, .int s.count, .ref a.g, .int s.part]
structure EndAt (CE CM : Addr) (Z : List Addr) (H : Hp) (a : EAd) (s : EndS) : Prop where
  ob : ∃ dx cv mv ov, H a.e = some (.ins CE dx (enN.zip (enV a s cv mv ov))) ∧ Im H cv (canD s.can) ∧ Im H mv (mindD (s.can, s.bad)) ∧ Im H ov (othD s.oth)
  mks : MarksAt CM Z H a.mks s.mks
  wt : H a.w = some (.lst (s.wait.map V.int))
  gt : H a.g = some (.lst (s.got.map V.int))
  nd : a.every.Nodup
section
variable {CE CM : Addr} {Z S : List Addr} {H H' : Hp} {a : EAd} {s : EndS}
theorem EAd.mk_all (a : EAd) : ∀ x ∈ a.mks.all, x ∈ a.all := by
  intro x hx
  simp [MAd.all] at hx
  simp [EAd.all]
  rcases hx with h | h | h | h <;> simp [h]
theorem EAd.all_every (a : EAd) : ∀ x ∈ a.all, x ∈ a.every := fun x hx => List.mem_cons_of_mem _ hx
theorem EndAt.frm (h : EndAt CE CM Z H a s) (e : Frm S H H') (hS : ∀ x ∈ S, x ∈ Z) (hd : ∀ x ∈ a.every, x ∉ S) : EndAt CE CM Z H' a s := by
  obtain ⟨⟨dx, cv, mv, ov, h1, h2, h3, h4⟩, M, hw, hg, nd⟩ := h
  exact ⟨⟨dx, cv, mv, ov, e _ _ h1 (hd _ (by simp [EAd.every, EAd.all])), h2.frm e, h3.frm e, h4.frm e⟩,
    M.frm e hS (hd _ (by simp [EAd.every])) (fun x hx => hd x (a.all_every _ (a.mk_all x hx))), e _ _ hw (hd _ (by simp [EAd.every, EAd.all])), e _ _ hg (hd _ (by simp [EAd.every, EAd.all])), nd⟩
theorem EndAt.same (h : EndAt CE CM Z H a s) (e : Same H H') : EndAt CE CM Z H' a s := h.frm (S := []) (.of_same e) (by simp) (by simp)
theorem EndAt.more {Z' : List Addr} (h : EndAt CE CM Z H a s) (hz : ∀ x ∈ Z', x ∈ Z ∨ ∀ bs, H x ≠ some (.lst bs)) : EndAt CE CM Z' H a s :=
  ⟨h.ob, h.mks.more hz, h.wt, h.gt, h.nd⟩
theorem EndAt.there (h : EndAt CE CM Z H a s) : ∀ x ∈ a.every, ∃ o, H x = some o := by
  obtain ⟨⟨dx, cv, mv, ov, h1, h2, h3, h4⟩, M, hw, hg, nd⟩ := h
  intro x hx
  obtain ⟨⟨dm, hm⟩, _⟩ := id M
  simp [EAd.every, EAd.all] at hx
  rcases hx with rfl | rfl | rfl | rfl | hx | hx | hx | hx
  · exact ⟨_, hm⟩
  · exact ⟨_, h1⟩
  · exact ⟨_, hw⟩
  · exact ⟨_, hg⟩
  all_goals exact (M.out x (by subst hx; simp [MAd.all])).2
theorem EndAt.ne_new (h : EndAt CE CM Z H a s) {l : Addr} (n : H l = none) : l ∉ a.every := fun z => by
  obtain ⟨o, e⟩ := h.there l z
  rw [n] at e
  cases e
/-- one of a's places is written, none of the marks' -/
theorem EAd.mk_out {b : Addr} (nd : a.every.Nodup) (hb : b = a.e ∨ b = a.w ∨ b = a.g) : a.mks.m ≠ b ∧ ∀ x ∈ a.mks.all, x ≠ b := by
  simp only [EAd.every, EAd.all, List.nodup_cons, List.mem_cons, not_or, List.not_mem_nil, not_false_eq_true, List.nodup_nil, and_true] at nd
  obtain ⟨⟨m1, m2, m3, m4, m5, m6, m7⟩, ⟨e1, e2, e3, e4, e5, e6⟩, ⟨w1, w2, w3, w4, w5⟩, ⟨g1, g2, g3, g4⟩, _⟩ := nd
  refine ⟨?_, fun x hx => ?_⟩
  · rcases hb with rfl | rfl | rfl
    · exact m1
    · exact m2
    · exact m3
  · simp [MAd.all] at hx
    rcases hb with rfl | rfl | rfl <;> rcases hx with rfl | rfl | rfl | rfl <;> first | exact Ne.symm ‹_› | exact fun z => by simp_all
theorem EAd.ewg (nd : a.every.Nodup) : a.e ≠ a.w ∧ a.e ≠ a.g ∧ a.w ≠ a.g := by
  simp only [EAd.every, EAd.all, List.nodup_cons, List.mem_cons, not_or, List.not_mem_nil, not_false_eq_true, List.nodup_nil, and_true] at nd
  exact ⟨nd.2.1.1, nd.2.1.2.1, nd.2.2.1.1⟩
/-- an attribute is stored -/
theorem EndAt.sfld {K : PySem.W.Frag} {P : Hp → Prop} {f : Str} (h : EndAt CE CM Z H a s) (cl : Cls K CE) (no : NoAttr K CE f) (hZ : a.e ∈ Z) (i : Nat) (v : V) (s' : EndS) (hi : enN[i]? = some f) (hlt : i < 15)
    (hv : ∀ cv mv ov, Im H cv (canD s.can) → Im H mv (mindD (s.can, s.bad)) → Im H ov (othD s.oth) → ∃ cv' mv' ov', (enV a s cv mv ov).set i v = enV a s' cv' mv' ov' ∧ Im H cv' (canD s'.can) ∧ Im H mv' (mindD (s'.can, s'.bad)) ∧ Im H ov' (othD s'.oth))
    (e1 : s'.mks = s.mks) (e2 : s'.wait = s.wait) (e3 : s'.got = s.got)
    (k : ∀ H', EndAt CE CM Z H' a s' → Frm a.all H H' → P H') :
    ∃ (b C dx : Addr) (fs : List (Str × V)), V.ref a.e = .ref b ∧ H b = some (.ins C dx fs) ∧ Cls K C ∧ NoAttr K C f ∧ fs.length < 1000 ∧ P (upd H b (.ins C dx (putF f v fs))) := by
  obtain ⟨⟨dx, cv, mv, ov, h1, h2, h3, h4⟩, M, hw, hg, nd⟩ := h
  refine ⟨a.e, CE, dx, _, rfl, h1, cl, no, zip_small (by decide), ?_⟩
  rw [zip_put enN_nd hi (by show i < 15; exact hlt)]
  obtain ⟨cv', mv', ov', e, g2, g3, g4⟩ := hv cv mv ov h2 h3 h4
  rw [e]
  have f1 : Frm [a.e] H (upd H a.e (.ins CE dx (enN.zip (enV a s' cv' mv' ov')))) := Frm.updI h1
  obtain ⟨n1, n2⟩ := EAd.mk_out nd (b := a.e) (.inl rfl)
  obtain ⟨n3, n4, n5⟩ := EAd.ewg nd
  refine k _ ⟨⟨dx, cv', mv', ov', upd_same, g2.frm f1, g3.frm f1, g4.frm f1⟩, ?_, ?_, ?_, nd⟩ (f1.sub (by simp [EAd.all]))
  · rw [e1]
    exact M.frm f1 (fun x hx => by simp at hx; subst hx; exact hZ) (by simp only [List.mem_singleton]; exact n1) (fun x hx => by simp only [List.mem_singleton]; exact n2 x hx)
  · rw [e2, upd_ne (Ne.symm n3)]; exact hw
  · rw [e3, upd_ne (Ne.symm n4)]; exact hg
theorem EndAt.gfld {K : PySem.W.Frag} {Q : L2.St → Hp → Prop} {f : Str} {r : L2.St} (h : EndAt CE CM Z H a s) (cl : Cls K CE) (no : NoAttr K CE f) (hZ : a.e ∈ Z) (i : Nat) (v : V) (s' : EndS) (hi : enN[i]? = some f) (hlt : i < 15)
    (hv : ∀ cv mv ov, Im H cv (canD s.can) → Im H mv (mindD (s.can, s.bad)) → Im H ov (othD s.oth) → ∃ cv' mv' ov', (enV a s cv mv ov).set i v = enV a s' cv' mv' ov' ∧ Im H cv' (canD s'.can) ∧ Im H mv' (mindD (s'.can, s'.bad)) ∧ Im H ov' (othD s'.oth))
    (e1 : s'.mks = s.mks) (e2 : s'.wait = s.wait) (e3 : s'.got = s.got)
    (k : ∀ H', EndAt CE CM Z H' a s' → Frm a.all H H' → Q (some (.ref a.e) :: r) H') : gFld K (tVar 0) f v (some (.ref a.e) :: r) H Q :=
  ⟨_, rfl, h.sfld (P := Q (some (.ref a.e) :: r)) cl no hZ i v s' hi hlt hv e1 e2 e3 k⟩
/-- the waiting ones -/
theorem EndAt.setW (h : EndAt CE CM Z H a s) (hZ : a.w ∈ Z) (ws : List Int) : EndAt CE CM Z (upd H a.w (.lst (ws.map V.int))) a { s with wait := ws } ∧ Frm a.all H (upd H a.w (.lst (ws.map V.int))) := by
  obtain ⟨⟨dx, cv, mv, ov, h1, h2, h3, h4⟩, M, hw, hg, nd⟩ := h
  have f1 : Frm [a.w] H (upd H a.w (.lst (ws.map V.int))) := Frm.updL hw
  obtain ⟨n1, n2⟩ := EAd.mk_out nd (b := a.w) (.inr (.inl rfl))
  obtain ⟨n3, n4, n5⟩ := EAd.ewg nd
  refine ⟨⟨⟨dx, cv, mv, ov, by rw [upd_ne n3]; exact h1, h2.frm f1, h3.frm f1, h4.frm f1⟩, ?_, upd_same, by rw [upd_ne (Ne.symm n5)]; exact hg, nd⟩, f1.sub (by simp [EAd.all])⟩
  exact M.frm f1 (fun x hx => by simp at hx; subst hx; exact hZ) (by simp only [List.mem_singleton]; exact n1) (fun x hx => by simp only [List.mem_singleton]; exact n2 x hx)
theorem EndAt.setG (h : EndAt CE CM Z H a s) (hZ : a.g ∈ Z) (ws : List Int) : EndAt CE CM Z (upd H a.g (.lst (ws.map V.int))) a { s with got := ws } ∧ Frm a.all H (upd H a.g (.lst (ws.map V.int))) := by
  obtain ⟨⟨dx, cv, mv, ov, h1, h2, h3, h4⟩, M, hw, hg, nd⟩ := h
  have f1 : Frm [a.g] H (upd H a.g (.lst (ws.map V.int))) := Frm.updL hg
  obtain ⟨n1, n2⟩ := EAd.mk_out nd (b := a.g) (.inr (.inr rfl))
  obtain ⟨n3, n4, n5⟩ := EAd.ewg nd
  refine ⟨⟨⟨dx, cv, mv, ov, by rw [upd_ne n4]; exact h1, h2.frm f1, h3.frm f1, h4.frm f1⟩, ?_, by rw [upd_ne n5]; exact hw, upd_same, nd⟩, f1.sub (by simp [EAd.all])⟩
  exact M.frm f1 (fun x hx => by simp at hx; subst hx; exact hZ) (by simp only [List.mem_singleton]; exact n1) (fun x hx => by simp only [List.mem_singleton]; exact n2 x hx)
/-- the marks -/
theorem EndAt.setM (h : EndAt CE CM Z H a s) {m : MkS} (M' : MarksAt CM Z H' a.mks m) (f : Frm a.mks.all H H') : EndAt CE CM Z H' a { s with mks := m } ∧ Frm a.all H H' := by
  obtain ⟨⟨dx, cv, mv, ov, h1, h2, h3, h4⟩, M, hw, hg, nd⟩ := h
  have o : ∀ b, (b = a.e ∨ b = a.w ∨ b = a.g) → b ∉ a.mks.all := fun b hb z => (EAd.mk_out nd hb).2 b z rfl
  exact ⟨⟨⟨dx, cv, mv, ov, f _ _ h1 (o _ (.inl rfl)), h2.frm f, h3.frm f, h4.frm f⟩, M', f _ _ hw (o _ (.inr (.inl rfl))), f _ _ hg (o _ (.inr (.inr rfl))), nd⟩, f.mono a.mk_all⟩
end
/-! ### what an end keeps -/
structure EndOk (s : EndS) : Prop where
  can : Can s.can
  o0 : 0 ≤ s.over
  o1 : s.over ≤ 1000000
  bad : s.bad.length ≤ 9
  oth : ∀ m, s.oth = some m → Can m.1 ∧ m.2.length ≤ 9
  n0 : 0 ≤ s.now
  n9 : s.now ≤ 9
  wait : s.wait.length ≤ 20
  got : s.got.length < 900
theorem bad_len (s : MkS) (f : Int) : (badF s f).length ≤ 9 := List.length_filter_le _ _
theorem EndOk.new {ms : List Int} (h : Can ms) : EndOk (.new ms) where
  can := h
  o0 := Int.le_refl 0
  o1 := (by decide : (0 : Int) ≤ 1000000)
  bad := Nat.zero_le 9
  oth := fun m e => by cases e
  n0 := Int.le_refl 0
  n9 := (by decide : (0 : Int) ≤ 9)
  wait := Nat.zero_le 20
  got := (by decide : (0 : Nat) < 900)
theorem EndOk.refresh {s : EndS} (h : EndOk s) : EndOk (refreshF s) := by
  unfold refreshF
  split
  · exact h
  · exact ⟨h.can, h.o0, h.o1, bad_len _ _, h.oth, h.n0, h.n9, h.wait, h.got⟩
theorem refresh_same (s : EndS) : (refreshF s).can = s.can ∧ (refreshF s).mks = s.mks ∧ (refreshF s).over = s.over ∧ (refreshF s).oth = s.oth ∧ (refreshF s).seen = s.seen ∧ (refreshF s).known = s.known ∧ (refreshF s).ready = s.ready ∧ (refreshF s).now = s.now ∧ (refreshF s).joined = s.joined ∧ (refreshF s).wait = s.wait ∧ (refreshF s).count = s.count ∧ (refreshF s).got = s.got ∧ (refreshF s).part = s.part := by
  unfold refreshF
  split <;> simp
theorem refresh_bad (s : EndS) : (refreshF s).bad = badF s.mks s.over := by
  unfold refreshF
  split
  · rename_i h; exact h.symm
  · rfl
theorem refresh_twice (s : EndS) : refreshF (refreshF s) = refreshF s := by
  have h := refresh_bad s
  obtain ⟨_, h2, h3, _⟩ := refresh_same s
  have e : refreshF (refreshF s) = if badF (refreshF s).mks (refreshF s).over = (refreshF s).bad then refreshF s else { refreshF s with bad := badF (refreshF s).mks (refreshF s).over, ver := (refreshF s).ver + 1 } := rfl
  rw [e, h2, h3, h, if_pos rfl]
theorem chosen_bound {one other bad : List Int} (h : Can one) : 0 ≤ chosenF one other bad ∧ chosenF one other bad ≤ 9 := by
  obtain ⟨h1, h2, _⟩ := isChosen_F one other bad
  refine ⟨h2, ?_⟩
  rcases h1 with e | ⟨e, _⟩
  · omega
  · exact (h.1 _ e).2
/-! ### readings of letters -/
theorem ImAll.ints_inv {H : Hp} : ∀ {xs : List V} {ns : List Int}, ImAll H xs (ns.map .int) → xs = ns.map V.int
  | _, [], .nil => rfl
  | _, n :: r, .cons h t => by
    cases h
    rw [List.map_cons, ImAll.ints_inv t]
theorem im_tup_inv {H : Hp} {v : V} {ds : List PyData} (h : Im H v (.tuple ds)) : ∃ t xs, v = .ref t ∧ H t = some (.tup xs) ∧ ImAll H xs ds := by
  cases h with
  | tup h1 h2 => exact ⟨_, _, rfl, h1, h2⟩
theorem im_can_inv {H : Hp} {v : V} {ms : List Int} (h : Im H v (canD ms)) : ∃ t, v = .ref t ∧ H t = some (.tup (ms.map V.int)) := by
  obtain ⟨t, xs, rfl, h1, h2⟩ := im_tup_inv h
  rw [h2.ints_inv] at h1
  exact ⟨t, rfl, h1⟩
theorem im_two_inv {H : Hp} {v : V} {d e : PyData} (h : Im H v (.tuple [d, e])) : ∃ t x y, v = .ref t ∧ H t = some (.tup [x, y]) ∧ Im H x d ∧ Im H y e := by
  obtain ⟨t, xs, rfl, h1, h2⟩ := im_tup_inv h
  match xs, h2 with
  | [x, y], .cons g1 (.cons g2 .nil) => exact ⟨t, x, y, rfl, h1, g1, g2⟩
theorem im_three_inv {H : Hp} {v : V} {d e f : PyData} (h : Im H v (.tuple [d, e, f])) : ∃ t x y z, v = .ref t ∧ H t = some (.tup [x, y, z]) ∧ Im H x d ∧ Im H y e ∧ Im H z f := by
  obtain ⟨t, xs, rfl, h1, h2⟩ := im_tup_inv h
  match xs, h2 with
  | [x, y, z], .cons g1 (.cons g2 (.cons g3 .nil)) => exact ⟨t, x, y, z, rfl, h1, g1, g2, g3⟩
theorem im_int_inv {H : Hp} {v : V} {i : Int} (h : Im H v (.int i)) : v = .int i := by cases h; rfl
theorem catA {K : PySem.W.Frag} {H : Hp} {Q : VK} {a b : Addr} {xs ys : List V} (h1 : SqT K H a xs) (h2 : SqT K H b ys) (hl : xs.length + ys.length ≤ sizeLine) (k : ∀ u H', SqT K H' u (xs ++ ys) → Same H H' → Q (.ref u) H') : rCatA K (.ref a) (.ref b) H Q := by
  refine ⟨a, b, xs, ys, rfl, rfl, h1, h2, hl, fun z => ?_, fun _ z => ?_, fun _ _ u hu => ?_⟩
  · subst z
    exact k b H h2 (.refl _)
  · subst z
    exact k a H (by rw [List.append_nil]; exact h1) (.refl _)
  · exact k u _ (SqT.of upd_same) (Same.upd_new hu)
/-- an attribute is stored for the first time -/
theorem iniF {K : PySem.W.Frag} {P : Hp → Prop} {f : Str} {CE dx p : Addr} {H : Hp} {vs : List V} (v : V) (h : H p = some (.ins CE dx (enN.zip vs))) (cl : Cls K CE) (no : NoAttr K CE f) (hf : enN[vs.length]? = some f)
    (k : ∀ H', H' p = some (.ins CE dx (enN.zip (vs ++ [v]))) → Frm [p] H H' → P H') :
    ∃ (b C dx : Addr) (fs : List (Str × V)), V.ref p = .ref b ∧ H b = some (.ins C dx fs) ∧ Cls K C ∧ NoAttr K C f ∧ fs.length < 1000 ∧ P (upd H b (.ins C dx (putF f v fs))) := by
  refine ⟨p, CE, dx, _, rfl, h, cl, no, zip_small (by decide), ?_⟩
  rw [zip_add enN_nd hf]
  exact k _ upd_same (Frm.updI h)
theorem MarksAt.ini {CM : Addr} {H H' : Hp} {a : MAd} {s : MkS} {p : Addr} (h : ∀ Z, MarksAt CM Z H a s) (f : Frm [p] H H') (n : p ≠ a.m) (na : ∀ x ∈ a.all, x ≠ p) : ∀ Z, MarksAt CM Z H' a s := fun Z =>
  ((h (p :: Z)).frm f (fun x hx => by simp at hx; simp [hx]) (by simp [Ne.symm n]) (fun x hx => by simp [na x hx])).more fun x hx => .inl (by simp [hx])
end TL

namespace TL
open PySem PySem.Spec PyProof.Rows L2
/-! ### a law's line: the mirror -/
structure LnS where
  ca : List Int
  cb : List Int
  a : EndS
  b : EndS
  sa : List Int
  sb : List Int
  log : List Row
def LnS.new (ca cb : List Int) : LnS := ⟨ca, cb, .new ca, .new cb, [], [], []⟩
def hearF0 (s : EndS) (l : Option SlowL) : EndS := { hearSlowF s l with part := 1 }
def hearF1 (s : EndS) (l : Option FastL) : EndS := { hearFastF s l with part := 0, over := (hearFastF s l).over + 1 }
abbrev Pass := List Int × List Int
abbrev Lost := (Bool × Bool) × (Bool × Bool)
def when {α : Type} (b : Bool) (x : α) : Option α := if b = true then some x else none
def jo (na nb : Int) (m : List Int) (l : Bool) : Bool := decide (na = nb) && (decide (na ∈ m) && !l)
/-- behind the slow part; la, lb: whether the letter comes to a, to b -/
def halfG (la lb : Bool) (s : LnS) : LnS :=
  { s with a := hearF0 (refreshF s.a) (when la (slowOf (refreshF s.b))), b := hearF0 (refreshF s.b) (when lb (slowOf (refreshF s.a))) }
def fastG (ja jb : Bool) (s : LnS) : LnS := { s with a := hearF1 s.a (when ja (fastOf s.b)), b := hearF1 s.b (when jb (fastOf s.a)) }
def halfF (p : Pass) (l : Lost) (s : LnS) : LnS := halfG (jo 0 0 p.1 l.1.1) (jo 0 0 p.2 l.1.2) s
def rowF (p : Pass) (l : Lost) (s : LnS) : Row := (s.a.now, jo s.a.now s.b.now p.1 l.2.1, s.b.now, jo s.a.now s.b.now p.2 l.2.2)
def fastF (p : Pass) (l : Lost) (s : LnS) : LnS := { fastG (jo s.a.now s.b.now p.1 l.2.1) (jo s.a.now s.b.now p.2 l.2.2) s with log := s.log ++ [rowF p l s] }
def frameF (p : Pass) (l : Lost) (s : LnS) : LnS := fastF p l (halfF p l s)
/-! ### in the heap -/
structure LnAd where
  l : Addr
  c : Addr
  es : Addr
  se : Addr
  s0 : Addr
  s1 : Addr
  lg : Addr
  c0 : Addr
  c1 : Addr
  a : EAd
  b : EAd
def LnAd.base (x : LnAd) : List Addr := [x.l, x.c, x.es, x.se, x.s0, x.s1, x.lg]
def LnAd.every (x : LnAd) : List Addr := x.base ++ (x.a.every ++ x.b.every)
def LnAd.all (x : LnAd) : List Addr := [x.l, x.s0, x.s1, x.lg] ++ (x.a.all ++ x.b.all)
def lnD (x : LnAd) (r : Bool) : List (Key × V) := [(.inr "can", .ref x.c), (.inr "ends", .ref x.es), (.inr "sent", .ref x.se), (.inr "log", .ref x.lg), (.inr "right", .bl r)]
theorem lnD_put (x : LnAd) (r r' : Bool) : putK (lnD x r) (.inr "right") (.bl r') = lnD x r' := rfl
structure LineAt (CE CM : Addr) (Z : List Addr) (H : Hp) (x : LnAd) (s : LnS) : Prop where
  l : H x.l = some (.dK (lnD x true))
  c : H x.c = some (.lst [.ref x.c0, .ref x.c1])
  c0 : H x.c0 = some (.tup (s.ca.map V.int))
  c1 : H x.c1 = some (.tup (s.cb.map V.int))
  es : H x.es = some (.lst [.ref x.a.e, .ref x.b.e])
  se : H x.se = some (.lst [.ref x.s0, .ref x.s1])
  s0 : H x.s0 = some (.lst [])
  s1 : H x.s1 = some (.lst [])
  lg : ∃ xs, H x.lg = some (.lst xs) ∧ ImAll H xs (s.log.map rowD)
  ea : EndAt CE CM Z H x.a s.a
  eb : EndAt CE CM Z H x.b s.b
  nd : x.every.Nodup
section
variable {CE CM : Addr} {Z S : List Addr} {H H' : Hp} {x : LnAd} {s : LnS}
theorem LnAd.dis (nd : x.every.Nodup) : x.base.Nodup ∧ (∀ y ∈ x.base, y ∉ x.a.every ∧ y ∉ x.b.every) ∧ ∀ y ∈ x.a.every, y ∉ x.b.every := by
  unfold LnAd.every at nd
  rw [List.nodup_append, List.nodup_append] at nd
  obtain ⟨h1, ⟨h2, h3, h4⟩, h5⟩ := nd
  exact ⟨h1, fun y hy => ⟨fun z => h5 y hy y (by simp [z]) rfl, fun z => h5 y hy y (by simp [z]) rfl⟩, fun y hy z => h4 y hy y z rfl⟩
theorem LnAd.sub_all (x : LnAd) : ∀ y ∈ x.all, y ∈ x.every := by
  intro y hy
  simp only [LnAd.all, List.mem_append] at hy
  simp only [LnAd.every, List.mem_append]
  rcases hy with h | h | h
  · left
    simp [LnAd.base] at h ⊢
    rcases h with h | h | h | h <;> simp [h]
  · exact .inr (.inl (x.a.all_every _ h))
  · exact .inr (.inr (x.b.all_every _ h))
theorem LnAd.a_all (x : LnAd) : ∀ y ∈ x.a.all, y ∈ x.all := fun y hy => by simp [LnAd.all, hy]
theorem LnAd.b_all (x : LnAd) : ∀ y ∈ x.b.all, y ∈ x.all := fun y hy => by simp [LnAd.all, hy]
theorem LineAt.frm (h : LineAt CE CM Z H x s) (e : Frm S H H') (hS : ∀ y ∈ S, y ∈ Z) (hd : ∀ y ∈ x.every, y ∉ S) : LineAt CE CM Z H' x s := by
  have b : ∀ y ∈ x.base, y ∉ S := fun y hy => hd y (by simp [LnAd.every, hy])
  obtain ⟨xs, h1, h2⟩ := h.lg
  refine ⟨e _ _ h.l (b _ (by simp [LnAd.base])), e _ _ h.c (b _ (by simp [LnAd.base])), e.tups _ _ h.c0, e.tups _ _ h.c1, e _ _ h.es (b _ (by simp [LnAd.base])), e _ _ h.se (b _ (by simp [LnAd.base])), e _ _ h.s0 (b _ (by simp [LnAd.base])), e _ _ h.s1 (b _ (by simp [LnAd.base])),
    ⟨xs, e _ _ h1 (b _ (by simp [LnAd.base])), h2.frm e⟩, h.ea.frm e hS fun y hy => hd y (by simp [LnAd.every, hy]), h.eb.frm e hS fun y hy => hd y (by simp [LnAd.every, hy]), h.nd⟩
theorem LineAt.same (h : LineAt CE CM Z H x s) (e : Same H H') : LineAt CE CM Z H' x s := h.frm (S := []) (.of_same e) (by simp) (by simp)
theorem LineAt.more {Z' : List Addr} (h : LineAt CE CM Z H x s) (hz : ∀ y ∈ Z', y ∈ Z ∨ ∀ bs, H y ≠ some (.lst bs)) : LineAt CE CM Z' H x s :=
  ⟨h.l, h.c, h.c0, h.c1, h.es, h.se, h.s0, h.s1, h.lg, h.ea.more hz, h.eb.more hz, h.nd⟩
theorem LineAt.there (h : LineAt CE CM Z H x s) : ∀ y ∈ x.every, ∃ o, H y = some o := by
  intro y hy
  simp only [LnAd.every, List.mem_append] at hy
  rcases hy with hy | hy | hy
  · obtain ⟨xs, h1, h2⟩ := h.lg
    simp [LnAd.base] at hy
    rcases hy with rfl | rfl | rfl | rfl | rfl | rfl | rfl
    · exact ⟨_, h.l⟩
    · exact ⟨_, h.c⟩
    · exact ⟨_, h.es⟩
    · exact ⟨_, h.se⟩
    · exact ⟨_, h.s0⟩
    · exact ⟨_, h.s1⟩
    · exact ⟨_, h1⟩
  · exact h.ea.there y hy
  · exact h.eb.there y hy
theorem LineAt.ne_new (h : LineAt CE CM Z H x s) {l : Addr} (n : H l = none) : l ∉ x.every := fun z => by
  obtain ⟨o, e⟩ := h.there l z
  rw [n] at e
  cases e
/-- an end goes on -/
theorem LineAt.setA (h : LineAt CE CM Z H x s) {a' : EndS} (E : EndAt CE CM Z H' x.a a') (f : Frm x.a.all H H') (hZ : ∀ z ∈ x.all, z ∈ Z) : LineAt CE CM Z H' x { s with a := a' } ∧ Frm x.all H H' := by
  obtain ⟨d1, d2, d3⟩ := LnAd.dis h.nd
  have b : ∀ y ∈ x.base, y ∉ x.a.all := fun y hy z => (d2 y hy).1 (x.a.all_every y z)
  obtain ⟨xs, h1, h2⟩ := h.lg
  exact ⟨⟨f _ _ h.l (b _ (by simp [LnAd.base])), f _ _ h.c (b _ (by simp [LnAd.base])), f.tups _ _ h.c0, f.tups _ _ h.c1, f _ _ h.es (b _ (by simp [LnAd.base])), f _ _ h.se (b _ (by simp [LnAd.base])), f _ _ h.s0 (b _ (by simp [LnAd.base])), f _ _ h.s1 (b _ (by simp [LnAd.base])),
    ⟨xs, f _ _ h1 (b _ (by simp [LnAd.base])), h2.frm f⟩, E, h.eb.frm f (fun y hy => hZ y (x.a_all y hy)) fun y hy z => d3 y (x.a.all_every y z) hy, h.nd⟩, f.mono x.a_all⟩
theorem LineAt.setB (h : LineAt CE CM Z H x s) {b' : EndS} (E : EndAt CE CM Z H' x.b b') (f : Frm x.b.all H H') (hZ : ∀ z ∈ x.all, z ∈ Z) : LineAt CE CM Z H' x { s with b := b' } ∧ Frm x.all H H' := by
  obtain ⟨d1, d2, d3⟩ := LnAd.dis h.nd
  have b : ∀ y ∈ x.base, y ∉ x.b.all := fun y hy z => (d2 y hy).2 (x.b.all_every y z)
  obtain ⟨xs, h1, h2⟩ := h.lg
  exact ⟨⟨f _ _ h.l (b _ (by simp [LnAd.base])), f _ _ h.c (b _ (by simp [LnAd.base])), f.tups _ _ h.c0, f.tups _ _ h.c1, f _ _ h.es (b _ (by simp [LnAd.base])), f _ _ h.se (b _ (by simp [LnAd.base])), f _ _ h.s0 (b _ (by simp [LnAd.base])), f _ _ h.s1 (b _ (by simp [LnAd.base])),
    ⟨xs, f _ _ h1 (b _ (by simp [LnAd.base])), h2.frm f⟩, h.ea.frm f (fun y hy => hZ y (x.b_all y hy)) fun y hy z => d3 y hy (x.b.all_every y z), E, h.nd⟩, f.mono x.b_all⟩
/-- a place of the line's own is written -/
theorem LnAd.ownd (nd : x.every.Nodup) {d : Addr} (hd : d ∈ x.base) : (∀ y ∈ x.a.every, y ∉ [d]) ∧ (∀ y ∈ x.b.every, y ∉ [d]) := by
  obtain ⟨d1, d2, d3⟩ := LnAd.dis nd
  exact ⟨fun y hy z => (d2 d hd).1 (by simp at z; rw [← z]; exact hy), fun y hy z => (d2 d hd).2 (by simp at z; rw [← z]; exact hy)⟩
theorem LnAd.basen (nd : x.every.Nodup) : (x.l ≠ x.c ∧ x.l ≠ x.es ∧ x.l ≠ x.se ∧ x.l ≠ x.s0 ∧ x.l ≠ x.s1 ∧ x.l ≠ x.lg) ∧ (x.c ≠ x.es ∧ x.c ≠ x.se ∧ x.c ≠ x.s0 ∧ x.c ≠ x.s1 ∧ x.c ≠ x.lg) ∧ (x.es ≠ x.se ∧ x.es ≠ x.s0 ∧ x.es ≠ x.s1 ∧ x.es ≠ x.lg) ∧ (x.se ≠ x.s0 ∧ x.se ≠ x.s1 ∧ x.se ≠ x.lg) ∧ (x.s0 ≠ x.s1 ∧ x.s0 ≠ x.lg) ∧ x.s1 ≠ x.lg := by
  have d1 := (LnAd.dis nd).1
  simpa only [LnAd.base, List.nodup_cons, List.mem_cons, not_or, List.not_mem_nil, not_false_eq_true, List.nodup_nil, and_true] using d1
/-- "right" is stored again -/
theorem LineAt.setR (h : LineAt CE CM Z H x s) (hZ : x.l ∈ Z) : LineAt CE CM Z (upd H x.l (.dK (lnD x true))) x s ∧ Frm x.all H (upd H x.l (.dK (lnD x true))) := by
  obtain ⟨⟨n1, n2, n3, n4, n5, n6⟩, _⟩ := LnAd.basen h.nd
  obtain ⟨o1, o2⟩ := LnAd.ownd h.nd (d := x.l) (by simp [LnAd.base])
  have f : Frm [x.l] H (upd H x.l (.dK (lnD x true))) := Frm.updK h.l
  obtain ⟨xs, h1, h2⟩ := h.lg
  have k : ∀ {y o}, H y = some o → x.l ≠ y → (upd H x.l (.dK (lnD x true))) y = some o := fun e n => by rw [upd_ne (Ne.symm n)]; exact e
  exact ⟨⟨upd_same, k h.c n1, f.tups _ _ h.c0, f.tups _ _ h.c1, k h.es n2, k h.se n3, k h.s0 n4, k h.s1 n5, ⟨xs, k h1 n6, h2.frm f⟩, h.ea.frm f (fun y hy => by simp at hy; subst hy; exact hZ) o1, h.eb.frm f (fun y hy => by simp at hy; subst hy; exact hZ) o2, h.nd⟩, f.sub (by simp [LnAd.all])⟩
/-- a row more -/
theorem LineAt.setLog (h : LineAt CE CM Z H x s) (hZ : x.lg ∈ Z) {xs : List V} {rs : List Row} (hA : ImAll H xs (rs.map rowD)) : LineAt CE CM Z (upd H x.lg (.lst xs)) x { s with log := rs } ∧ Frm x.all H (upd H x.lg (.lst xs)) := by
  obtain ⟨⟨_, _, _, _, _, n1⟩, ⟨_, _, _, _, n2⟩, ⟨_, _, _, n3⟩, ⟨_, _, n4⟩, ⟨_, n5⟩, n6⟩ := LnAd.basen h.nd
  obtain ⟨o1, o2⟩ := LnAd.ownd h.nd (d := x.lg) (by simp [LnAd.base])
  obtain ⟨xs0, h1, h2⟩ := h.lg
  have f : Frm [x.lg] H (upd H x.lg (.lst xs)) := Frm.updL h1
  have k : ∀ {y o}, H y = some o → y ≠ x.lg → (upd H x.lg (.lst xs)) y = some o := fun e n => by rw [upd_ne n]; exact e
  exact ⟨⟨k h.l n1, k h.c n2, f.tups _ _ h.c0, f.tups _ _ h.c1, k h.es n3, k h.se n4, k h.s0 n5, k h.s1 n6, ⟨xs, upd_same, hA.frm f⟩, h.ea.frm f (fun y hy => by simp at hy; subst hy; exact hZ) o1, h.eb.frm f (fun y hy => by simp at hy; subst hy; exact hZ) o2, h.nd⟩, f.sub (by simp [LnAd.all])⟩
theorem LineAt.get (h : LineAt CE CM Z H x s) : DGet H x.l (.str "can") (some (.ref x.c)) ∧ DGet H x.l (.str "ends") (some (.ref x.es)) ∧ DGet H x.l (.str "sent") (some (.ref x.se)) ∧ DGet H x.l (.str "log") (some (.ref x.lg)) ∧ DGet H x.l (.str "right") (some (.bl true)) :=
  ⟨DGet.k (k := .inr "can") h.l, DGet.k (k := .inr "ends") h.l, DGet.k (k := .inr "sent") h.l, DGet.k (k := .inr "log") h.l, DGet.k (k := .inr "right") h.l⟩
end
theorem nd_snoc {L M : List Addr} {H : Hp} (a : L.Nodup) (al : Alloc L H) (b : M.Nodup) (n : ∀ y ∈ M, H y = none) : (L ++ M).Nodup := by
  rw [List.nodup_append]
  refine ⟨a, b, fun x hx y hy e => ?_⟩
  subst e
  obtain ⟨o, ho⟩ := al x hx
  rw [n x hy] at ho
  cases ho
theorem Alloc.app {L M : List Addr} {H : Hp} (a : Alloc L H) (b : Alloc M H) : Alloc (L ++ M) H := fun z hz => (List.mem_append.mp hz).elim (a z) (b z)
theorem EndAt.ini {CE CM : Addr} {H H' : Hp} {a : EAd} {s : EndS} {p : Addr} (h : ∀ Z, EndAt CE CM Z H a s) (f : Frm [p] H H') (n : p ∉ a.every) : ∀ Z, EndAt CE CM Z H' a s := fun Z =>
  ((h (p :: Z)).frm f (fun x hx => by simp at hx; simp [hx]) (fun x hx z => by simp at z; subst z; exact n hx)).more fun x hx => .inl (by simp [hx])
/-! ### what always holds -/
structure Del (e : EndS) (sent got : List Int) : Prop where
  n : ∃ n : Nat, e.count = n ∧ n ≤ got.length ∧ got.length ≤ n + 1 ∧ e.wait = sent.drop n
  pre : got = sent.take got.length
  len : got.length ≤ sent.length
structure LnOk (pt : Int) (s : LnS) : Prop where
  ea : EndOk s.a
  eb : EndOk s.b
  pa : s.a.part = pt
  pb : s.b.part = pt
  ov : s.a.over = s.b.over
  ka : s.a.can = s.ca
  kb : s.b.can = s.cb
  oa : ∀ m, s.a.oth = some m → m.1 = s.cb
  ob : ∀ m, s.b.oth = some m → m.1 = s.ca
  na : s.a.now ∈ s.ca ∧ s.a.now ∈ s.cb
  nb : s.b.now ∈ s.ca ∧ s.b.now ∈ s.cb
  da : Del s.a s.sa s.b.got
  db : Del s.b s.sb s.a.got
  la : s.sa.length < 900
  lb : s.sb.length < 900
theorem LnOk.new {ca cb : List Int} (ha : Can ca) (hb : Can cb) : LnOk 0 (.new ca cb) where
  ea := EndOk.new ha
  eb := EndOk.new hb
  pa := rfl
  pb := rfl
  ov := rfl
  ka := rfl
  kb := rfl
  oa := fun m e => by cases e
  ob := fun m e => by cases e
  na := ⟨ha.2.2.1, hb.2.2.1⟩
  nb := ⟨ha.2.2.1, hb.2.2.1⟩
  da := ⟨⟨0, rfl, Nat.zero_le _, Nat.zero_le _, rfl⟩, rfl, Nat.zero_le _⟩
  db := ⟨⟨0, rfl, Nat.zero_le _, Nat.zero_le _, rfl⟩, rfl, Nat.zero_le _⟩
  la := (by decide : (0 : Nat) < 900)
  lb := (by decide : (0 : Nat) < 900)
/-- what a slow part leaves -/
theorem slow_parts (s : EndS) (l : Option SlowL) : (hearF0 (refreshF s) l).can = s.can ∧ (hearF0 (refreshF s) l).mks = s.mks ∧ (hearF0 (refreshF s) l).over = s.over ∧ (hearF0 (refreshF s) l).bad = badF s.mks s.over ∧ (hearF0 (refreshF s) l).wait = s.wait ∧ (hearF0 (refreshF s) l).count = s.count ∧ (hearF0 (refreshF s) l).got = s.got ∧
    (hearF0 (refreshF s) l).oth = (match l with | none => s.oth | some l => some l.2.1) ∧ (hearF0 (refreshF s) l).joined = s.joined := by
  obtain ⟨h1, h2, h3, h4, h5, h6, h7, h8, h9, h10, h11, h12, h13⟩ := refresh_same s
  have h0 := refresh_bad s
  unfold hearF0 hearSlowF
  rw [refresh_twice]
  cases l with
  | none => exact ⟨h1, h2, h3, h0, h10, h11, h12, h4, h9⟩
  | some l => exact ⟨h1, h2, h3, h0, h10, h11, h12, rfl, h9⟩
theorem slow_now (s : EndS) (l : Option SlowL) : (hearF0 (refreshF s) l).now = match (hearF0 (refreshF s) l).oth with | none => 0 | some m => chosenF s.can m.1 (badF s.mks s.over ++ m.2) := by
  have hc := (slow_parts s l).1
  have hb := (slow_parts s l).2.2.2.1
  have e : (hearF0 (refreshF s) l).now = takeF (hearF0 (refreshF s) l) := by
    unfold hearF0 hearSlowF
    rw [refresh_twice]
    rfl
  rw [e]
  unfold takeF
  rw [hc, hb]
  all_goals cases (hearF0 (refreshF s) l).oth <;> rfl
theorem chosen_in {one other bad : List Int} (h1 : 0 ∈ one) (h2 : 0 ∈ other) : chosenF one other bad ∈ one ∧ chosenF one other bad ∈ other := by
  rcases (isChosen_F one other bad).1 with e | ⟨e1, e2, _⟩
  · rw [e]; exact ⟨h1, h2⟩
  · exact ⟨e1, e2⟩
theorem EndOk.slow {s : EndS} (h : EndOk s) {l : Option SlowL} (hl : ∀ m, l = some m → Can m.2.1.1 ∧ m.2.1.2.length ≤ 9) : EndOk (hearF0 (refreshF s) l) := by
  obtain ⟨h1, h2, h3, h4, h5, h6, h7, h8, h9⟩ := slow_parts s l
  have hn := slow_now s l
  have hb : 0 ≤ (hearF0 (refreshF s) l).now ∧ (hearF0 (refreshF s) l).now ≤ 9 := by
    rw [hn]
    split
    · decide
    · exact chosen_bound h.can
  refine ⟨by rw [h1]; exact h.can, by rw [h3]; exact h.o0, by rw [h3]; exact h.o1, by rw [h4]; exact bad_len _ _, fun m e => ?_, hb.1, hb.2, by rw [h5]; exact h.wait, by rw [h7]; exact h.got⟩
  rw [h8] at e
  cases l with
  | none => exact h.oth m e
  | some l =>
    have e' : l.2.1 = m := Option.some.inj e
    rw [← e']
    exact hl l rfl
theorem when_some {α : Type} {b : Bool} {x y : α} (h : when b x = some y) : b = true ∧ x = y := by
  unfold when at h
  split at h
  · exact ⟨‹_›, Option.some.inj h⟩
  · cases h
theorem LnOk.half {s : LnS} (h : LnOk 0 s) (la lb : Bool) : LnOk 1 (halfG la lb s) := by
  have mind : ∀ {e : EndS}, EndOk e → Can (slowOf (refreshF e)).2.1.1 ∧ (slowOf (refreshF e)).2.1.2.length ≤ 9 := fun {e} he => ⟨he.refresh.can, he.refresh.bad⟩
  have wa : ∀ m, when la (slowOf (refreshF s.b)) = some m → Can m.2.1.1 ∧ m.2.1.2.length ≤ 9 := fun m e => by rw [← (when_some e).2]; exact mind h.eb
  have wb : ∀ m, when lb (slowOf (refreshF s.a)) = some m → Can m.2.1.1 ∧ m.2.1.2.length ≤ 9 := fun m e => by rw [← (when_some e).2]; exact mind h.ea
  obtain ⟨a1, a2, a3, a4, a5, a6, a7, a8, a9⟩ := slow_parts s.a (when la (slowOf (refreshF s.b)))
  obtain ⟨b1, b2, b3, b4, b5, b6, b7, b8, b9⟩ := slow_parts s.b (when lb (slowOf (refreshF s.a)))
  have oa : ∀ m, (halfG la lb s).a.oth = some m → m.1 = s.cb := fun m e => by
    have e' : (match when la (slowOf (refreshF s.b)) with | none => s.a.oth | some l => some l.2.1) = some m := a8 ▸ e
    cases hw : when la (slowOf (refreshF s.b)) with
    | none => rw [hw] at e'; exact h.oa m e'
    | some l =>
      rw [hw] at e'
      have e1 : l.2.1 = m := Option.some.inj e'
      rw [← e1, ← (when_some hw).2]
      show (refreshF s.b).can = _
      rw [(refresh_same s.b).1, h.kb]
  have ob : ∀ m, (halfG la lb s).b.oth = some m → m.1 = s.ca := fun m e => by
    have e' : (match when lb (slowOf (refreshF s.a)) with | none => s.b.oth | some l => some l.2.1) = some m := b8 ▸ e
    cases hw : when lb (slowOf (refreshF s.a)) with
    | none => rw [hw] at e'; exact h.ob m e'
    | some l =>
      rw [hw] at e'
      have e1 : l.2.1 = m := Option.some.inj e'
      rw [← e1, ← (when_some hw).2]
      show (refreshF s.a).can = _
      rw [(refresh_same s.a).1, h.ka]
  have ca0 : 0 ∈ s.ca := by rw [← h.ka]; exact h.ea.can.2.2.1
  have cb0 : 0 ∈ s.cb := by rw [← h.kb]; exact h.eb.can.2.2.1
  have na : (halfG la lb s).a.now ∈ s.ca ∧ (halfG la lb s).a.now ∈ s.cb := by
    have hn : (halfG la lb s).a.now = _ := slow_now s.a (when la (slowOf (refreshF s.b)))
    rw [hn]
    split
    · exact ⟨ca0, cb0⟩
    · rename_i m hm
      have e := oa m hm
      rw [e, h.ka]
      exact chosen_in ca0 cb0
  have nb : (halfG la lb s).b.now ∈ s.ca ∧ (halfG la lb s).b.now ∈ s.cb := by
    have hn : (halfG la lb s).b.now = _ := slow_now s.b (when lb (slowOf (refreshF s.a)))
    rw [hn]
    split
    · exact ⟨ca0, cb0⟩
    · rename_i m hm
      have e := ob m hm
      rw [e, h.kb]
      exact (chosen_in cb0 ca0).symm
  have del : ∀ {e e' : EndS} {sent g g' : List Int}, Del e sent g → e'.count = e.count → e'.wait = e.wait → g' = g → Del e' sent g' := fun {e e' sent g g'} d q1 q2 q3 => by
    subst q3
    exact ⟨by rw [q1, q2]; exact d.n, d.pre, d.len⟩
  exact ⟨h.ea.slow wa, h.eb.slow wb, rfl, rfl, by show (hearF0 _ _).over = (hearF0 _ _).over; rw [a3, b3]; exact h.ov, a1.trans h.ka, b1.trans h.kb, oa, ob, na, nb, del h.da a6 a5 b7, del h.db b6 b5 a7, h.la, h.lb⟩
/-- what came, of the items -/
def gotF (got : List Int) : Option FastL → List Int
  | none => got
  | some l => match l.2.1 with
    | none => got
    | some i => if l.1 = (got.length : Nat) then got ++ [i] else got
def cwF (c : Int) (w : List Int) : Option FastL → Int × List Int
  | none => (c, w)
  | some l => if c < l.2.2 then (l.2.2, w.tail) else (c, w)
theorem noted_parts (s : EndS) (j : Bool) : (notedF s j).can = s.can ∧ (notedF s j).over = s.over ∧ (notedF s j).bad = s.bad ∧ (notedF s j).oth = s.oth ∧ (notedF s j).now = s.now ∧ (notedF s j).joined = j ∧ (notedF s j).wait = s.wait ∧ (notedF s j).count = s.count ∧ (notedF s j).got = s.got ∧ (notedF s j).ver = s.ver ∧ (notedF s j).seen = s.seen ∧ (notedF s j).known = s.known ∧ (notedF s j).ready = s.ready := by
  unfold notedF
  split <;> simp
theorem fast_parts (s : EndS) (l : Option FastL) : (hearF1 s l).can = s.can ∧ (hearF1 s l).over = s.over + 1 ∧ (hearF1 s l).bad = s.bad ∧ (hearF1 s l).oth = s.oth ∧ (hearF1 s l).now = s.now ∧ (hearF1 s l).joined = l.isSome ∧ (hearF1 s l).got = gotF s.got l ∧ (hearF1 s l).count = (cwF s.count s.wait l).1 ∧ (hearF1 s l).wait = (cwF s.count s.wait l).2 ∧
    (hearF1 s l).mks = (notedF s l.isSome).mks ∧ (hearF1 s l).ver = s.ver ∧ (hearF1 s l).seen = s.seen ∧ (hearF1 s l).known = s.known ∧ (hearF1 s l).ready = s.ready := by
  cases l with
  | none =>
    obtain ⟨h1, h2, h3, h4, h5, h6, h7, h8, h9, h10, h11, h12, h13⟩ := noted_parts s false
    exact ⟨h1, by show (notedF s false).over + 1 = _; rw [h2], h3, h4, h5, h6, h9, h8, h7, rfl, h10, h11, h12, h13⟩
  | some l =>
    obtain ⟨n, i, c⟩ := l
    obtain ⟨h1, h2, h3, h4, h5, h6, h7, h8, h9, h10, h11, h12, h13⟩ := noted_parts s true
    have g : ∀ e : EndS, (gatherF e n i).can = e.can ∧ (gatherF e n i).over = e.over ∧ (gatherF e n i).bad = e.bad ∧ (gatherF e n i).oth = e.oth ∧ (gatherF e n i).now = e.now ∧ (gatherF e n i).joined = e.joined ∧ (gatherF e n i).got = gotF e.got (some (n, i, c)) ∧ (gatherF e n i).count = e.count ∧ (gatherF e n i).wait = e.wait ∧ (gatherF e n i).mks = e.mks ∧ (gatherF e n i).ver = e.ver ∧ (gatherF e n i).seen = e.seen ∧ (gatherF e n i).known = e.known ∧ (gatherF e n i).ready = e.ready := fun e => by
      cases i with
      | none => simp [gatherF, gotF]
      | some i =>
        simp only [gatherF, gotF]
        split <;> simp
    obtain ⟨g1, g2, g3, g4, g5, g6, g7, g8, g9, g10, g11, g12, g13, g14⟩ := g (notedF s true)
    have e : hearFastF s (some (n, i, c)) = knowF (gatherF (notedF s true) n i) c := rfl
    have k : ∀ e : EndS, (knowF e c).can = e.can ∧ (knowF e c).over = e.over ∧ (knowF e c).bad = e.bad ∧ (knowF e c).oth = e.oth ∧ (knowF e c).now = e.now ∧ (knowF e c).joined = e.joined ∧ (knowF e c).got = e.got ∧ (knowF e c).count = (cwF e.count e.wait (some (n, i, c))).1 ∧ (knowF e c).wait = (cwF e.count e.wait (some (n, i, c))).2 ∧ (knowF e c).mks = e.mks ∧ (knowF e c).ver = e.ver ∧ (knowF e c).seen = e.seen ∧ (knowF e c).known = e.known ∧ (knowF e c).ready = e.ready := fun e => by
      simp only [knowF, cwF]
      split <;> simp
    obtain ⟨k1, k2, k3, k4, k5, k6, k7, k8, k9, k10, k11, k12, k13, k14⟩ := k (gatherF (notedF s true) n i)
    refine ⟨k1.trans (g1.trans h1), ?_, k3.trans (g3.trans h3), k4.trans (g4.trans h4), k5.trans (g5.trans h5), k6.trans (g6.trans h6), k7.trans (g7.trans (by rw [h9])), k8.trans (by rw [g8, g9, h7, h8]), k9.trans (by rw [g8, g9, h7, h8]), k10.trans g10, k11.trans (g11.trans h10), k12.trans (g12.trans h11), k13.trans (g13.trans h12), k14.trans (g14.trans h13)⟩
    show (hearFastF s (some (n, i, c))).over + 1 = _
    rw [e, k2, g2, h2]
theorem Del.fast {e e' : EndS} {sent g g' : List Int} (d : Del e sent g) (ja jb : Bool) (t : FastL) (u : FastL) (ht : t.2.2 = (g.length : Nat)) (hu1 : u.1 = e.count) (hu2 : u.2.1 = e.wait.head?)
    (h1 : e'.count = (cwF e.count e.wait (when ja t)).1) (h2 : e'.wait = (cwF e.count e.wait (when ja t)).2) (h3 : g' = gotF g (when jb u)) : Del e' sent g' := by
  obtain ⟨⟨n, q1, q2, q3, q4⟩, pre, len⟩ := d
  have gg : g' = g ∨ (n = g.length ∧ ∃ v, sent[n]? = some v ∧ g' = g ++ [v]) := by
    rw [h3]
    cases jb with
    | false => exact .inl rfl
    | true =>
      have e1 : gotF g (when true u) = match sent[n]? with
          | none => g
          | some i => if (n : Int) = (g.length : Nat) then g ++ [i] else g := by
        show gotF g (some u) = _
        unfold gotF
        simp only
        rw [hu2, hu1, q1, q4, List.head?_drop]
      rw [e1]
      cases hs : sent[n]? with
      | none => exact .inl rfl
      | some v =>
        by_cases hc : (n : Int) = (g.length : Nat)
        · exact .inr ⟨by omega, v, rfl, if_pos hc⟩
        · exact .inl (if_neg hc)
  have cc : (e'.count = n ∧ e'.wait = sent.drop n) ∨ (g.length = n + 1 ∧ e'.count = (n + 1 : Nat) ∧ e'.wait = sent.drop (n + 1)) := by
    rw [h1, h2]
    cases ja with
    | false => exact .inl ⟨q1, q4⟩
    | true =>
      show (cwF e.count e.wait (some t)).1 = _ ∧ _ ∨ _
      simp only [cwF, when, if_true, ht, q1]
      by_cases hlt : (n : Int) < (g.length : Nat)
      · rw [if_pos hlt]
        refine .inr ⟨by omega, by simp only; omega, ?_⟩
        simp only
        rw [q4, List.tail_drop]
      · rw [if_neg hlt]
        exact .inl ⟨rfl, q4⟩
  rcases gg with rfl | ⟨hn, v, hv, rfl⟩
  · rcases cc with ⟨c1, c2⟩ | ⟨c0, c1, c2⟩
    · exact ⟨⟨n, c1, q2, q3, c2⟩, pre, len⟩
    · exact ⟨⟨n + 1, c1, by omega, by omega, c2⟩, pre, len⟩
  · have hlt : n < sent.length := (List.getElem?_eq_some_iff.mp hv).1
    rcases cc with ⟨c1, c2⟩ | ⟨c0, c1, c2⟩
    · refine ⟨⟨n, c1, by simp; omega, by simp; omega, c2⟩, ?_, by simp; omega⟩
      rw [List.length_append, List.length_singleton, ← hn, take_more hv]
      congr 1
      rw [hn]
      exact pre
    · omega
theorem EndOk.fast {s : EndS} (h : EndOk s) (l : Option FastL) (ho : s.over < 1000000) (hw : (hearF1 s l).wait.length ≤ 20) (hg : (hearF1 s l).got.length < 900) : EndOk (hearF1 s l) := by
  obtain ⟨h1, h2, h3, h4, h5, h6, h7, h8, h9, h10, _⟩ := fast_parts s l
  have := h.o0
  exact ⟨by rw [h1]; exact h.can, by rw [h2]; omega, by rw [h2]; omega, by rw [h3]; exact h.bad, fun m e => h.oth m (h4 ▸ e), by rw [h5]; exact h.n0, by rw [h5]; exact h.n9, hw, hg⟩
theorem cw_len (c : Int) (w : List Int) (l : Option FastL) : (cwF c w l).2.length ≤ w.length := by
  cases l with
  | none => exact Nat.le_refl _
  | some l =>
    simp only [cwF]
    split
    · simp only [List.length_tail]; omega
    · exact Nat.le_refl _
theorem LnOk.fast {s : LnS} (h : LnOk 1 s) (ja jb : Bool) (ho : s.a.over < 1000000) : LnOk 0 (fastG ja jb s) := by
  obtain ⟨a1, a2, a3, a4, a5, a6, a7, a8, a9, a10, _⟩ := fast_parts s.a (when ja (fastOf s.b))
  obtain ⟨b1, b2, b3, b4, b5, b6, b7, b8, b9, b10, _⟩ := fast_parts s.b (when jb (fastOf s.a))
  have ov := h.ov
  have da : Del (fastG ja jb s).a s.sa (fastG ja jb s).b.got := h.da.fast ja jb (fastOf s.b) (fastOf s.a) rfl rfl rfl a8 a9 b7
  have db : Del (fastG ja jb s).b s.sb (fastG ja jb s).a.got := h.db.fast jb ja (fastOf s.a) (fastOf s.b) rfl rfl rfl b8 b9 a7
  have wa := h.ea.wait
  have wb := h.eb.wait
  have ca := cw_len s.a.count s.a.wait (when ja (fastOf s.b))
  have cb := cw_len s.b.count s.b.wait (when jb (fastOf s.a))
  have la := h.la
  have lb := h.lb
  exact ⟨h.ea.fast _ ho (by rw [a9]; omega) (Nat.lt_of_le_of_lt db.len h.lb), h.eb.fast _ (by omega) (by rw [b9]; omega) (Nat.lt_of_le_of_lt da.len h.la), rfl, rfl, by show (hearF1 _ _).over = (hearF1 _ _).over; rw [a2, b2, ov], a1.trans h.ka, b1.trans h.kb, fun m e => h.oa m (a4 ▸ e), fun m e => h.ob m (b4 ▸ e),
    by show (hearF1 _ _).now ∈ _ ∧ (hearF1 _ _).now ∈ _; rw [a5]; exact h.na, by show (hearF1 _ _).now ∈ _ ∧ (hearF1 _ _).now ∈ _; rw [b5]; exact h.nb, da, db, h.la, h.lb⟩
/-- a letter that tells more came, so something waits -/
theorem Del.waits {e : EndS} {sent g : List Int} (d : Del e sent g) (h : e.count < (g.length : Nat)) : e.wait ≠ [] := by
  obtain ⟨⟨n, q1, q2, q3, q4⟩, pre, len⟩ := d
  rw [q4]
  intro z
  rw [List.drop_eq_nil_iff] at z
  omega
theorem LnOk.log {pt : Int} {s : LnS} (h : LnOk pt s) (rs : List Row) : LnOk pt { s with log := rs } := ⟨h.ea, h.eb, h.pa, h.pb, h.ov, h.ka, h.kb, h.oa, h.ob, h.na, h.nb, h.da, h.db, h.la, h.lb⟩
theorem LnOk.frame {s : LnS} (h : LnOk 0 s) (p : Pass) (l : Lost) (ho : s.a.over < 1000000) : LnOk 0 (frameF p l s) :=
  ((h.half _ _).fast _ _ (by show (hearF0 _ _).over < _; rw [(slow_parts _ _).2.2.1]; exact ho)).log _
/-- an end sends something, if it may -/
def sendA (s : LnS) (i : Int) : LnS := { s with a := { s.a with wait := s.a.wait ++ [i] }, sa := s.sa ++ [i] }
def sendB (s : LnS) (i : Int) : LnS := { s with b := { s.b with wait := s.b.wait ++ [i] }, sb := s.sb ++ [i] }
def Sends (s : LnS) (n : Int) (s' : LnS) : Prop :=
  if n = 0 then (20 ≤ s.a.wait.length ∧ s' = s) ∨ (s.a.wait.length < 20 ∧ ∃ i, 0 ≤ i ∧ i ≤ 999 ∧ s' = sendA s i)
  else (20 ≤ s.b.wait.length ∧ s' = s) ∨ (s.b.wait.length < 20 ∧ ∃ i, 0 ≤ i ∧ i ≤ 999 ∧ s' = sendB s i)
theorem Del.send {e e' : EndS} {sent g : List Int} (d : Del e sent g) (i : Int) (h1 : e'.count = e.count) (h2 : e'.wait = e.wait ++ [i]) : Del e' (sent ++ [i]) g := by
  obtain ⟨⟨n, q1, q2, q3, q4⟩, pre, len⟩ := d
  refine ⟨⟨n, h1.trans q1, q2, q3, ?_⟩, ?_, by simp; omega⟩
  · rw [h2, q4, List.drop_append_of_le_length (by omega)]
  · rw [List.take_append_of_le_length len]
    exact pre
theorem LnOk.sends {s s' : LnS} {n : Int} {pt : Int} (h : LnOk pt s) (hs : Sends s n s') (la : s.sa.length < 899) (lb : s.sb.length < 899) : LnOk pt s' ∧ s'.sa.length ≤ s.sa.length + 1 ∧ s'.sb.length ≤ s.sb.length + 1 ∧ s'.a.over = s.a.over ∧ s'.log = s.log ∧ s'.ca = s.ca ∧ s'.cb = s.cb := by
  unfold Sends at hs
  split at hs
  · rcases hs with ⟨_, rfl⟩ | ⟨hw, i, _, _, rfl⟩
    · exact ⟨h, by omega, by omega, rfl, rfl, rfl, rfl⟩
    · refine ⟨⟨⟨h.ea.can, h.ea.o0, h.ea.o1, h.ea.bad, h.ea.oth, h.ea.n0, h.ea.n9, by show (s.a.wait ++ [i]).length ≤ 20; simp; omega, h.ea.got⟩, h.eb, h.pa, h.pb, h.ov, h.ka, h.kb, h.oa, h.ob, h.na, h.nb, h.da.send i rfl rfl, ⟨h.db.n, h.db.pre, h.db.len⟩, by show (s.sa ++ [i]).length < 900; simp; omega, h.lb⟩, by show (s.sa ++ [i]).length ≤ _; simp, by show s.sb.length ≤ _; omega, rfl, rfl, rfl, rfl⟩
  · rcases hs with ⟨_, rfl⟩ | ⟨hw, i, _, _, rfl⟩
    · exact ⟨h, by omega, by omega, rfl, rfl, rfl, rfl⟩
    · refine ⟨⟨h.ea, ⟨h.eb.can, h.eb.o0, h.eb.o1, h.eb.bad, h.eb.oth, h.eb.n0, h.eb.n9, by show (s.b.wait ++ [i]).length ≤ 20; simp; omega, h.eb.got⟩, h.pa, h.pb, h.ov, h.ka, h.kb, h.oa, h.ob, h.na, h.nb, ⟨h.da.n, h.da.pre, h.da.len⟩, h.db.send i rfl rfl, h.la, by show (s.sb ++ [i]).length < 900; simp; omega⟩, by show s.sa.length ≤ _; omega, by show (s.sb ++ [i]).length ≤ _; simp, rfl, rfl, rfl, rfl⟩
/-- a law's line and its dice -/
structure Lw (CE CM : Addr) (H : Hp) (d : Addr) (x : LnAd) (s : LnS) : Prop where
  D : DiceAt H d
  M : LineAt CE CM (d :: x.all) H x s
  nd : d ∉ x.every
section
variable {CE CM : Addr} {H H' : Hp} {d : Addr} {x : LnAd} {s s' : LnS}
theorem Lw.al (h : Lw CE CM H d x s) : Alloc (d :: x.all) H := fun z hz => by
  rcases List.mem_cons.mp hz with rfl | hz
  · obtain ⟨ns, e, _⟩ := h.D
    exact ⟨_, e⟩
  · exact h.M.there z (x.sub_all z hz)
theorem Lw.ndx (h : Lw CE CM H d x s) : d ∉ x.all := fun z => h.nd (x.sub_all _ z)
theorem Lw.sub (_ : Lw CE CM H d x s) : ∀ z ∈ x.all, z ∈ d :: x.all := fun z hz => List.mem_cons_of_mem _ hz
theorem Lw.same (h : Lw CE CM H d x s) (e : Same H H') : Lw CE CM H' d x s := ⟨h.D.same e, h.M.same e, h.nd⟩
theorem Lw.step (h : Lw CE CM H d x s) (M : LineAt CE CM (d :: x.all) H' x s') (f : Frm x.all H H') : Lw CE CM H' d x s' := ⟨h.D.frm f h.ndx, M, h.nd⟩
theorem Lw.dice (h : Lw CE CM H d x s) (D : DiceAt H' d) (f : Frm [d] H H') : Lw CE CM H' d x s := ⟨D, h.M.frm f (fun y hy => by simp at hy; simp [hy]) (fun y hy z => by simp at z; subst z; exact h.nd hy), h.nd⟩
theorem Lw.new (h : Lw CE CM H d x s) {l : Addr} (n : H l = none) : l ≠ d ∧ l ∉ x.every := ⟨h.D.ne_new n, h.M.ne_new n⟩
/-- something else that is new is written -/
theorem Lw.own (h : Lw CE CM H d x s) {l : Addr} {xs : List V} {o : HO} {H0 : Hp} {S : List Addr} (_ : H0 l = none) (h1 : Lw CE CM H' d x s') (e : H' l = some (.lst xs)) (hl : l ∉ d :: x.every) (f : Frm S H0 H') (hm : LineAt CE CM (l :: d :: x.all) H' x s') : Lw CE CM (upd H' l o) d x s' := by
  have hne : l ≠ d := fun z => hl (by simp [z])
  have hnx : l ∉ x.every := fun z => hl (by simp [z])
  exact ⟨h1.D.upd_ne (Ne.symm hne), (hm.frm (Frm.updL e) (fun y hy => by simp at hy; simp [hy]) (fun y hy z => by simp at z; subst z; exact hnx hy)).more fun y hy => .inl (List.mem_cons_of_mem _ hy), h1.nd⟩
end
theorem lv_slow {e : EndS} (h : EndOk e) : lv 4 (.tuple [.int 0, slowD (slowOf (refreshF e))]) := by
  have h' := h.refresh
  have hm : lv 2 (mindD ((refreshF e).can, (refreshF e).bad)) := lv_mind h'.can.2.2.2 (Nat.le_trans h'.bad (by decide)) 0
  refine ⟨by show 2 ≤ 100000; decide, fun d hd => ?_⟩
  rcases List.mem_cons.mp hd with rfl | hd
  · trivial
  · rw [List.mem_singleton] at hd
    subst hd
    refine ⟨by show 3 ≤ 100000; decide, fun d hd => ?_⟩
    rcases List.mem_cons.mp hd with rfl | hd
    · trivial
    · rcases List.mem_cons.mp hd with rfl | hd
      · exact hm
      · rw [List.mem_singleton] at hd
        subst hd
        trivial
theorem lv_fast (n : Int) (l : FastL) : lv 4 (.tuple [.int n, fastD l]) := by
  obtain ⟨a, o, b⟩ := l
  refine ⟨by show 2 ≤ 100000; decide, fun d hd => ?_⟩
  rcases List.mem_cons.mp hd with rfl | hd
  · trivial
  · rw [List.mem_singleton] at hd
    subst hd
    refine ⟨by show 3 ≤ 100000; decide, fun d hd => ?_⟩
    rcases List.mem_cons.mp hd with rfl | hd
    · trivial
    · rcases List.mem_cons.mp hd with rfl | hd
      · cases o <;> trivial
      · rw [List.mem_singleton] at hd
        subst hd
        trivial
theorem lv_two {n : Nat} {a b : PyData} (ha : lv n a) (hb : lv n b) : lv (n + 1) (.list [a, b]) := by
  refine ⟨by show 2 ≤ 100000; decide, fun d hd => ?_⟩
  rcases List.mem_cons.mp hd with rfl | hd
  · exact ha
  · rw [List.mem_singleton] at hd
    subst hd
    exact hb
/-! ### what passes, what is lost -/
def PassAt (S : List Addr) (H : Hp) (pl : Addr) (p : Pass) : Prop := ∃ a0 a1, H pl = some (.lst [.ref a0, .ref a1]) ∧ H a0 = some (.lst (p.1.map V.int)) ∧ H a1 = some (.lst (p.2.map V.int)) ∧ pl ∉ S ∧ a0 ∉ S ∧ a1 ∉ S
def LostAt (S : List Addr) (H : Hp) (L : Addr) (l : Lost) : Prop := ∃ c0 c1, H L = some (.lst [.ref c0, .ref c1]) ∧ H c0 = some (.lst [.bl l.1.1, .bl l.1.2]) ∧ H c1 = some (.lst [.bl l.2.1, .bl l.2.2]) ∧ L ∉ S ∧ c0 ∉ S ∧ c1 ∉ S
theorem PassAt.frm {S : List Addr} {H H' : Hp} {pl : Addr} {p : Pass} (h : PassAt S H pl p) (f : Frm S H H') : PassAt S H' pl p := by
  obtain ⟨a0, a1, h1, h2, h3, n1, n2, n3⟩ := h
  exact ⟨a0, a1, f _ _ h1 n1, f _ _ h2 n2, f _ _ h3 n3, n1, n2, n3⟩
theorem PassAt.sub {S S' : List Addr} {H : Hp} {pl : Addr} {p : Pass} (h : PassAt S H pl p) (hs : ∀ x ∈ S', x ∈ S) : PassAt S' H pl p := by
  obtain ⟨a0, a1, h1, h2, h3, n1, n2, n3⟩ := h
  exact ⟨a0, a1, h1, h2, h3, fun z => n1 (hs _ z), fun z => n2 (hs _ z), fun z => n3 (hs _ z)⟩
theorem LostAt.frm {S : List Addr} {H H' : Hp} {pl : Addr} {p : Lost} (h : LostAt S H pl p) (f : Frm S H H') : LostAt S H' pl p := by
  obtain ⟨a0, a1, h1, h2, h3, n1, n2, n3⟩ := h
  exact ⟨a0, a1, f _ _ h1 n1, f _ _ h2 n2, f _ _ h3 n3, n1, n2, n3⟩
theorem LostAt.sub {S S' : List Addr} {H : Hp} {pl : Addr} {p : Lost} (h : LostAt S H pl p) (hs : ∀ x ∈ S', x ∈ S) : LostAt S' H pl p := by
  obtain ⟨a0, a1, h1, h2, h3, n1, n2, n3⟩ := h
  exact ⟨a0, a1, h1, h2, h3, fun z => n1 (hs _ z), fun z => n2 (hs _ z), fun z => n3 (hs _ z)⟩
end TL

namespace TL
open PySem PySem.Spec PyProof.Rows L2
/-! ### what a frame adds to the log -/
theorem frame_over (p : Pass) (l : Lost) (s : LnS) : (frameF p l s).a.over = s.a.over + 1 := by
  show (hearF1 _ _).over = _
  rw [(fast_parts _ _).2.1]
  show (hearF0 _ _).over + 1 = _
  rw [(slow_parts _ _).2.2.1]
theorem frame_log (p : Pass) (l : Lost) (s : LnS) : (frameF p l s).log = s.log ++ [rowF p l (halfF p l s)] := rfl
theorem row_ok {s : LnS} (h : LnOk 0 s) (p : Pass) (l : Lost) : okRow (rowF p l (halfF p l s)) := by
  have h1 : LnOk 1 (halfF p l s) := h.half _ _
  exact ⟨⟨h1.ea.n0, h1.ea.n9⟩, h1.eb.n0, h1.eb.n9⟩
theorem row_good {s : LnS} (h : LnOk 0 s) (p : Pass) (l : Lost) : goodRow s.ca s.cb (rowF p l (halfF p l s)) = true := by
  have h1 : LnOk 1 (halfF p l s) := h.half _ _
  have na := h1.na
  have nb := h1.nb
  have ea : (rowF p l (halfF p l s)).1 = (halfF p l s).a.now := rfl
  have eb : (rowF p l (halfF p l s)).2.2.1 = (halfF p l s).b.now := rfl
  have e1 : unl s.ca s.cb (rowF p l (halfF p l s)).1 = false := by
    unfold unl
    rw [ea, decide_eq_true (show (halfF p l s).a.now ∈ s.ca from na.1), decide_eq_true (show (halfF p l s).a.now ∈ s.cb from na.2)]
    rfl
  have e2 : unl s.ca s.cb (rowF p l (halfF p l s)).2.2.1 = false := by
    unfold unl
    rw [eb, decide_eq_true (show (halfF p l s).b.now ∈ s.ca from nb.1), decide_eq_true (show (halfF p l s).b.now ∈ s.cb from nb.2)]
    rfl
  unfold goodRow
  rw [e1, e2, ea, eb]
  by_cases q : (halfF p l s).a.now = (halfF p l s).b.now
  · rw [decide_eq_true q]; simp
  · show (!false && (!false && !((jo _ _ _ _ || jo _ _ _ _) && _))) = true
    unfold jo
    rw [decide_eq_false q]
    rfl
def LogOk (s : LnS) : Prop := ∀ r ∈ s.log, okRow r ∧ goodRow s.ca s.cb r = true
theorem LogOk.frame {s : LnS} (h : LogOk s) (ok : LnOk 0 s) (p : Pass) (l : Lost) : LogOk (frameF p l s) := fun r hr => by
  rw [frame_log] at hr
  rcases List.mem_append.mp hr with q | q
  · exact h r q
  · rw [List.mem_singleton] at q
    subst q
    exact ⟨row_ok ok p l, row_good ok p l⟩
theorem LogOk.sends {s s' : LnS} {k : Int} (h : LogOk s) (hs : Sends s k s') : LogOk s' := by
  unfold Sends at hs
  split at hs
  · rcases hs with ⟨_, rfl⟩ | ⟨_, i, _, _, rfl⟩ <;> exact h
  · rcases hs with ⟨_, rfl⟩ | ⟨_, i, _, _, rfl⟩ <;> exact h
theorem at_last {H : Hp} {xs : List V} {rs : List Row} {r : Row} (hA : ImAll H xs ((rs ++ [r]).map rowD)) : ∃ t, atI xs (-1) = some (.ref t) ∧ H t = some (.tup (rowV r)) := by
  obtain ⟨t, ht, htr⟩ := rows_get (i := rs.length) (r := r) hA (by rw [List.getElem?_append_right (Nat.le_refl _), Nat.sub_self]; rfl)
  have hxl := rows_len hA
  rw [List.length_append, List.length_singleton] at hxl
  refine ⟨t, ?_, htr⟩
  unfold atI ixN
  rw [hxl, if_neg (by decide), if_pos (by omega)]
  show xs[((-1 : Int) + ((rs.length + 1 : Nat) : Int)).toNat]? = _
  rw [show ((-1 : Int) + ((rs.length + 1 : Nat) : Int)).toNat = rs.length by omega]
  exact ht
theorem cut300 (xs : List V) : cutV xs (some (-300)) none = xs.drop (xs.length - 300) := by
  unfold cutV
  have e1 : HT.sIx xs.length 0 (some (-300)) = xs.length - 300 := by
    show (if (-300 : Int) < 0 then ((-300 : Int) + (xs.length : Nat)).toNat else min (-300 : Int).toNat xs.length) = _
    rw [if_pos (by decide)]
    omega
  rw [e1, HT.sIx_none]
  apply List.take_of_length_le
  rw [List.length_drop]
  omega
theorem deafA {s : LnS} {p : Pass} {l : Lost} (h1 : l.1.1 = true) (h2 : l.2.1 = true) : (frameF p l s).a.got = s.a.got ∧ (frameF p l s).a.oth = s.a.oth ∧ (rowF p l (halfF p l s)).2.1 = false ∧ (s.a.oth = none → (rowF p l (halfF p l s)).1 = 0) := by
  have j : ∀ na nb m, jo na nb m true = false := fun na nb m => by simp [jo]
  have e1 : (halfF p l s).a = hearF0 (refreshF s.a) none := by
    show hearF0 (refreshF s.a) (when (jo 0 0 p.1 l.1.1) (slowOf (refreshF s.b))) = _
    rw [h1, j]
    rfl
  have e2 : (frameF p l s).a = hearF1 (halfF p l s).a none := by
    show hearF1 (halfF p l s).a (when (jo (halfF p l s).a.now (halfF p l s).b.now p.1 l.2.1) (fastOf (halfF p l s).b)) = _
    rw [h2, j]
    rfl
  obtain ⟨a1, a2, a3, a4, a5, a6, a7, a8, a9⟩ := slow_parts s.a none
  obtain ⟨b1, b2, b3, b4, b5, b6, b7, b8, b9, _⟩ := fast_parts (halfF p l s).a none
  refine ⟨?_, ?_, ?_, fun hn => ?_⟩
  · rw [e2, b7, e1]; exact a7
  · rw [e2, b4, e1]; exact a8
  · show jo _ _ p.1 l.2.1 = false
    rw [h2, j]
  · show (halfF p l s).a.now = 0
    rw [e1, slow_now, a8]
    show (match s.a.oth with | none => (0 : Int) | some m => _) = 0
    rw [hn]
theorem deafB {s : LnS} {p : Pass} {l : Lost} (h1 : l.1.2 = true) (h2 : l.2.2 = true) : (frameF p l s).b.got = s.b.got ∧ (frameF p l s).b.oth = s.b.oth ∧ (rowF p l (halfF p l s)).2.2.2 = false ∧ (s.b.oth = none → (rowF p l (halfF p l s)).2.2.1 = 0) := by
  have j : ∀ na nb m, jo na nb m true = false := fun na nb m => by simp [jo]
  have e1 : (halfF p l s).b = hearF0 (refreshF s.b) none := by
    show hearF0 (refreshF s.b) (when (jo 0 0 p.2 l.1.2) (slowOf (refreshF s.a))) = _
    rw [h1, j]
    rfl
  have e2 : (frameF p l s).b = hearF1 (halfF p l s).b none := by
    show hearF1 (halfF p l s).b (when (jo (halfF p l s).a.now (halfF p l s).b.now p.2 l.2.2) (fastOf (halfF p l s).a)) = _
    rw [h2, j]
    rfl
  obtain ⟨a1, a2, a3, a4, a5, a6, a7, a8, a9⟩ := slow_parts s.b none
  obtain ⟨b1, b2, b3, b4, b5, b6, b7, b8, b9, _⟩ := fast_parts (halfF p l s).b none
  refine ⟨?_, ?_, ?_, fun hn => ?_⟩
  · rw [e2, b7, e1]; exact a7
  · rw [e2, b4, e1]; exact a8
  · show jo _ _ p.2 l.2.2 = false
    rw [h2, j]
  · show (halfF p l s).b.now = 0
    rw [e1, slow_now, a8]
    show (match s.b.oth with | none => (0 : Int) | some m => _) = 0
    rw [hn]
theorem im_nb {H : Hp} {t : Addr} {n : Int} {b : Bool} (h : H t = some (.tup [.int n, .bl b])) : Im H (.ref t) (.tuple [.int n, .bool b]) := .tup h (.cons (.int _) (.cons (.bl _) .nil))
theorem lv_nb (n : Int) (b : Bool) : lv 1 (.tuple [.int n, .bool b]) := ⟨by show 2 ≤ 100000; decide, fun d hd => by
  rcases List.mem_cons.mp hd with rfl | hd
  · trivial
  · rw [List.mem_singleton] at hd
    subst hd
    trivial⟩
theorem frame_got (p : Pass) (l : Lost) (s : LnS) : s.a.got.length ≤ (frameF p l s).a.got.length ∧ s.b.got.length ≤ (frameF p l s).b.got.length := by
  have g : ∀ (c : List Int) (o : Option FastL), c.length ≤ (gotF c o).length := fun c o => by
    cases o with
    | none => exact Nat.le_refl _
    | some m =>
      unfold gotF
      simp only
      split
      · exact Nat.le_refl _
      · split
        · simp
        · exact Nat.le_refl _
  constructor
  · show _ ≤ (hearF1 _ _).got.length
    rw [(fast_parts _ _).2.2.2.2.2.2.1]
    refine Nat.le_trans ?_ (g _ _)
    show _ ≤ (hearF0 _ _).got.length
    rw [(slow_parts _ _).2.2.2.2.2.2.1]
    exact Nat.le_refl _
  · show _ ≤ (hearF1 _ _).got.length
    rw [(fast_parts _ _).2.2.2.2.2.2.1]
    refine Nat.le_trans ?_ (g _ _)
    show _ ≤ (hearF0 _ _).got.length
    rw [(slow_parts _ _).2.2.2.2.2.2.1]
    exact Nat.le_refl _
theorem sends_got {s s' : LnS} {k : Int} (hs : Sends s k s') : s'.a.got = s.a.got ∧ s'.b.got = s.b.got := by
  unfold Sends at hs
  split at hs
  · rcases hs with ⟨_, rfl⟩ | ⟨_, i, _, _, rfl⟩ <;> exact ⟨rfl, rfl⟩
  · rcases hs with ⟨_, rfl⟩ | ⟨_, i, _, _, rfl⟩ <;> exact ⟨rfl, rfl⟩
/-- a law's line, its dice, and lists E of the law's own, which it writes -/
structure Lz (CE CM : Addr) (E : List Addr) (H : Hp) (d : Addr) (x : LnAd) (s : LnS) : Prop where
  D : DiceAt H d
  M : LineAt CE CM (E ++ d :: x.all) H x s
  nd : d ∉ x.every
  ne : ∀ e ∈ E, e ≠ d ∧ e ∉ x.every
  ae : Alloc E H
section
variable {CE CM : Addr} {E : List Addr} {H H' : Hp} {d : Addr} {x : LnAd} {s s' : LnS}
theorem Lz.al (h : Lz CE CM E H d x s) : Alloc (E ++ d :: x.all) H := h.ae.app fun z hz => by
  rcases List.mem_cons.mp hz with rfl | hz
  · obtain ⟨ns, e, _⟩ := h.D
    exact ⟨_, e⟩
  · exact h.M.there z (x.sub_all z hz)
theorem Lz.sub (_ : Lz CE CM E H d x s) : ∀ z ∈ x.all, z ∈ E ++ d :: x.all := fun z hz => List.mem_append_right _ (List.mem_cons_of_mem _ hz)
theorem Lz.out (h : Lz CE CM E H d x s) {l : Addr} (n : H l = none) : l ∉ E ++ d :: x.all := h.al.not n
theorem Lz.ndx (h : Lz CE CM E H d x s) : d ∉ x.all := fun z => h.nd (x.sub_all _ z)
theorem Lz.same (h : Lz CE CM E H d x s) (e : Same H H') : Lz CE CM E H' d x s := ⟨h.D.same e, h.M.same e, h.nd, h.ne, h.ae.frm (Frm.of_same (S := []) e)⟩
theorem Lz.step (h : Lz CE CM E H d x s) (M : LineAt CE CM (E ++ d :: x.all) H' x s') (f : Frm x.all H H') : Lz CE CM E H' d x s' := ⟨h.D.frm f h.ndx, M, h.nd, h.ne, h.ae.frm f⟩
theorem Lz.dice (h : Lz CE CM E H d x s) (D : DiceAt H' d) (f : Frm [d] H H') : Lz CE CM E H' d x s :=
  ⟨D, h.M.frm f (fun y hy => by simp at hy; simp [hy]) (fun y hy z => by simp at z; subst z; exact h.nd hy), h.nd, h.ne, h.ae.frm f⟩
theorem Lz.own (h : Lz CE CM E H d x s) {e : Addr} (he : e ∈ E) (f : Frm [e] H H') : Lz CE CM E H' d x s :=
  ⟨h.D.frm f (by simpa using Ne.symm (h.ne e he).1), h.M.frm f (fun y hy => by simp at hy; simp [hy, he]) (fun y hy z => by simp at z; subst z; exact (h.ne _ he).2 hy), h.nd, h.ne, h.ae.frm f⟩
/-- a place that is new is the law's own, too -/
theorem Lz.new (h : Lz CE CM E H d x s) {l : Addr} (n : H l = none) (o : HO) : Lz CE CM (l :: E) (upd H l o) d x s := by
  have sm : Same H (upd H l o) := Same.upd_new n
  refine ⟨h.D.same sm, (h.M.more fun y hy => ?_).same sm, h.nd, fun e he => ?_, fun z hz => ?_⟩
  · rcases List.mem_cons.mp hy with rfl | hy
    · exact .inr fun bs z => by rw [n] at z; cases z
    · exact .inl hy
  · rcases List.mem_cons.mp he with rfl | he
    · exact ⟨h.D.ne_new n, h.M.ne_new n⟩
    · exact h.ne e he
  · rcases List.mem_cons.mp hz with rfl | hz
    · exact ⟨_, upd_same⟩
    · exact h.ae.frm (Frm.of_same (S := []) sm) z hz
theorem Lz.less {E' : List Addr} (h : Lz CE CM E H d x s) (hs : ∀ z ∈ E', z ∈ E) : Lz CE CM E' H d x s := ⟨h.D, h.M.more fun y hy => .inl (by
  rcases List.mem_append.mp hy with q | q
  · exact List.mem_append_left _ (hs y q)
  · exact List.mem_append_right _ q), h.nd, fun e he => h.ne e (hs e he), fun z hz => h.ae z (hs z hz)⟩
theorem Lw.z (h : Lw CE CM H d x s) : Lz CE CM [] H d x s := ⟨h.D, h.M, h.nd, by simp, fun z hz => by simp at hz⟩
theorem Lz.w (h : Lz CE CM [] H d x s) : Lw CE CM H d x s := ⟨h.D, h.M, h.nd⟩
theorem Lz.ow (h : Lz CE CM E H d x s) : Lw CE CM H d x s := (h.less (E' := []) (by simp)).w
theorem Lz.frmD (_ : Lz CE CM E H d x s) {H0 H1 : Hp} (f : Frm [d] H0 H1) : Frm (E ++ d :: x.all) H0 H1 := f.mono (by simp)
theorem Lz.frmX (_ : Lz CE CM E H d x s) {H0 H1 : Hp} (f : Frm x.all H0 H1) : Frm (E ++ d :: x.all) H0 H1 := f.mono fun y hy => by simp [hy]
end
theorem lv_ints {ns : List Int} (h : ns.length ≤ 100000) : lv 1 (.list (ns.map .int)) := ⟨by rw [List.length_map]; exact h, fun d hd => by
  obtain ⟨i, _, rfl⟩ := List.mem_map.mp hd
  trivial⟩
/-- what is known of the items of an end -/
theorem Del.facts {e : EndS} {sent g : List Int} (h : Del e sent g) (hw : e.wait.length ≤ 20) : g = sent.take g.length ∧ e.wait.length ≤ sent.length ∧ sent.length - e.wait.length ≤ g.length ∧ sent.length - e.wait.length + 20 ≥ sent.length := by
  obtain ⟨n, h1, h2, h3, h4⟩ := h.n
  have hl := h.len
  have e1 : e.wait.length = sent.length - n := by rw [h4, List.length_drop]
  exact ⟨h.pre, by omega, by omega, by omega⟩
theorem cutTo {ns : List Int} {g : Nat} (h : g ≤ ns.length) : cutV (ns.map V.int) none (some (g : Int)) = (ns.take g).map V.int := by
  unfold cutV
  rw [HT.sIx_none, HT.sIx_nat, List.length_map, Nat.min_eq_left h, List.drop_zero, Nat.sub_zero, List.map_take]
theorem sends_0 {s s' : LnS} (hs : Sends s 0 s') : s'.sb = s.sb := by
  unfold Sends at hs
  rw [if_pos rfl] at hs
  rcases hs with ⟨_, rfl⟩ | ⟨_, i, _, _, rfl⟩ <;> rfl
theorem sends_1 {s s' : LnS} (hs : Sends s 1 s') : s'.sa = s.sa := by
  unfold Sends at hs
  rw [if_neg (by decide)] at hs
  rcases hs with ⟨_, rfl⟩ | ⟨_, i, _, _, rfl⟩ <;> rfl
/-- a loop over a list of two -/
theorem for_twoL {K : PySem.W.Frag} {a : Addr} {v0 v1 : V} {g : TG} {tb : TS} {D : Ends} {σ : L2.St} {H : Hp} (P0 P1 P2 : L2.St → Hp → Prop) (h0 : P0 σ H) (l0 : ∀ σ H, P0 σ H → SqL K H a [v0, v1]) (l1 : ∀ σ H, P1 σ H → SqL K H a [v0, v1]) (l2 : ∀ σ H, P2 σ H → SqL K H a [v0, v1])
    (s0 : ∀ σ H, P0 σ H → g v0 σ H fun σ2 H2 => tb { D with nx := P1, ct := P1, bk := D.nx } σ2 H2)
    (s1 : ∀ σ H, P1 σ H → g v1 σ H fun σ2 H2 => tb { D with nx := P2, ct := P2, bk := D.nx } σ2 H2)
    (hd : ∀ σ H, P2 σ H → D.nx σ H) : ForW (Itl K a) g tb D σ H := by
  refine for_list (K := K) (a := a) (xs := [v0, v1]) (fun i σ H => match i with | 0 => P0 σ H | 1 => P1 σ H | _ => P2 σ H) h0 ?_ ?_ hd
  · intro i σ H hi p
    match i, p with
    | 0, p => exact l0 σ H p
    | 1, p => exact l1 σ H p
    | _ + 2, p => exact l2 σ H p
  · intro i x σ H hx p
    match i, hx, p with
    | 0, hx, p =>
      have e : v0 = x := Option.some.inj hx
      subst e
      exact s0 σ H p
    | 1, hx, p =>
      have e : v1 = x := Option.some.inj hx
      subst e
      exact s1 σ H p
    | n + 2, hx, p => simp at hx
/-- a loop over zip(a, b), lists of two -/
theorem for_zip2 {K : PySem.W.Frag} {a b : Addr} {x0 x1 y0 y1 : V} {g : TG} {tb : TS} {D : Ends} {σ : L2.St} {H : Hp} (P : L2.St → Hp → Prop) (h0 : P σ H) (hl : ∀ σ H, P σ H → SqL K H a [x0, x1] ∧ SqL K H b [y0, y1])
    (hs : ∀ σ H T x y, P σ H → H T = none → (x = x0 ∧ y = y0) ∨ (x = x1 ∧ y = y1) → g (.ref T) σ (upd H T (.tup [x, y])) fun σ2 H2 => tb { D with nx := P, ct := P, bk := D.nx } σ2 H2)
    (hd : ∀ σ H, P σ H → D.nx σ H) : ForW (Itz K a b) g tb D σ H := by
  refine ⟨fun i m σ H => m = 2 - i ∧ i ≤ 2 ∧ P σ H, ⟨2, rfl, by omega, h0⟩, fun i m σ H hw => ?_⟩
  obtain ⟨rfl, hi, p⟩ := hw
  obtain ⟨qa, qb⟩ := hl σ H p
  by_cases h2 : i = 2
  · subst h2
    exact .inl ⟨⟨_, _, qa, qb, .inl (Nat.le_refl 2)⟩, hd σ H p⟩
  · refine .inr ⟨?_, P, fun σ' H' p' => ⟨2 - (i + 1), by omega, rfl, by omega, p'⟩, fun v H' y => ?_⟩
    · have : i = 0 ∨ i = 1 := by omega
      rcases this with rfl | rfl
      · exact ⟨_, _, x0, y0, qa, qb, rfl, rfl⟩
      · exact ⟨_, _, x1, y1, qa, qb, rfl, rfl⟩
    · obtain ⟨T, x, y, rfl, hT, rfl, hx, hy⟩ := y
      refine hs σ H T x y p hT ?_
      have hx := hx _ qa
      have hy := hy _ qb
      have : i = 0 ∨ i = 1 := by omega
      rcases this with rfl | rfl
      · exact .inl ⟨(Option.some.inj hx).symm, (Option.some.inj hy).symm⟩
      · exact .inr ⟨(Option.some.inj hx).symm, (Option.some.inj hy).symm⟩
theorem at_last_int (ns : List Int) (i : Int) : atI ((ns ++ [i]).map V.int) (-1) = some (.int i) := by
  unfold atI ixN
  rw [List.length_map, List.length_append, List.length_singleton, if_neg (by decide), if_pos (by omega)]
  show ((ns ++ [i]).map V.int)[((-1 : Int) + ((ns.length + 1 : Nat) : Int)).toNat]? = _
  rw [show ((-1 : Int) + ((ns.length + 1 : Nat) : Int)).toNat = ns.length by omega]
  rw [List.map_append, List.getElem?_append_right (by rw [List.length_map]; exact Nat.le_refl _), List.length_map, Nat.sub_self]
  rfl
theorem LineAt.ini {CE CM : Addr} {H H' : Hp} {x : LnAd} {s : LnS} {p : Addr} (h : ∀ Z, LineAt CE CM Z H x s) (f : Frm [p] H H') (n : p ∉ x.every) : ∀ Z, LineAt CE CM Z H' x s := fun Z =>
  ((h (p :: Z)).frm f (fun x hx => by simp at hx; simp [hx]) (fun x hx z => by simp at z; subst z; exact n hx)).more fun x hx => .inl (by simp [hx])
theorem PassAt.fresh {Z : List Addr} {H H' : Hp} {pl a0 a1 : Addr} {p : Pass} (al : Alloc Z H) (hpn : H pl = none) (ha0n : H a0 = none) (ha1n : H a1 = none) (hpl : H' pl = some (.lst [.ref a0, .ref a1])) (ha0 : H' a0 = some (.lst (p.1.map V.int))) (ha1 : H' a1 = some (.lst (p.2.map V.int))) : PassAt Z H' pl p :=
  ⟨a0, a1, hpl, ha0, ha1, al.not hpn, al.not ha0n, al.not ha1n⟩
theorem LostAt.fresh {Z : List Addr} {H H' : Hp} {L c0 c1 : Addr} {l : Lost} (al : Alloc Z H) (hpn : H L = none) (ha0n : H c0 = none) (ha1n : H c1 = none) (e1 : H' L = some (.lst [.ref c0, .ref c1])) (e2 : H' c0 = some (.lst [.bl l.1.1, .bl l.1.2])) (e3 : H' c1 = some (.lst [.bl l.2.1, .bl l.2.2])) : LostAt Z H' L l :=
  ⟨c0, c1, e1, e2, e3, al.not hpn, al.not ha0n, al.not ha1n⟩
theorem PassAt.frmZ {Z S : List Addr} {H H' : Hp} {pl : Addr} {p : Pass} (h : PassAt Z H pl p) (f : Frm S H H') (hS : ∀ z ∈ S, z ∈ Z) : PassAt Z H' pl p := h.frm (f.mono hS)
theorem LostAt.frmZ {Z S : List Addr} {H H' : Hp} {pl : Addr} {p : Lost} (h : LostAt Z H pl p) (f : Frm S H H') (hS : ∀ z ∈ S, z ∈ Z) : LostAt Z H' pl p := h.frm (f.mono hS)
theorem nd_app {L M : List Addr} (h : (L ++ M).Nodup) : L.Nodup ∧ M.Nodup ∧ ∀ y ∈ L, y ∉ M := by
  rw [List.nodup_append] at h
  exact ⟨h.1, h.2.1, fun y hy z => h.2.2 y hy y z rfl⟩
theorem Lw.out {CE CM : Addr} {H : Hp} {d : Addr} {x : LnAd} {s : LnS} (W : Lw CE CM H d x s) {l : Addr} (h : H l = none) : l ∉ d :: x.all := fun z => by
  rcases List.mem_cons.mp z with rfl | z
  · exact (W.new h).1 rfl
  · exact (W.new h).2 (x.sub_all _ z)
end TL

namespace TL
open PySem PySem.Spec PyProof.Rows L2
/-! ### a line of the program: the mirror -/
structure PlS extends LnS where
  ps : Pass
  ls : Lost
def lno : Lost := ((false, false), (false, false))
def ten10 : List Int := [0, 1, 2, 3, 4, 5, 6, 7, 8, 9]
theorem can_ten : Can ten10 := by unfold Can; decide
def PlS.new (ca cb : List Int) : PlS := { LnS.new ca cb with ps := (ten10, ten10), ls := lno }
def halfP (s : PlS) : PlS := { s with toLnS := halfF s.ps s.ls s.toLnS }
def fastP (s : PlS) : PlS := { s with toLnS := fastG (jo s.a.now s.b.now s.ps.1 s.ls.2.1) (jo s.a.now s.b.now s.ps.2 s.ls.2.2) s.toLnS }
def frameP (s : PlS) : PlS := { s with toLnS := frameF s.ps s.ls s.toLnS, ls := lno }
/-- the letters that are lost, as a dict -/
def lkey (p e : Int) : List Key := [.inl p, .inl e]
def bitL (l : Lost) (p e : Int) : Bool := if p = 0 then (if e = 0 then l.1.1 else l.1.2) else (if e = 0 then l.2.1 else l.2.2)
def setL (l : Lost) (p e : Int) : Lost :=
  if p = 0 then (if e = 0 then ((true, l.1.2), l.2) else ((l.1.1, true), l.2)) else (if e = 0 then (l.1, (true, l.2.2)) else (l.1, (l.2.1, true)))
structure LostD (kvs : List (List Key × V)) (l : Lost) : Prop where
  b : ∀ p e : Int, (p = 0 ∨ p = 1) → (e = 0 ∨ e = 1) → (valV kvs (lkey p e)).isSome = bitL l p e
  n : kvs.length = l.1.1.toNat + l.1.2.toNat + l.2.1.toNat + l.2.2.toNat
theorem LostD.nil : LostD [] lno := ⟨fun p e hp he => by
  rcases hp with rfl | rfl <;> rcases he with rfl | rfl <;> rfl, rfl⟩
theorem LostD.small {kvs : List (List Key × V)} {l : Lost} (h : LostD kvs l) : kvs.length ≤ 4 := by
  obtain ⟨⟨a, b⟩, c, d⟩ := l
  rw [h.n]
  cases a <;> cases b <;> cases c <;> cases d <;> decide
theorem any_val : ∀ {kvs : List (List Key × V)} {k : List Key}, (kvs.any fun kv => decide (kv.1 = k)) = (valV kvs k).isSome
  | [], _ => rfl
  | kv :: r, k => by
    have ih := any_val (kvs := r) (k := k)
    unfold valV at ih ⊢
    rw [Option.isSome_map] at ih ⊢
    rw [List.any_cons, List.find?_cons, ih]
    cases decide (kv.1 = k) <;> rfl
theorem find_map {kvs : List (List Key × V)} {k k' : List Key} {v : V} : (((kvs.map fun kv => if kv.1 = k then (kv.1, v) else kv).find? fun kv => decide (kv.1 = k'))).isSome = (kvs.find? fun kv => decide (kv.1 = k')).isSome := by
  induction kvs with
  | nil => rfl
  | cons kv r ih =>
    rw [List.map_cons, List.find?_cons, List.find?_cons]
    have e : (if kv.1 = k then (kv.1, v) else kv).1 = kv.1 := by split <;> rfl
    rw [e]
    cases decide (kv.1 = k') with
    | true => rfl
    | false => exact ih
theorem put_isSome {kvs : List (List Key × V)} {k k' : List Key} {v : V} : (valV (putK kvs k v) k').isSome = ((valV kvs k').isSome || decide (k = k')) := by
  unfold putK
  by_cases h : (kvs.any fun kv => decide (kv.1 = k)) = true
  · rw [if_pos h]
    have e1 : (valV (kvs.map fun kv => if kv.1 = k then (kv.1, v) else kv) k').isSome = (valV kvs k').isSome := by
      unfold valV
      rw [Option.isSome_map, Option.isSome_map]
      exact find_map
    rw [e1]
    by_cases q : k = k'
    · subst q
      rw [← any_val, h]
      rfl
    · rw [decide_eq_false q, Bool.or_false]
  · rw [if_neg h]
    rw [← any_val, ← any_val, List.any_append]
    simp
theorem put_len {kvs : List (List Key × V)} {k : List Key} {v : V} : (putK kvs k v).length = if (valV kvs k).isSome = true then kvs.length else kvs.length + 1 := by
  unfold putK
  rw [any_val]
  split
  · rw [List.length_map]
  · rw [List.length_append]; rfl
theorem LostD.put {kvs : List (List Key × V)} {l : Lost} (h : LostD kvs l) {p e : Int} (hp : p = 0 ∨ p = 1) (he : e = 0 ∨ e = 1) {v : V} : LostD (putK kvs (lkey p e) v) (setL l p e) := by
  refine ⟨fun p' e' hp' he' => ?_, ?_⟩
  · rw [put_isSome, h.b p' e' hp' he']
    obtain ⟨⟨a, b⟩, c, d⟩ := l
    rcases hp with rfl | rfl <;> rcases he with rfl | rfl <;> rcases hp' with rfl | rfl <;> rcases he' with rfl | rfl <;> cases a <;> cases b <;> cases c <;> cases d <;> rfl
  · rw [put_len, h.b p e hp he, h.n]
    obtain ⟨⟨a, b⟩, c, d⟩ := l
    rcases hp with rfl | rfl <;> rcases he with rfl | rfl <;> cases a <;> cases b <;> cases c <;> cases d <;> rfl
/-! ### in the heap -/
structure LoAd where
  o : Addr
  es : Addr
  pg : Addr
  rw : Addr
  lo : Addr
  a : EAd
  b : EAd
def LoAd.base (x : LoAd) : List Addr := [x.o, x.es, x.pg, x.rw, x.lo]
def LoAd.every (x : LoAd) : List Addr := x.base ++ (x.a.every ++ x.b.every)
def LoAd.all (x : LoAd) : List Addr := [x.o, x.pg, x.rw, x.lo] ++ (x.a.all ++ x.b.all)
abbrev liN : List Str := ["ends", "passing", "lost", "rows"]
theorem liN_nd : liN.Nodup := by decide +kernel
def liV (x : LoAd) : List V := [.ref x.es, .ref x.pg, .ref x.lo, .ref x.rw]
structure LoAt (CL CE CM : Addr) (Z : List Addr) (H : Hp) (x : LoAd) (s : PlS) : Prop where
  ob : ∃ dx, H x.o = some (.ins CL dx (liN.zip (liV x)))
  es : H x.es = some (.lst [.ref x.a.e, .ref x.b.e])
  pg : ∃ p0 p1, H x.pg = some (.lst [.ref p0, .ref p1]) ∧ H p0 = some (.tup (s.ps.1.map V.int)) ∧ H p1 = some (.tup (s.ps.2.map V.int))
  lo : ∃ kvs, H x.lo = some (.dT kvs) ∧ LostD kvs s.ls
  rw : ∃ xs, H x.rw = some (.lst xs) ∧ ImAll H xs (s.log.map rowD)
  ea : EndAt CE CM Z H x.a s.a
  eb : EndAt CE CM Z H x.b s.b
  nd : x.every.Nodup
section
variable {CL CE CM : Addr} {Z S : List Addr} {H H' : Hp} {x : LoAd} {s : PlS}
theorem LoAd.dis (nd : x.every.Nodup) : x.base.Nodup ∧ (∀ y ∈ x.base, y ∉ x.a.every ∧ y ∉ x.b.every) ∧ ∀ y ∈ x.a.every, y ∉ x.b.every := by
  unfold LoAd.every at nd
  rw [List.nodup_append, List.nodup_append] at nd
  obtain ⟨h1, ⟨h2, h3, h4⟩, h5⟩ := nd
  exact ⟨h1, fun y hy => ⟨fun z => h5 y hy y (by simp [z]) rfl, fun z => h5 y hy y (by simp [z]) rfl⟩, fun y hy z => h4 y hy y z rfl⟩
theorem LoAd.sub_all (x : LoAd) : ∀ y ∈ x.all, y ∈ x.every := by
  intro y hy
  simp only [LoAd.all, List.mem_append] at hy
  simp only [LoAd.every, List.mem_append]
  rcases hy with h | h | h
  · left
    simp [LoAd.base] at h ⊢
    rcases h with h | h | h | h <;> simp [h]
  · exact .inr (.inl (x.a.all_every _ h))
  · exact .inr (.inr (x.b.all_every _ h))
theorem LoAd.a_all (x : LoAd) : ∀ y ∈ x.a.all, y ∈ x.all := fun y hy => by simp [LoAd.all, hy]
theorem LoAd.b_all (x : LoAd) : ∀ y ∈ x.b.all, y ∈ x.all := fun y hy => by simp [LoAd.all, hy]
theorem LoAt.frm (h : LoAt CL CE CM Z H x s) (e : Frm S H H') (hS : ∀ y ∈ S, y ∈ Z) (hd : ∀ y ∈ x.every, y ∉ S) : LoAt CL CE CM Z H' x s := by
  have b : ∀ y ∈ x.base, y ∉ S := fun y hy => hd y (by simp [LoAd.every, hy])
  obtain ⟨xs, h1, h2⟩ := h.rw
  obtain ⟨dx, h0⟩ := h.ob
  obtain ⟨p0, p1, h3, h4, h5⟩ := h.pg
  obtain ⟨kvs, h6, h7⟩ := h.lo
  exact ⟨⟨dx, e _ _ h0 (b _ (by simp [LoAd.base]))⟩, e _ _ h.es (b _ (by simp [LoAd.base])), ⟨p0, p1, e _ _ h3 (b _ (by simp [LoAd.base])), e.tups _ _ h4, e.tups _ _ h5⟩, ⟨kvs, e _ _ h6 (b _ (by simp [LoAd.base])), h7⟩, ⟨xs, e _ _ h1 (b _ (by simp [LoAd.base])), h2.frm e⟩,
    h.ea.frm e hS fun y hy => hd y (by simp [LoAd.every, hy]), h.eb.frm e hS fun y hy => hd y (by simp [LoAd.every, hy]), h.nd⟩
theorem LoAt.same (h : LoAt CL CE CM Z H x s) (e : Same H H') : LoAt CL CE CM Z H' x s := h.frm (S := []) (.of_same e) (by simp) (by simp)
theorem LoAt.more {Z' : List Addr} (h : LoAt CL CE CM Z H x s) (hz : ∀ y ∈ Z', y ∈ Z ∨ ∀ bs, H y ≠ some (.lst bs)) : LoAt CL CE CM Z' H x s :=
  ⟨h.ob, h.es, h.pg, h.lo, h.rw, h.ea.more hz, h.eb.more hz, h.nd⟩
theorem LoAt.there (h : LoAt CL CE CM Z H x s) : ∀ y ∈ x.every, ∃ o, H y = some o := by
  intro y hy
  simp only [LoAd.every, List.mem_append] at hy
  rcases hy with hy | hy | hy
  · obtain ⟨xs, h1, h2⟩ := h.rw
    obtain ⟨dx, h0⟩ := h.ob
    obtain ⟨p0, p1, h3, _⟩ := h.pg
    obtain ⟨kvs, h6, _⟩ := h.lo
    simp [LoAd.base] at hy
    rcases hy with rfl | rfl | rfl | rfl | rfl
    · exact ⟨_, h0⟩
    · exact ⟨_, h.es⟩
    · exact ⟨_, h3⟩
    · exact ⟨_, h1⟩
    · exact ⟨_, h6⟩
  · exact h.ea.there y hy
  · exact h.eb.there y hy
theorem LoAt.ne_new (h : LoAt CL CE CM Z H x s) {l : Addr} (n : H l = none) : l ∉ x.every := fun z => by
  obtain ⟨o, e⟩ := h.there l z
  rw [n] at e
  cases e
theorem LoAt.setA (h : LoAt CL CE CM Z H x s) {a' : EndS} (E : EndAt CE CM Z H' x.a a') (f : Frm x.a.all H H') (hZ : ∀ z ∈ x.all, z ∈ Z) : LoAt CL CE CM Z H' x { s with a := a' } ∧ Frm x.all H H' := by
  obtain ⟨d1, d2, d3⟩ := LoAd.dis h.nd
  have b : ∀ y ∈ x.base, y ∉ x.a.all := fun y hy z => (d2 y hy).1 (x.a.all_every y z)
  obtain ⟨xs, h1, h2⟩ := h.rw
  obtain ⟨dx, h0⟩ := h.ob
  obtain ⟨p0, p1, h3, h4, h5⟩ := h.pg
  obtain ⟨kvs, h6, h7⟩ := h.lo
  exact ⟨⟨⟨dx, f _ _ h0 (b _ (by simp [LoAd.base]))⟩, f _ _ h.es (b _ (by simp [LoAd.base])), ⟨p0, p1, f _ _ h3 (b _ (by simp [LoAd.base])), f.tups _ _ h4, f.tups _ _ h5⟩, ⟨kvs, f _ _ h6 (b _ (by simp [LoAd.base])), h7⟩, ⟨xs, f _ _ h1 (b _ (by simp [LoAd.base])), h2.frm f⟩,
    E, h.eb.frm f (fun y hy => hZ y (x.a_all y hy)) fun y hy z => d3 y (x.a.all_every y z) hy, h.nd⟩, f.mono x.a_all⟩
theorem LoAt.setB (h : LoAt CL CE CM Z H x s) {b' : EndS} (E : EndAt CE CM Z H' x.b b') (f : Frm x.b.all H H') (hZ : ∀ z ∈ x.all, z ∈ Z) : LoAt CL CE CM Z H' x { s with b := b' } ∧ Frm x.all H H' := by
  obtain ⟨d1, d2, d3⟩ := LoAd.dis h.nd
  have b : ∀ y ∈ x.base, y ∉ x.b.all := fun y hy z => (d2 y hy).2 (x.b.all_every y z)
  obtain ⟨xs, h1, h2⟩ := h.rw
  obtain ⟨dx, h0⟩ := h.ob
  obtain ⟨p0, p1, h3, h4, h5⟩ := h.pg
  obtain ⟨kvs, h6, h7⟩ := h.lo
  exact ⟨⟨⟨dx, f _ _ h0 (b _ (by simp [LoAd.base]))⟩, f _ _ h.es (b _ (by simp [LoAd.base])), ⟨p0, p1, f _ _ h3 (b _ (by simp [LoAd.base])), f.tups _ _ h4, f.tups _ _ h5⟩, ⟨kvs, f _ _ h6 (b _ (by simp [LoAd.base])), h7⟩, ⟨xs, f _ _ h1 (b _ (by simp [LoAd.base])), h2.frm f⟩,
    h.ea.frm f (fun y hy => hZ y (x.b_all y hy)) fun y hy z => d3 y hy (x.b.all_every y z), E, h.nd⟩, f.mono x.b_all⟩
theorem LoAd.ownd (nd : x.every.Nodup) {d : Addr} (hd : d ∈ x.base) : (∀ y ∈ x.a.every, y ∉ [d]) ∧ (∀ y ∈ x.b.every, y ∉ [d]) := by
  obtain ⟨d1, d2, d3⟩ := LoAd.dis nd
  exact ⟨fun y hy z => (d2 d hd).1 (by simp at z; rw [← z]; exact hy), fun y hy z => (d2 d hd).2 (by simp at z; rw [← z]; exact hy)⟩
theorem LoAd.basen (nd : x.every.Nodup) : (x.o ≠ x.es ∧ x.o ≠ x.pg ∧ x.o ≠ x.rw ∧ x.o ≠ x.lo) ∧ (x.es ≠ x.pg ∧ x.es ≠ x.rw ∧ x.es ≠ x.lo) ∧ (x.pg ≠ x.rw ∧ x.pg ≠ x.lo) ∧ x.rw ≠ x.lo := by
  have d1 := (LoAd.dis nd).1
  simpa only [LoAd.base, List.nodup_cons, List.mem_cons, not_or, List.not_mem_nil, not_false_eq_true, List.nodup_nil, and_true] using d1
/-- a row more -/
theorem LoAt.setRows (h : LoAt CL CE CM Z H x s) (hZ : x.rw ∈ Z) {xs : List V} {rs : List Row} (hA : ImAll H xs (rs.map rowD)) : LoAt CL CE CM Z (upd H x.rw (.lst xs)) x { s with log := rs } ∧ Frm x.all H (upd H x.rw (.lst xs)) := by
  obtain ⟨⟨_, _, n1, _⟩, ⟨_, n2, _⟩, ⟨n3, _⟩, n4⟩ := LoAd.basen h.nd
  obtain ⟨o1, o2⟩ := LoAd.ownd h.nd (d := x.rw) (by simp [LoAd.base])
  obtain ⟨xs0, h1, h2⟩ := h.rw
  obtain ⟨dx, h0⟩ := h.ob
  obtain ⟨p0, p1, h3, h4, h5⟩ := h.pg
  obtain ⟨kvs, h6, h7⟩ := h.lo
  have f : Frm [x.rw] H (upd H x.rw (.lst xs)) := Frm.updL h1
  have k : ∀ {y o}, H y = some o → y ≠ x.rw → (upd H x.rw (.lst xs)) y = some o := fun e n => by rw [upd_ne n]; exact e
  exact ⟨⟨⟨dx, k h0 n1⟩, k h.es n2, ⟨p0, p1, k h3 n3, f.tups _ _ h4, f.tups _ _ h5⟩, ⟨kvs, k h6 (Ne.symm n4), h7⟩, ⟨xs, upd_same, hA.frm f⟩, h.ea.frm f (fun y hy => by simp at hy; subst hy; exact hZ) o1, h.eb.frm f (fun y hy => by simp at hy; subst hy; exact hZ) o2, h.nd⟩, f.sub (by simp [LoAd.all])⟩
/-- what passes is another -/
theorem LoAt.setPass (h : LoAt CL CE CM Z H x s) (hZ : x.pg ∈ Z) {q0 q1 : Addr} {p : Pass} (e0 : H q0 = some (.tup (p.1.map V.int))) (e1 : H q1 = some (.tup (p.2.map V.int))) :
    LoAt CL CE CM Z (upd H x.pg (.lst [.ref q0, .ref q1])) x { s with ps := p } ∧ Frm x.all H (upd H x.pg (.lst [.ref q0, .ref q1])) := by
  obtain ⟨⟨_, n1, _, _⟩, ⟨n2, _, _⟩, ⟨n3, n4⟩, _⟩ := LoAd.basen h.nd
  obtain ⟨o1, o2⟩ := LoAd.ownd h.nd (d := x.pg) (by simp [LoAd.base])
  obtain ⟨xs0, h1, h2⟩ := h.rw
  obtain ⟨dx, h0⟩ := h.ob
  obtain ⟨p0, p1, h3, h4, h5⟩ := h.pg
  obtain ⟨kvs, h6, h7⟩ := h.lo
  have f : Frm [x.pg] H (upd H x.pg (.lst [.ref q0, .ref q1])) := Frm.updL h3
  have k : ∀ {y o}, H y = some o → y ≠ x.pg → (upd H x.pg (.lst [.ref q0, .ref q1])) y = some o := fun e n => by rw [upd_ne n]; exact e
  exact ⟨⟨⟨dx, k h0 n1⟩, k h.es n2, ⟨q0, q1, upd_same, f.tups _ _ e0, f.tups _ _ e1⟩, ⟨kvs, k h6 (Ne.symm n4), h7⟩, ⟨xs0, k h1 (Ne.symm n3), h2.frm f⟩, h.ea.frm f (fun y hy => by simp at hy; subst hy; exact hZ) o1, h.eb.frm f (fun y hy => by simp at hy; subst hy; exact hZ) o2, h.nd⟩, f.sub (by simp [LoAd.all])⟩
/-- a letter more is lost -/
theorem LoAt.setLost (h : LoAt CL CE CM Z H x s) (hZ : x.lo ∈ Z) {kvs : List (List Key × V)} {l : Lost} (hl : LostD kvs l) : LoAt CL CE CM Z (upd H x.lo (.dT kvs)) x { s with ls := l } ∧ Frm x.all H (upd H x.lo (.dT kvs)) := by
  obtain ⟨⟨_, _, _, n1⟩, ⟨_, _, n2⟩, ⟨_, n3⟩, n4⟩ := LoAd.basen h.nd
  obtain ⟨o1, o2⟩ := LoAd.ownd h.nd (d := x.lo) (by simp [LoAd.base])
  obtain ⟨xs0, h1, h2⟩ := h.rw
  obtain ⟨dx, h0⟩ := h.ob
  obtain ⟨p0, p1, h3, h4, h5⟩ := h.pg
  obtain ⟨kvs0, h6, h7⟩ := h.lo
  have f : Frm [x.lo] H (upd H x.lo (.dT kvs)) := Frm.updN fun ys z => by rw [h6] at z; cases z
  have k : ∀ {y o}, H y = some o → y ≠ x.lo → (upd H x.lo (.dT kvs)) y = some o := fun e n => by rw [upd_ne n]; exact e
  exact ⟨⟨⟨dx, k h0 n1⟩, k h.es n2, ⟨p0, p1, k h3 n3, f.tups _ _ h4, f.tups _ _ h5⟩, ⟨kvs, upd_same, hl⟩, ⟨xs0, k h1 n4, h2.frm f⟩, h.ea.frm f (fun y hy => by simp at hy; subst hy; exact hZ) o1, h.eb.frm f (fun y hy => by simp at hy; subst hy; exact hZ) o2, h.nd⟩, f.sub (by simp [LoAd.all])⟩
/-- a new dict of lost letters -/
theorem LoAt.newLost (h : LoAt CL CE CM Z H x s) (hZ : x.o ∈ Z) {l : Addr} (hl : H l = some (.dT [])) (nl : l ∉ x.every) (f0 : ∀ dx, H x.o = some (.ins CL dx (liN.zip (liV x))) → H' = upd H x.o (.ins CL dx (liN.zip (liV { x with lo := l })))) :
    LoAt CL CE CM (l :: Z) H' { x with lo := l } { s with ls := lno } ∧ Frm x.all H H' := by
  obtain ⟨⟨n1, n2, n3, n4⟩, ⟨_, _, n5⟩, ⟨_, n6⟩, n7⟩ := LoAd.basen h.nd
  obtain ⟨o1, o2⟩ := LoAd.ownd h.nd (d := x.o) (by simp [LoAd.base])
  obtain ⟨xs0, h1, h2⟩ := h.rw
  obtain ⟨dx, h0⟩ := h.ob
  obtain ⟨p0, p1, h3, h4, h5⟩ := h.pg
  obtain rfl := f0 dx h0
  have f : Frm [x.o] H (upd H x.o (.ins CL dx (liN.zip (liV { x with lo := l })))) := Frm.updI h0
  have k : ∀ {y o}, H y = some o → y ≠ x.o → (upd H x.o (.ins CL dx (liN.zip (liV { x with lo := l })))) y = some o := fun e n => by rw [upd_ne n]; exact e
  have nlo : l ≠ x.o := fun e => nl (by rw [e]; simp [LoAd.every, LoAd.base])
  have ndx : ({ x with lo := l } : LoAd).every.Nodup := by
    have q := h.nd
    simp only [LoAd.every, LoAd.base, List.cons_append, List.nil_append, List.nodup_cons, List.mem_cons, not_or] at q nl ⊢
    obtain ⟨⟨a1, a2, a3, a4, a5⟩, ⟨b1, b2, b3, b4⟩, ⟨c1, c2, c3⟩, ⟨d1, d2⟩, e1, e2⟩ := q
    obtain ⟨m1, m2, m3, m4, m5, m6⟩ := nl
    exact ⟨⟨a1, a2, a3, Ne.symm m1, a5⟩, ⟨b1, b2, Ne.symm m2, b4⟩, ⟨c1, Ne.symm m3, c3⟩, ⟨Ne.symm m4, d2⟩, m6, e2⟩
  have L : LoAt CL CE CM Z (upd H x.o (.ins CL dx (liN.zip (liV { x with lo := l })))) { x with lo := l } { s with ls := lno } :=
    ⟨⟨dx, upd_same⟩, k h.es (Ne.symm n1), ⟨p0, p1, k h3 (Ne.symm n2), f.tups _ _ h4, f.tups _ _ h5⟩, ⟨[], k hl nlo, .nil⟩, ⟨xs0, k h1 (Ne.symm n3), h2.frm f⟩, h.ea.frm f (fun y hy => by simp at hy; subst hy; exact hZ) o1, h.eb.frm f (fun y hy => by simp at hy; subst hy; exact hZ) o2, ndx⟩
  refine ⟨L.more fun y hy => (List.mem_cons.mp hy).elim (fun e => .inr fun bs z => ?_) .inl, f.sub (by simp [LoAd.all])⟩
  rw [e, k hl nlo] at z
  cases z
end
theorem LoAt.ghost {CL CE CM : Addr} {Z : List Addr} {H : Hp} {x : LoAd} {s : PlS} (h : LoAt CL CE CM Z H x s) {s' : PlS} (e : s'.a = s.a ∧ s'.b = s.b ∧ s'.log = s.log ∧ s'.ps = s.ps ∧ s'.ls = s.ls) : LoAt CL CE CM Z H x s' := by
  obtain ⟨e1, e2, e3, e4, e5⟩ := e
  exact ⟨h.ob, h.es, by rw [e4]; exact h.pg, by rw [e5]; exact h.lo, by rw [e3]; exact h.rw, by rw [e1]; exact h.ea, by rw [e2]; exact h.eb, h.nd⟩
end TL

namespace TL
open PySem PySem.Spec PyProof.Rows L2
def setP (p : Pass) (e : Int) (ms : List Int) : Pass := if e = 0 then (ms, p.2) else (p.1, ms)
def sendP (s : PlS) (e i : Int) : PlS := if e = 0 then { s with toLnS := sendA s.toLnS i } else { s with toLnS := sendB s.toLnS i }
/-! ### the steps of a play -/
inductive StepD where
  | frames (n : Int)
  | pass (e : Int) (ms : List Int)
  | lose (p e : Int)
  | send (e i : Int)
  | got (e : Int)
  | left (e : Int)
  | joined
def bit (e : Int) : Prop := e = 0 ∨ e = 1
def StepD.ok : StepD → Prop
  | .frames n => 1 ≤ n ∧ n ≤ 100
  | .pass e ms => bit e ∧ Can ms
  | .lose p e => bit p ∧ bit e
  | .send e i => bit e ∧ 0 ≤ i ∧ i ≤ 999
  | .got e => bit e
  | .left e => bit e
  | .joined => True
def stepD : StepD → PyData
  | .frames n => .tuple [.str "frames", .int n]
  | .pass e ms => .tuple [.str "pass", .int e, .tuple (ms.map .int)]
  | .lose p e => .tuple [.str "lose", .int p, .int e]
  | .send e i => .tuple [.str "send", .int e, .int i]
  | .got e => .tuple [.str "got", .int e]
  | .left e => .tuple [.str "left", .int e]
  | .joined => .tuple [.str "joined"]
/-- a step at its place -/
def StepAt (H : Hp) (a : Addr) : StepD → Prop
  | .frames n => H a = some (.tup [.str "frames", .int n])
  | .pass e ms => ∃ t, H a = some (.tup [.str "pass", .int e, .ref t]) ∧ H t = some (.tup (ms.map V.int))
  | .lose p e => H a = some (.tup [.str "lose", .int p, .int e])
  | .send e i => H a = some (.tup [.str "send", .int e, .int i])
  | .got e => H a = some (.tup [.str "got", .int e])
  | .left e => H a = some (.tup [.str "left", .int e])
  | .joined => H a = some (.tup [.str "joined"])
theorem StepAt.frm {S : List Addr} {H H' : Hp} {a : Addr} {st : StepD} (h : StepAt H a st) (f : Frm S H H') : StepAt H' a st := by
  cases st with
  | pass e ms => obtain ⟨t, h1, h2⟩ := h; exact ⟨t, f.tups _ _ h1, f.tups _ _ h2⟩
  | _ => exact f.tups _ _ h
theorem StepAt.same {H H' : Hp} {a : Addr} {st : StepD} (h : StepAt H a st) (f : Same H H') : StepAt H' a st := h.frm (S := []) (.of_same f)
theorem StepAt.im {H : Hp} {a : Addr} {st : StepD} (h : StepAt H a st) : Im H (.ref a) (stepD st) := by
  cases st with
  | frames n => exact .tup h (.cons (.str _) (.cons (.int _) .nil))
  | pass e ms => obtain ⟨t, h1, h2⟩ := h; exact .tup h1 (.cons (.str _) (.cons (.int _) (.cons (.tup h2 (im_ints _)) .nil)))
  | lose p e => exact .tup h (.cons (.str _) (.cons (.int _) (.cons (.int _) .nil)))
  | send e i => exact .tup h (.cons (.str _) (.cons (.int _) (.cons (.int _) .nil)))
  | got e => exact .tup h (.cons (.str _) (.cons (.int _) .nil))
  | left e => exact .tup h (.cons (.str _) (.cons (.int _) .nil))
  | joined => exact .tup h (.cons (.str _) .nil)
/-- the steps of a list -/
def StepsAt (H : Hp) (xs : List V) (sts : List StepD) : Prop := xs.length = sts.length ∧ ∀ (i : Nat) (v : V) (st : StepD), xs[i]? = some v → sts[i]? = some st → ∃ a, v = .ref a ∧ StepAt H a st
theorem StepsAt.frm {S : List Addr} {H H' : Hp} {xs : List V} {sts : List StepD} (h : StepsAt H xs sts) (f : Frm S H H') : StepsAt H' xs sts := ⟨h.1, fun i v st h1 h2 => let ⟨a, e, s⟩ := h.2 i v st h1 h2; ⟨a, e, s.frm f⟩⟩
theorem StepsAt.same {H H' : Hp} {xs : List V} {sts : List StepD} (h : StepsAt H xs sts) (f : Same H H') : StepsAt H' xs sts := h.frm (S := []) (.of_same f)
theorem StepsAt.get {H : Hp} {xs : List V} {sts : List StepD} {i : Nat} {v : V} (h : StepsAt H xs sts) (hi : xs[i]? = some v) : ∃ a st, sts[i]? = some st ∧ v = .ref a ∧ StepAt H a st := by
  have il : i < sts.length := by
    rw [← h.1]
    exact (List.getElem?_eq_some_iff.mp hi).1
  have q : sts[i]? = some sts[i] := List.getElem?_eq_getElem il
  obtain ⟨a, e, s⟩ := h.2 i v _ hi q
  exact ⟨a, _, q, e, s⟩
/-! ### what is told -/
def Told (B : Addr → Prop) (H : Hp) (v : V) (dd : PyData) : Prop :=
  Im H v dd ∨ ∃ q zs ds, v = .ref q ∧ dd = .list ds ∧ H q = some (.lst zs) ∧ ImAll H zs ds ∧ zs.length ≤ 1000 ∧ B q
section
variable {B B' : Addr → Prop} {S : List Addr} {H H' : Hp} {K : PySem.W.Frag}
theorem Told.frm {v : V} {d : PyData} (h : Told B H v d) (f : Frm S H H') (hb : ∀ q, B q → (∃ o, H q = some o) → B' q ∧ q ∉ S) : Told B' H' v d := by
  rcases h with h | ⟨q, zs, ds, e1, e2, h1, h2, h3, h4⟩
  · exact .inl (h.frm f)
  · exact .inr ⟨q, zs, ds, e1, e2, f _ _ h1 (hb q h4 ⟨_, h1⟩).2, h2.frm f, h3, (hb q h4 ⟨_, h1⟩).1⟩
theorem Told.dp {v : V} {d : PyData} (h : Told B H v d) : Dp K H v d := by
  rcases h with h | ⟨q, zs, ds, rfl, rfl, h1, h2, _⟩
  · exact h.dp
  · exact .lst (SqL.of h1) h2.dp
def ToldAll (B : Addr → Prop) (H : Hp) (vs : List V) (ds : List PyData) : Prop := vs.length = ds.length ∧ ∀ (i : Nat) (v : V) (d : PyData), vs[i]? = some v → ds[i]? = some d → Told B H v d
theorem ToldAll.frm {vs : List V} {ds : List PyData} (h : ToldAll B H vs ds) (f : Frm S H H') (hb : ∀ q, B q → (∃ o, H q = some o) → B' q ∧ q ∉ S) : ToldAll B' H' vs ds := ⟨h.1, fun i v d h1 h2 => (h.2 i v d h1 h2).frm f hb⟩
theorem ToldAll.nil : ToldAll B H [] [] := ⟨rfl, fun i v d h => by simp at h⟩
theorem ToldAll.snoc {vs : List V} {ds : List PyData} {v : V} {d : PyData} (h : ToldAll B H vs ds) (t : Told B H v d) : ToldAll B H (vs ++ [v]) (ds ++ [d]) := by
  refine ⟨by simp [h.1], fun i w e h1 h2 => ?_⟩
  rcases Nat.lt_or_ge i vs.length with q | q
  · rw [List.getElem?_append_left q] at h1
    rw [List.getElem?_append_left (by rw [← h.1]; exact q)] at h2
    exact h.2 i w e h1 h2
  · rw [List.getElem?_append_right q] at h1
    rw [List.getElem?_append_right (by rw [← h.1]; exact q)] at h2
    have : i - vs.length = 0 := by
      have := (List.getElem?_eq_some_iff.mp h1).1
      simp at this
      omega
    rw [this] at h1
    rw [← h.1, this] at h2
    rw [← Option.some.inj h1, ← Option.some.inj h2]
    exact t
theorem ToldAll.dp : ∀ {vs : List V} {ds : List PyData}, ToldAll B H vs ds → DpAll K H vs ds
  | [], [], _ => .nil
  | v :: vs, d :: ds, h => .cons (h.2 0 v d rfl rfl).dp (ToldAll.dp ⟨by simpa using h.1, fun i w e h1 h2 => h.2 (i + 1) w e (by simpa using h1) (by simpa using h2)⟩)
  | [], _ :: _, h => by simp [ToldAll] at h
  | _ :: _, [], h => by simp [ToldAll] at h
end
/-! ### what a step does -/
def endW (s : PlS) (e : Int) : List Int := if e = 0 then s.a.wait else s.b.wait
def framesP : Nat → PlS → PlS
  | 0, s => s
  | n + 1, s => frameP (framesP n s)
def lastRow (s : PlS) : Row := s.log.getLast?.getD (0, false, 0, false)
def last300 (l : List Row) : List Row := l.drop (l.length - 300)
def doneF (s : PlS) : StepD → PlS × PyData
  | .frames n => (framesP n.toNat s, rowD (lastRow (framesP n.toNat s)))
  | .pass e ms => ({ s with ps := setP s.ps e ms }, .bool true)
  | .lose p e => ({ s with ls := setL s.ls p e }, .bool true)
  | .send e i => if (endW s e).length = 20 then (s, .bool false) else (sendP s e i, .bool true)
  | .got e => (s, .list ((if e = 0 then s.a.got else s.b.got).map .int))
  | .left e => (s, .int ((endW s e).length : Nat))
  | .joined => (s, .list ((stTo ((last300 s.log).map mark) (last300 s.log).length).map strD))
theorem done_send (s : PlS) (e i : Int) : doneF s (.send e i) = if (endW s e).length = 20 then (s, .bool false) else (sendP s e i, .bool true) := rfl
def runP (s : PlS) : List StepD → PlS
  | [] => s
  | st :: r => runP (doneF s st).1 r
def ansP (s : PlS) : List StepD → List PyData
  | [] => []
  | st :: r => (doneF s st).2 :: ansP (doneF s st).1 r
theorem runP_app : ∀ (xs ys : List StepD) (s : PlS), runP s (xs ++ ys) = runP (runP s xs) ys
  | [], _, _ => rfl
  | _ :: r, ys, s => runP_app r ys _
theorem ansP_app : ∀ (xs ys : List StepD) (s : PlS), ansP s (xs ++ ys) = ansP s xs ++ ansP (runP s xs) ys
  | [], _, _ => rfl
  | x :: r, ys, s => by
    show (doneF s x).2 :: ansP _ (r ++ ys) = _
    rw [ansP_app r ys]
    rfl
theorem ansP_len : ∀ (xs : List StepD) (s : PlS), (ansP s xs).length = xs.length
  | [], _ => rfl
  | _ :: r, s => congrArg Nat.succ (ansP_len r _)
/-- what holds behind k steps -/
structure PlOk (k : Nat) (s : PlS) : Prop where
  ok : LnOk 0 s.toLnS
  ov : s.a.over ≤ 100 * (k : Nat)
  lg : s.log.length ≤ 100 * k
  la : s.sa.length ≤ k
  lb : s.sb.length ≤ k
  rs : ∀ r ∈ s.log, okRow r ∧ goodRow s.ca s.cb r = true
theorem PlOk.frame {k : Nat} {s : PlS} {n m : Nat} (ok : LnOk 0 s.toLnS) (rs : ∀ r ∈ s.log, okRow r ∧ goodRow s.ca s.cb r = true) (hov : s.a.over ≤ m) (hlg : s.log.length ≤ m) (hm : m + n ≤ 1000000) :
    LnOk 0 (framesP n s).toLnS ∧ (framesP n s).a.over = s.a.over + n ∧ (framesP n s).log.length = s.log.length + n ∧ (framesP n s).sa = s.sa ∧ (framesP n s).sb = s.sb ∧ (framesP n s).ca = s.ca ∧ (framesP n s).cb = s.cb ∧ (∀ r ∈ (framesP n s).log, okRow r ∧ goodRow s.ca s.cb r = true) := by
  induction n with
  | zero => exact ⟨ok, by show s.a.over = s.a.over + ((0 : Nat) : Int); omega, rfl, rfl, rfl, rfl, rfl, rs⟩
  | succ n ih =>
    obtain ⟨h1, h2, h3, h4, h5, h6, h7, h8⟩ := ih (by omega)
    have fo : (framesP (n + 1) s).a.over = (framesP n s).a.over + 1 := frame_over _ _ _
    have fl : (framesP (n + 1) s).log = (framesP n s).log ++ [rowF (framesP n s).ps (framesP n s).ls (halfF (framesP n s).ps (framesP n s).ls (framesP n s).toLnS)] := frame_log _ _ _
    refine ⟨h1.frame _ _ (by omega), by rw [fo, h2]; omega, by rw [fl, List.length_append, h3]; rfl, h4, h5, h6, h7, fun r hr => ?_⟩
    rw [fl] at hr
    rcases List.mem_append.mp hr with q | q
    · exact h8 r q
    · simp at q
      subst q
      have g := row_good h1 (framesP n s).ps (framesP n s).ls
      rw [h6, h7] at g
      exact ⟨row_ok h1 _ _, g⟩
theorem PlOk.done {k : Nat} {s : PlS} (h : PlOk k s) (hk : k < 200) {st : StepD} (hs : st.ok) : PlOk (k + 1) (doneF s st).1 ∧ (doneF s st).1.ca = s.ca ∧ (doneF s st).1.cb = s.cb := by
  have ho := h.ov
  have hl := h.lg
  have ha := h.la
  have hb := h.lb
  have base : PlOk (k + 1) s := ⟨h.ok, by omega, by omega, by omega, by omega, h.rs⟩
  cases st with
  | frames n =>
    obtain ⟨n1, n2⟩ := hs
    obtain ⟨h1, h2, h3, h4, h5, h6, h7, h8⟩ := PlOk.frame (k := k) (n := n.toNat) (m := 100 * k) h.ok h.rs (by omega) hl (by omega)
    refine ⟨⟨h1, ?_, ?_, ?_, ?_, ?_⟩, h6, h7⟩
    · show (framesP n.toNat s).a.over ≤ _
      rw [h2]
      omega
    · show (framesP n.toNat s).log.length ≤ _
      rw [h3]
      omega
    · show (framesP n.toNat s).sa.length ≤ _
      rw [h4]
      omega
    · show (framesP n.toNat s).sb.length ≤ _
      rw [h5]
      omega
    · show ∀ r ∈ (framesP n.toNat s).log, okRow r ∧ goodRow (framesP n.toNat s).ca (framesP n.toNat s).cb r = true
      rw [h6, h7]
      exact h8
  | pass e ms => exact ⟨⟨base.ok, base.ov, base.lg, base.la, base.lb, base.rs⟩, rfl, rfl⟩
  | lose p e => exact ⟨⟨base.ok, base.ov, base.lg, base.la, base.lb, base.rs⟩, rfl, rfl⟩
  | got e => exact ⟨base, rfl, rfl⟩
  | left e => exact ⟨base, rfl, rfl⟩
  | joined => exact ⟨base, rfl, rfl⟩
  | send e i =>
    obtain ⟨he, hi0, hi9⟩ := hs
    rw [done_send]
    by_cases hw : (endW s e).length = 20
    · rw [if_pos hw]
      exact ⟨base, rfl, rfl⟩
    · rw [if_neg hw]
      have w0 := h.ok.ea.wait
      have w1 := h.ok.eb.wait
      rcases he with rfl | rfl
      · have q : Sends s.toLnS 0 (sendA s.toLnS i) := by
          unfold Sends
          rw [if_pos rfl]
          have : s.a.wait.length ≠ 20 := hw
          exact .inr ⟨by omega, i, hi0, by omega, rfl⟩
        obtain ⟨g1, _⟩ := h.ok.sends q (by omega) (by omega)
        refine ⟨⟨g1, base.ov, base.lg, ?_, base.lb, base.rs⟩, rfl, rfl⟩
        show (s.sa ++ [i]).length ≤ _
        rw [List.length_append]
        show _ + 1 ≤ _
        omega
      · have q : Sends s.toLnS 1 (sendB s.toLnS i) := by
          unfold Sends
          rw [if_neg (by decide)]
          have : s.b.wait.length ≠ 20 := hw
          exact .inr ⟨by omega, i, hi0, by omega, rfl⟩
        obtain ⟨g1, _⟩ := h.ok.sends q (by omega) (by omega)
        refine ⟨⟨g1, base.ov, base.lg, base.la, ?_, base.rs⟩, rfl, rfl⟩
        show (s.sb ++ [i]).length ≤ _
        rw [List.length_append]
        show _ + 1 ≤ _
        omega
theorem PlOk.new {ca cb : List Int} (ha : Can ca) (hb : Can cb) : PlOk 0 (.new ca cb) := ⟨LnOk.new ha hb, Int.le_refl 0, Nat.le_refl 0, Nat.le_refl 0, Nat.le_refl 0, fun r hr => by cases hr⟩
theorem PlOk.run : ∀ {sts : List StepD} {k : Nat} {s : PlS}, PlOk k s → k + sts.length ≤ 200 → (∀ st ∈ sts, st.ok) → PlOk (k + sts.length) (runP s sts) ∧ (runP s sts).ca = s.ca ∧ (runP s sts).cb = s.cb
  | [], _, _, h, _, _ => ⟨h, rfl, rfl⟩
  | st :: r, k, s, h, hk, hs => by
    have hl : (st :: r).length = r.length + 1 := rfl
    rw [hl] at hk ⊢
    obtain ⟨h1, h2, h3⟩ := h.done (by omega) (hs st (by simp))
    obtain ⟨g1, g2, g3⟩ := PlOk.run (sts := r) h1 (by omega) fun x hx => hs x (by simp [hx])
    have e : k + (r.length + 1) = k + 1 + r.length := by omega
    rw [e]
    exact ⟨g1, g2.trans h2, g3.trans h3⟩
theorem lv_strs1 (s : Str3) : lv 1 (strD s) := by
  refine ⟨(by decide : 3 ≤ 100000), fun d hd => ?_⟩
  simp only [List.mem_cons, List.not_mem_nil, or_false] at hd
  rcases hd with rfl | rfl | rfl <;> trivial
theorem last300_len (l : List Row) : (last300 l).length ≤ 300 := by
  unfold last300
  rw [List.length_drop]
  omega
theorem lv_done {k : Nat} {s : PlS} (h : PlOk k s) (st : StepD) : lv 2 (doneF s st).2 := by
  have g0 := h.ok.ea.got
  have g1 := h.ok.eb.got
  cases st with
  | frames n => exact lv_mono (lv_row _)
  | pass e ms => trivial
  | lose p e => trivial
  | got e => exact lv_mono (lv_ints (by split <;> omega))
  | left e => trivial
  | joined =>
    have h3 := last300_len s.log
    refine ⟨?_, fun d hd => ?_⟩
    · rw [List.length_map]
      have := stTo_len ((last300 s.log).map mark) (last300 s.log).length
      omega
    · obtain ⟨x, _, rfl⟩ := List.mem_map.mp hd
      exact lv_strs1 x
  | send e i =>
    rw [done_send]
    split <;> trivial
theorem lv_ansP : ∀ {sts : List StepD} {k : Nat} {s : PlS}, PlOk k s → k + sts.length ≤ 200 → (∀ st ∈ sts, st.ok) → ∀ d ∈ ansP s sts, lv 2 d
  | [], _, _, _, _, _, d, hd => by cases hd
  | st :: r, k, s, h, hk, hs, d, hd => by
    have hl : (st :: r).length = r.length + 1 := rfl
    rw [hl] at hk
    rcases List.mem_cons.mp hd with rfl | q
    · exact lv_done h st
    · exact lv_ansP (h.done (by omega) (hs st (by simp))).1 (by omega) (fun x hx => hs x (by simp [hx])) d q
end TL

namespace TL
open PySem PySem.Spec PyProof.Rows L2
/-! ### a for over zip(a, b, c), lists of one length -/
def Itz3 (K : PySem.W.Frag) (a b c : Addr) : It where
  go i H := ∃ (xs ys us : List V) (x y u : V), SqL K H a xs ∧ SqL K H b ys ∧ SqL K H c us ∧ xs[i]? = some x ∧ ys[i]? = some y ∧ us[i]? = some u
  yld i H v H' := ∃ T x y u, v = .ref T ∧ H T = none ∧ H' = upd H T (.tup [x, y, u]) ∧ (∀ xs, SqL K H a xs → xs[i]? = some x) ∧ (∀ ys, SqL K H b ys → ys[i]? = some y) ∧ ∀ us, SqL K H c us → us[i]? = some u
  stop i H := ∃ xs ys us : List V, SqL K H a xs ∧ SqL K H b ys ∧ SqL K H c us ∧ xs.length = i ∧ ys.length = i ∧ us.length = i
/-- where the walk stands -/
def ZipSt (z TI TO i1 i2 i3 a b c : Addr) (i : Nat) (h : Heap) : Prop :=
  IsZip h z TI TO .none ∧ IsTupOf3 h TI (.ref i1) (.ref i2) (.ref i3) ∧ (∃ a1 a2 a3, IsTupOf3 h TO a1 a2 a3) ∧ h.IsListIter i1 a i ∧ h.IsListIter i2 b i ∧ h.IsListIter i3 c i
theorem turn_zip3 {P : Program} {w : World} {K : PySem.W.Frag} {elts : List Expr} {kk : Nat} {tpos : Pos} {a b c z TI TO i1 i2 i3 : Addr} (S : ZipSep3 z TI TO i1 i2 i3 [i1, a] [i2, b] [i3, c]) (n1 : a ≠ i1) (n2 : b ≠ i2) (n3 : c ≠ i3) :
    Turn P w K (.Tuple elts kk tpos) (Itz3 K a b c) [z, TI, TO, i1, i2, i3] z (ZipSt z TI TO i1 i2 i3 a b c) where
  mem := by simp
  obj := fun i h st x hx => by
    obtain ⟨hz, hTI, ⟨a1, a2, a3, hTO⟩, ⟨o1, e1, _, d1⟩, ⟨o2, e2, _, d2⟩, ⟨o3, e3, _, d3⟩⟩ := st
    simp only [List.mem_cons, List.not_mem_nil, or_false] at hx
    rcases hx with rfl | rfl | rfl | rfl | rfl | rfl
    · exact ⟨_, hz, fun v q => nomatch q⟩
    · exact ⟨_, hTI, fun v q => nomatch q⟩
    · exact ⟨_, hTO, fun v q => nomatch q⟩
    · exact ⟨o1, e1, fun v q => by rw [d1] at q; cases q⟩
    · exact ⟨o2, e2, fun v q => by rw [d2] at q; cases q⟩
    · exact ⟨o3, e3, fun v q => by rw [d3] at q; cases q⟩
  keep := fun i h h' st k => by
    obtain ⟨hz, hTI, ⟨a1, a2, a3, hTO⟩, h1, h2, h3⟩ := st
    exact ⟨k z (by simp) _ hz, k TI (by simp) _ hTI, ⟨a1, a2, a3, k TO (by simp) _ hTO⟩, h1.at fun o q => k i1 (by simp) o q, h2.at fun o q => k i2 (by simp) o q, h3.at fun o q => k i3 (by simp) o q⟩
  item := by
    intro X hP hw hK hc i pins s σ H E I hf st hg
    subst hP hw hK
    obtain ⟨hz, hTI, hTO, h1, h2, h3⟩ := st
    obtain ⟨xs, ys, us, x, y, u, hqx, hqy, hqu, hx, hy, hu⟩ := hg
    obtain ⟨its1, rv1, p1, _⟩ := I.list hqx
    obtain ⟨its2, rv2, p2, _⟩ := I.list hqy
    obtain ⟨its3, rv3, p3, _⟩ := I.list hqu
    obtain ⟨v1, hv1, r1⟩ := rv1.get hx
    obtain ⟨v2, hv2, r2⟩ := rv2.get hy
    obtain ⟨v3, hv3, r3⟩ := rv3.get hu
    have hh := I.ok.hd hc
    have W := GoesN.zip3 (prog := X.prog) (w := X.w) (A := X.A) (elts := elts) (x1 := kk) (pos := tpos) S (Draws.list (A := X.A.in1) hh i1 a n1 its1.toArray) (Draws.list (A := X.A.in1) hh i2 b n2 its2.toArray) (Draws.list (A := X.A.in1) hh i3 c n3 its3.toArray)
    have l1 := (List.getElem?_eq_some_iff.mp hv1).1
    have l2 := (List.getElem?_eq_some_iff.mp hv2).1
    have l3 := (List.getElem?_eq_some_iff.mp hv3).1
    refine W.goes i s (fun q s2 => ∃ x' H', Inv X pins σ H' s2 ∧ RelV x' q ∧ (Itz3 X.K a b c).yld i H x' H' ∧ ZipSt z TI TO i1 i2 i3 a b c (i + 1) s2.heap ∧ ∀ d ∈ [z, TI, TO, i1, i2, i3], H' d = none) E ?_ ⟨hz, hTI, hTO, ⟨h1, p1.isList⟩, ⟨h2, p2.isList⟩, ⟨h3, p3.isList⟩⟩ fun q h' tk hY st' hk _ => ?_
    · show i < min (min its1.toArray.size its2.toArray.size) its3.toArray.size
      simp only [List.size_toArray]
      omega
    obtain ⟨T, w1, w2, w3, rfl, hT, g1, g2, g3, hTup⟩ := hY
    have e1 : v1 = w1 := by
      have : its1[i]? = some w1 := by simpa using g1
      rw [hv1] at this
      exact Option.some.inj this
    have e2 : v2 = w2 := by
      have : its2[i]? = some w2 := by simpa using g2
      rw [hv2] at this
      exact Option.some.inj this
    have e3 : v3 = w3 := by
      have : its3[i]? = some w3 := by simpa using g3
      rw [hv3] at this
      exact Option.some.inj this
    subst e1 e2 e3
    have new : ObjOk X.prog X.w (upd H T (.tup [x, y, u])) h' T (.tup [x, y, u]) :=
      ⟨by show 3 ≤ sizeLine; decide, [v1, v2, v3], .cons r1 (.cons r2 (.cons r3 .nil)), hTup⟩
    have hf' : ∀ d ∈ [z, TO, i1, i2, i3], FpOk X pins H d := fun d hd => hf d (by
      simp only [List.mem_cons, List.not_mem_nil, or_false] at hd ⊢
      rcases hd with h | h | h | h | h <;> simp [h])
    have I1 : Inv X pins σ (upd H T (.tup [x, y, u])) { s with heap := h', toks := tk } := I.turnedNew (ch := [z, TO, i1, i2, i3]) hk hf' hT new
    obtain ⟨s1, s2, s3, ⟨s4, _⟩, ⟨s5, _⟩, ⟨s6, _⟩⟩ := st'
    refine ⟨.ref T, _, I1, rfl, ⟨T, x, y, u, rfl, I.hok.fresh hT, rfl, fun l hl => by rw [I.list_inj hl hqx]; exact hx, fun l hl => by rw [I.list_inj hl hqy]; exact hy, fun l hl => by rw [I.list_inj hl hqu]; exact hu⟩, ⟨s1, s2, s3, s4, s5, s6⟩, fun d hd => ?_⟩
    have hlt : d < s.heap.objs.size := by
      obtain ⟨a1, a2, a3, hTO⟩ := hTO
      obtain ⟨o1, q1, _⟩ := h1
      obtain ⟨o2, q2, _⟩ := h2
      obtain ⟨o3, q3, _⟩ := h3
      simp only [List.mem_cons, List.not_mem_nil, or_false] at hd
      rcases hd with rfl | rfl | rfl | rfl | rfl | rfl
      · exact Heap.lt_size hz
      · exact Heap.lt_size hTI
      · exact Heap.lt_size hTO
      · exact Heap.lt_size q1
      · exact Heap.lt_size q2
      · exact Heap.lt_size q3
    rw [upd_ne (Nat.ne_of_lt (Nat.lt_of_lt_of_le hlt hT))]
    exact (hf d hd).1
  done := by
    intro X hP hw hK hc i pins s σ H E I hf st hg
    subst hP hw hK
    obtain ⟨hz, hTI, hTO, h1, h2, h3⟩ := st
    obtain ⟨xs, ys, us, hqx, hqy, hqu, m1, m2, m3⟩ := hg
    obtain ⟨its1, rv1, p1, _⟩ := I.list hqx
    obtain ⟨its2, rv2, p2, _⟩ := I.list hqy
    obtain ⟨its3, rv3, p3, _⟩ := I.list hqu
    have hh := I.ok.hd hc
    have W := GoesN.zip3 (prog := X.prog) (w := X.w) (A := X.A) (elts := elts) (x1 := kk) (pos := tpos) S (Draws.list (A := X.A.in1) hh i1 a n1 its1.toArray) (Draws.list (A := X.A.in1) hh i2 b n2 its2.toArray) (Draws.list (A := X.A.in1) hh i3 c n3 its3.toArray)
    have l1 := rv1.length
    have l2 := rv2.length
    have l3 := rv3.length
    have en : min (min its1.toArray.size its2.toArray.size) its3.toArray.size = i := by
      simp only [List.size_toArray]
      omega
    have hf' : ∀ d ∈ [z, TO, i1, i2, i3], FpOk X pins H d := fun d hd => hf d (by
      simp only [List.mem_cons, List.not_mem_nil, or_false] at hd ⊢
      rcases hd with h | h | h | h | h <;> simp [h])
    refine W.stops s (fun s1 => Inv X pins σ H s1) E (by rw [en]; exact ⟨hz, hTI, hTO, ⟨h1, p1.isList⟩, ⟨h2, p2.isList⟩, ⟨h3, p3.isList⟩⟩) fun h' tk hk _ => ?_
    exact I.turnedL (ch := [z, TO, i1, i2, i3]) hk hf'
  self := fun A i s Q E st h => wpAny_pyIter_zip st.1 h
def iZip3 (K : PySem.W.Frag) (ta : TA) : TI := fun σ H R => ta σ H fun vs H1 => ∃ a b c xs ys us, vs = [.ref a, .ref b, .ref c] ∧ SqL K H1 a xs ∧ SqL K H1 b ys ∧ SqL K H1 c us ∧ R (Itz3 K a b c) H1
theorem pi_zip3 {X : Cx} {e e2 e3 : Expr} {ta : TA} {p pos tpos : Pos} {elts : List Expr} {kk : Nat} (hg : Gl X "zip") (hm : X.mg "zip" = none) (ha : PA X [e, e2, e3] ta)
    (hs : starEach [e, e2, e3] X.env = (false, eval e X.env) :: starEach [e2, e3] X.env := by rfl) (hpl : (backTo pos (starEach [e2, e3] X.env)).any (·.1) = false := by rfl) :
    PI X (.Tuple elts kk tpos) (.Call (.Name "zip" p) [e, e2, e3] [] pos) (iZip3 X.K ta) := by
  refine ⟨fun pins s σ H R I h => ?_⟩
  refine Call_ (ld_blt I hg hm PyProof.Rows.boot_zip (PyProof.Rows.callWith_type1 (thn (ha.run pos pins s σ H _ I h) fun us s1 ⟨vs, H1, I1, r1, q1⟩ => ?_) hs hpl))
  obtain ⟨a, b, c, xs, ys, zs, ex, hqx, hqy, hqz, q⟩ := q1
  subst ex
  cases r1 with
  | cons ra rr =>
  cases rr with
  | cons rb rr =>
  cases rr with
  | cons rc rr =>
  cases rr
  cases ra
  cases rb
  cases rc
  obtain ⟨its1, rv1, p1, _⟩ := I1.list hqx
  obtain ⟨its2, rv2, p2, _⟩ := I1.list hqy
  obtain ⟨its3, rv3, p3, _⟩ := I1.list hqz
  have la : a < s1.heap.objs.size := p1.lt
  have lb : b < s1.heap.objs.size := p2.lt
  have lc : c < s1.heap.objs.size := p3.lt
  refine zip_begins3 (begins_list a its1.toArray) (begins_list b its2.toArray) (begins_list c its3.toArray) p1.isList p2.isList p3.isList fun h' hz hTI hTO h1 h2 h3 hsz hk => wpAny_pyIter_zip hz ?_
  have I2 : Inv X pins σ H1 { s1 with heap := h' } := I1.kept (t' := s1.toks) hk
  have S := zip_sep3 (N := s1.heap.objs.size) (fp1 := [a]) (fp2 := [b]) (fp3 := [c]) (by simpa using la) (by simpa using lb) (by simpa using lc)
  refine ⟨s1.heap.objs.size + 5, [s1.heap.objs.size + 5, s1.heap.objs.size + 3, s1.heap.objs.size + 4, s1.heap.objs.size, s1.heap.objs.size + 1, s1.heap.objs.size + 2], _, _, H1, rfl, I2, turn_zip3 S (Nat.ne_of_lt la) (Nat.ne_of_lt (Nat.lt_succ_of_lt lb)) (Nat.ne_of_lt (Nat.lt_succ_of_lt (Nat.lt_succ_of_lt lc))), ⟨hz, hTI, ⟨_, _, _, hTO⟩, ⟨_, h1, rfl, rfl⟩, ⟨_, h2, rfl, rfl⟩, ⟨_, h3, rfl, rfl⟩⟩, fun d hd => ?_, q⟩
  have hle : s1.heap.objs.size ≤ d := by
    simp only [List.mem_cons, List.not_mem_nil, or_false] at hd
    rcases hd with z | z | z | z | z | z
    · rw [z]; exact Nat.le_add_right _ _
    · rw [z]; exact Nat.le_add_right _ _
    · rw [z]; exact Nat.le_add_right _ _
    · rw [z]; exact Nat.le_refl _
    · rw [z]; exact Nat.le_add_right _ _
    · rw [z]; exact Nat.le_add_right _ _
  exact I1.fpOk hle (I1.hok.fresh hle)
/-- the loop, by an invariant -/
theorem for_zip3 {K : PySem.W.Frag} {a b c : Addr} {xs ys us : List V} {g : TG} {tb : TS} {D : Ends} {σ : L2.St} {H : Hp} (l1 : ys.length = xs.length) (l2 : us.length = xs.length) (Pv : Nat → L2.St → Hp → Prop) (h0 : Pv 0 σ H) (hl : ∀ i σ H, Pv i σ H → SqL K H a xs ∧ SqL K H b ys ∧ SqL K H c us)
    (hs : ∀ (i : Nat) (x y u : V) (T : Addr) (σ : L2.St) (H : Hp), xs[i]? = some x → ys[i]? = some y → us[i]? = some u → Pv i σ H → H T = none → g (.ref T) σ (upd H T (.tup [x, y, u])) fun σ2 H2 => tb { D with nx := Pv (i + 1), ct := Pv (i + 1), bk := D.nx } σ2 H2)
    (hd : ∀ σ H, Pv xs.length σ H → D.nx σ H) : ForW (Itz3 K a b c) g tb D σ H := by
  refine ⟨fun i m σ H => m = xs.length - i ∧ i ≤ xs.length ∧ Pv i σ H, ⟨_, rfl, Nat.zero_le _, h0⟩, fun i m σ H hw => ?_⟩
  obtain ⟨rfl, hi, p⟩ := hw
  obtain ⟨qa, qb, qc⟩ := hl i σ H p
  rcases Nat.lt_or_ge i xs.length with hlt | hge
  · have hy : i < ys.length := by omega
    have hu : i < us.length := by omega
    refine .inr ⟨⟨xs, ys, us, xs[i], ys[i], us[i], qa, qb, qc, List.getElem?_eq_getElem hlt, List.getElem?_eq_getElem hy, List.getElem?_eq_getElem hu⟩, Pv (i + 1), fun σ' H' p' => ⟨xs.length - (i + 1), by omega, rfl, hlt, p'⟩, fun v H' y => ?_⟩
    obtain ⟨T, x, y, u, rfl, hT, rfl, hx, hy, hu⟩ := y
    exact hs i x y u T σ H (hx xs qa) (hy ys qb) (hu us qc) p hT
  · have e : i = xs.length := by omega
    subst e
    exact .inl ⟨⟨xs, ys, us, qa, qb, qc, rfl, l1, l2⟩, hd σ H p⟩
end TL

namespace TL
open PySem PySem.Spec PyProof.Rows L2
/-! ### the base class's __init__, called by its name -/
/-- what the written part says of the class at C, whose __init__ is ValueError's -/
structure BaseC (K : PySem.W.Frag) (C : Addr) : Prop where
  ga : PySem.W.specialIn K (.ref C) "__getattribute__" = some (some (.builtin "type.__getattribute__"))
  rd : PySem.W.readsIn K C (.type "type") = true
  fi : PySem.W.findCls K (.ref C) (.type "type") "__init__" = some (.val (.builtin "ValueError.__init__"))
  kp : PySem.W.keepIn K (.ref C) = true
theorem pe_basei {X : Cx} {x : Str} {C : Addr} {e : Expr} {es : List Expr} {ta : TA} {p1 p2 pos : Pos} {pl : Sem Bool} (hg : Gl X x) (hm : X.mg x = some (.ref C)) (B : BaseC X.K C) (ha : PA X (e :: es) ta) (hdb : (x == ("__debug__" : Str)) = false := by decide)
    (hc : eval (.Call (.Attribute (.Name x p1) "__init__" p2) (e :: es) [] pos) X.env = (do
      let ov ← eval (.Name x p1) X.env
      standAt p2.atName
      let (f, one) ← holding [ov] (getMethod ov "__init__" pl)
      callWith pos f one (backTo pos (starEach (e :: es) X.env)) (backToKw pos (keywordEach [] X.env))) := by rfl)
    (hst : starEach (e :: es) X.env = (false, eval e X.env) :: starEach es X.env := by rfl) (hno : (backTo pos (starEach es X.env)).any (·.1) = false := by rfl) :
    PE X (.Call (.Attribute (.Name x p1) "__init__" p2) (e :: es) [] pos) (tVeI X.K ta) := by
  constructor
  intro pins s σ H Q I h
  refine PySem.W.methodCall_KW (ld_glob I hg hm ?_ hdb) hc
  refine PySem.W.method_cls I.kIn B.ga (PySem.W.cls_value I.kIn B.rd B.fi rfl ?_)
  show wpAny _ _ (callWith pos (.builtin "ValueError.__init__") [] (backTo pos (starEach (e :: es) X.env)) []) _ _ _
  refine PyProof.Rows.callWith_method1 (thn (ha.run pos pins _ σ H _ (I.tok _) h) fun us s2 hh => ?_) hst hno
  obtain ⟨vs, H2, I2, rs, a, D, ws, rfl, hln, T, ea, q⟩ := hh
  cases rs with
  | cons ra rr =>
    rename_i u0 ur
    have e0 : u0 = Value.ref a := ra
    subst e0
    refine oinit_ok T I2 ea ?_ fun s' J => ⟨.non, H2, J, rfl, q⟩
    have := Paired.length rr
    rw [sizeLine_eq]
    omega
/-! ### what a suite asks of the exception that it holds -/
/-- isinstance(e, c), e the exception at a of the class cls, with the dict d -/
def rIsX (K : PySem.W.Frag) (cls : Value) (d : Option Addr) (a : Addr) : List V → Hp → VK → Prop := fun xs H Q =>
  ∃ (D : Addr) (c : V) (cv : Value) (b : Bool), xs = [.ref a, c] ∧ cls = .ref D ∧ (∀ u, RelV c u → u = cv) ∧ ExcC K D ∧ PySem.W.kitOne K (.ref D) cv = some b ∧ (d = none ∨ ∃ dd fs, d = some dd ∧ H dd = some (.xd fs)) ∧ Q (.bl b) H
theorem inst_xd {X : Cx} {pins : List (Addr × Obj)} {σ : L2.St} {H : Hp} {s : Shared} {a D : Addr} {oe : Obj} {cls : Value} {d : Option Addr} {vs : Array Value} (I : Inv X pins σ H s) (ha : s.heap.get? a = some oe) (hz : Zc cls d oe) (hv : oe.data = .fields vs) (hc : cls = .ref D)
    (hd : d = none ∨ ∃ dd fs, d = some dd ∧ H dd = some (.xd fs)) : ∃ od, PySem.W.InstAt s.heap a oe D od := by
  have no : PySem.W.notCls oe = true := by
    unfold PySem.W.notCls
    rw [hv] <;> rfl
  have hcl : oe.cls = .ref D := hz.1.trans hc
  have hdd : oe.dict = d := hz.2
  rcases hd with hd | ⟨dd, fs, hd, hx⟩
  · exact ⟨none, ha, hcl, no, by rw [hdd, hd]; trivial⟩
  · have hx' : ObjOk X.prog X.w H s.heap dd (.xd fs) := I.hok dd _ hx
    obtain ⟨mA, hns, _⟩ := hx'
    obtain ⟨od, ho, _⟩ := lookIn_ns hns
    exact ⟨some od, ha, hcl, no, by rw [hdd, hd]; exact ho⟩
theorem call_isX {X : Cx} {a : Addr} {oe : Obj} {cls : Value} {d : Option Addr} {pn : List (Addr × Obj)} (hz : Zc cls d oe) (hf : ∃ vs, oe.data = .fields vs) : CallR (X.suite a ((a, oe) :: pn)) (.builtin "isinstance") (rIsX X.K cls d a) := by
  intro pins s σ H xs us Q I rr h
  obtain ⟨D, c, cv, b, rfl, hcl, hcv, C, e, hd, q⟩ := h
  cases rr with
  | cons r0 rr =>
  cases rr with
  | cons r1 rr =>
  cases rr
  cases r0
  obtain rfl := hcv _ r1
  obtain ⟨hat, _⟩ := I.pin (a, oe) (List.mem_append_left _ (.head _))
  obtain ⟨vs, hv⟩ := hf
  obtain ⟨od, J⟩ := inst_xd I hat hz hv hcl hd
  have hcs : (PySem.W.clsIn X.K D).isSome = true := by
    obtain ⟨cd, hc, _⟩ := PySem.W.any_some C.hd
    rw [hc] <;> rfl
  exact PySem.W.kia_one (PySem.W.kitx_exc hcs C.hg C.hk C.hs C.ha C.hn C.ht C.hm) I.kIn J e (fun z => by cases z) fun tk => ⟨.bl b, H, I.kept (t' := tk) fun _ _ z => z, rfl, q⟩
/-- e.n -/
def tXg (K : PySem.W.Frag) (a : Addr) (cls : Value) (d : Option Addr) (n : Str) (te : TE) : TE := fun σ H Q => te σ H fun x H1 => x = .ref a ∧
  ∃ (C dd : Addr) (fs : List (Str × V)) (v : V), cls = .ref C ∧ XfC K C ∧ PySem.W.findIn K (.ref C) n = some none ∧ d = some dd ∧ H1 dd = some (.xd fs) ∧ fs.lookup n = some v ∧ Q v H1
theorem pe_xg {X : Cx} {a : Addr} {oe : Obj} {cls : Value} {d : Option Addr} {pn : List (Addr × Obj)} {e : Expr} {te : TE} {pos : Pos} {n : Str} (hz : Zc cls d oe) (hf : ∃ vs, oe.data = .fields vs) (he : PE (X.suite a ((a, oe) :: pn)) e te)
    (hb : attributeBase e n X.env (eval e X.env) = eval e X.env := by rfl) : PE (X.suite a ((a, oe) :: pn)) (.Attribute e n pos) (tXg X.K a cls d n te) := by
  constructor
  intro pins s σ H Q I h
  refine attr_of hb (thn (he.run pins s σ H _ I h) fun u s2 hh => ?_)
  obtain ⟨x, H2, I2, rx, rfl, C, dd, fs, v, hc, T, hno, rfl, hx, hl, q⟩ := hh
  have eu : u = Value.ref a := rx
  subst eu
  obtain ⟨hat, _⟩ := I2.pin (a, oe) (List.mem_append_left _ (.head _))
  obtain ⟨vs, hv⟩ := hf
  have hx' : ObjOk X.prog X.w H2 s2.heap dd (.xd fs) := I2.hok dd _ hx
  obtain ⟨mA, hns, hr⟩ := hx'
  obtain ⟨od, ho, hlk⟩ := lookIn_ns hns
  obtain ⟨w', hw, rw'⟩ := RelO.some_of (v := v) (o := mA n) (hl ▸ hr n)
  have no : PySem.W.notCls oe = true := by
    unfold PySem.W.notCls
    rw [hv] <;> rfl
  have J : PySem.W.InstAt s2.heap a oe C (some od) := ⟨hat, hz.1.trans hc, no, by rw [show oe.dict = some dd from hz.2]; exact ho⟩
  exact HandSPX.exc_get I2.kIn J T.ga T.gg T.exC (PySem.W.findObj_own T.hdC hno rfl (by rw [hlk, hw])) (handed_of rw') ⟨v, H2, I2.tok _, rw', q⟩
/-! ### a def whose code object is known -/
section
variable {P : Program} {w : World} {K : PySem.W.Frag} {mg : Str → Option Value} {base : Heap}
/-- the def at f: its code object stands at c -/
def FunC (K : PySem.W.Frag) (x qual : Str) (st : Stmt) (f : Addr) (fd : FuncData) (c : Addr) : Prop :=
  ∃ (oc : Value) (od : Option Addr) (kV doc pm : Value) (an : Option Addr) (ct : Value) (osl : Array (Option Value)), fd = PySem.W.fnOf x qual (defArgs st) (defBody st) (defScope st) .none kV doc pm an (.ref c) ct ∧ K.lookup f = some ⟨oc, od, .func fd, osl⟩ ∧ PySem.W.codeIn K (.ref c) qual = true
theorem FunC.ok {x qual : Str} {st : Stmt} {f c : Addr} {fd : FuncData} {N ps : List Str} {k : Nat} {sp : Sp} (F : FunC K x qual st f fd c) (S : FnScope N ps (defScope st)) (len : ∀ vs H Q E, sp vs H Q E → vs.length = ps.length)
    (body : ∀ (A : Around) (outer : List Env) (s : Shared) (H : Hp) (vs : List V) (Q : VK) (E : XK), Room k (A.deeper (envOfC qual (defScope st) s.heap.objs.size f (.ref c))) → sp vs H Q E →
      ∃ t, PSs (cxOf CX0 P w K mg base N qual (defScope st) f (.ref c) A outer s H E).nox (defBody st) t ∧ t { nx := fun _ H' => Q .non H', rt := Q } (start N vs) H) : FnOk P w K mg base CX0 (k + 1) f fd ps sp := by
  obtain ⟨oc, od, kV, doc, pm, an, ct, osl, rfl, lk, hcd⟩ := F
  exact fn_of lk hcd S len fun A outer s H vs Q E hr hsp => let ⟨t, h, q⟩ := body A outer s H vs Q E hr hsp; ⟨t, h.nox, q⟩
end
/-! ### a call within a lambda's body -/
theorem takes_lam {X : Cx} {A : Around} {outer : List Env} {s : Shared} {H : Hp} {E : XK} {scope : Scope} {f c' : Addr} : Takes (LamX.lamCx X A outer s H E scope f c') (fun cls d _ H => E cls d H) := takes_of rfl rfl rfl rfl
theorem pass_lam {X : Cx} {A : Around} {outer : List Env} {s : Shared} {H : Hp} {E : XK} {scope : Scope} {f c' : Addr} : Passes (L2.CX X.prog X.w) (LamX.lamCx X A outer s H E scope f c') E := passes_call takes_lam fun _ _ _ _ h => h
end TL
namespace TL
open PySem PySem.Spec PyProof.Rows L2
/-! ### a text, not at all or once -/
def rRepS : R2 := fun x y H Q => ∃ (z : Str) (k : Int), x = .str z ∧ y = .int k ∧ ((k = 0 ∧ Q (.str "") H) ∨ (k = 1 ∧ Q (.str z) H))
theorem op_repS {X : Cx} : OpR X (binaryOp .Mult) rRepS := by
  intro pins s σ H x y v u Q I rx ry h
  obtain ⟨z, k, rfl, rfl, h⟩ := h
  obtain ⟨t, rfl⟩ := rx
  obtain ⟨t2, rfl⟩ := ry
  rcases h with ⟨rfl, q⟩ | ⟨rfl, q⟩
  · exact PySem.P.mul_str_none (by decide) (by decide) ⟨.str "", H, I.tok _, ⟨_, rfl⟩, q⟩
  · refine PySem.P.mul_str (by decide) (fun _ z => absurd z (by simp)) (fun _ z => absurd z (by simp)) ?_
    rw [if_neg (by decide), if_pos (by simp)]
    exact ⟨.str z, H, I, ⟨_, rfl⟩, q⟩
/-! ### which of the kinds an exception is -/
/-- D: the class of the j-th kind -/
structure Kind (K : PySem.W.Frag) (CS : List Addr) (CL D : Addr) (j : Nat) : Prop where
  ec : ExcC K D
  ks : ∀ (i : Nat) (c : Addr), CS[i]? = some c → PySem.W.kitOne K (.ref D) (.ref c) = some (decide (i = j))
  iv : PySem.W.kitOne K (.ref D) (.type "ValueError") = some true
  xm : PySem.W.exmOne K (.ref D) (.ref CL) = some true
theorem kinds9 {K : PySem.W.Frag} {D : Addr} {j : Nat} {c0 c1 c2 c3 c4 c5 c6 c7 c8 : Addr} {b0 b1 b2 b3 b4 b5 b6 b7 b8 : Bool} (h0 : PySem.W.kitOne K (.ref D) (.ref c0) = some b0) (h1 : PySem.W.kitOne K (.ref D) (.ref c1) = some b1) (h2 : PySem.W.kitOne K (.ref D) (.ref c2) = some b2)
    (h3 : PySem.W.kitOne K (.ref D) (.ref c3) = some b3) (h4 : PySem.W.kitOne K (.ref D) (.ref c4) = some b4) (h5 : PySem.W.kitOne K (.ref D) (.ref c5) = some b5) (h6 : PySem.W.kitOne K (.ref D) (.ref c6) = some b6) (h7 : PySem.W.kitOne K (.ref D) (.ref c7) = some b7) (h8 : PySem.W.kitOne K (.ref D) (.ref c8) = some b8)
    (e : [b0, b1, b2, b3, b4, b5, b6, b7, b8] = (List.range 9).map fun i => decide (i = j)) : ∀ (i : Nat) (c : Addr), [c0, c1, c2, c3, c4, c5, c6, c7, c8][i]? = some c → PySem.W.kitOne K (.ref D) (.ref c) = some (decide (i = j)) := by
  intro i c hc
  have hl := (List.getElem?_eq_some_iff.mp hc).1
  have hl : i < 9 := hl
  have e' := congrArg (fun l : List Bool => l[i]?) e
  have er : (List.range 9)[i]? = some i := by rw [List.getElem?_eq_getElem (by simpa using hl), List.getElem_range]
  simp only [List.getElem?_map, er, Option.map_some] at e'
  have : i = 0 ∨ i = 1 ∨ i = 2 ∨ i = 3 ∨ i = 4 ∨ i = 5 ∨ i = 6 ∨ i = 7 ∨ i = 8 := by omega
  rcases this with rfl | rfl | rfl | rfl | rfl | rfl | rfl | rfl | rfl
  · cases hc; rw [h0]; exact e'
  · cases hc; rw [h1]; exact e'
  · cases hc; rw [h2]; exact e'
  · cases hc; rw [h3]; exact e'
  · cases hc; rw [h4]; exact e'
  · cases hc; rw [h5]; exact e'
  · cases hc; rw [h6]; exact e'
  · cases hc; rw [h7]; exact e'
  · cases hc; rw [h8]; exact e'
def wordN (j : Nat) : Str := (["manners", "count", "part", "item", "full", "log", "text", "end", "step"] : List Str).getD j ""
/-- what an exception's word and number are -/
def WordAt (K : PySem.W.Frag) (CS : List Addr) (CL : Addr) (cls : Value) (d : Option Addr) (H : Hp) (j : Nat) (num : Int) : Prop :=
  ∃ D, cls = .ref D ∧ j < 9 ∧ Kind K CS CL D j ∧ ((j ≠ 5 ∧ j ≠ 6 ∧ j ≠ 8 ∧ num = 0 ∧ d = none) ∨
    ∃ dd fs, d = some dd ∧ H dd = some (.xd fs) ∧ XfC K D ∧ (((j = 5 ∨ j = 6) ∧ PySem.W.findIn K (.ref D) "row" = some none ∧ fs.lookup ("row" : Str) = some (V.int num)) ∨ (j = 8 ∧ PySem.W.findIn K (.ref D) "at" = some none ∧ fs.lookup ("at" : Str) = some (V.int num))))
/-- of a work handed to _law_word: None, or the word and the number of what it raises -/
def TTw (K : PySem.W.Frag) (CS : List Addr) (CL : Addr) : (XK → Hp → VK → Prop) → Hp → VK → Prop := fun tl H Q => ∃ Ew : XK, tl Ew H (fun _ H' => Q .non H') ∧
  ∀ cls d H', Ew cls d H' → ∃ j num, WordAt K CS CL cls d H' j num ∧ ∀ t H2, Same H' H2 → H2 t = some (.tup [.str (wordN j), .int num]) → Q (.ref t) H2
end TL
namespace TL
open PySem PySem.Spec PyProof.Rows L2
/-- behind a made exception all else is as it was -/
theorem raised_same {H : Hp} {a dx : Addr} {fs : List (Str × V)} {o1 o2 o3 : HO} (ha : H a = none) (hd : H dx = none) : Same H (upd (del (upd (upd (upd H a o1) dx o2) a o3) a) dx (.xd fs)) := fun b o e => by
  have n1 : b ≠ dx := ne_of_none e hd
  have n2 : b ≠ a := ne_of_none e ha
  rw [upd_ne n1, del_ne n2, upd_ne n2, upd_ne n1, upd_ne n2]
  exact e
/-- a loop over a list of two -/
theorem for_pair {K : PySem.W.Frag} {a : Addr} {v0 v1 : V} {g : TG} {tb : TS} {D : Ends} {σ : L2.St} {H : Hp} (P0 P1 P2 : L2.St → Hp → Prop) (h0 : P0 σ H) (l0 : ∀ σ H, P0 σ H → SqL K H a [v0, v1]) (l1 : ∀ σ H, P1 σ H → SqL K H a [v0, v1]) (l2 : ∀ σ H, P2 σ H → SqL K H a [v0, v1])
    (s0 : ∀ σ H, P0 σ H → g v0 σ H fun σ2 H2 => tb { D with nx := P1, ct := P1, bk := D.nx } σ2 H2)
    (s1 : ∀ σ H, P1 σ H → g v1 σ H fun σ2 H2 => tb { D with nx := P2, ct := P2, bk := D.nx } σ2 H2)
    (hd : ∀ σ H, P2 σ H → D.nx σ H) : ForW (Itl K a) g tb D σ H := by
  refine for_list (K := K) (a := a) (xs := [v0, v1]) (fun i σ H => match i with | 0 => P0 σ H | 1 => P1 σ H | _ => P2 σ H) h0 ?_ ?_ hd
  · intro i σ H hi p
    match i, p with
    | 0, p => exact l0 σ H p
    | 1, p => exact l1 σ H p
    | _ + 2, p => exact l2 σ H p
  · intro i x σ H hx p
    match i, hx, p with
    | 0, hx, p =>
      have e : v0 = x := Option.some.inj hx
      subst e
      exact s0 σ H p
    | 1, hx, p =>
      have e : v1 = x := Option.some.inj hx
      subst e
      exact s1 σ H p
    | n + 2, hx, p => simp at hx
theorem log_small {i : Int} (h0 : 0 ≤ i) (h9 : i ≤ 9) : i.natAbs.log2 < 1920 := by
  have : i = 0 ∨ i = 1 ∨ i = 2 ∨ i = 3 ∨ i = 4 ∨ i = 5 ∨ i = 6 ∨ i = 7 ∨ i = 8 ∨ i = 9 := by omega
  rcases this with rfl | rfl | rfl | rfl | rfl | rfl | rfl | rfl | rfl | rfl <;> decide
end TL
namespace TL
open PySem PySem.Spec PyProof.Rows L2
/-! ### the table of the law's lambdas -/
def lamQ : Str := ("law" : Str) ++ ".<locals>." ++ "<lambda>"
theorem tab_frm {P R : Addr} {q : Str} {H H' : Hp} {xs : List V} (h : LamX.TabS H P q) (hR : H R = some (.lst xs)) (f : Frm [R] H H') : LamX.TabS H' P q := by
  obtain ⟨ps, h1, h2, h3⟩ := h
  have n1 : P ≠ R := fun e => by
    rw [e, hR] at h1
    cases h1
  refine ⟨ps, f _ _ h1 (by simp [n1]), h2, fun pos cv hc => ?_⟩
  obtain ⟨c, e1, e2⟩ := h3 pos cv hc
  have n2 : c ≠ R := fun e => by
    rw [e, hR] at e2
    unfold LamX.CodeO at e2
    cases e2
  exact ⟨c, e1, f _ _ e2 (by simp [n2])⟩
theorem tabs_frm {T : List (Addr × Str)} {R : Addr} {H H' : Hp} {xs : List V} (h : LamX.Tabs T H) (hR : H R = some (.lst xs)) (f : Frm [R] H H') : LamX.Tabs T H' := fun p hp => tab_frm (h p hp) hR f
theorem tabs_same {T : List (Addr × Str)} {H H' : Hp} (h : LamX.Tabs T H) (s : Same H H') : LamX.Tabs T H' := h.ext s
theorem tabs_dice {T : List (Addr × Str)} {d : Addr} {H H' : Hp} (h : LamX.Tabs T H) (D : DiceAt H d) (f : Frm [d] H H') : LamX.Tabs T H' := by
  obtain ⟨ns, h1, _⟩ := D
  exact tabs_frm h h1 f
theorem dice_ext {d : Addr} {H H' : Hp} (D : DiceAt H d) (e : LamX.ExtN H H') : DiceAt H' d := by
  obtain ⟨ns, h1, h2⟩ := D
  exact ⟨ns, e _ _ h1 (fun ps z => by cases z), h2⟩
theorem look1 {n : Str} {v : V} : List.lookup n [(n, v)] = some v := by simp [List.lookup]
theorem word6 : wordN 6 = "text" := rfl
theorem word5 : wordN 5 = "log" := rfl
theorem word8 : wordN 8 = "step" := rfl
theorem lv_word {z : Str} (hz : (PyData.str z).canLay0 = true) (n : Int) : lv 1 (.tuple [.str z, .int n]) := by
  refine ⟨(by show 2 ≤ 100000; decide), fun x hx => ?_⟩
  rcases List.mem_cons.mp hx with rfl | hx
  · simpa [lv] using hz
  · rcases List.mem_cons.mp hx with rfl | hx
    · simp [lv]
    · cases hx
theorem im_word {H : Hp} {u : Addr} {z : Str} {n : Int} (h : H u = some (.tup [.str z, .int n])) : Im H (.ref u) (.tuple [.str z, .int n]) := .tup h (.cons (.str _) (.cons (.int _) .nil))
end TL

namespace TL
open PySem PySem.Spec PyProof.Rows L2 LamX NdefX
/-! ### lambdas that are kept: what is known of a function object -/
/-- a lambda: its words, the cells that it captured, its code object, where its defaults stand -/
structure LF where
  qual : Str
  params : Arguments
  body : Expr
  scope : Scope
  cl : List (Str × Addr)
  c : Addr
  dv : Option Addr
def dvV : Option Addr → Value
  | none => .none
  | some t => .ref t
abbrev LF.fd (F : LF) (doc pm ctv : Value) : FuncData := PySem.W.kdv_fn "<lambda>" F.qual F.params (.expr F.body) F.scope F.cl (dvV F.dv) doc pm (.ref F.c) ctv
/-- its names, as a nested def's -/
abbrev LF.nf (F : LF) : NF := ⟨"<lambda>", F.qual, F.params, [], F.scope, F.cl, F.c⟩
/-- the object at f is the lambda F -/
def LamAt (f : Addr) (F : LF) : HO := .ext fun h => ∃ doc pm ctv : Value, h.get? f = some ({ cls := .type "function", data := .func (F.fd doc pm ctv) } : Obj)
theorem lamAt_ne {f : Addr} {F : LF} (ps : Array Value) : LamAt f F ≠ .tbl ps := fun z => by unfold LamAt at z; cases z
theorem lamAt_get {P : Program} {w : World} {H : Hp} {h : Heap} {f : Addr} {F : LF} (hok : HOk P w H h) (e : H f = some (LamAt f F)) : ∃ doc pm ctv : Value, h.get? f = some ({ cls := .type "function", data := .func (F.fd doc pm ctv) } : Obj) := (hok f _ e).1
theorem ne_P {H : Hp} {P c : Addr} {o o' : HO} (n : H c = none) (hP : H P = some o) : (upd H P o') c = none := by rw [upd_ne (fun e => by rw [e, hP] at n; cases n)]; exact n
section
variable {X : Cx} {pins : List (Addr × Obj)} {σ : L2.St} {H : Hp} {s : Shared}
theorem inv_lam {F : LF} {o : Obj} {tk : Nat} {doc pm ctv : Value} (J : Inv X pins σ H s) (ho : o = { cls := .type "function", data := .func (F.fd doc pm ctv) }) : Inv X pins σ (upd H s.heap.objs.size (LamAt s.heap.objs.size F)) { s with heap := s.heap.push o, toks := tk } := by
  subst ho
  have e := Heap.get?_push_size s.heap (o := { cls := .type "function", data := .func (F.fd doc pm ctv) }) rfl
  exact J.laid (fun b u z => Heap.get?_push_of_some _ z) (Nat.le_refl _) ⟨⟨doc, pm, ctv, e⟩, ⟨_, e⟩, fun h1 h2 ⟨x, y, z, q⟩ st => ⟨x, y, z, st _ q⟩⟩
/-- a lambda's object is made -/
theorem lam_new {T : List (Addr × Str)} {c P : Addr} {params : Arguments} {body : Expr} {scope : Scope} {pos : Pos} {dv : Option Addr} {q : Str} {E : Value → Shared → Prop} {Q : Value → Shared → Prop} (J : Inv X pins σ H s) (TB : TabB X.base X.mg c P) (hcode : X.env.code = .ref c)
    (hm : (P, q) ∈ T) (hu : ∀ p ∈ T, p.1 = P → p.2 = q) (hT : Tabs T H) (hfree : ∀ y ∈ scope.names, y.2 = .free → ∃ a, X.env.cells.lookup y.1 = some a)
    (go : ∀ (f c' : Addr) (H1 : Hp) (s1 : Shared), Inv X pins σ H1 s1 → ExtN H H1 → Tabs T H1 → Frm [P] H H1 → H f = none → H1 f = some (LamAt f ⟨q, params, body, scope, cloFrom X.env.cells scope.names [], c', dv⟩) → H1 c' = some (CodeO c' q) → Q (.ref f) s1) :
    wpAny (model X.prog X.w) X.A (makeTail "<lambda>" q params (.expr body) scope X.env (dvV dv) .none none pos pos.line) Q E s := by
  obtain ⟨ps, hP, trip, all⟩ := hT _ hm
  have bm := TB.bm.keeps J.bk
  have tab : s.heap.get? P = some { cls := .none, data := .fields ps } := J.hok P _ hP
  cases among : codeAmong pos ps.toList with
  | some cv =>
    obtain ⟨c', rfl, hco⟩ := all pos cv among
    refine PySem.W.kdv_makeTailHit (mg := X.mg) (c := c) (P := P) (ps := ps) (closure_ok hfree) J.ok.glob (J.mod.glob.keeps J.bk) hcode (TB.code.keeps J.bk) tab trip among bm fun ctv doc g tk keep big => ?_
    have J1 : Inv X pins σ H { s with heap := g, toks := tk } := J.kept keep
    have new : H g.objs.size = none := J1.hok.fresh (Nat.le_refl _)
    refine go g.objs.size c' _ _ (inv_lam (F := ⟨q, params, body, scope, cloFrom X.env.cells scope.names [], c', dv⟩) (tk := tk) J1 rfl) (fun b o z _ => ?_) (hT.ext fun b o z => ?_) (Frm.new new) new upd_same ?_
    · rw [upd_ne (ne_of_none z new)]; exact z
    · rw [upd_ne (ne_of_none z new)]; exact z
    · rw [upd_ne (ne_of_none hco new)]; exact hco
  | none =>
    refine PySem.W.kdv_makeTail (mg := X.mg) (c := c) (P := P) (ps := ps) (closure_ok hfree) J.ok.glob (J.mod.glob.keeps J.bk) hcode (TB.code.keeps J.bk) tab trip among TB.gP bm fun c' ctv doc g tk but ge lt rec_ tab' => ?_
    obtain ⟨c2, oc, vs, t, e2, h1, h2, h3⟩ := rec_
    cases e2
    have newC : H c' = none := J.hok.fresh ge
    have J1 := inv_table (t' := tk) (more := #[rawInt pos.line, rawInt pos.col, .ref c']) (h' := g) J hP (fun b o hb z => but b o hb z) tab' ge ⟨oc, vs, t, h1, h2, h3⟩
    have stay : ExtN H (upd (upd H P (.tbl (ps ++ #[rawInt pos.line, rawInt pos.col, .ref c']))) c' (CodeO c' q)) := fun b o z n => by
      have nP : b ≠ P := fun e => n ps (Option.some.inj (z.symm.trans (e ▸ hP)))
      rw [upd_ne (ne_of_none z newC), upd_ne nP]
      exact z
    have grown : Tabs T (upd (upd H P (.tbl (ps ++ #[rawInt pos.line, rawInt pos.col, .ref c']))) c' (CodeO c' q)) := fun p hp => by
      by_cases e : p.1 = P
      · rw [hu p hp e, e]
        have el : (ps ++ #[rawInt pos.line, rawInt pos.col, .ref c']).toList = ps.toList ++ [rawInt pos.line, rawInt pos.col, .ref c'] := by simp
        refine ⟨_, (upd_ne (ne_of_none hP newC)).trans upd_same, el ▸ PySem.TriplesOk_snoc _ _ _ _ trip, fun p2 cv hcv => ?_⟩
        rw [el] at hcv
        rcases among_app _ trip hcv with z | z
        · obtain ⟨c0, z1, z2⟩ := all p2 cv z
          exact ⟨c0, z1, stay _ _ z2 codeO_ne⟩
        · exact ⟨c', z, upd_same⟩
      · obtain ⟨ps2, z1, z2, z3⟩ := hT p hp
        refine ⟨ps2, by rw [upd_ne (ne_of_none z1 newC), upd_ne e]; exact z1, z2, fun p2 cv hcv => ?_⟩
        obtain ⟨c0, y1, y2⟩ := z3 p2 cv hcv
        exact ⟨c0, y1, stay _ _ y2 codeO_ne⟩
    have newF := J1.hok.fresh (Nat.le_refl _)
    refine go g.objs.size c' _ _ (inv_lam (F := ⟨q, params, body, scope, cloFrom X.env.cells scope.names [], c', dv⟩) (tk := tk) J1 rfl) (fun b o z n => ?_) (grown.ext fun b o z => ?_) (((Frm.updN fun ys z => by rw [hP] at z; cases z).trans (Frm.new (ne_P newC hP))).trans (Frm.new newF)) (J.hok.fresh (Nat.le_trans ge (Nat.le_of_lt lt))) upd_same ?_
    · have z1 := stay b o z n
      rw [upd_ne (ne_of_none z1 newF)]; exact z1
    · rw [upd_ne (ne_of_none z newF)]; exact z
    · rw [upd_ne (Nat.ne_of_lt lt)]; exact upd_same
end
/-- the reading of a lambda: f the new function -/
def tLamF (T : List (Addr × Str)) (P : Addr) (mk : Addr → LF) : TE := fun _ H Q => Tabs T H ∧ ∀ (f c' : Addr) (H1 : Hp), ExtN H H1 → Tabs T H1 → Frm [P] H H1 → H f = none → H1 f = some (LamAt f (mk c')) → H1 c' = some (CodeO c' (mk c').qual) → Q (.ref f) H1
/-- of one with a default of 0, at t -/
def tLamD (T : List (Addr × Str)) (P : Addr) (mk : Addr → Addr → LF) : TE := fun _ H Q => Tabs T H ∧ ∀ (t f c' : Addr) (H1 : Hp), ExtN H H1 → Tabs T H1 → Frm [P] H H1 → H f = none → H1 t = some (.tup [.int 0]) → H1 f = some (LamAt f (mk t c')) → H1 c' = some (CodeO c' (mk t c').qual) → Q (.ref f) H1
section
variable {X : Cx} {T : List (Addr × Str)} {c P : Addr} {params : Arguments} {body : Expr} {scope : Scope} {pos : Pos}
theorem pe_lamF (TB : TabB X.base X.mg c P) (hcode : X.env.code = .ref c) (hm : (P, X.env.qual ++ "<lambda>") ∈ T) (hu : ∀ p ∈ T, p.1 = P → p.2 = X.env.qual ++ "<lambda>") (L : ∀ y ∈ scope.names, y.2 = .free → X.env.scope.names.lookup y.1 = some .cell ∨ X.env.scope.names.lookup y.1 = some .free)
    (hdef : defaultsOf params X.env = ([], [])) : PE X (.Lambda params body scope pos) (tLamF T P fun c' => ⟨X.env.qual ++ "<lambda>", params, body, scope, cloFrom X.env.cells scope.names [], c', none⟩) := by
  constructor
  intro pins s σ H Q J h
  obtain ⟨hT, h⟩ := h
  refine PySem.W.kla_eval hdef ?_
  rw [makeFunction_eq]
  simp only [List.zip_nil_right, List.filterMap_nil, List.isEmpty_nil, if_true, pure_bind]
  exact lam_new (dv := none) J TB hcode hm hu hT (fun y hy e => (L y hy e).elim (fun z => J.ok.has _ (.inl z)) fun z => J.ok.has _ (.inr z)) fun f c' H1 s1 J1 eN T1 fP f0 f1 c1 => ⟨.ref f, H1, J1, rfl, h f c' H1 eN T1 fP f0 f1 c1⟩
theorem pe_lamD {k : Nat} {p0 : Pos} (TB : TabB X.base X.mg c P) (hcode : X.env.code = .ref c) (hm : (P, X.env.qual ++ "<lambda>") ∈ T) (hu : ∀ p ∈ T, p.1 = P → p.2 = X.env.qual ++ "<lambda>") (L : ∀ y ∈ scope.names, y.2 = .free → X.env.scope.names.lookup y.1 = some .cell ∨ X.env.scope.names.lookup y.1 = some .free)
    (hdf : params.defaults = [.Constant (.int 0) k p0]) (hkd : params.kw_defaults = []) : PE X (.Lambda params body scope pos) (tLamD T P fun t c' => ⟨X.env.qual ++ "<lambda>", params, body, scope, cloFrom X.env.cells scope.names [], c', some t⟩) := by
  constructor
  intro pins s σ H Q J h
  obtain ⟨hT, h⟩ := h
  refine PySem.W.kdv_lam (by rw [hdf]; rfl) hkd ?_
  rw [hdf]
  refine PySem.W.kdv_all1 (thn (pe_int.run pins s σ H (fun v H1 => v = .int 0 ∧ H1 = H) J ⟨rfl, rfl⟩) fun u s1 ⟨v, H1, J1, rv, e1, e2⟩ => PySem.W.kdv_all0 ?_)
  subst e1 e2
  rw [makeFunction_eq]
  simp only [List.zip_nil_right, List.filterMap_nil, List.isEmpty_nil, List.isEmpty_cons, if_true, if_false, pure_bind, Bool.false_eq_true]
  refine wpAny_bind (wpAny_newTextTuple ?_)
  have e := Heap.get?_push_size s1.heap (o := PySem.W.kdv_tup [u]) rfl
  have J2 : Inv X pins σ (upd H1 s1.heap.objs.size (.tup [.int 0])) { s1 with heap := s1.heap.push (PySem.W.kdv_tup [u]) } :=
    J1.laid (t' := s1.toks) (fun b o z => Heap.get?_push_of_some _ z) (Nat.le_refl _) ⟨by show 1 ≤ sizeLine; decide, [u], .cons rv .nil, _, e, rfl, 0, rfl⟩
  have n0 := J1.hok.fresh (Nat.le_refl s1.heap.objs.size)
  have keep : ∀ b o, H1 b = some o → upd H1 s1.heap.objs.size (.tup [.int 0]) b = some o := fun b o z => by
    rw [upd_ne (ne_of_none z n0)]; exact z
  refine lam_new (dv := some s1.heap.objs.size) J2 TB hcode hm hu (hT.ext keep) (fun y hy e => (L y hy e).elim (fun z => J2.ok.has _ (.inl z)) fun z => J2.ok.has _ (.inr z)) fun f c' H2 s2 J3 eN T1 fP f0 f1 c1 => ?_
  have ft : H1 f = none := by
    cases q : H1 f with
    | none => rfl
    | some o => rw [keep _ _ q] at f0; cases f0
  exact ⟨.ref f, H2, J3, rfl, h s1.heap.objs.size f c' H2 (fun b o z n => eN b o (keep b o z) n) T1 ((Frm.new n0).trans fP) ft (eN _ _ upd_same fun ps z => by cases z) f1 c1⟩
end
/-! ### a lambda is called -/
/-- what its captured cells hold stays, from frame to frame -/
theorem cells_stay {fs ex : List Addr} {H H' : Hp} {h h' : Heap} {cl : List (Str × Addr)} {fr : List Str} {ws : List (Option V)} (C : CellsAt cl fr ws h H) (u : Un fs ex H H' h h') (out : ∀ y c, cl.lookup y = some c → c ∉ ex) : CellsAt cl fr ws h' H' := by
  have same : ∀ y c, cl.lookup y = some c → ∀ v, h.IsCell c v → h'.IsCell c v := fun y c e v ⟨o, z, d⟩ => by
    obtain ⟨sl, q⟩ := u.any z (C.all y c e).1 (out y c e)
    exact ⟨_, q, d⟩
  refine ⟨C.len, fun y c e => ?_, C.inj, fun i y e => ?_⟩
  · obtain ⟨n, v, z⟩ := C.all y c e
    obtain ⟨o, z1, _⟩ := id z
    exact ⟨u.free c o z1 n (out y c e), v, same y c e v z⟩
  · obtain ⟨c, hc, hv⟩ := C.has i y e
    exact ⟨c, hc, fun v ev => let ⟨a, r, z⟩ := hv v ev; ⟨a, r, same y c hc _ z⟩⟩
section
variable {P : Program} {w : World} {K : PySem.W.Frag} {mg : Str → Option Value} {base : Heap}
/-- what a lambda does: fr the names that it captured, ws what they hold -/
def LOk (P : Program) (w : World) (K : PySem.W.Frag) (mg : Str → Option Value) (base : Heap) (k : Nat) (f : Addr) (F : LF) (fr : List Str) (tl : List (Option V) → XK → Hp → VK → Prop) : Prop :=
  ∀ (A : Around) (outer : List Env) (s : Shared) (H : Hp) (ws : List (Option V)) (Q : VK) (E : XK), Room k A → Env0 P w K mg base A outer s H → H f = some (LamAt f F) → H F.c = some (CodeO F.c F.qual) → (∀ t, F.dv = some t → H t = some (.tup [.int 0])) → CellsAt F.cl fr ws s.heap H → tl ws E H Q →
    codeAny (model P w) A (.call (.ref f) ⟨[], []⟩) (CR (L2.CX P w) outer P w H s Q E) s
theorem LOk.mono {j k : Nat} {f : Addr} {F : LF} {fr : List Str} {tl : List (Option V) → XK → Hp → VK → Prop} (o : LOk P w K mg base j f F fr tl) (h : j ≤ k) : LOk P w K mg base k f F fr tl := fun A outer s H ws Q E hr => o A outer s H ws Q E (hr.mono h)
/-- by its body; vs: its default's value, if it has one -/
theorem lok_of {k : Nat} {f : Addr} {F : LF} {N ps fr : List Str} {vs : List V} {tb : XK → TE} (S : NScope N ps fr F.scope) (hl : vs.length = ps.length) (bind : ∀ (s : Shared) (doc pm ctv : Value), (∀ t, F.dv = some t → ∃ u, IsTup s.heap t #[u] ∧ RelV (.int 0) u) → ∃ us, Vals vs us ∧ BindsTo s (F.fd doc pm ctv) ⟨[], []⟩ (ps.zip us))
    (body : ∀ (A : Around) (outer : List Env) (s : Shared) (H : Hp) (E : XK), Room k (A.deeper (envF F.nf f s.heap.objs.size)) → PE (ncx (L2.CX P w) P w K mg base N F.nf f A outer s H E) F.body (tb E)) : LOk P w K mg base (k + 1) f F fr fun ws E H Q => tb E (startF N vs ws) H Q := by
  intro A outer s H ws Q E hr e0 hf hc hd C hq
  have lim : s.heap.NoLimit := e0.mod.nolimit.keeps fun b o e => (e0.bs b o e).1
  obtain ⟨doc, pm, ctv, ho⟩ := lamAt_get e0.hok hf
  obtain ⟨us, rv, bt⟩ := bind s doc pm ctv fun t ht => by
    have z : ObjOk P w H s.heap t (.tup [.int 0]) := e0.hok t _ (hd t ht)
    obtain ⟨_, its, r, z⟩ := z
    cases r with
    | cons r0 rr =>
      cases rr
      exact ⟨_, z, r0⟩
  refine PySem.W.kla_callFunE hr.depth ho rfl S.co S.gen rfl (codeO_at e0.hok hc) ?_
  refine bt _ _ _ _ (wpAny_newFunctionEnv S.nocell (fun ⟨n, _⟩ hy => S.par n (List.of_mem_zip hy).1) (fun g ns sb => ⟨lim.fresh _ sb, ?_⟩) S.kind)
  have kp : ∀ b o, s.heap.get? b = some o → g.get? b = some o := fun b o e => sb.extBut b o (Nat.ne_of_lt (Heap.lt_size e)) (Heap.get?_push_of_some _ e)
  have J : Inv (ncx (L2.CX P w) P w K mg base N F.nf f A outer s H E) [] (startF N vs ws) H { s with heap := g, toks := s.toks + (ps.zip us).length } := inv_startN S hr.hd e0 hl rv C ns kp
  refine PySem.W.kla_codeExpr (wpAny_mono ((body A outer s H E (hr.deeper _)).run [] _ _ H Q J hq) (fun v s2 hv => ?_) fun _ _ z => z)
  obtain ⟨x, H2, J2, r, q⟩ := hv
  exact ⟨x, H2, J2.os, J2.bare, J2.base, J2.hok, r, q⟩
end
theorem takes_ncx {P : Program} {w : World} {K : PySem.W.Frag} {mg : Str → Option Value} {base : Heap} {N : List Str} {F : NF} {f : Addr} {A : Around} {outer : List Env} {s : Shared} {H : Hp} {E : XK} : Takes (ncx (L2.CX P w) P w K mg base N F f A outer s H E) (fun cls d _ H => E cls d H) := takes_of rfl rfl rfl rfl
theorem pass_ncx {P : Program} {w : World} {K : PySem.W.Frag} {mg : Str → Option Value} {base : Heap} {N : List Str} {F : NF} {f : Addr} {A : Around} {outer : List Env} {s : Shared} {H : Hp} {E : XK} : Passes (L2.CX P w) (ncx (L2.CX P w) P w K mg base N F f A outer s H E) E := passes_call takes_ncx fun _ _ _ _ h => h
/-- the reading of what a lambda at f does, its object at hand -/
def tlF (f : Addr) (F : LF) (tl : XK → Hp → VK → Prop) : XK → Hp → VK → Prop := fun E H Q => H f = some (LamAt f F) ∧ (∀ t, F.dv = some t → H t = some (.tup [.int 0])) ∧ tl E H Q
/-- x(), in the def that got the lambda at f, entered at s from the frames of X -/
theorem pe_actL {X : Cx} {H : Hp} {s : Shared} {k : Nat} {f : Addr} {F : LF} {fr : List Str} {ws : List (Option V)} {tl : List (Option V) → XK → Hp → VK → Prop} {CXg : CXT} {Eg : XK} {Ng : List Str} {qg : Str} {sg : Scope} {g : Addr} {cdg : Value} {a : Str} {pn : List (Addr × Obj)} {xe : Value → Shared → Prop}
    {W : WX} {E : XK} {p1 p2 : Pos} (L : LOk X.prog X.w X.K X.mg X.base k f F fr tl) (C : CellsAt F.cl fr ws s.heap H) (tk : Takes ((cxOf CXg X.prog X.w X.K X.mg X.base Ng qg sg g cdg X.A X.stack s H Eg).tr pn xe) W) (hW : ∀ cls d σ' H', E cls d H' → W cls d σ' H')
    (hr : Room k (X.A.deeper (envOfC qg sg s.heap.objs.size g cdg))) (hN : Ng[0]? = some a) (hv : Vis sg a) (hd : (a == ("__debug__" : Str)) = false := by decide) (hcd : (a == ("__classdict__" : Str)) = false := by decide) :
    PE ((cxOf CXg X.prog X.w X.K X.mg X.base Ng qg sg g cdg X.A X.stack s H Eg).tr pn xe) (.Call (.Name a p1) [] [] p2) (fun σZ HZ Q => σZ[0]? = some (some (.ref f)) ∧ HZ F.c = some (CodeO F.c F.qual) ∧ tlF f F (tl ws) E HZ Q) := by
  constructor
  intro pinsZ sZ σZ HZ Q JZ h
  obtain ⟨hs, hc, hf, hdv, ht⟩ := h
  refine wpAny_Call_Name_kw (thn ((pe_var (pos := p1) (i := 0) hN hv hd hcd).run pinsZ sZ σZ HZ (fun v H1 => v = .ref f ∧ H1 = HZ) JZ ⟨.ref f, hs, rfl, rfl⟩) fun u s1 ⟨v, H1, J1, r1, e1, e2⟩ => ?_)
  subst e1 e2
  cases r1
  obtain ⟨doc, pm, ctv, ho⟩ := lamAt_get J1.hok hf
  refine PySem.W.callWith_F0 ⟨_, _, _, _, ho⟩ ?_
  have un : Un (frs X.stack) [] H H1 s.heap s1.heap := J1.base
  have C1 := cells_stay C un fun _ _ _ => by simp
  refine wpAny_call (codeAny_mono (L _ _ s1 H1 ws Q E hr J1.env0 hf hc hdv C1 ht) fun r s2 hq => ?_)
  cases r with
  | error e => exact passes_call tk hW pinsZ σZ H1 s1 e s2 J1 hq
  | ok fl =>
    cases fl with
    | ret v => exact J1.after hq
    | next => exact hq.elim
    | brk => exact hq.elim
    | cont => exact hq.elim
/-- how a lambda lies to the names of the def that made it -/
structure CapF (N : List Str) (sc : Scope) (cells : List (Str × Addr)) (F : LF) (fr : List Str) (js : List Nat) : Prop where
  cl : F.cl = cloFrom cells F.scope.names []
  free : ∀ y ∈ F.scope.names, y.2 = .free → sc.names.lookup y.1 = some .cell ∨ sc.names.lookup y.1 = some .free
  inn : ∀ y ∈ fr, (y, NameKind.free) ∈ F.scope.names
  at_ : js.map (fun j => N[j]?) = fr.map some
theorem cells_cap {X : Cx} {pins : List (Addr × Obj)} {σ : L2.St} {H : Hp} {s : Shared} {F : LF} {fr : List Str} {js : List Nat} (J : Inv X pins σ H s) (c : CapF X.N X.env.scope X.env.cells F fr js) : CellsAt F.cl fr (js.map (slotAt σ)) s.heap H := by
  rw [c.cl]
  exact cells_of J (Caps.made J.ok c.free c.inn c.at_)
/-- a lambda, ready to be called; ws: what the names hold that it captured -/
def Ready (P : Program) (w : World) (K : PySem.W.Frag) (mg : Str → Option Value) (base : Heap) (k : Nat) (N : List Str) (sc : Scope) (cells : List (Str × Addr)) (σL : L2.St) (f : Addr) (H : Hp) (tl : XK → Hp → VK → Prop) : Prop :=
  ∃ (F : LF) (fr : List Str) (js : List Nat) (tc : List (Option V) → XK → Hp → VK → Prop), LOk P w K mg base k f F fr tc ∧ CapF N sc cells F fr js ∧ H f = some (LamAt f F) ∧ H F.c = some (CodeO F.c F.qual) ∧ (∀ t, F.dv = some t → H t = some (.tup [.int 0])) ∧ tl = tlF f F (tc (js.map (slotAt σL)))
/-- the reading of x(e), x a def that calls what it gets -/
def tWord (P : Program) (w : World) (K : PySem.W.Frag) (mg : Str → Option Value) (base : Heap) (k : Nat) (N : List Str) (sc : Scope) (cells : List (Str × Addr)) (sel : L2.St → L2.St) (TT : (XK → Hp → VK → Prop) → Hp → VK → Prop) (te : TE) : TE := fun σ H Q =>
  te σ H fun v H1 => ∃ (f : Addr) (tl : XK → Hp → VK → Prop), v = .ref f ∧ Ready P w K mg base k N sc cells (sel σ) f H1 tl ∧ TT tl H1 Q
theorem pe_word {X : Cx} {TT : (XK → Hp → VK → Prop) → Hp → VK → Prop} {N0 : List Str} {sc0 : Scope} {cells0 : List (Str × Addr)} {sel : L2.St → L2.St} {x a : Str} {g : Addr} {k : Nat} {pg : Arguments} {bg : List Stmt} {sg : Scope} {dV kV doc pm cdv ct oc : Value} {an od : Option Addr} {osl : Array (Option Value)} {Ng : List Str}
    {e : Expr} {te : TE} {p pos : Pos} (known : ∀ (pins : List (Addr × Obj)) (s : Shared) (σ : L2.St) (H : Hp), Inv X pins σ H s → ∀ (F : LF) (fr : List Str) (js : List Nat), CapF N0 sc0 cells0 F fr js → CellsAt F.cl fr (js.map (slotAt (sel σ))) s.heap H)
    (hg : Gl X x) (hm : X.mg x = some (.ref g)) (hk : PySem.W.keepIn X.K (.ref g) = true) (lk : X.K.lookup g = some ⟨oc, od, .func (PySem.W.fnOf x x pg bg sg dV kV doc pm an cdv ct), osl⟩) (hcg : PySem.W.codeIn X.K cdv x = true) (hb : L2.Binds X.K (PySem.W.fnOf x x pg bg sg dV kV doc pm an cdv ct) [a] []) (Sg : FnScope Ng [a] sg)
    (hNg : Ng[0]? = some a) (hva : Vis sg a) (hG : ∀ q, GivesTo X Ng x sg g cdv bg a q TT) (hr : Room (k + 1) X.A) (he : PE X e te) (hdb : (x == ("__debug__" : Str)) = false := by decide) (hd : (a == ("__debug__" : Str)) = false := by decide) (hcd : (a == ("__classdict__" : Str)) = false := by decide)
    (hst : starEach (e :: []) X.env = (false, eval e X.env) :: starEach [] X.env := by rfl) (hpl : (backTo pos (starEach [] X.env)).any (·.1) = false := by rfl) :
    PE X (.Call (.Name x p) [e] [] pos) (tWord X.prog X.w X.K X.mg X.base k N0 sc0 cells0 sel TT te) := by
  constructor
  intro pins s σ H Q J h
  refine wpAny_Call_Name_kw (ld_glob J hg hm ?_ hdb)
  refine PySem.W.callWith_K (h₀ := X.base) J.ok.mod.kin hk (thn ((pa_cons he pa_nil (hs := hst)).run pos pins s σ H (fun vs H1 => ∃ v, vs = [v] ∧ ∃ (f : Addr) (tl : XK → Hp → VK → Prop), v = .ref f ∧ Ready X.prog X.w X.K X.mg X.base k N0 sc0 cells0 (sel σ) f H1 tl ∧ TT tl H1 Q) J (by
      have h' : te σ H fun v H1 => ∃ (f : Addr) (tl : XK → Hp → VK → Prop), v = .ref f ∧ Ready X.prog X.w X.K X.mg X.base k N0 sc0 cells0 (sel σ) f H1 tl ∧ TT tl H1 Q := h
      show te σ H fun v H1 => tNil σ H1 fun vs H2 => ∃ w0, v :: vs = [w0] ∧ _
      exact cast (by congr 1; funext v H1; exact propext ⟨fun z => ⟨v, rfl, z⟩, fun ⟨w0, z1, z2⟩ => by cases z1; exact z2⟩) h')) fun us s1 hh => ?_) hst hpl
  obtain ⟨vs, H1, J1, rs, v, rfl, f, tl, rfl, ⟨F, fr, js, tc, L, cap, hf, hc, hdv, rfl⟩, ht⟩ := hh
  refine ⟨J1.kIn, ?_⟩
  cases rs with
  | cons r0 rr =>
  cases rr
  cases r0
  have C := known _ _ _ _ J1 F fr js cap
  have rc : codeAny (model X.prog X.w) X.A (.call (.ref g) ⟨[.ref f], []⟩) (CR C8.CX0 X.stack X.prog X.w H1 s1 Q C8.E0) s1 := by
    refine run_ofS (N := Ng) (ps := [a]) (us := [.ref f]) (vs := [.ref f]) lk hcg Sg hr J1.env0 (hb s1 [.ref f] J1.kIn rfl) (.cons rfl .nil) rfl fun hr2 => ?_
    obtain ⟨t2, d2, q2⟩ := hG F.qual f F.c s1 H1 Q _ (fun W pn xe E p1 p2 tk hW => pe_actL L C tk hW hr2 hNg hva hd hcd) hc ht
    exact ⟨t2, d2.nox, q2⟩
  refine wpAny_call (codeAny_mono rc fun r s2 hq => ?_)
  cases r with
  | error e => exact (show False from hq).elim
  | ok fl =>
    cases fl with
    | ret u => exact J1.after hq
    | next => exact hq.elim
    | brk => exact hq.elim
    | cont => exact hq.elim
end TL

namespace TL
open PySem PySem.Spec PyProof.Rows L2 LamX NdefX
/-! ### a list comprehension whose element (or test) wants to know what holds in the def around it -/
section
variable {X : Cx}
theorem lc_known {pins : List (Addr × Obj)} {s : Shared} {σ : L2.St} {H : Hp} {Q : VK} {elt tg iter : Expr} {ifs : List Expr} {scope : Scope} {own : List (Str × Nat)} {pos fpos : Pos} {wi : TI} {g : TG} {tt : TT} {te : TE} {use : Option (Value → Sem Unit)} {Qf : Value → Shared → Prop}
    (calm : X.calm = true) (nd : X.N.Nodup) (J : Inv X pins σ H s) (it_ : PI X tg iter wi) (bk : BlkOk X.N X.env.scope scope own)
    (gg : ∀ (s0 : Shared) (H0 : Hp) (C : Addr) (cl : List (Str × Addr)) (ob : List Addr), PG (X.blk s0 H0 scope (compEnvC scope cl C X.env) ob) tg g)
    (tests : ∀ (s0 : Shared) (H0 : Hp) (C : Addr) (cl : List (Str × Addr)) (ob : List Addr), Inv X pins σ H0 s0 → (∀ b ∈ ob, FpOk X pins H0 b) → PTs (X.blk s0 H0 scope (compEnvC scope cl C X.env) ob) ifs tt)
    (elem : ∀ (s0 : Shared) (H0 : Hp) (C : Addr) (cl : List (Str × Addr)) (ob : List Addr), Inv X pins σ H0 s0 → (∀ b ∈ ob, FpOk X pins H0 b) → PE (X.blk s0 H0 scope (compEnvC scope cl C X.env) ob) elt te)
    (fold : ∀ x, foldedSetIterable iter X.env x = pure x) (h : tLc wi g tt te (own.map (·.2)) σ H Q)
    (out : ∀ L C s2 m H2, Inv X pins σ H2 s2 → Q (.ref L) H2 → s2.heap.Ns C m → FpOk X pins H2 C → compPost (model X.prog X.w) X.A X.xe use Qf (.ref L) C (.ok .next) s2) :
    wpAny (model X.prog X.w) X.A (comprehension (.ListComp elt [⟨tg, iter, ifs, 0⟩] scope pos) scope X.env fpos (newList []) false (eval iter X.env) use) Qf X.xe s := by
  have caught : ∀ y ∈ scope.names, y.2 = .free → ∃ c, X.env.cells.lookup y.1 = some c := fun y hy e => (bk.free y hy e).elim (fun z => J.ok.has _ (.inl z)) fun z => J.ok.has _ (.inr z)
  refine wpAny_comprehension_free (use := use) rfl fold (closure_ok caught) bk.kind (fun y hy e => (bk.uniq y hy).trans (congrArg some e)) (thn (it_.run pins s σ H _ J h) fun xv sA hA => thn hA fun iv sB hB => ?_)
  obtain ⟨i0, ob, tn, It, HB, rfl, JB, Tn, hst, free, q⟩ := hB
  refine wpAny_newObj_type (newEnv_comp ?_) (by show 0 ≤ sizeLine; decide)
  -- the new list
  obtain ⟨L, eL⟩ : ∃ L, sB.heap.objs.size = L := ⟨_, rfl⟩
  have noL : HB L = none := JB.hok.fresh (Nat.le_of_eq eL)
  obtain ⟨Inn, ⟨m0, start⟩, turn⟩ := q L noL
  obtain ⟨sC, eC⟩ : ∃ sC : Shared, sC = { sB with heap := sB.heap.push { cls := .type "list", data := .seq ([] : List Value).toArray } } := ⟨_, rfl⟩
  have heapC : sC.heap = sB.heap.push { cls := .type "list", data := .seq ([] : List Value).toArray } := by rw [eC]
  have JC : Inv X pins σ (upd HB L (.lst [])) sC := by
    rw [eC]
    exact JB.laid (t' := sB.toks) (fun b o z => Heap.get?_push_of_some _ z) (Nat.le_of_eq eL) ⟨Nat.zero_le _, [], 0, .nil, by rw [← eL]; exact Heap.get?_push_size _ rfl⟩
  have size : ∀ b ∈ ob, b < sB.heap.objs.size := fun b hb => let ⟨_, z, _⟩ := Tn.obj _ _ hst b hb; Heap.lt_size z
  have clear : ∀ b ∈ ob, FpOk X pins (upd HB L (.lst [])) b ∧ b < sC.heap.objs.size := fun b hb =>
    ⟨⟨by rw [upd_ne (by rw [← eL]; exact Nat.ne_of_lt (size b hb))]; exact (free b hb).1, (free b hb).2⟩, by rw [heapC, Heap.size_push]; exact Nat.lt_succ_of_lt (size b hb)⟩
  have hstC : tn 0 sC.heap := Tn.keep _ _ _ hst fun b _ o z => by rw [heapC]; exact Heap.get?_push_of_some _ z
  have JD := block_start JC bk nd clear
  obtain ⟨cl, ecl⟩ : ∃ cl, cellsFrom (sC.heap.objs.size + 1) scope.names (cloFrom X.env.cells scope.names []) = cl := ⟨_, rfl⟩
  have gD := gg sC (upd HB L (.lst [])) sC.heap.objs.size cl ob
  have tD := tests sC (upd HB L (.lst [])) sC.heap.objs.size cl ob JC fun b hb => (clear b hb).1
  have eD := elem sC (upd HB L (.lst [])) sC.heap.objs.size cl ob JC fun b hb => (clear b hb).1
  rw [ecl] at JD
  have gone : ∀ b ∈ ob, (upd HB L (.lst [])) b = none := fun b hb => (clear b hb).1.1
  obtain ⟨ce, ece⟩ : ∃ ce, compEnvC scope cl sC.heap.objs.size X.env = ce := ⟨_, rfl⟩
  have loc : ce.locals = sC.heap.objs.size := by rw [← ece]; rfl
  rw [ece] at JD gD tD eD
  obtain ⟨HC, eHC⟩ : ∃ HC, upd HB L (.lst []) = HC := ⟨_, rfl⟩
  rw [eHC] at JC JD gD tD eD start gone clear
  obtain ⟨sD, esD⟩ : ∃ sD : Shared, sD = { sC with heap := pushCells (sC.heap.push { cls := .type "dict", data := .dict #[] }) scope.names } := ⟨_, rfl⟩
  rw [← esD] at JD
  have hstD : tn 0 sD.heap := Tn.keep _ _ _ hstC fun b _ o z => by rw [esD]; exact pushCells_keeps _ _ _ _ (Heap.get?_push_of_some _ z)
  have within : ∀ {σ1 : L2.St} {H1 : Hp} {s1 : Shared}, Inv (X.blk sC HC scope ce ob) [] σ1 H1 s1 → (∀ b ∈ ob, H1 b = none) → ∀ b ∈ ob, FpOk (X.blk sC HC scope ce ob) [] H1 b := fun {σ1 H1 s1} K1 z b hb =>
    ⟨z b hb, (K1.ok.exf b hb).1, K1.ok.exfs b hb, .inl hb, fun x c e => (K1.ok.exf b hb).2 x c e, fun p hp => by simp at hp⟩
  have all : codeAny (model X.prog X.w) X.A (.compLoop (.ListComp elt [⟨tg, iter, ifs, 0⟩] scope pos) 0 (.ref i0) (.ref L) ce) (compPost (model X.prog X.w) X.A X.xe use Qf (.ref L) sC.heap.objs.size) sD := by
    refine compLoop_any (fun n s1 => ∃ i H1, Inv (X.blk sC HC scope ce ob) [] (wipe σ (own.map (·.2))) H1 s1 ∧ tn i s1.heap ∧ (∀ b ∈ ob, H1 b = none) ∧ Inn i n H1) (fun n s1 hs1 => ?_) m0 ⟨0, HC, JD, hstD, gone, start⟩
    obtain ⟨i, H1, J1, t1, z1, in1⟩ := hs1
    rcases turn i n H1 in1 with ⟨fin, qq⟩ | ⟨going, Next, toNext, step⟩
    · refine thnF (Tn.done (X.blk sC HC scope ce ob) rfl rfl rfl calm i [] s1 _ H1 (fun _ _ => False) J1 (within J1 z1) t1 fin) fun r s2 ⟨er, J2⟩ => ?_
      cases er
      have home : Inv X pins σ H1 s2 := JC.call' (ch := ob) J2.os J2.base J2.hok J2.bare fun b hb => let z := (clear b hb).1.2; ⟨z.2.2.1, z.1, z.2.2.2.1, z.2.2.2.2⟩
      have noC : H1 sC.heap.objs.size = none := by
        rw [← loc]
        exact J2.free
      obtain ⟨m, ns, _⟩ := J2.loc
      refine out L sC.heap.objs.size s2 m H1 home qq ?_ (JC.fpOk (Nat.le_refl _) noC)
      rw [← loc]
      exact ns
    · refine thnF (Tn.item (X.blk sC HC scope ce ob) rfl rfl rfl calm i [] s1 _ H1 (fun _ _ => False) J1 (within J1 z1) t1 going) fun r s2 ⟨u, er, h2⟩ => ?_
      cases er
      refine thnF h2 fun _ s3 ⟨x, H3, J3, r3, y3, t3, z3⟩ => ?_
      have J3p := J3.pinned (within J3 z3) (Tn.obj _ _ t3)
      refine thnF (gD.run _ s3 _ H3 x u _ J3p r3 (step x H3 y3)) fun _ s4 ⟨σ4, H4, J4, w4, q4⟩ => ?_
      refine thnF (tD.run _ s4 σ4 H4 _ J4 q4) fun b s5 ⟨H5, J5, q5⟩ => ?_
      have again : ∀ {s6 : Shared} {H6 : Hp}, Inv (X.blk sC HC scope ce ob) ([] ++ pinsAt ob s3.heap) σ4 H6 s6 → Next H6 → ∃ m, m < n ∧ ∃ i H1, Inv (X.blk sC HC scope ce ob) [] (wipe σ (own.map (·.2))) H1 s6 ∧ tn i s6.heap ∧ (∀ b ∈ ob, H1 b = none) ∧ Inn i m H1 := fun {s6 H6} J6 nx => by
        obtain ⟨m, lt, in6⟩ := toNext H6 nx
        have stay : ∀ b ∈ ob, ∀ o, s3.heap.get? b = some o → s6.heap.get? b = some o ∧ H6 b = none := fun b hb o z =>
          let w := J6.pin (b, o) (List.mem_append_right _ (List.mem_append_right _ (mem_pinsAt hb z))); ⟨w.1, w.2.1⟩
        refine ⟨m, lt, i + 1, H6, (J6.unpinned (pins := [])).weak (by rw [← w4, wipe_length]) (fun j v z => ?_), Tn.keep _ _ _ t3 fun b hb o z => (stay b hb o z).1, fun b hb => ?_, in6⟩
        · rw [← w4] at z
          exact (wipe_some z).1
        · obtain ⟨o, z, _⟩ := Tn.obj _ _ t3 b hb
          exact (stay b hb o z).2
      cases b with
      | true =>
        rw [if_pos rfl] at q5 ⊢
        refine thnF (eD.run _ s5 σ4 H5 _ J5 q5) fun z s6 ⟨y, H6, J6, r6, acc, hL, hz, nx⟩ => ?_
        exact app_ok (X := X.blk sC HC scope ce ob) J6 hL hz r6 fun s7 J7 => again J7 nx
      | false =>
        rw [if_neg Bool.false_ne_true] at q5 ⊢
        exact again J5 q5
  have go := codeAny_compStart_list all (Tn.self X.A 0 _ _ _ hstD all)
  subst esD ece ecl eL eC
  exact go
/-- as a value -/
theorem pe_lcK {elt tg iter : Expr} {ifs : List Expr} {scope : Scope} {own : List (Str × Nat)} {pos : Pos} {wi : TI} {g : TG} {tt : L2.St → TT} {te : L2.St → TE} (calm : X.calm = true) (nd : X.N.Nodup) (it_ : PI X tg iter wi) (bk : BlkOk X.N X.env.scope scope own)
    (gg : ∀ (s0 : Shared) (H0 : Hp) (C : Addr) (cl : List (Str × Addr)) (ob : List Addr), PG (X.blk s0 H0 scope (compEnvC scope cl C X.env) ob) tg g)
    (tests : ∀ (pins : List (Addr × Obj)) (σ : L2.St) (s0 : Shared) (H0 : Hp) (C : Addr) (cl : List (Str × Addr)) (ob : List Addr), Inv X pins σ H0 s0 → (∀ b ∈ ob, FpOk X pins H0 b) → PTs (X.blk s0 H0 scope (compEnvC scope cl C X.env) ob) ifs (tt σ))
    (elem : ∀ (pins : List (Addr × Obj)) (σ : L2.St) (s0 : Shared) (H0 : Hp) (C : Addr) (cl : List (Str × Addr)) (ob : List Addr), Inv X pins σ H0 s0 → (∀ b ∈ ob, FpOk X pins H0 b) → PE (X.blk s0 H0 scope (compEnvC scope cl C X.env) ob) elt (te σ))
    (fold : ∀ x, foldedSetIterable iter X.env x = pure x := by intro _; rfl) : PE X (.ListComp elt [⟨tg, iter, ifs, 0⟩] scope pos) (fun σ H Q => tLc wi g (tt σ) (te σ) (own.map (·.2)) σ H Q) := by
  constructor
  intro pins s σ H Q J h
  rw [eval_ListComp]
  refine lc_known calm nd J it_ bk gg (tests pins σ) (elem pins σ) fold h fun L C s2 m H2 J2 q ns z => ⟨m, ns, fun h2 but => ?_⟩
  exact ⟨.ref L, H2, J2.turned (t' := s2.toks) (fun b o hb e => (but.2 b hb).trans e) z.1 z.2.1 z.2.2.2.1 z.2.2.2.2.1 z.2.2.2.2.2, rfl, q⟩
/-- in the def that made the lambdas -/
theorem known_def : ∀ (pins : List (Addr × Obj)) (s : Shared) (σ : L2.St) (H : Hp), Inv X pins σ H s → ∀ (F : LF) (fr : List Str) (js : List Nat), CapF X.N X.env.scope X.env.cells F fr js → CellsAt F.cl fr (js.map (slotAt (id σ))) s.heap H := fun _ _ _ _ J _ _ _ c => cells_cap J c
/-- in a comprehension there -/
theorem known_blk {pins : List (Addr × Obj)} {σ : L2.St} {s0 : Shared} {H0 : Hp} {scope : Scope} {cenv : Env} {ob : List Addr} (J : Inv X pins σ H0 s0) (z : ∀ b ∈ ob, FpOk X pins H0 b) :
    ∀ (pins2 : List (Addr × Obj)) (s : Shared) (σ2 : L2.St) (H : Hp), Inv (X.blk s0 H0 scope cenv ob) pins2 σ2 H s → ∀ (F : LF) (fr : List Str) (js : List Nat), CapF X.N X.env.scope X.env.cells F fr js → CellsAt F.cl fr (js.map (slotAt ((fun _ => σ) σ2))) s.heap H := by
  intro pins2 s σ2 H J2 F fr js c
  have u : Un (X.blk s0 H0 scope cenv ob).fs ob H0 H s0.heap s.heap := J2.base
  refine cells_stay (cells_cap J c) u fun y a e hb => ?_
  rw [c.cl] at e
  have e2 : X.env.cells.lookup y = some a := clo_cm (fun y hy k => (c.free y hy k).elim (fun q => J.ok.has _ (.inl q)) fun q => J.ok.has _ (.inr q)) e
  exact (z a hb).2.2.2.2.1 y a e2 rfl
/-- the reading of x(e) in such a comprehension -/
abbrev tWordX (X : Cx) (k : Nat) (sel : L2.St → L2.St) (TT : (XK → Hp → VK → Prop) → Hp → VK → Prop) (te : TE) : TE := tWord X.prog X.w X.K X.mg X.base k X.N X.env.scope X.env.cells sel TT te
theorem ready_of {P : Program} {w : World} {K : PySem.W.Frag} {mg : Str → Option Value} {base : Heap} {k : Nat} {N : List Str} {sc : Scope} {cells : List (Str × Addr)} {σL : L2.St} {f : Addr} {H : Hp} {F : LF} {fr : List Str} {js : List Nat} {tc : List (Option V) → XK → Hp → VK → Prop}
    (hf : H f = some (LamAt f F)) (hc : H F.c = some (CodeO F.c F.qual)) (hd : ∀ t, F.dv = some t → H t = some (.tup [.int 0])) (L : LOk P w K mg base k f F fr tc) (c : CapF N sc cells F fr js) : Ready P w K mg base k N sc cells σL f H (tlF f F (tc (js.map (slotAt σL)))) := ⟨F, fr, js, tc, L, c, hf, hc, hd, rfl⟩
end
end TL

namespace TL
open PySem PySem.Spec PyProof.Rows L2
/-! ### tuples cut and put together: what comes out, be it new or not -/
theorem slA {K : PySem.W.Frag} {H : Hp} {a : Addr} {xs : List V} {lo hi : Option Int} {Q : VK} (ha : H a = some (.tup xs)) (k : ∀ p H', Same H H' → H' p = some (.tup (cutV xs lo hi)) → Q (.ref p) H') : rSlA K (.ref a) lo hi H Q :=
  ⟨a, xs, rfl, SqT.of ha, fun z => k a H (.refl _) (by
    have e : cutV xs lo hi = xs := by
      unfold cutV
      rw [z.1, z.2, List.drop_zero, Nat.sub_zero, List.take_length]
    rw [e]
    exact ha), fun _ p hp => k p _ (Same.upd_new hp) upd_same⟩
theorem catTT {K : PySem.W.Frag} {H : Hp} {a b : Addr} {xs ys : List V} {Q : VK} (ha : H a = some (.tup xs)) (hb : H b = some (.tup ys)) (hl : xs.length + ys.length ≤ 1000) (k : ∀ p H', Same H H' → H' p = some (.tup (xs ++ ys)) → Q (.ref p) H') : rCatA K (.ref a) (.ref b) H Q :=
  ⟨a, b, xs, ys, rfl, rfl, SqT.of ha, SqT.of hb, Nat.le_of_lt (small1000 hl), fun z => k b H (.refl _) (by rw [z]; exact hb), fun _ z => k a H (.refl _) (by rw [z, List.append_nil]; exact ha), fun _ _ p hp => k p _ (Same.upd_new hp) upd_same⟩
abbrev rAddI : R2 := rI0 fun i j => .int (i + j)
section
variable {K : PySem.W.Frag} {σ : L2.St} {H : Hp} {t : Addr} {xs : List V} {n : Nat}
theorem cutT_to (hl : n ≤ xs.length) : cutV xs none (some (n : Int)) = xs.take n := by
  unfold cutV
  have e1 : HT.sIx xs.length xs.length (some (n : Int)) = n := by
    show (if (n : Int) < 0 then ((n : Int) + (xs.length : Nat)).toNat else min (n : Int).toNat xs.length) = _
    rw [if_neg (by omega)]
    omega
  have e2 : HT.sIx xs.length 0 none = 0 := rfl
  rw [e1, e2]
  rfl
theorem cutT_from (hl : n + 1 ≤ xs.length) : cutV xs (some ((n : Int) + 1)) none = xs.drop (n + 1) := by
  unfold cutV
  have e1 : HT.sIx xs.length 0 (some ((n : Int) + 1)) = n + 1 := by
    show (if (n : Int) + 1 < 0 then ((n : Int) + 1 + (xs.length : Nat)).toNat else min ((n : Int) + 1).toNat xs.length) = _
    rw [if_neg (by omega)]
    omega
  have e2 : HT.sIx xs.length xs.length none = xs.length := rfl
  rw [e1, e2, List.take_of_length_le (by rw [List.length_drop]; exact Nat.le_refl _)]
theorem cutG_to (n : Nat) : cutV xs none (some (n : Int)) = xs.take n := by
  unfold cutV
  rw [HT.sIx_none, List.drop_zero, Nat.sub_zero, HT.sIx_nat]
  apply List.take_eq_take_iff.mpr
  omega
theorem cutG_from (n : Nat) : cutV xs (some (n : Int)) none = xs.drop n := by
  unfold cutV
  rw [HT.sIx_none, HT.sIx_nat, List.take_of_length_le (by rw [List.length_drop]; exact Nat.le_refl _)]
  rcases Nat.le_total n xs.length with q | q
  · rw [Nat.min_eq_left q]
  · rw [Nat.min_eq_right q, List.drop_eq_nil_of_le (Nat.le_refl _), List.drop_eq_nil_of_le q]
theorem cutG_from1 (n : Nat) : cutV xs (some ((n : Int) + 1)) none = xs.drop (n + 1) := cutG_from (n + 1)
/-- a tuple without its n-th -/
theorem cut_out {i j : Nat} (hi : σ[i]? = some (some (.ref t))) (hj : σ[j]? = some (some (.int (n : Int)))) (ht : H t = some (.tup xs)) (hl : n + 1 ≤ xs.length) (hx : xs.length ≤ 100) :
    tOp (rCatA K) (tSl (rSlA K) (tVar i) tNoPart (tPart (tVar j))) (tSl (rSlA K) (tVar i) (tPart (tOp rAddI (tVar j) (tC (.int 1)))) tNoPart) σ H (fun v H' => ∃ p, v = .ref p ∧ H' p = some (.tup (xs.take n ++ xs.drop (n + 1))) ∧ Same H H') := by
  refine ⟨_, hi, _, hj, _, rfl, slA ht fun p H1 s1 hp => ?_⟩
  rw [cutT_to (by omega)] at hp
  have fin : ∀ q H2, Same H1 H2 → H2 q = some (.tup (xs.drop (n + 1))) → rCatA K (.ref p) (.ref q) H2 (fun v H' => ∃ p, v = .ref p ∧ H' p = some (.tup (xs.take n ++ xs.drop (n + 1))) ∧ Same H H') := fun q H2 s2 hq =>
    catTT (s2 _ _ hp) hq (by rw [List.length_take, List.length_drop]; omega) fun u H3 s3 hu => ⟨u, rfl, hu, (s1.trans s2).trans s3⟩
  refine ⟨_, hi, _, hj, _, _, rfl, rfl, _, rfl, t, xs, rfl, SqT.of (s1 _ _ ht), fun z => ?_, fun _ q hq => ?_⟩
  · have e0 : cutV xs (some ((n : Int) + 1)) none = xs := by
      unfold cutV
      rw [z.1, z.2, List.drop_zero, Nat.sub_zero, List.take_length]
    refine fin t H1 (.refl _) ?_
    rw [← cutT_from hl, e0]
    exact s1 _ _ ht
  · refine fin q _ (Same.upd_new hq) ?_
    rw [← cutT_from hl]
    exact upd_same
/-- a tuple, another thing in its n-th's place -/
theorem cut_put {i j k : Nat} {x : V} (hi : σ[i]? = some (some (.ref t))) (hj : σ[j]? = some (some (.int (n : Int)))) (hk : σ[k]? = some (some x)) (ht : H t = some (.tup xs)) (hl : n + 1 ≤ xs.length) (hx : xs.length ≤ 100) :
    tOp (rCatA K) (tOp (rCatA K) (tSl (rSlA K) (tVar i) tNoPart (tPart (tVar j))) (tTup (tCons (tVar k) tNil))) (tSl (rSlA K) (tVar i) (tPart (tOp rAddI (tVar j) (tC (.int 1)))) tNoPart) σ H (fun v H' => ∃ p, v = .ref p ∧ H' p = some (.tup (xs.take n ++ [x] ++ xs.drop (n + 1))) ∧ Same H H') := by
  refine ⟨_, hi, _, hj, _, rfl, slA ht fun p H1 s1 hp => ?_⟩
  rw [cutT_to (by omega)] at hp
  refine ⟨_, hk, (by show 1 ≤ sizeLine; decide), fun o ho => ?_⟩
  have s2 := Same.upd_new (o := .tup [x]) ho
  refine catTT (s2 _ _ hp) upd_same (by rw [List.length_take]; show _ + 1 ≤ _; omega) fun c H3 s3 hc => ?_
  have s13 := (s1.trans s2).trans s3
  have fin : ∀ q H4, Same H3 H4 → H4 q = some (.tup (xs.drop (n + 1))) → rCatA K (.ref c) (.ref q) H4 (fun v H' => ∃ p, v = .ref p ∧ H' p = some (.tup (xs.take n ++ [x] ++ xs.drop (n + 1))) ∧ Same H H') := fun q H4 s4 hq =>
    catTT (s4 _ _ hc) hq (by rw [List.length_append, List.length_take, List.length_drop]; show _ + 1 + _ ≤ _; omega) fun u H5 s5 hu => ⟨u, rfl, hu, (s13.trans s4).trans s5⟩
  refine ⟨_, hi, _, hj, _, _, rfl, rfl, _, rfl, t, xs, rfl, SqT.of (s13 _ _ ht), fun z => ?_, fun _ q hq => ?_⟩
  · have e0 : cutV xs (some ((n : Int) + 1)) none = xs := by
      unfold cutV
      rw [z.1, z.2, List.drop_zero, Nat.sub_zero, List.take_length]
    refine fin t H3 (.refl _) ?_
    rw [← cutT_from hl, e0]
    exact s13 _ _ ht
  · refine fin q _ (Same.upd_new hq) ?_
    rw [← cutT_from hl]
    exact upd_same
end
/-- an item at a place that is drawn -/
theorem at_get {α : Type} {l : List α} {r : Int} (h0 : 0 ≤ r) (h1 : r < l.length) : ∃ x, x ∈ l ∧ atI l r = some x := by
  obtain ⟨n, rfl⟩ : ∃ n : Nat, r = n := ⟨r.toNat, by omega⟩
  have hn : n < l.length := by omega
  exact ⟨l[n], List.getElem_mem hn, atI_nat (List.getElem?_eq_getElem hn)⟩
/-! ### data that stay where tuples stay -/
mutual
theorem Im.tups {H H' : Hp} (e : ∀ b ys, H b = some (.tup ys) → H' b = some (.tup ys)) : ∀ {x : V} {d : PyData}, Im H x d → Im H' x d
  | _, _, .non => .non
  | _, _, .bl b => .bl b
  | _, _, .int i => .int i
  | _, _, .str z => .str z
  | _, _, .tup h a => .tup (e _ _ h) (ImAll.tups e a)
theorem ImAll.tups {H H' : Hp} (e : ∀ b ys, H b = some (.tup ys) → H' b = some (.tup ys)) : ∀ {xs : List V} {ds : List PyData}, ImAll H xs ds → ImAll H' xs ds
  | _, _, .nil => .nil
  | _, _, .cons h t => .cons (Im.tups e h) (ImAll.tups e t)
end
theorem ext_tups {H H' : Hp} (e : LamX.ExtN H H') : ∀ b ys, H b = some (.tup ys) → H' b = some (.tup ys) := fun b _ z => e b _ z fun _ z => by cases z
theorem Im.ext {H H' : Hp} {x : V} {d : PyData} (h : Im H x d) (e : LamX.ExtN H H') : Im H' x d := h.tups (ext_tups e)
theorem ImAll.ext {H H' : Hp} {xs : List V} {ds : List PyData} (h : ImAll H xs ds) (e : LamX.ExtN H H') : ImAll H' xs ds := h.tups (ext_tups e)
theorem flat_rep {α : Type} (x : α) : ∀ n : Nat, (List.replicate n [x]).flatten = List.replicate n x
  | 0 => rfl
  | n + 1 => by rw [List.replicate_succ, List.flatten_cons, flat_rep x n]; rfl
theorem lst_ne {xs : List V} (ps : Array Value) : HO.lst xs ≠ .tbl ps := fun z => by cases z
theorem tup_ne {xs : List V} (ps : Array Value) : HO.tup xs ≠ .tbl ps := fun z => by cases z
end TL

namespace TL
open PySem PySem.Spec PyProof.Rows L2
/-! ### several defs that make lambdas: their tables are empty at the law's call -/
def OwnTabs (K : PySem.W.Frag) (mg : Str → Option Value) (names : List Str) (h : Heap) : Prop := ∀ (y : Str) (b : Addr), y ∈ names → mg y = some (.ref b) → LamX.OwnTab K b h
theorem walk_tabs {l : PySem.W.OpenLaw} {n k : Nat} {q : Program} {loose : List Str} {XP : (Str → Option Value) → Heap → Prop} {YP : World → Heap → Prop} {d : DefRec} {K : Params → PySem.W.Frag} {CX : World → CXT} {x : Str} {names : List Str}
    (hn : l.most = some n) (hs : n ≤ sizeLine) (hdf : d.params.defaults = []) (hr : Room k callerA) (hrec : ∀ y ∈ names, ((recsOf q).any fun e => e.name == y) = true) (hY : ∀ (w : World) (h : Heap), YP w h → (K w.params).In h)
    (F : ∀ (w : World) (mg : Str → Option Value) (fa : Addr) (h : Heap), YP w h → (K w.params).In h → h.Ns mainGlobals mg → mg d.name = some (.ref fa) → OwnTabs (K w.params) mg names h → LamX.LawAtS l w (K w.params) (CX w) k n x mg fa h)
    (hC : ∀ (w : World) (H : Hp) (s : Shared) (e : Value) (t : Shared), CX w [] H s (fun _ _ _ => False) e t → False) : PySem.W.WalkO q loose XP YP l.row.toRowW d [] (fun f vs => PySem.call f vs) := by
  refine Att.attach_callB hn hdf fun w _ s₁ mg _ fa _ _ _ _ a _ ns G Y _ _ _ gm go gi gl gb gg => ?_
  have kx := hY w _ Y
  have own : OwnTabs (K w.params) mg names s₁.heap := fun y b hy gy c P o1 fd1 e dd vs1 sl k1 k2 k3 k4 k5 => by
    obtain ⟨dL, hm, hd⟩ := List.any_eq_true.mp (hrec y hy)
    obtain ⟨b', o', fd', c', P', h1, h2, h3, h4, h5, h6⟩ := G.T.tab dL hm
    have gn : dL.name = y := beq_iff_eq.mp hd
    rw [gn, gy] at h1; cases h1
    rw [kx _ _ k1] at h2; cases h2
    rw [k2] at h3; cases h3
    rw [k3] at h4; cases h4
    obtain ⟨⟨oc, vc, e1, _, e3, e4⟩, hP⟩ := h6
    rw [kx _ _ k4] at e1; cases e1
    cases e3
    rw [k5] at e4; cases e4
    exact hP
  obtain ⟨fd, cs, sp, z1, z2, z3, z4, z5, z6⟩ := F w mg fa _ Y kx G.T.g gm own
  exact LamX.law_callTs kx G.T.g G.T.b G.T.builtins G.T.nolimit gg z1 z2 z3 G.T.bmain go gi (Nat.le_trans gl hs) hr z6 z4 (fun H hH hS => z5 H a ns gl gb hH hS) fun H e t => hC w H s₁ e t
/-! ### what stands beside tables and code objects -/
def plainO (o : HO) : Prop := (∀ ps, o ≠ .tbl ps) ∧ ∀ f, o ≠ .ext f
def NoX (H : Hp) (S : List Addr) : Prop := ∀ x ∈ S, ∃ o, H x = some o ∧ plainO o
theorem tabs_S {TT : List (Addr × Str)} {S : List Addr} {H H' : Hp} (h : LamX.Tabs TT H) (n : NoX H S) (f : Frm S H H') : LamX.Tabs TT H' := fun p hp => by
  obtain ⟨ps, h1, h2, h3⟩ := h p hp
  have n1 : p.1 ∉ S := fun z => by
    obtain ⟨o, e, q, _⟩ := n _ z
    rw [e] at h1
    exact q ps (Option.some.inj h1)
  refine ⟨ps, f _ _ h1 n1, h2, fun pos cv hc => ?_⟩
  obtain ⟨c, e1, e2⟩ := h3 pos cv hc
  refine ⟨c, e1, f _ _ e2 fun z => ?_⟩
  obtain ⟨o, e, _, q⟩ := n _ z
  rw [e] at e2
  have e2 := Option.some.inj e2
  unfold LamX.CodeO at e2
  exact q _ e2
theorem lst_plain {xs : List V} : plainO (.lst xs) := ⟨(fun _ z => by cases z), (fun _ z => by cases z)⟩
theorem dK_plain {xs : List (Key × V)} : plainO (.dK xs) := ⟨(fun _ z => by cases z), (fun _ z => by cases z)⟩
theorem dT_plain {xs : List (List Key × V)} : plainO (.dT xs) := ⟨(fun _ z => by cases z), (fun _ z => by cases z)⟩
theorem ins_plain {C dx : Addr} {fs : List (Str × V)} : plainO (.ins C dx fs) := ⟨(fun _ z => by cases z), (fun _ z => by cases z)⟩
theorem DictM.nox {H : Hp} {a : Addr} {f : Int → Option V} (h : DictM H a f) : ∃ o, H a = some o ∧ plainO o := let ⟨_, e, _⟩ := h; ⟨_, e, dK_plain⟩
theorem MarksAt.nox {C : Addr} {Z : List Addr} {H : Hp} {a : MAd} {s : MkS} (h : MarksAt C Z H a s) : NoX H a.all := by
  intro x hx
  obtain ⟨ta, ht, _⟩ := h.t
  simp [MAd.all] at hx
  rcases hx with rfl | rfl | rfl | rfl
  · exact h.w.nox
  · exact h.u.nox
  · exact h.r.nox
  · exact ht.nox
theorem EndAt.nox {CE CM : Addr} {Z : List Addr} {H : Hp} {a : EAd} {s : EndS} (h : EndAt CE CM Z H a s) : NoX H a.all := by
  intro x hx
  obtain ⟨dx, cv, mv, ov, h1, _⟩ := h.ob
  simp [EAd.all] at hx
  have m := h.mks.nox
  rcases hx with rfl | rfl | rfl | rfl | rfl | rfl | rfl
  · exact ⟨_, h1, ins_plain⟩
  · exact ⟨_, h.wt, lst_plain⟩
  · exact ⟨_, h.gt, lst_plain⟩
  · exact m _ (by simp [MAd.all])
  · exact m _ (by simp [MAd.all])
  · exact m _ (by simp [MAd.all])
  · exact m _ (by simp [MAd.all])
theorem Frm.ownS {S L : List Addr} {H H1 H2 : Hp} (a : Frm S H H1) (hl : ∀ l ∈ L, H l = none) (b : Frm L H1 H2) : Frm S H H2 := ⟨fun c o e h => b.keep c o (a.keep c o e h) (fun z => by
  rw [hl c z] at e
  cases e), fun c o e => b.tups c o (a.tups c o e), fun c o e => let ⟨o', e'⟩ := a.there c o e; b.there c o' e'⟩
/-! ### marks in the first few frames -/
def mkSmall (s : MkS) : Prop := (∀ i u, s.untl i = some u → u ≤ 1000) ∧ ∀ i u, s.wait i = some u → u ≤ 256
theorem mkSmall.new : mkSmall .new := ⟨(fun i u e => by cases e), (fun i u e => by cases e)⟩
theorem mkSmall.note {s : MkS} (h : mkSmall s) (m : Int) (p : Bool) {f : Int} (hf : f ≤ 100) : mkSmall (noteF s m p f) := by
  have hw : ∀ i u, waitsOf s m p i = some u → u ≤ 256 := fun i u e => by
    unfold waitsOf at e
    split at e
    · unfold setA at e
      split at e
      · have : (16 : Int) = u := Option.some.inj e
        omega
      · exact h.2 i u e
    · exact h.2 i u e
  have g0 : (waitsOf s m p m).getD 16 ≤ 256 := by
    cases e : waitsOf s m p m with
    | none => show (16 : Int) ≤ 256; decide
    | some u => exact hw m u e
  have g1 : (s.untl m).getD 0 ≤ 1000 := by
    cases e : s.untl m with
    | none => show (0 : Int) ≤ 1000; decide
    | some u => exact h.1 m u e
  unfold noteF
  split
  · refine ⟨fun i u e => ?_, fun i u e => ?_⟩
    · simp only [setA] at e
      split at e
      · have := Option.some.inj e
        omega
      · exact h.1 i u e
    · simp only [setA] at e
      split at e
      · have := Option.some.inj e
        omega
      · exact hw i u e
  · exact ⟨h.1, hw⟩
theorem mkSmall.bad {s : MkS} (h : mkSmall s) {f : Int} (hf : 1000 < f) : badF s f = [] := by
  unfold badF
  rw [List.filter_eq_nil_iff]
  intro i _
  cases e : s.untl i with
  | none => simp
  | some u =>
    have := h.1 i u e
    simp only [decide_eq_true_eq]
    omega
/-- a word without a number -/
theorem word_plain {K : PySem.W.Frag} {CS : List Addr} {CL D : Addr} {H : Hp} {j : Nat} (hk : Kind K CS CL D j) (hj : j < 9) (h5 : j ≠ 5) (h6 : j ≠ 6) (h8 : j ≠ 8) : WordAt K CS CL (.ref D) none H j 0 := ⟨D, rfl, hj, hk, .inl ⟨h5, h6, h8, rfl, rfl⟩⟩
theorem word0 : wordN 0 = "manners" := rfl
theorem word1 : wordN 1 = "count" := rfl
theorem word2 : wordN 2 = "part" := rfl
theorem word3 : wordN 3 = "item" := rfl
theorem word4 : wordN 4 = "full" := rfl
theorem word7 : wordN 7 = "end" := rfl
/-- the word that is due -/
theorem ne_word {K : PySem.W.Frag} {H : Hp} {u t : Addr} {z : Str} {n : Int} {Q : VK} (ht : H t = none) (hu : H u = some (.tup [.str z, .int n])) (hz : (PyData.str z).canLay0 = true) (k : ∀ H', Same H H' → Q (.bl false) H') : rNeD K (.ref u) (.ref t) (upd H t (.tup [.str z, .int n])) Q := by
  have s := Same.upd_new (o := .tup [.str z, .int n]) ht
  have w := lv_word hz n
  refine ⟨_, _, (im_word (s _ _ hu)).dp, (im_word (upd_same (H := H) (a := t) (o := .tup [.str z, .int n]))).dp, shaped_lv w (by decide), shaped_lv w (by decide), ?_⟩
  rw [eqv_refl w]
  exact k _ s
end TL

namespace TL
open PySem PySem.Spec PyProof.Rows L2
/-! ### rows as texts -/
def dgS (i : Int) : Str := Str.ofString (toString i)
def sgS (b : Bool) : Str := ⟨#[if b = true then 43 else 45]⟩
def wordOf (i : Int) (b : Bool) : Str := dgS i ++ sgS b
def lineOf (r : Row) : Str := dgS r.1 ++ sgS r.2.1 ++ " " ++ dgS r.2.2.1 ++ sgS r.2.2.2
def logText (rs : List Row) : Str := Txt.join "\n" (rs.map lineOf)
theorem tl_dg {i : Int} (h0 : 0 ≤ i) (h9 : i ≤ 9) : tl (dgS i) = [48 + i.toNat] := by
  obtain ⟨n, rfl⟩ : ∃ n : Nat, i = (n : Int) := ⟨i.toNat, by omega⟩
  have h := tl_num n
  rw [numL_lt (by omega)] at h
  exact h
theorem tl_sg (b : Bool) : tl (sgS b) = [if b = true then 43 else 45] := rfl
theorem tl_sp : tl (" " : Str) = [32] := by decide +kernel
theorem tl_nl : tl ("\n" : Str) = [10] := by decide +kernel
theorem tl_word {i : Int} {b : Bool} (h0 : 0 ≤ i) (h9 : i ≤ 9) : tl (wordOf i b) = [48 + i.toNat, if b = true then 43 else 45] := by
  unfold wordOf
  rw [tl_append, tl_dg h0 h9, tl_sg]
  rfl
theorem lineOf_join (r : Row) : lineOf r = Txt.join " " [wordOf r.1 r.2.1, wordOf r.2.2.1 r.2.2.2] := by
  apply ext_tl
  rw [join_eq, tl_join]
  unfold lineOf wordOf
  simp only [List.map, joinL, tl_append, List.append_assoc]
theorem tl_line {r : Row} (h : okRow r) : tl (lineOf r) = [48 + r.1.toNat, (if r.2.1 = true then 43 else 45), 32, 48 + r.2.2.1.toNat, (if r.2.2.2 = true then 43 else 45)] := by
  unfold lineOf
  rw [tl_append, tl_append, tl_append, tl_append, tl_dg h.1.1 h.1.2, tl_dg h.2.1 h.2.2, tl_sg, tl_sg, tl_sp]
  rfl
/-- a word's half: a manner, whether joined -/
def halfL : List Nat → Option (Int × Bool)
  | [a, b] => if (48 ≤ a ∧ a ≤ 57) ∧ (b = 43 ∨ b = 45) then some ((a : Int) - 48, decide (b = 43)) else none
  | _ => none
def rowHalves : List (Option (Int × Bool)) → Option Row
  | [some a, some b] => some (a.1, a.2, b.1, b.2)
  | _ => none
def halvesOf (line : Str) : List (Option (Int × Bool)) := (Txt.split line " ").map fun w => halfL (tl w)
def rowOfL (line : Str) : Option Row := rowHalves (halvesOf line)
theorem half_word {i : Int} {b : Bool} (h0 : 0 ≤ i) (h9 : i ≤ 9) : halfL (tl (wordOf i b)) = some (i, b) := by
  rw [tl_word h0 h9]
  have e1 : ((48 + i.toNat : Nat) : Int) - 48 = i := by omega
  cases b
  · simp only [halfL]
    rw [if_pos (by simp; omega), e1]
    rfl
  · simp only [halfL]
    rw [if_pos (by simp; omega), e1]
    rfl
theorem word_nosp {i : Int} {b : Bool} (h0 : 0 ≤ i) (h9 : i ≤ 9) : 32 ∉ tl (wordOf i b) := by
  rw [tl_word h0 h9]
  cases b <;> simp <;> omega
theorem rowOf_line {r : Row} (h : okRow r) : rowOfL (lineOf r) = some r := by
  unfold rowOfL halvesOf
  rw [lineOf_join, split_join (s := 32) (S := []) tl_sp (by decide +kernel) (by simp) (by
    intro p hp
    simp at hp
    rcases hp with rfl | rfl
    · exact word_nosp h.1.1 h.1.2
    · exact word_nosp h.2.1 h.2.2)]
  simp only [List.map, half_word h.1.1 h.1.2, half_word h.2.1 h.2.2, rowHalves]
theorem line_nonl {r : Row} (h : okRow r) : 10 ∉ tl (lineOf r) := by
  rw [tl_line h]
  obtain ⟨a, b, c, d⟩ := r
  cases b <;> cases d <;> simp <;> omega
theorem split_log {rs : List Row} (h : ∀ r ∈ rs, okRow r) (hne : rs ≠ []) : Txt.split (logText rs) "\n" = rs.map lineOf :=
  split_join (s := 10) (S := []) tl_nl (by decide +kernel) (by simpa using hne) (by
    intro p hp
    obtain ⟨r, hr, rfl⟩ := List.mem_map.mp hp
    exact line_nonl (h r hr))
theorem line_len {r : Row} (h : okRow r) : (lineOf r).length = 5 := by rw [len_tl, tl_line h]; rfl
theorem joinL_len (S : List Nat) : ∀ ps : List (List Nat), (joinL S ps).length ≤ (ps.map List.length).sum + ps.length * S.length
  | [] => by simp [joinL]
  | [p] => by simp [joinL]
  | p :: q :: r => by
    have ih := joinL_len S (q :: r)
    simp only [joinL, List.length_append, List.map_cons, List.sum_cons, List.length_cons] at ih ⊢
    have : (r.length + 1 + 1) * S.length = (r.length + 1) * S.length + S.length := Nat.succ_mul _ _
    omega
theorem lines_sum {rs : List Row} (h : ∀ r ∈ rs, okRow r) : ((rs.map lineOf).map (·.length)).sum = 5 * rs.length := by
  induction rs with
  | nil => rfl
  | cons a r ih =>
    simp only [List.map_cons, List.sum_cons, List.length_cons]
    rw [line_len (h a (by simp)), ih fun x hx => h x (by simp [hx])]
    omega
theorem log_len {rs : List Row} (h : ∀ r ∈ rs, okRow r) : (logText rs).length ≤ 6 * rs.length := by
  rw [len_tl]
  unfold logText
  rw [join_eq, tl_join, tl_nl]
  have h1 := joinL_len [10] ((rs.map lineOf).map tl)
  have h2 : (((rs.map lineOf).map tl).map List.length) = (rs.map lineOf).map (·.length) := by
    rw [List.map_map]
    exact List.map_congr_left fun x _ => (len_tl x).symm
  rw [h2, lines_sum h] at h1
  simp only [List.length_map, List.length_cons, List.length_nil] at h1
  omega
theorem log_ne {rs : List Row} (h : ∀ r ∈ rs, okRow r) (hne : rs ≠ []) : logText rs ≠ "" := by
  intro e
  have h1 := split_log h hne
  rw [e] at h1
  have h2 : Txt.split ("" : Str) "\n" = ([("" : Str)] : List Str) := by decide +kernel
  rw [h2] at h1
  match rs, hne with
  | a :: r, _ =>
    rw [List.map_cons] at h1
    injection h1 with h1 _
    have := line_len (h a (by simp))
    rw [← h1] at this
    exact absurd this (by decide +kernel)
theorem joinL_lt : ∀ ps : List (List Nat), (∀ p ∈ ps, ∀ c ∈ p, c < 0x110000) → ∀ c ∈ joinL [10] ps, c < 0x110000
  | [], _, c, hc => by simp [joinL] at hc
  | [p], z, c, hc => z p (by simp) c (by simpa [joinL] using hc)
  | p :: q :: r, z, c, hc => by
    simp only [joinL, List.mem_append] at hc
    rcases hc with hc | hc | hc
    · exact z p (by simp) c hc
    · simp at hc; omega
    · exact joinL_lt (q :: r) (fun x hx => z x (by simp at hx ⊢; exact .inr hx)) c hc
theorem strOk_log {rs : List Row} (h : ∀ r ∈ rs, okRow r) : (PyData.str (logText rs)).canLay0 = true := by
  have key : ∀ c ∈ tl (logText rs), c < 0x110000 := by
    intro c hc
    unfold logText at hc
    rw [join_eq, tl_join, tl_nl] at hc
    refine joinL_lt _ ?_ c hc
    intro p hp c hc
    simp only [List.map_map, List.mem_map, Function.comp] at hp
    obtain ⟨r, hr, rfl⟩ := hp
    have hok := h r hr
    rw [tl_line hok] at hc
    obtain ⟨⟨h1, h2⟩, h3, h4⟩ := hok
    simp at hc
    rcases hc with rfl | hc | rfl | rfl | hc
    · omega
    · split at hc <;> omega
    · omega
    · omega
    · split at hc <;> omega
  show (logText rs).cps.all (· < 0x110000) = true
  rw [Array.all_eq_true]
  intro i hi
  have := key ((logText rs).cps[i]) (by simp [tl])
  simpa using this
theorem spl_len (S : List Nat) : ∀ (l : List Nat) (k : Nat) (acc : List Nat), (spl S k acc l).length ≤ l.length + 1
  | [], k, acc => by rw [spl_nil]; simp
  | c :: r, 0, acc => by
    by_cases h : pre S (c :: r) = true
    · rw [spl_hit h]
      have := spl_len S r (S.length - 1) []
      simp only [List.length_cons]
      omega
    · rw [spl_miss (by simpa using h)]
      have := spl_len S r 0 (acc ++ [c])
      simp only [List.length_cons]
      omega
  | c :: r, k + 1, acc => by
    have := spl_len S r k acc
    show (spl S k acc r).length ≤ _
    simp only [List.length_cons]
    omega
theorem split_len (x y : Str) (hy : tl y ≠ []) (hk : y.cps.all (· < 256) = true) : (Txt.split x y).length ≤ x.length + 1 := by
  have h := congrArg List.length (split_spl x y hy (kind_ok hk))
  rw [List.length_map] at h
  rw [h, len_tl]
  exact spl_len _ _ _ _
theorem spl_word (S : List Nat) : ∀ (l : List Nat) (k : Nat) (acc : List Nat), ∀ p ∈ spl S k acc l, p.length ≤ acc.length + l.length
  | [], k, acc => by rw [spl_nil]; simp
  | c :: r, 0, acc => by
    intro p hp
    by_cases h : pre S (c :: r) = true
    · rw [spl_hit h] at hp
      rcases List.mem_cons.mp hp with rfl | hp
      · simp
      · have := spl_word S r (S.length - 1) [] p hp
        simp only [List.length_cons, List.length_nil] at this ⊢
        omega
    · rw [spl_miss (by simpa using h)] at hp
      have := spl_word S r 0 (acc ++ [c]) p hp
      simp only [List.length_append, List.length_cons, List.length_nil] at this ⊢
      omega
  | c :: r, k + 1, acc => by
    intro p hp
    have := spl_word S r k acc p hp
    simp only [List.length_cons]
    omega
theorem split_word (x y : Str) (hy : tl y ≠ []) (hk : y.cps.all (· < 256) = true) : ∀ w ∈ Txt.split x y, w.length ≤ x.length := by
  intro w hw
  have h := split_spl x y hy (kind_ok hk)
  have hm : tl w ∈ spl (tl y) 0 [] (tl x) := by rw [← h]; exact List.mem_map_of_mem hw
  have := spl_word _ _ _ _ _ hm
  rw [len_tl, len_tl]
  simpa using this
end TL

namespace TL
open PySem PySem.Spec PyProof.Rows L2
/-! ### str(x) of a number or a text -/
def rStrSI : List V → Hp → VK → Prop := fun xs H Q => (∃ i : Int, xs = [.int i] ∧ i.natAbs.log2 < 1920 ∧ Q (.str (toString i)) H) ∨ (∃ a, xs = [.str a] ∧ Q (.str a) H)
theorem TLstr {X : Cx} : CallR X (.type "str") rStrSI := by
  intro pins s σ H xs us Q I r h
  rcases h with h | h
  · exact call_str_int pins s σ H xs us Q I r h
  · exact SkE.call_str_str pins s σ H xs us Q I r h
/-! ### what is a step -/
def fieldB (c : Nat) (d : PyData) : Bool := if c = 109 then isMan d else if c = 99 then between d 1 100 else if c = 105 then between d 0 999 else between d 0 1
def WordF (w : Str) (f : List Nat) : Prop :=
  (w = "frames" ∧ f = [99]) ∨ (w = "pass" ∧ f = [101, 109]) ∨ (w = "lose" ∧ f = [112, 101]) ∨ (w = "send" ∧ f = [101, 105]) ∨ (w = "got" ∧ f = [101]) ∨ (w = "left" ∧ f = [101]) ∨ (w = "joined" ∧ f = [])
inductive StepTry : PyData → Bool → Prop
  | none : StepTry .none false
  | int (i : Int) : StepTry (.int i) false
  | str (z : Str) : StepTry (.str z) false
  | empty : StepTry (.tuple []) false
  | nokey {w : Str} : (w = "Frames" ∨ w = "") → StepTry (.tuple [.str w, .int 1]) false
  | key {w : Str} {f : List Nat} {rest : List PyData} {b : Bool} : WordF w f → rest.length ≤ 10 → (∀ e ∈ rest, mdat e) → b = (decide (rest.length = f.length) && (List.zipWith fieldB f rest).all id) → StepTry (.tuple (.str w :: rest)) b
theorem WordF.lay {w : Str} {f : List Nat} (h : WordF w f) : (PyData.str w).canLay0 = true ∧ f.length ≤ 2 ∧ ∀ c ∈ f, c = 99 ∨ c = 101 ∨ c = 105 ∨ c = 109 ∨ c = 112 := by
  rcases h with ⟨rfl, rfl⟩ | ⟨rfl, rfl⟩ | ⟨rfl, rfl⟩ | ⟨rfl, rfl⟩ | ⟨rfl, rfl⟩ | ⟨rfl, rfl⟩ | ⟨rfl, rfl⟩ <;> exact ⟨by decide +kernel, by decide, by simp⟩
theorem lv_mdat {e : PyData} (h : mdat e) : lv 2 e := by
  cases e with
  | tuple ds => exact ⟨Nat.le_trans h.1 (by decide), fun d hd => (h.2 d hd).2⟩
  | list ds => exact h.elim
  | dict ds => exact h.elim
  | str x => exact h
  | none => trivial
  | bool b => trivial
  | int i => trivial
theorem lv_key {w : Str} {f : List Nat} {rest : List PyData} (hW : WordF w f) (hl : rest.length ≤ 10) (hm : ∀ e ∈ rest, mdat e) : lv 3 (.tuple (.str w :: rest)) := by
  refine ⟨by rw [List.length_cons]; omega, fun d hd => ?_⟩
  rcases List.mem_cons.mp hd with rfl | hd
  · exact hW.lay.1
  · exact lv_mdat (hm d hd)
theorem btw' {i lo hi : Int} (h0 : lo ≤ i) (h1 : i ≤ hi) : between (.int i) lo hi = true := by
  simp only [between, Bool.and_eq_true, decide_eq_true_eq]
  exact ⟨h0, h1⟩
theorem bit_b' {e : Int} (h : bit e) : between (.int e) 0 1 = true := by
  rcases h with rfl | rfl <;> rfl
/-- a step is one -/
theorem StepTry.good {st : StepD} (h : st.ok) : StepTry (stepD st) true := by
  have m2 : ∀ {a b : PyData}, mdat a → mdat b → ∀ e ∈ [a, b], mdat e := fun ha hb e he => by
    simp only [List.mem_cons, List.not_mem_nil, or_false] at he
    rcases he with rfl | rfl
    · exact ha
    · exact hb
  have m1 : ∀ {a : PyData}, mdat a → ∀ e ∈ [a], mdat e := fun ha e he => by rw [List.mem_singleton.mp he]; exact ha
  cases st with
  | frames n => exact .key (f := [99]) (.inl ⟨rfl, rfl⟩) (by decide : 1 ≤ 10) (m1 trivial) (by show true = (true && (between (.int n) 1 100 && true)); rw [btw' h.1 h.2]; rfl)
  | pass e ms => exact .key (f := [101, 109]) (.inr (.inl ⟨rfl, rfl⟩)) (by decide : 2 ≤ 10) (m2 trivial (mdat_ints h.2.2.2.2)) (by show true = (true && (between (.int e) 0 1 && (isMan (.tuple (ms.map .int)) && true))); rw [bit_b' h.1, isMan_ints h.2]; rfl)
  | lose p e => exact .key (f := [112, 101]) (.inr (.inr (.inl ⟨rfl, rfl⟩))) (by decide : 2 ≤ 10) (m2 trivial trivial) (by show true = (true && (between (.int p) 0 1 && (between (.int e) 0 1 && true))); rw [bit_b' h.1, bit_b' h.2]; rfl)
  | send e i => exact .key (f := [101, 105]) (.inr (.inr (.inr (.inl ⟨rfl, rfl⟩)))) (by decide : 2 ≤ 10) (m2 trivial trivial) (by show true = (true && (between (.int e) 0 1 && (between (.int i) 0 999 && true))); rw [bit_b' h.1, btw' h.2.1 h.2.2]; rfl)
  | got e => exact .key (f := [101]) (.inr (.inr (.inr (.inr (.inl ⟨rfl, rfl⟩))))) (by decide : 1 ≤ 10) (m1 trivial) (by show true = (true && (between (.int e) 0 1 && true)); rw [bit_b' h]; rfl)
  | left e => exact .key (f := [101]) (.inr (.inr (.inr (.inr (.inr (.inl ⟨rfl, rfl⟩)))))) (by decide : 1 ≤ 10) (m1 trivial) (by show true = (true && (between (.int e) 0 1 && true)); rw [bit_b' h]; rfl)
  | joined => exact .key (f := []) (.inr (.inr (.inr (.inr (.inr (.inr ⟨rfl, rfl⟩)))))) (by decide : 0 ≤ 10) (fun e he => by simp at he) rfl
/-- no step -/
def NS (H : Hp) (v : V) : Prop := ∃ d, Im H v d ∧ StepTry d false ∧ lv 3 d
theorem NS.frm {S : List Addr} {H H' : Hp} {v : V} (h : NS H v) (f : Frm S H H') : NS H' v := let ⟨d, a, b⟩ := h; ⟨d, a.frm f, b⟩
theorem NS.same {H H' : Hp} {v : V} (h : NS H v) (f : Same H H') : NS H' v := let ⟨d, a, b⟩ := h; ⟨d, a.same f, b⟩
theorem ns_key {H : Hp} {t : Addr} {w : Str} {f : List Nat} {ys : List V} {rest : List PyData} (ht : H t = some (.tup (.str w :: ys))) (hA : ImAll H ys rest) (hW : WordF w f) (hl : rest.length ≤ 10) (hm : ∀ e ∈ rest, mdat e) (hb : false = (decide (rest.length = f.length) && (List.zipWith fieldB f rest).all id)) : NS H (.ref t) :=
  ⟨_, .tup ht (.cons (.str _) hA), .key hW hl hm hb, lv_key hW hl hm⟩
theorem far_no {lo hi i : Int} (h : i < lo ∨ hi < i) : between (.int i) lo hi = false := by
  simp only [between, Bool.and_eq_false_iff, decide_eq_false_iff_not]
  omega
/-! ### the text of a play -/
def partText : PyData → Str
  | .str z => z
  | .int i => Str.ofString (toString i)
  | .tuple ds => Txt.join "," (ds.map fun e => Str.ofString (toString (intOf e)))
  | _ => ""
def stepParts : StepD → List PyData
  | .frames n => [.str "frames", .int n]
  | .pass e ms => [.str "pass", .int e, .tuple (ms.map .int)]
  | .lose p e => [.str "lose", .int p, .int e]
  | .send e i => [.str "send", .int e, .int i]
  | .got e => [.str "got", .int e]
  | .left e => [.str "left", .int e]
  | .joined => [.str "joined"]
def stepText (st : StepD) : Str := Txt.join " " ((stepParts st).map partText)
def playText (sts : List StepD) : Str := Txt.join "\n" (sts.map stepText)
/-- what a part may be -/
def PartOk : PyData → Prop
  | .str z => z.length ≤ 6 ∧ (PyData.str z).canLay0 = true
  | .int i => 0 ≤ i ∧ i ≤ 999
  | .tuple ds => ∃ ms : List Int, ds = ms.map .int ∧ Can ms
  | _ => False
theorem parts_ok {st : StepD} (h : st.ok) : ∀ d ∈ stepParts st, PartOk d := by
  have bt : ∀ {e : Int}, bit e → 0 ≤ e ∧ e ≤ 999 := fun h => by unfold bit at h; omega
  intro d hd
  cases st with
  | frames n =>
    simp only [stepParts, List.mem_cons, List.not_mem_nil, or_false] at hd
    rcases hd with rfl | rfl
    · exact ⟨by decide +kernel, by decide +kernel⟩
    · exact ⟨by have := h.1; omega, by have := h.2; omega⟩
  | pass e ms =>
    simp only [stepParts, List.mem_cons, List.not_mem_nil, or_false] at hd
    rcases hd with rfl | rfl | rfl
    · exact ⟨by decide +kernel, by decide +kernel⟩
    · exact bt h.1
    · exact ⟨ms, rfl, h.2⟩
  | lose p e =>
    simp only [stepParts, List.mem_cons, List.not_mem_nil, or_false] at hd
    rcases hd with rfl | rfl | rfl
    · exact ⟨by decide +kernel, by decide +kernel⟩
    · exact bt h.1
    · exact bt h.2
  | send e i =>
    simp only [stepParts, List.mem_cons, List.not_mem_nil, or_false] at hd
    rcases hd with rfl | rfl | rfl
    · exact ⟨by decide +kernel, by decide +kernel⟩
    · exact bt h.1
    · exact h.2
  | got e =>
    simp only [stepParts, List.mem_cons, List.not_mem_nil, or_false] at hd
    rcases hd with rfl | rfl
    · exact ⟨by decide +kernel, by decide +kernel⟩
    · exact bt h
  | left e =>
    simp only [stepParts, List.mem_cons, List.not_mem_nil, or_false] at hd
    rcases hd with rfl | rfl
    · exact ⟨by decide +kernel, by decide +kernel⟩
    · exact bt h
  | joined =>
    simp only [stepParts, List.mem_cons, List.not_mem_nil, or_false] at hd
    subst hd
    exact ⟨by decide +kernel, by decide +kernel⟩
theorem stepD_parts (st : StepD) : stepD st = .tuple (stepParts st) := by cases st <;> rfl
theorem StepAt.parts {H : Hp} {a : Addr} {st : StepD} (h : StepAt H a st) : ∃ xs, H a = some (.tup xs) ∧ ImAll H xs (stepParts st) := by
  have im := h.im
  rw [stepD_parts] at im
  obtain ⟨t, xs, e, ht, hA⟩ := im_tup_inv im
  cases e
  exact ⟨xs, ht, hA⟩
theorem int_len {i : Int} (h0 : 0 ≤ i) (h9 : i ≤ 999) : (Str.ofString (toString i)).length ≤ 3 := by
  obtain ⟨n, rfl⟩ : ∃ n : Nat, i = (n : Int) := ⟨i.toNat, by omega⟩
  rw [len_tl, tl_num]
  exact numL_len (by decide) (by omega)
theorem sum_le {l : List Str} {m : Nat} (h : ∀ x ∈ l, x.length ≤ m) : (l.map (·.length)).sum ≤ m * l.length := by
  induction l with
  | nil => simp
  | cons a r ih =>
    have := ih fun x hx => h x (by simp [hx])
    have := h a (by simp)
    simp only [List.map_cons, List.sum_cons, List.length_cons, Nat.mul_succ]
    omega
theorem join_len {y : Str} {l : List Str} {m : Nat} (h : ∀ x ∈ l, x.length ≤ m) : (Txt.join y l).length ≤ (m + y.length) * l.length := by
  rw [len_tl, join_eq, tl_join]
  have := joinL_len (tl y) (l.map tl)
  have e : ((l.map tl).map List.length).sum = (l.map (·.length)).sum := by
    rw [List.map_map]
    congr 1
  rw [e, List.length_map] at this
  have := sum_le h
  rw [Nat.add_mul, len_tl]
  have q : l.length * (tl y).length = (tl y).length * l.length := Nat.mul_comm _ _
  omega
theorem log2_999 {i : Int} (h0 : 0 ≤ i) (h9 : i ≤ 999) : i.natAbs.log2 < 1920 := by
  have : i.natAbs < 2 ^ 1920 := Nat.lt_of_lt_of_le (show i.natAbs < 2 ^ 10 by omega) (Nat.pow_le_pow_right (by decide) (by decide))
  by_cases z : i.natAbs = 0
  · rw [z]; decide
  · exact (Nat.log2_lt z).mpr this
theorem can_len {ms : List Int} (h : Can ms) : ms.length ≤ 60 := h.2.2.2
theorem man_texts {ms : List Int} (h : Can ms) : ∀ x ∈ (ms.map PyData.int).map (fun e => Str.ofString (toString (intOf e))), x.length ≤ 3 := fun x hx => by
  rw [List.map_map] at hx
  obtain ⟨m, hm, rfl⟩ := List.mem_map.mp hx
  obtain ⟨m0, m9⟩ := h.1 m hm
  exact int_len m0 (by show m ≤ 999; omega)
theorem comma_len : ("," : Str).length = 1 := by decide +kernel
theorem blank_len : (" " : Str).length = 1 := by decide +kernel
theorem line_len1 : ("\n" : Str).length = 1 := by decide +kernel
theorem part_len {d : PyData} (h : PartOk d) : (partText d).length ≤ 240 := by
  cases d with
  | str z => exact Nat.le_trans h.1 (by decide)
  | int i => exact Nat.le_trans (int_len h.1 h.2) (by decide)
  | tuple ds =>
    obtain ⟨ms, rfl, hms⟩ := h
    have := join_len (y := ",") (man_texts hms)
    rw [comma_len, List.length_map, List.length_map] at this
    have := can_len hms
    show (Txt.join _ _).length ≤ _
    omega
  | none => exact h.elim
  | bool b => exact h.elim
  | list ds => exact h.elim
  | dict ds => exact h.elim
theorem parts_few (st : StepD) : (stepParts st).length ≤ 3 := by cases st <;> simp [stepParts]
theorem step_texts {st : StepD} (h : st.ok) : ∀ x ∈ (stepParts st).map partText, x.length ≤ 240 := fun x hx => by
  obtain ⟨d, hd, rfl⟩ := List.mem_map.mp hx
  exact part_len (parts_ok h d hd)
theorem step_len {st : StepD} (h : st.ok) : (stepText st).length ≤ 723 := by
  have := join_len (y := " ") (step_texts h)
  rw [blank_len, List.length_map] at this
  have := parts_few st
  show (Txt.join _ _).length ≤ _
  have q : (240 + 1) * (stepParts st).length ≤ 241 * 3 := Nat.mul_le_mul_left _ this
  omega
/-- the kind of what can't be changed is no list -/
theorem kb_im2 {H : Hp} {v : V} {d : PyData} (h : Im H v d) : kitB (kty d) "list" = some false := by
  cases h with
  | non => exact (by decide +kernel : kitB "NoneType" "list" = some false)
  | bl b => exact (by decide +kernel : kitB "bool" "list" = some false)
  | int i => exact (by decide +kernel : kitB "int" "list" = some false)
  | str z => exact (by decide +kernel : kitB "str" "list" = some false)
  | tup _ _ => exact kb_tl
theorem lv_stepD {st : StepD} (h : st.ok) : lv 3 (stepD st) := by
  have g := StepTry.good h
  generalize stepD st = d at g
  cases g with
  | key hW hl hm hb => exact lv_key hW hl hm
theorem StepsAt.im {H : Hp} : ∀ {xs : List V} {sts : List StepD}, StepsAt H xs sts → ImAll H xs (sts.map stepD)
  | [], [], _ => .nil
  | v :: xs, st :: sts, h => by
    obtain ⟨a, rfl, ha⟩ := h.2 0 v st rfl rfl
    exact .cons ha.im (StepsAt.im ⟨by simpa using h.1, fun i w e h1 h2 => h.2 (i + 1) w e (by simpa using h1) (by simpa using h2)⟩)
  | [], _ :: _, h => by simp [StepsAt] at h
  | _ :: _, [], h => by simp [StepsAt] at h
/-- texts that can be compared -/
def okS (x : Str) : Prop := ∀ c ∈ tl x, c < 0x110000
theorem okS.lay {x : Str} (h : okS x) : (PyData.str x).canLay0 = true := by
  show x.cps.all (· < 0x110000) = true
  rw [Array.all_eq_true]
  intro i hi
  have := h (x.cps[i]) (by simp [tl])
  simpa using this
theorem okS.of {x : Str} (h : (PyData.str x).canLay0 = true) : okS x := by
  have h : x.cps.all (· < 0x110000) = true := h
  rw [Array.all_eq_true] at h
  intro c hc
  obtain ⟨i, hi, rfl⟩ := List.getElem_of_mem hc
  have := h i (by simpa [tl] using hi)
  simpa [tl] using this
theorem joinL_all {S : List Nat} (hS : ∀ c ∈ S, c < 0x110000) : ∀ ps : List (List Nat), (∀ p ∈ ps, ∀ c ∈ p, c < 0x110000) → ∀ c ∈ joinL S ps, c < 0x110000
  | [], _, c, hc => by simp [joinL] at hc
  | [p], z, c, hc => z p (by simp) c (by simpa [joinL] using hc)
  | p :: q :: r, z, c, hc => by
    simp only [joinL, List.mem_append] at hc
    rcases hc with hc | hc | hc
    · exact z p (by simp) c hc
    · exact hS c hc
    · exact joinL_all hS (q :: r) (fun x hx => z x (by simp at hx ⊢; exact .inr hx)) c hc
theorem okS.join {y : Str} {l : List Str} (hy : okS y) (h : ∀ x ∈ l, okS x) : okS (Txt.join y l) := by
  intro c hc
  rw [join_eq, tl_join] at hc
  refine joinL_all hy _ (fun p hp => ?_) c hc
  obtain ⟨x, hx, rfl⟩ := List.mem_map.mp hp
  exact h x hx
theorem okS_int {i : Int} (h0 : 0 ≤ i) : okS (Str.ofString (toString i)) := by
  obtain ⟨n, rfl⟩ : ∃ n : Nat, i = (n : Int) := ⟨i.toNat, by omega⟩
  intro c hc
  rw [tl_num] at hc
  have := numL_digits n c hc
  omega
theorem part_okS {d : PyData} (h : PartOk d) : okS (partText d) := by
  cases d with
  | str z => exact .of h.2
  | int i => exact okS_int h.1
  | tuple ds =>
    obtain ⟨ms, rfl, hms⟩ := h
    refine okS.join (.of (by decide +kernel)) fun x hx => ?_
    rw [List.map_map] at hx
    obtain ⟨m, hm, rfl⟩ := List.mem_map.mp hx
    exact okS_int (hms.1 m hm).1
  | none => exact h.elim
  | bool b => exact h.elim
  | list ds => exact h.elim
  | dict ds => exact h.elim
theorem play_okS {sts : List StepD} (h : ∀ st ∈ sts, st.ok) : okS (playText sts) := by
  refine okS.join (.of (by decide +kernel)) fun x hx => ?_
  obtain ⟨st, hst, rfl⟩ := List.mem_map.mp hx
  refine okS.join (.of (by decide +kernel)) fun y hy => ?_
  obtain ⟨d, hd, rfl⟩ := List.mem_map.mp hy
  exact part_okS (parts_ok (h st hst) d hd)
end TL

namespace TL
open PySem PySem.Spec PyProof.Rows L2
def top (i : Nat) : Stmt := PySem.Challenge.pw_trainline_k17_plays.main.body.getD i (.Pass ⟨0, 0, 0, 0⟩)
abbrev s_is_between : Stmt := top 13
abbrev N_is_between : List Str := ["part", "low", "high"]
abbrev P_is_between : List Str := ["part", "low", "high"]
theorem sc_is_between : FnScope N_is_between P_is_between (defScope s_is_between) := ⟨rfl, rfl, rfl, by decide +kernel, rfl, by decide +kernel, by decide +kernel⟩
abbrev s_are_manners : Stmt := top 14
abbrev N_are_manners : List Str := ["some", "one"]
abbrev P_are_manners : List Str := ["some"]
theorem sc_are_manners : FnScope N_are_manners P_are_manners (defScope s_are_manners) := ⟨rfl, rfl, rfl, by decide +kernel, rfl, by decide +kernel, by decide +kernel⟩
abbrev s_need_manners : Stmt := top 15
abbrev N_need_manners : List Str := ["some"]
abbrev P_need_manners : List Str := ["some"]
theorem sc_need_manners : FnScope N_need_manners P_need_manners (defScope s_need_manners) := ⟨rfl, rfl, rfl, by decide +kernel, rfl, by decide +kernel, by decide +kernel⟩
abbrev s_chosen : Stmt := top 16
abbrev N_chosen : List Str := ["one", "other", "bad", "manner"]
abbrev P_chosen : List Str := ["one", "other", "bad"]
theorem sc_chosen : FnScope N_chosen P_chosen (defScope s_chosen) := ⟨rfl, rfl, rfl, by decide +kernel, rfl, by decide +kernel, by decide +kernel⟩
abbrev s_need_manner : Stmt := top 24
abbrev N_need_manner : List Str := ["manner"]
abbrev P_need_manner : List Str := ["manner"]
theorem sc_need_manner : FnScope N_need_manner P_need_manner (defScope s_need_manner) := ⟨rfl, rfl, rfl, by decide +kernel, rfl, by decide +kernel, by decide +kernel⟩
abbrev s_need_end : Stmt := top 33
abbrev N_need_end : List Str := ["end"]
abbrev P_need_end : List Str := ["end"]
theorem sc_need_end : FnScope N_need_end P_need_end (defScope s_need_end) := ⟨rfl, rfl, rfl, by decide +kernel, rfl, by decide +kernel, by decide +kernel⟩
abbrev s_is_row : Stmt := top 37
abbrev N_is_row : List Str := ["row"]
abbrev P_is_row : List Str := ["row"]
theorem sc_is_row : FnScope N_is_row P_is_row (defScope s_is_row) := ⟨rfl, rfl, rfl, by decide +kernel, rfl, by decide +kernel, by decide +kernel⟩
abbrev s_need_log : Stmt := top 38
abbrev N_need_log : List Str := ["rows", "number", "row"]
abbrev P_need_log : List Str := ["rows"]
theorem sc_need_log : FnScope N_need_log P_need_log (defScope s_need_log) := ⟨rfl, rfl, rfl, by decide +kernel, rfl, by decide +kernel, by decide +kernel⟩
abbrev s_stretches : Stmt := top 39
abbrev N_stretches : List Str := ["rows", "found", "number", "mine", "joined", "yours", "likewise"]
abbrev P_stretches : List Str := ["rows"]
theorem sc_stretches : FnScope N_stretches P_stretches (defScope s_stretches) := ⟨rfl, rfl, rfl, by decide +kernel, rfl, by decide +kernel, by decide +kernel⟩
abbrev s_is_field : Stmt := top 45
abbrev N_is_field : List Str := ["kind", "part"]
abbrev P_is_field : List Str := ["kind", "part"]
theorem sc_is_field : FnScope N_is_field P_is_field (defScope s_is_field) := ⟨rfl, rfl, rfl, by decide +kernel, rfl, by decide +kernel, by decide +kernel⟩
abbrev s_is_step : Stmt := top 46
abbrev N_is_step : List Str := ["step", "form", "k"]
abbrev P_is_step : List Str := ["step"]
theorem sc_is_step : FnScope N_is_step P_is_step (defScope s_is_step) := ⟨rfl, rfl, rfl, by decide +kernel, rfl, by decide +kernel, by decide +kernel⟩
abbrev s_need_steps : Stmt := top 47
abbrev N_need_steps : List Str := ["steps", "number", "step"]
abbrev P_need_steps : List Str := ["steps"]
theorem sc_need_steps : FnScope N_need_steps P_need_steps (defScope s_need_steps) := ⟨rfl, rfl, rfl, by decide +kernel, rfl, by decide +kernel, by decide +kernel⟩
abbrev s_done : Stmt := top 48
abbrev N_done : List Str := ["line", "step", "word", "turn"]
abbrev P_done : List Str := ["line", "step"]
theorem sc_done : FnScope N_done P_done (defScope s_done) := ⟨rfl, rfl, rfl, by decide +kernel, rfl, by decide +kernel, by decide +kernel⟩
abbrev s_arrange : Stmt := top 49
abbrev N_arrange : List Str := ["line", "step"]
abbrev P_arrange : List Str := ["line", "step"]
theorem sc_arrange : FnScope N_arrange P_arrange (defScope s_arrange) := ⟨rfl, rfl, rfl, by decide +kernel, rfl, by decide +kernel, by decide +kernel⟩
abbrev s_played : Stmt := top 50
abbrev N_played : List Str := ["one", "other", "steps", "line", "step"]
abbrev P_played : List Str := ["one", "other", "steps"]
theorem sc_played : FnScope N_played P_played (defScope s_played) := ⟨rfl, rfl, rfl, by decide +kernel, rfl, by decide +kernel, by decide +kernel⟩
abbrev s_word_of : Stmt := top 51
abbrev N_word_of : List Str := ["part", "manner"]
abbrev P_word_of : List Str := ["part"]
theorem sc_word_of : FnScope N_word_of P_word_of (defScope s_word_of) := ⟨rfl, rfl, rfl, by decide +kernel, rfl, by decide +kernel, by decide +kernel⟩
abbrev s_lines_of : Stmt := top 52
abbrev N_lines_of : List Str := ["steps", "part", "step"]
abbrev P_lines_of : List Str := ["steps"]
theorem sc_lines_of : FnScope N_lines_of P_lines_of (defScope s_lines_of) := ⟨rfl, rfl, rfl, by decide +kernel, rfl, by decide +kernel, by decide +kernel⟩
abbrev s__law_dice : Stmt := top 54
abbrev N__law_dice : List Str := ["_law_script", "_law_k", "_law_found", "_law_cell"]
abbrev P__law_dice : List Str := ["_law_script", "_law_k"]
theorem sc__law_dice : FnScope N__law_dice P__law_dice (defScope s__law_dice) := ⟨rfl, rfl, rfl, by decide +kernel, rfl, by decide +kernel, by decide +kernel⟩
abbrev s__law_off : Stmt := top 55
abbrev N__law_off : List Str := ["_law_d", "_law_most", "_law_found"]
abbrev P__law_off : List Str := ["_law_d", "_law_most"]
theorem sc__law_off : FnScope N__law_off P__law_off (defScope s__law_off) := ⟨rfl, rfl, rfl, by decide +kernel, rfl, by decide +kernel, by decide +kernel⟩
abbrev s__law_alike : Stmt := top 56
abbrev N__law_alike : List Str := ["_law_found", "_law_due", "_law_k"]
abbrev P__law_alike : List Str := ["_law_found", "_law_due"]
theorem sc__law_alike : FnScope N__law_alike P__law_alike (defScope s__law_alike) := ⟨rfl, rfl, rfl, by decide +kernel, rfl, by decide +kernel, by decide +kernel⟩
abbrev s__law_word : Stmt := top 57
abbrev N__law_word : List Str := ["_law_work", "e", "_law_kinds", "_law_word_here"]
abbrev P__law_word : List Str := ["_law_work"]
theorem sc__law_word : FnScope N__law_word P__law_word (defScope s__law_word) := ⟨rfl, rfl, rfl, by decide +kernel, rfl, by decide +kernel, by decide +kernel⟩
abbrev s__law_can : Stmt := top 58
abbrev N__law_can : List Str := ["_law_d", "_law_often", "_law_manner"]
abbrev P__law_can : List Str := ["_law_d"]
theorem sc__law_can : FnScope N__law_can P__law_can (defScope s__law_can) := ⟨rfl, rfl, rfl, by decide +kernel, rfl, by decide +kernel, by decide +kernel⟩
abbrev s__law_step : Stmt := top 59
abbrev N__law_step : List Str := ["_law_d", "_law_end", "_law_some"]
abbrev P__law_step : List Str := ["_law_d"]
theorem sc__law_step : FnScope N__law_step P__law_step (defScope s__law_step) := ⟨rfl, rfl, rfl, by decide +kernel, rfl, by decide +kernel, by decide +kernel⟩
abbrev s__law_steps : Stmt := top 60
abbrev N__law_steps : List Str := ["_law_d", "_law_most", "_law_step_here"]
abbrev P__law_steps : List Str := ["_law_d", "_law_most"]
theorem sc__law_steps : FnScope N__law_steps P__law_steps (defScope s__law_steps) := ⟨rfl, rfl, rfl, by decide +kernel, rfl, by decide +kernel, by decide +kernel⟩
abbrev s__law_no_step : Stmt := top 61
abbrev N__law_no_step : List Str := ["_law_d", "_law_far", "_law_some"]
abbrev P__law_no_step : List Str := ["_law_d"]
theorem sc__law_no_step : FnScope N__law_no_step P__law_no_step (defScope s__law_no_step) := ⟨rfl, rfl, rfl, by decide +kernel, rfl, by decide +kernel, by decide +kernel⟩
abbrev s__law_tells : Stmt := top 62
abbrev N__law_tells : List Str := ["_law_line", "_law_step_here", "_law_word_here", "_law_rest", "_law_turn"]
abbrev P__law_tells : List Str := ["_law_line", "_law_step_here"]
theorem sc__law_tells : FnScope N__law_tells P__law_tells (defScope s__law_tells) := ⟨rfl, rfl, rfl, by decide +kernel, rfl, by decide +kernel, by decide +kernel⟩
abbrev s_law : Stmt := top 63
abbrev N_law : List Str := ["_law_script", "_law_d", "_law_one", "_law_other", "_law_steps_here", "_law_line", "_law_due", "_law_step_here", "_law_again", "_law_handed", "_law_found", "_law_part", "_law_rows", "_law_m", "_law_turn", "_law_at", "_law_bad", "_law_works", "_law_work", "_law_long"]
abbrev P_law : List Str := ["_law_script"]
theorem sc_law : FnScope N_law P_law (defScope s_law) := ⟨rfl, rfl, rfl, by decide +kernel, rfl, by decide +kernel, by decide +kernel⟩
abbrev s_BadStep_init : Stmt := inClass (top 8) 0
abbrev N_BadStep_init : List Str := ["self", "at"]
abbrev P_BadStep_init : List Str := ["self", "at"]
theorem sc_BadStep_init : FnScope N_BadStep_init P_BadStep_init (defScope s_BadStep_init) := ⟨rfl, rfl, rfl, by decide +kernel, rfl, by decide +kernel, by decide +kernel⟩
abbrev s_Marks_init : Stmt := inClass (top 25) 0
abbrev N_Marks_init : List Str := ["self"]
abbrev P_Marks_init : List Str := ["self"]
theorem sc_Marks_init : FnScope N_Marks_init P_Marks_init (defScope s_Marks_init) := ⟨rfl, rfl, rfl, by decide +kernel, rfl, by decide +kernel, by decide +kernel⟩
abbrev s_Marks_note : Stmt := inClass (top 25) 1
abbrev N_Marks_note : List Str := ["self", "manner", "passed", "frame", "wait"]
abbrev P_Marks_note : List Str := ["self", "manner", "passed", "frame"]
theorem sc_Marks_note : FnScope N_Marks_note P_Marks_note (defScope s_Marks_note) := ⟨rfl, rfl, rfl, by decide +kernel, rfl, by decide +kernel, by decide +kernel⟩
abbrev s_Marks_bad : Stmt := inClass (top 25) 2
abbrev N_Marks_bad : List Str := ["self", "frame", "manner"]
abbrev P_Marks_bad : List Str := ["self", "frame"]
theorem sc_Marks_bad : FnScope N_Marks_bad P_Marks_bad (defScope s_Marks_bad) := ⟨rfl, rfl, rfl, by decide +kernel, rfl, by decide +kernel, by decide +kernel⟩
abbrev s_End_init : Stmt := inClass (top 31) 0
abbrev N_End_init : List Str := ["self", "can"]
abbrev P_End_init : List Str := ["self", "can"]
theorem sc_End_init : FnScope N_End_init P_End_init (defScope s_End_init) := ⟨rfl, rfl, rfl, by decide +kernel, rfl, by decide +kernel, by decide +kernel⟩
abbrev s_End_need_part : Stmt := inClass (top 31) 1
abbrev N_End_need_part : List Str := ["self", "part"]
abbrev P_End_need_part : List Str := ["self", "part"]
theorem sc_End_need_part : FnScope N_End_need_part P_End_need_part (defScope s_End_need_part) := ⟨rfl, rfl, rfl, by decide +kernel, rfl, by decide +kernel, by decide +kernel⟩
abbrev s_End_refresh : Stmt := inClass (top 31) 2
abbrev N_End_refresh : List Str := ["self", "mind"]
abbrev P_End_refresh : List Str := ["self"]
theorem sc_End_refresh : FnScope N_End_refresh P_End_refresh (defScope s_End_refresh) := ⟨rfl, rfl, rfl, by decide +kernel, rfl, by decide +kernel, by decide +kernel⟩
abbrev s_End_take : Stmt := inClass (top 31) 3
abbrev N_End_take : List Str := ["self"]
abbrev P_End_take : List Str := ["self"]
theorem sc_End_take : FnScope N_End_take P_End_take (defScope s_End_take) := ⟨rfl, rfl, rfl, by decide +kernel, rfl, by decide +kernel, by decide +kernel⟩
abbrev s_End_say : Stmt := inClass (top 31) 4
abbrev N_End_say : List Str := ["self", "part", "item"]
abbrev P_End_say : List Str := ["self", "part"]
theorem sc_End_say : FnScope N_End_say P_End_say (defScope s_End_say) := ⟨rfl, rfl, rfl, by decide +kernel, rfl, by decide +kernel, by decide +kernel⟩
abbrev s_End_hear : Stmt := inClass (top 31) 5
abbrev N_End_hear : List Str := ["self", "part", "letter"]
abbrev P_End_hear : List Str := ["self", "part", "letter"]
theorem sc_End_hear : FnScope N_End_hear P_End_hear (defScope s_End_hear) := ⟨rfl, rfl, rfl, by decide +kernel, rfl, by decide +kernel, by decide +kernel⟩
abbrev s_End_hear_slow : Stmt := inClass (top 31) 6
abbrev N_End_hear_slow : List Str := ["self", "letter"]
abbrev P_End_hear_slow : List Str := ["self", "letter"]
theorem sc_End_hear_slow : FnScope N_End_hear_slow P_End_hear_slow (defScope s_End_hear_slow) := ⟨rfl, rfl, rfl, by decide +kernel, rfl, by decide +kernel, by decide +kernel⟩
abbrev s_End_hear_fast : Stmt := inClass (top 31) 7
abbrev N_End_hear_fast : List Str := ["self", "letter", "number", "item", "came"]
abbrev P_End_hear_fast : List Str := ["self", "letter"]
theorem sc_End_hear_fast : FnScope N_End_hear_fast P_End_hear_fast (defScope s_End_hear_fast) := ⟨rfl, rfl, rfl, by decide +kernel, rfl, by decide +kernel, by decide +kernel⟩
abbrev s_End_send : Stmt := inClass (top 31) 8
abbrev N_End_send : List Str := ["self", "item"]
abbrev P_End_send : List Str := ["self", "item"]
theorem sc_End_send : FnScope N_End_send P_End_send (defScope s_End_send) := ⟨rfl, rfl, rfl, by decide +kernel, rfl, by decide +kernel, by decide +kernel⟩
abbrev s_End_got : Stmt := inClass (top 31) 9
abbrev N_End_got : List Str := ["self"]
abbrev P_End_got : List Str := ["self"]
theorem sc_End_got : FnScope N_End_got P_End_got (defScope s_End_got) := ⟨rfl, rfl, rfl, by decide +kernel, rfl, by decide +kernel, by decide +kernel⟩
abbrev s_End_left : Stmt := inClass (top 31) 10
abbrev N_End_left : List Str := ["self"]
abbrev P_End_left : List Str := ["self"]
theorem sc_End_left : FnScope N_End_left P_End_left (defScope s_End_left) := ⟨rfl, rfl, rfl, by decide +kernel, rfl, by decide +kernel, by decide +kernel⟩
abbrev s_End_stands : Stmt := inClass (top 31) 11
abbrev N_End_stands : List Str := ["self"]
abbrev P_End_stands : List Str := ["self"]
theorem sc_End_stands : FnScope N_End_stands P_End_stands (defScope s_End_stands) := ⟨rfl, rfl, rfl, by decide +kernel, rfl, by decide +kernel, by decide +kernel⟩
abbrev s_Line_init : Stmt := inClass (top 34) 0
abbrev N_Line_init : List Str := ["self", "one", "other"]
abbrev P_Line_init : List Str := ["self", "one", "other"]
theorem sc_Line_init : FnScope N_Line_init P_Line_init (defScope s_Line_init) := ⟨rfl, rfl, rfl, by decide +kernel, rfl, by decide +kernel, by decide +kernel⟩
abbrev s_Line_let_pass : Stmt := inClass (top 34) 1
abbrev N_Line_let_pass : List Str := ["self", "end", "manners"]
abbrev P_Line_let_pass : List Str := ["self", "end", "manners"]
theorem sc_Line_let_pass : FnScope N_Line_let_pass P_Line_let_pass (defScope s_Line_let_pass) := ⟨rfl, rfl, rfl, by decide +kernel, rfl, by decide +kernel, by decide +kernel⟩
abbrev s_Line_lose : Stmt := inClass (top 34) 2
abbrev N_Line_lose : List Str := ["self", "part", "end"]
abbrev P_Line_lose : List Str := ["self", "part", "end"]
theorem sc_Line_lose : FnScope N_Line_lose P_Line_lose (defScope s_Line_lose) := ⟨rfl, rfl, rfl, by decide +kernel, rfl, by decide +kernel, by decide +kernel⟩
abbrev s_Line_send : Stmt := inClass (top 34) 3
abbrev N_Line_send : List Str := ["self", "end", "item"]
abbrev P_Line_send : List Str := ["self", "end", "item"]
theorem sc_Line_send : FnScope N_Line_send P_Line_send (defScope s_Line_send) := ⟨rfl, rfl, rfl, by decide +kernel, rfl, by decide +kernel, by decide +kernel⟩
abbrev s_Line_carry : Stmt := inClass (top 34) 4
abbrev N_Line_carry : List Str := ["self", "part", "said", "end", "number", "comes"]
abbrev P_Line_carry : List Str := ["self", "part"]
theorem sc_Line_carry : FnScope N_Line_carry P_Line_carry (defScope s_Line_carry) := ⟨rfl, rfl, rfl, by decide +kernel, rfl, by decide +kernel, by decide +kernel⟩
abbrev s_Line_frame : Stmt := inClass (top 34) 5
abbrev N_Line_frame : List Str := ["self"]
abbrev P_Line_frame : List Str := ["self"]
theorem sc_Line_frame : FnScope N_Line_frame P_Line_frame (defScope s_Line_frame) := ⟨rfl, rfl, rfl, by decide +kernel, rfl, by decide +kernel, by decide +kernel⟩
abbrev s_Line_log : Stmt := inClass (top 34) 6
abbrev N_Line_log : List Str := ["self"]
abbrev P_Line_log : List Str := ["self"]
theorem sc_Line_log : FnScope N_Line_log P_Line_log (defScope s_Line_log) := ⟨rfl, rfl, rfl, by decide +kernel, rfl, by decide +kernel, by decide +kernel⟩
abbrev s_Line_got : Stmt := inClass (top 34) 7
abbrev N_Line_got : List Str := ["self", "end"]
abbrev P_Line_got : List Str := ["self", "end"]
theorem sc_Line_got : FnScope N_Line_got P_Line_got (defScope s_Line_got) := ⟨rfl, rfl, rfl, by decide +kernel, rfl, by decide +kernel, by decide +kernel⟩
abbrev s_Line_left : Stmt := inClass (top 34) 8
abbrev N_Line_left : List Str := ["self", "end"]
abbrev P_Line_left : List Str := ["self", "end"]
theorem sc_Line_left : FnScope N_Line_left P_Line_left (defScope s_Line_left) := ⟨rfl, rfl, rfl, by decide +kernel, rfl, by decide +kernel, by decide +kernel⟩
/-- what the top has written -/
structure Txt (w : World) (K : PySem.W.Frag) (mg : Str → Option Value) where
  a_is_between : Addr
  fd_is_between : FuncData
  F_is_between : Fun K "is_between" "is_between" s_is_between a_is_between fd_is_between
  g_is_between : mg "is_between" = some (.ref a_is_between)
  b_is_between : Binds K fd_is_between P_is_between []
  a_are_manners : Addr
  fd_are_manners : FuncData
  F_are_manners : Fun K "are_manners" "are_manners" s_are_manners a_are_manners fd_are_manners
  g_are_manners : mg "are_manners" = some (.ref a_are_manners)
  b_are_manners : Binds K fd_are_manners P_are_manners []
  a_need_manners : Addr
  fd_need_manners : FuncData
  F_need_manners : Fun K "need_manners" "need_manners" s_need_manners a_need_manners fd_need_manners
  g_need_manners : mg "need_manners" = some (.ref a_need_manners)
  b_need_manners : Binds K fd_need_manners P_need_manners []
  a_chosen : Addr
  fd_chosen : FuncData
  F_chosen : Fun K "chosen" "chosen" s_chosen a_chosen fd_chosen
  g_chosen : mg "chosen" = some (.ref a_chosen)
  b_chosen : Binds K fd_chosen P_chosen []
  a_need_manner : Addr
  fd_need_manner : FuncData
  F_need_manner : Fun K "need_manner" "need_manner" s_need_manner a_need_manner fd_need_manner
  g_need_manner : mg "need_manner" = some (.ref a_need_manner)
  b_need_manner : Binds K fd_need_manner P_need_manner []
  a_need_end : Addr
  fd_need_end : FuncData
  F_need_end : Fun K "need_end" "need_end" s_need_end a_need_end fd_need_end
  g_need_end : mg "need_end" = some (.ref a_need_end)
  b_need_end : Binds K fd_need_end P_need_end []
  a_is_row : Addr
  fd_is_row : FuncData
  F_is_row : Fun K "is_row" "is_row" s_is_row a_is_row fd_is_row
  g_is_row : mg "is_row" = some (.ref a_is_row)
  b_is_row : Binds K fd_is_row P_is_row []
  a_need_log : Addr
  fd_need_log : FuncData
  F_need_log : Fun K "need_log" "need_log" s_need_log a_need_log fd_need_log
  g_need_log : mg "need_log" = some (.ref a_need_log)
  b_need_log : Binds K fd_need_log P_need_log []
  a_stretches : Addr
  fd_stretches : FuncData
  F_stretches : Fun K "stretches" "stretches" s_stretches a_stretches fd_stretches
  g_stretches : mg "stretches" = some (.ref a_stretches)
  b_stretches : Binds K fd_stretches P_stretches []
  a_is_field : Addr
  fd_is_field : FuncData
  F_is_field : Fun K "is_field" "is_field" s_is_field a_is_field fd_is_field
  g_is_field : mg "is_field" = some (.ref a_is_field)
  b_is_field : Binds K fd_is_field P_is_field []
  a_is_step : Addr
  fd_is_step : FuncData
  F_is_step : Fun K "is_step" "is_step" s_is_step a_is_step fd_is_step
  g_is_step : mg "is_step" = some (.ref a_is_step)
  b_is_step : Binds K fd_is_step P_is_step []
  a_need_steps : Addr
  fd_need_steps : FuncData
  F_need_steps : Fun K "need_steps" "need_steps" s_need_steps a_need_steps fd_need_steps
  g_need_steps : mg "need_steps" = some (.ref a_need_steps)
  b_need_steps : Binds K fd_need_steps P_need_steps []
  a_done : Addr
  fd_done : FuncData
  F_done : Fun K "done" "done" s_done a_done fd_done
  g_done : mg "done" = some (.ref a_done)
  b_done : Binds K fd_done P_done []
  a_arrange : Addr
  fd_arrange : FuncData
  F_arrange : Fun K "arrange" "arrange" s_arrange a_arrange fd_arrange
  g_arrange : mg "arrange" = some (.ref a_arrange)
  b_arrange : Binds K fd_arrange P_arrange []
  a_played : Addr
  fd_played : FuncData
  F_played : Fun K "played" "played" s_played a_played fd_played
  g_played : mg "played" = some (.ref a_played)
  b_played : Binds K fd_played P_played []
  a_word_of : Addr
  fd_word_of : FuncData
  F_word_of : Fun K "word_of" "word_of" s_word_of a_word_of fd_word_of
  g_word_of : mg "word_of" = some (.ref a_word_of)
  b_word_of : Binds K fd_word_of P_word_of []
  a_lines_of : Addr
  fd_lines_of : FuncData
  F_lines_of : Fun K "lines_of" "lines_of" s_lines_of a_lines_of fd_lines_of
  g_lines_of : mg "lines_of" = some (.ref a_lines_of)
  b_lines_of : Binds K fd_lines_of P_lines_of []
  a__law_dice : Addr
  fd__law_dice : FuncData
  F__law_dice : Fun K "_law_dice" "_law_dice" s__law_dice a__law_dice fd__law_dice
  g__law_dice : mg "_law_dice" = some (.ref a__law_dice)
  b__law_dice : Binds K fd__law_dice P__law_dice []
  a__law_off : Addr
  fd__law_off : FuncData
  F__law_off : Fun K "_law_off" "_law_off" s__law_off a__law_off fd__law_off
  g__law_off : mg "_law_off" = some (.ref a__law_off)
  b__law_off : Binds K fd__law_off P__law_off []
  a__law_alike : Addr
  fd__law_alike : FuncData
  F__law_alike : Fun K "_law_alike" "_law_alike" s__law_alike a__law_alike fd__law_alike
  g__law_alike : mg "_law_alike" = some (.ref a__law_alike)
  b__law_alike : Binds K fd__law_alike P__law_alike []
  a__law_word : Addr
  fd__law_word : FuncData
  F__law_word : Fun K "_law_word" "_law_word" s__law_word a__law_word fd__law_word
  g__law_word : mg "_law_word" = some (.ref a__law_word)
  b__law_word : Binds K fd__law_word P__law_word []
  a__law_can : Addr
  fd__law_can : FuncData
  F__law_can : Fun K "_law_can" "_law_can" s__law_can a__law_can fd__law_can
  g__law_can : mg "_law_can" = some (.ref a__law_can)
  b__law_can : Binds K fd__law_can P__law_can []
  a__law_step : Addr
  fd__law_step : FuncData
  F__law_step : Fun K "_law_step" "_law_step" s__law_step a__law_step fd__law_step
  g__law_step : mg "_law_step" = some (.ref a__law_step)
  b__law_step : Binds K fd__law_step P__law_step []
  a__law_steps : Addr
  fd__law_steps : FuncData
  F__law_steps : Fun K "_law_steps" "_law_steps" s__law_steps a__law_steps fd__law_steps
  g__law_steps : mg "_law_steps" = some (.ref a__law_steps)
  b__law_steps : Binds K fd__law_steps P__law_steps []
  a__law_no_step : Addr
  fd__law_no_step : FuncData
  F__law_no_step : Fun K "_law_no_step" "_law_no_step" s__law_no_step a__law_no_step fd__law_no_step
  g__law_no_step : mg "_law_no_step" = some (.ref a__law_no_step)
  b__law_no_step : Binds K fd__law_no_step P__law_no_step []
  a__law_tells : Addr
  fd__law_tells : FuncData
  F__law_tells : Fun K "_law_tells" "_law_tells" s__law_tells a__law_tells fd__law_tells
  g__law_tells : mg "_law_tells" = some (.ref a__law_tells)
  b__law_tells : Binds K fd__law_tells P__law_tells []
  a_law : Addr
  fd_law : FuncData
  F_law : Fun K "law" "law" s_law a_law fd_law
  g_law : mg "law" = some (.ref a_law)
  b_law : Binds K fd_law P_law []
  a_BadStep_init : Addr
  fd_BadStep_init : FuncData
  F_BadStep_init : Fun K "__init__" "BadStep.__init__" s_BadStep_init a_BadStep_init fd_BadStep_init
  b_BadStep_init : Binds K fd_BadStep_init P_BadStep_init []
  a_Marks_init : Addr
  fd_Marks_init : FuncData
  F_Marks_init : Fun K "__init__" "Marks.__init__" s_Marks_init a_Marks_init fd_Marks_init
  b_Marks_init : Binds K fd_Marks_init P_Marks_init []
  a_Marks_note : Addr
  fd_Marks_note : FuncData
  F_Marks_note : Fun K "note" "Marks.note" s_Marks_note a_Marks_note fd_Marks_note
  b_Marks_note : Binds K fd_Marks_note P_Marks_note []
  a_Marks_bad : Addr
  fd_Marks_bad : FuncData
  F_Marks_bad : Fun K "bad" "Marks.bad" s_Marks_bad a_Marks_bad fd_Marks_bad
  b_Marks_bad : Binds K fd_Marks_bad P_Marks_bad []
  a_End_init : Addr
  fd_End_init : FuncData
  F_End_init : Fun K "__init__" "End.__init__" s_End_init a_End_init fd_End_init
  b_End_init : Binds K fd_End_init P_End_init []
  a_End_need_part : Addr
  fd_End_need_part : FuncData
  F_End_need_part : Fun K "need_part" "End.need_part" s_End_need_part a_End_need_part fd_End_need_part
  b_End_need_part : Binds K fd_End_need_part P_End_need_part []
  a_End_refresh : Addr
  fd_End_refresh : FuncData
  F_End_refresh : Fun K "refresh" "End.refresh" s_End_refresh a_End_refresh fd_End_refresh
  b_End_refresh : Binds K fd_End_refresh P_End_refresh []
  a_End_take : Addr
  fd_End_take : FuncData
  F_End_take : Fun K "take" "End.take" s_End_take a_End_take fd_End_take
  b_End_take : Binds K fd_End_take P_End_take []
  a_End_say : Addr
  fd_End_say : FuncData
  F_End_say : Fun K "say" "End.say" s_End_say a_End_say fd_End_say
  b_End_say : Binds K fd_End_say P_End_say []
  a_End_hear : Addr
  fd_End_hear : FuncData
  F_End_hear : Fun K "hear" "End.hear" s_End_hear a_End_hear fd_End_hear
  b_End_hear : Binds K fd_End_hear P_End_hear []
  a_End_hear_slow : Addr
  fd_End_hear_slow : FuncData
  F_End_hear_slow : Fun K "hear_slow" "End.hear_slow" s_End_hear_slow a_End_hear_slow fd_End_hear_slow
  b_End_hear_slow : Binds K fd_End_hear_slow P_End_hear_slow []
  a_End_hear_fast : Addr
  fd_End_hear_fast : FuncData
  F_End_hear_fast : Fun K "hear_fast" "End.hear_fast" s_End_hear_fast a_End_hear_fast fd_End_hear_fast
  b_End_hear_fast : Binds K fd_End_hear_fast P_End_hear_fast []
  a_End_send : Addr
  fd_End_send : FuncData
  F_End_send : Fun K "send" "End.send" s_End_send a_End_send fd_End_send
  b_End_send : Binds K fd_End_send P_End_send []
  a_End_got : Addr
  fd_End_got : FuncData
  F_End_got : Fun K "got" "End.got" s_End_got a_End_got fd_End_got
  b_End_got : Binds K fd_End_got P_End_got []
  a_End_left : Addr
  fd_End_left : FuncData
  F_End_left : Fun K "left" "End.left" s_End_left a_End_left fd_End_left
  b_End_left : Binds K fd_End_left P_End_left []
  a_End_stands : Addr
  fd_End_stands : FuncData
  F_End_stands : Fun K "stands" "End.stands" s_End_stands a_End_stands fd_End_stands
  b_End_stands : Binds K fd_End_stands P_End_stands []
  a_Line_init : Addr
  fd_Line_init : FuncData
  F_Line_init : Fun K "__init__" "Line.__init__" s_Line_init a_Line_init fd_Line_init
  b_Line_init : Binds K fd_Line_init P_Line_init []
  a_Line_let_pass : Addr
  fd_Line_let_pass : FuncData
  F_Line_let_pass : Fun K "let_pass" "Line.let_pass" s_Line_let_pass a_Line_let_pass fd_Line_let_pass
  b_Line_let_pass : Binds K fd_Line_let_pass P_Line_let_pass []
  a_Line_lose : Addr
  fd_Line_lose : FuncData
  F_Line_lose : Fun K "lose" "Line.lose" s_Line_lose a_Line_lose fd_Line_lose
  b_Line_lose : Binds K fd_Line_lose P_Line_lose []
  a_Line_send : Addr
  fd_Line_send : FuncData
  F_Line_send : Fun K "send" "Line.send" s_Line_send a_Line_send fd_Line_send
  b_Line_send : Binds K fd_Line_send P_Line_send []
  a_Line_carry : Addr
  fd_Line_carry : FuncData
  F_Line_carry : Fun K "carry" "Line.carry" s_Line_carry a_Line_carry fd_Line_carry
  b_Line_carry : Binds K fd_Line_carry P_Line_carry []
  a_Line_frame : Addr
  fd_Line_frame : FuncData
  F_Line_frame : Fun K "frame" "Line.frame" s_Line_frame a_Line_frame fd_Line_frame
  b_Line_frame : Binds K fd_Line_frame P_Line_frame []
  a_Line_log : Addr
  fd_Line_log : FuncData
  F_Line_log : Fun K "log" "Line.log" s_Line_log a_Line_log fd_Line_log
  b_Line_log : Binds K fd_Line_log P_Line_log []
  a_Line_got : Addr
  fd_Line_got : FuncData
  F_Line_got : Fun K "got" "Line.got" s_Line_got a_Line_got fd_Line_got
  b_Line_got : Binds K fd_Line_got P_Line_got []
  a_Line_left : Addr
  fd_Line_left : FuncData
  F_Line_left : Fun K "left" "Line.left" s_Line_left a_Line_left fd_Line_left
  b_Line_left : Binds K fd_Line_left P_Line_left []
  C_Marks : Addr
  c_Marks : mg "Marks" = some (.ref C_Marks)
  cl_Marks : Cls K C_Marks
  no_Marks_waits : NoAttr K C_Marks "waits"
  no_Marks_until : NoAttr K C_Marks "until"
  no_Marks_runs : NoAttr K C_Marks "runs"
  no_Marks_tries : NoAttr K C_Marks "tries"
  M_Marks : Mk K C_Marks a_Marks_init
  m_Marks_note : Meth K C_Marks "note" a_Marks_note
  m_Marks_bad : Meth K C_Marks "bad" a_Marks_bad
  C_End : Addr
  c_End : mg "End" = some (.ref C_End)
  cl_End : Cls K C_End
  no_End_can : NoAttr K C_End "can"
  no_End_marks : NoAttr K C_End "marks"
  no_End_over : NoAttr K C_End "over"
  no_End_version : NoAttr K C_End "version"
  no_End_mind : NoAttr K C_End "mind"
  no_End_other : NoAttr K C_End "other"
  no_End_seen : NoAttr K C_End "seen"
  no_End_known : NoAttr K C_End "known"
  no_End_ready : NoAttr K C_End "ready"
  no_End_now : NoAttr K C_End "now"
  no_End_joined : NoAttr K C_End "joined"
  no_End_waiting : NoAttr K C_End "waiting"
  no_End_count : NoAttr K C_End "count"
  no_End_gathered : NoAttr K C_End "gathered"
  no_End_part : NoAttr K C_End "part"
  M_End : Mk K C_End a_End_init
  m_End_need_part : Meth K C_End "need_part" a_End_need_part
  m_End_refresh : Meth K C_End "refresh" a_End_refresh
  m_End_take : Meth K C_End "take" a_End_take
  m_End_say : Meth K C_End "say" a_End_say
  m_End_hear : Meth K C_End "hear" a_End_hear
  m_End_hear_slow : Meth K C_End "hear_slow" a_End_hear_slow
  m_End_hear_fast : Meth K C_End "hear_fast" a_End_hear_fast
  m_End_send : Meth K C_End "send" a_End_send
  m_End_got : Meth K C_End "got" a_End_got
  m_End_left : Meth K C_End "left" a_End_left
  m_End_stands : Meth K C_End "stands" a_End_stands
  C_Line : Addr
  c_Line : mg "Line" = some (.ref C_Line)
  cl_Line : Cls K C_Line
  no_Line_ends : NoAttr K C_Line "ends"
  no_Line_passing : NoAttr K C_Line "passing"
  no_Line_lost : NoAttr K C_Line "lost"
  no_Line_rows : NoAttr K C_Line "rows"
  M_Line : Mk K C_Line a_Line_init
  m_Line_let_pass : Meth K C_Line "let_pass" a_Line_let_pass
  m_Line_lose : Meth K C_Line "lose" a_Line_lose
  m_Line_send : Meth K C_Line "send" a_Line_send
  m_Line_carry : Meth K C_Line "carry" a_Line_carry
  m_Line_frame : Meth K C_Line "frame" a_Line_frame
  m_Line_log : Meth K C_Line "log" a_Line_log
  m_Line_got : Meth K C_Line "got" a_Line_got
  m_Line_left : Meth K C_Line "left" a_Line_left
  C_LineError : Addr
  c_LineError : mg "LineError" = some (.ref C_LineError)
  x_LineError : PySem.W.excIn K C_LineError [.type "ValueError", .type "Exception", .type "BaseException", .type "object"] "ValueError.__new__" = true
  k_LineError : PySem.W.keepIn K (.ref C_LineError) = true
  s_LineError : PySem.W.subIn K (.ref C_LineError) (.type "BaseException") = some true
  t_LineError : PySem.W.typeIn K (.ref C_LineError) = some (.type "type")
  C_BadManners : Addr
  c_BadManners : mg "BadManners" = some (.ref C_BadManners)
  x_BadManners : PySem.W.excIn K C_BadManners [.type "ValueError", .type "Exception", .type "BaseException", .type "object"] "ValueError.__new__" = true
  k_BadManners : PySem.W.keepIn K (.ref C_BadManners) = true
  s_BadManners : PySem.W.subIn K (.ref C_BadManners) (.type "BaseException") = some true
  t_BadManners : PySem.W.typeIn K (.ref C_BadManners) = some (.type "type")
  C_BadItem : Addr
  c_BadItem : mg "BadItem" = some (.ref C_BadItem)
  x_BadItem : PySem.W.excIn K C_BadItem [.type "ValueError", .type "Exception", .type "BaseException", .type "object"] "ValueError.__new__" = true
  k_BadItem : PySem.W.keepIn K (.ref C_BadItem) = true
  s_BadItem : PySem.W.subIn K (.ref C_BadItem) (.type "BaseException") = some true
  t_BadItem : PySem.W.typeIn K (.ref C_BadItem) = some (.type "type")
  C_Full : Addr
  c_Full : mg "Full" = some (.ref C_Full)
  x_Full : PySem.W.excIn K C_Full [.type "ValueError", .type "Exception", .type "BaseException", .type "object"] "ValueError.__new__" = true
  q_Full : PySem.W.exmOne K (.ref C_Full) (.ref C_Full) = some true
  k_Full : PySem.W.keepIn K (.ref C_Full) = true
  s_Full : PySem.W.subIn K (.ref C_Full) (.type "BaseException") = some true
  t_Full : PySem.W.typeIn K (.ref C_Full) = some (.type "type")
  C_BadPart : Addr
  c_BadPart : mg "BadPart" = some (.ref C_BadPart)
  x_BadPart : PySem.W.excIn K C_BadPart [.type "ValueError", .type "Exception", .type "BaseException", .type "object"] "ValueError.__new__" = true
  k_BadPart : PySem.W.keepIn K (.ref C_BadPart) = true
  s_BadPart : PySem.W.subIn K (.ref C_BadPart) (.type "BaseException") = some true
  t_BadPart : PySem.W.typeIn K (.ref C_BadPart) = some (.type "type")
  C_BadCount : Addr
  c_BadCount : mg "BadCount" = some (.ref C_BadCount)
  x_BadCount : PySem.W.excIn K C_BadCount [.type "ValueError", .type "Exception", .type "BaseException", .type "object"] "ValueError.__new__" = true
  k_BadCount : PySem.W.keepIn K (.ref C_BadCount) = true
  s_BadCount : PySem.W.subIn K (.ref C_BadCount) (.type "BaseException") = some true
  t_BadCount : PySem.W.typeIn K (.ref C_BadCount) = some (.type "type")
  C_BadEnd : Addr
  c_BadEnd : mg "BadEnd" = some (.ref C_BadEnd)
  x_BadEnd : PySem.W.excIn K C_BadEnd [.type "ValueError", .type "Exception", .type "BaseException", .type "object"] "ValueError.__new__" = true
  k_BadEnd : PySem.W.keepIn K (.ref C_BadEnd) = true
  s_BadEnd : PySem.W.subIn K (.ref C_BadEnd) (.type "BaseException") = some true
  t_BadEnd : PySem.W.typeIn K (.ref C_BadEnd) = some (.type "type")
  C_BadStep : Addr
  c_BadStep : mg "BadStep" = some (.ref C_BadStep)
  k_BadStep : PySem.W.keepIn K (.ref C_BadStep) = true
  s_BadStep : PySem.W.subIn K (.ref C_BadStep) (.type "BaseException") = some true
  t_BadStep : PySem.W.typeIn K (.ref C_BadStep) = some (.type "type")
  C_BadLog : Addr
  c_BadLog : mg "BadLog" = some (.ref C_BadLog)
  k_BadLog : PySem.W.keepIn K (.ref C_BadLog) = true
  s_BadLog : PySem.W.subIn K (.ref C_BadLog) (.type "BaseException") = some true
  t_BadLog : PySem.W.typeIn K (.ref C_BadLog) = some (.type "type")
  C_BadText : Addr
  c_BadText : mg "BadText" = some (.ref C_BadText)
  k_BadText : PySem.W.keepIn K (.ref C_BadText) = true
  s_BadText : PySem.W.subIn K (.ref C_BadText) (.type "BaseException") = some true
  t_BadText : PySem.W.typeIn K (.ref C_BadText) = some (.type "type")
  bc_LineError : BaseC K C_LineError
  ox_BadStep : OexC K C_BadStep
  iC_BadStep : PySem.W.findIn K (.ref C_BadStep) "__init__" = some (some (.ref a_BadStep_init))
  tI_BadStep : PySem.W.typeIn K (.ref a_BadStep_init) = some (.type "function")
  nx_BadStep_at : PySem.W.findIn K (.ref C_BadStep) "at" = some none
  xf_BadStep : XfC K C_BadStep
  wk_BadManners : Kind K [C_BadManners, C_BadCount, C_BadPart, C_BadItem, C_Full, C_BadLog, C_BadText, C_BadEnd, C_BadStep] C_LineError C_BadManners 0
  wk_BadStep : Kind K [C_BadManners, C_BadCount, C_BadPart, C_BadItem, C_Full, C_BadLog, C_BadText, C_BadEnd, C_BadStep] C_LineError C_BadStep 8
  lC : Addr
  lP : Addr
  fl : FunC K "law" "law" s_law a_law fd_law lC
  tk_MOST : Tok
  v_MOST : mg "MOST" = some (.int 9 tk_MOST)
  tk_FIRST : Tok
  v_FIRST : mg "FIRST" = some (.int 16 tk_FIRST)
  tk_LONGEST : Tok
  v_LONGEST : mg "LONGEST" = some (.int 256 tk_LONGEST)
  tk_STAYS : Tok
  v_STAYS : mg "STAYS" = some (.int 32 tk_STAYS)
  tk_LOST : Tok
  v_LOST : mg "LOST" = some (.int 3 tk_LOST)
  tk_LAST : Tok
  v_LAST : mg "LAST" = some (.int 6 tk_LAST)
  tk_MOST_FRAME : Tok
  v_MOST_FRAME : mg "MOST_FRAME" = some (.int 1000000 tk_MOST_FRAME)
  tk_SLOW : Tok
  v_SLOW : mg "SLOW" = some (.int 0 tk_SLOW)
  tk_FAST : Tok
  v_FAST : mg "FAST" = some (.int 1 tk_FAST)
  tk_MOST_ITEMS : Tok
  v_MOST_ITEMS : mg "MOST_ITEMS" = some (.int 20 tk_MOST_ITEMS)
  tk_MOST_ITEM : Tok
  v_MOST_ITEM : mg "MOST_ITEM" = some (.int 999 tk_MOST_ITEM)
  tk_MOST_ROWS : Tok
  v_MOST_ROWS : mg "MOST_ROWS" = some (.int 300 tk_MOST_ROWS)
  tk_MOST_STEPS : Tok
  v_MOST_STEPS : mg "MOST_STEPS" = some (.int 200 tk_MOST_STEPS)
  tk_MOST_FRAMES : Tok
  v_MOST_FRAMES : mg "MOST_FRAMES" = some (.int 100 tk_MOST_FRAMES)
  a_FORMS : Addr
  v_FORMS : mg "FORMS" = some (.ref a_FORMS)
  kd_FORMS : ∃ es n, KDict K w a_FORMS es n
  u_FORMS_0 : ∃ u, PySem.W.nsIn K a_FORMS "frames" = some (some u) ∧ RelV (.str "c") u
  u_FORMS_1 : ∃ u, PySem.W.nsIn K a_FORMS "pass" = some (some u) ∧ RelV (.str "em") u
  u_FORMS_2 : ∃ u, PySem.W.nsIn K a_FORMS "lose" = some (some u) ∧ RelV (.str "pe") u
  u_FORMS_3 : ∃ u, PySem.W.nsIn K a_FORMS "send" = some (some u) ∧ RelV (.str "ei") u
  u_FORMS_4 : ∃ u, PySem.W.nsIn K a_FORMS "got" = some (some u) ∧ RelV (.str "e") u
  u_FORMS_5 : ∃ u, PySem.W.nsIn K a_FORMS "left" = some (some u) ∧ RelV (.str "e") u
  u_FORMS_6 : ∃ u, PySem.W.nsIn K a_FORMS "joined" = some (some u) ∧ RelV (.str "") u
  nf_FORMS_0 : PySem.W.nsIn K a_FORMS "Frames" = some none
  nf_FORMS_1 : PySem.W.nsIn K a_FORMS "" = some none
  a_BOUNDS : Addr
  v_BOUNDS : mg "BOUNDS" = some (.ref a_BOUNDS)
  kd_BOUNDS : ∃ es n, KDict K w a_BOUNDS es n
  u_BOUNDS_0 : ∃ (a : Addr) (ob : Obj) (its : Array Value) (n : Nat), PySem.W.nsIn K a_BOUNDS "c" = some (some (.ref a)) ∧ K.lookup a = some ob ∧ ob.cls = .type "tuple" ∧ ob.data = .seq its n ∧ its.size ≤ sizeLine ∧ Vals [.int 1, .int 100] its.toList
  u_BOUNDS_1 : ∃ (a : Addr) (ob : Obj) (its : Array Value) (n : Nat), PySem.W.nsIn K a_BOUNDS "e" = some (some (.ref a)) ∧ K.lookup a = some ob ∧ ob.cls = .type "tuple" ∧ ob.data = .seq its n ∧ its.size ≤ sizeLine ∧ Vals [.int 0, .int 1] its.toList
  u_BOUNDS_2 : ∃ (a : Addr) (ob : Obj) (its : Array Value) (n : Nat), PySem.W.nsIn K a_BOUNDS "p" = some (some (.ref a)) ∧ K.lookup a = some ob ∧ ob.cls = .type "tuple" ∧ ob.data = .seq its n ∧ its.size ≤ sizeLine ∧ Vals [.int 0, .int 1] its.toList
  u_BOUNDS_3 : ∃ (a : Addr) (ob : Obj) (its : Array Value) (n : Nat), PySem.W.nsIn K a_BOUNDS "i" = some (some (.ref a)) ∧ K.lookup a = some ob ∧ ob.cls = .type "tuple" ∧ ob.data = .seq its n ∧ its.size ≤ sizeLine ∧ Vals [.int 0, .int 999] its.toList
  n_ValueError : mg "ValueError" = none
  n_abs : mg "abs" = none
  n_all : mg "all" = none
  n_bool : mg "bool" = none
  n_enumerate : mg "enumerate" = none
  n_int : mg "int" = none
  n_isinstance : mg "isinstance" = none
  n_len : mg "len" = none
  n_list : mg "list" = none
  n_max : mg "max" = none
  n_min : mg "min" = none
  n_range : mg "range" = none
  n_set : mg "set" = none
  n_sorted : mg "sorted" = none
  n_str : mg "str" = none
  n_tuple : mg "tuple" = none
end TL

namespace TL
open PySem PySem.Spec PyProof.Rows L2
section
variable {P : Program} {w : World} {K : PySem.W.Frag} {mg : Str → Option Value} {base : Heap}
def sp_is_between (T : Txt w K mg) : Sp := fun vs H Q _ => ∃ (x : V) (d : PyData) (lo hi : Int), vs = [x, .int lo, .int hi] ∧ Dp K H x d ∧ (∀ ds, d ≠ .list ds) ∧ Q (.bl (between d lo hi)) H
theorem ok_is_between (T : Txt w K mg) : FnOk P w K mg base CX0 1 T.a_is_between T.fd_is_between P_is_between (sp_is_between T) := by
  skip
  refine T.F_is_between.ok sc_is_between (fun vs H Q E h => ?_) (fun cdv A outer s H vs Q E hr h => ?_)
  · obtain ⟨x, d, lo, hi, rfl, _⟩ := h
    rfl
  · obtain ⟨x, d, lo, hi, rfl, hd, nl, k⟩ := h
    refine ⟨_, (pss_one (ps_ret (pe_and (pe_callB call_isi (by rfl) T.n_isinstance (by decide +kernel) (pa_cons (pv 0) (pa_cons (pe_bltn (v := .ty "int") (u := .type "int") (by rfl) T.n_int (by decide +kernel) rfl) pa_nil))) (pe_and (pe_not (pe_callB call_isi (by rfl) T.n_isinstance (by decide +kernel) (pa_cons (pv 0) (pa_cons (pe_bltn (v := .ty "bool") (u := .type "bool") (by rfl) T.n_bool (by decide +kernel) rfl) pa_nil)))) (pe_one (pe_chain op_le op_le (pv 1) (pv 0) (pv 2))))))), ?_⟩
    have k0 : ∀ {b : Bool}, between d lo hi = b → Q (.bl b) H := fun e => by rw [← e]; exact k
    cases d with
    | int i =>
      cases hd
      refine ⟨_, rfl, _, _, _, _, _, rfl, .ty _, tyx_D (.int i), kit_ty kb_ii, _, rfl, iteT ?_⟩
      refine ⟨_, rfl, _, _, _, _, _, rfl, .ty _, tyx_D (.int i), kit_ty kb_ib, _, rfl, _, rfl, iteT ?_⟩
      refine ⟨_, rfl, _, rfl, _, _, rfl, rfl, _, rfl, ?_⟩
      refine iteD (fun h1 => ⟨_, rfl, _, _, rfl, rfl, k0 ?_⟩) (fun h1 => k0 ?_)
      · simp [between, h1]
      · simp [between, h1]
    | bool b =>
      cases hd
      refine ⟨_, rfl, _, _, _, _, _, rfl, .ty _, tyx_D (.bl b), kit_ty kb_bi, _, rfl, iteT ?_⟩
      refine ⟨_, rfl, _, _, _, _, _, rfl, .ty _, tyx_D (.bl b), kit_ty kb_bb, _, rfl, _, rfl, iteF ?_⟩
      exact k0 rfl
    | none =>
      cases hd
      refine ⟨_, rfl, _, _, _, _, _, rfl, .ty _, tyx_D .non, kit_ty kb_ni, _, rfl, iteF ?_⟩
      exact k0 rfl
    | str z =>
      cases hd
      refine ⟨_, rfl, _, _, _, _, _, rfl, .ty _, tyx_D (.str z), kit_ty kb_si, _, rfl, iteF ?_⟩
      exact k0 rfl
    | tuple ds =>
      refine ⟨_, rfl, _, _, _, _, _, rfl, .ty _, tyx_D hd, kit_ty kb_ti, _, rfl, iteF ?_⟩
      exact k0 rfl
    | list ds => exact (nl ds rfl).elim
    | dict _ => cases hd

end
end TL

namespace TL
open PySem PySem.Spec PyProof.Rows L2
section
variable {P : Program} {w : World} {K : PySem.W.Frag} {mg : Str → Option Value} {base : Heap}
def sp_are_manners (T : Txt w K mg) : Sp := fun vs H Q _ => ∃ (x : V) (d : PyData), vs = [x] ∧ Dp K H x d ∧ mdat d ∧ ∀ H', Same H H' → Q (.bl (isMan d)) H'
theorem ok_are_manners (T : Txt w K mg) : FnOk P w K mg base CX0 2 T.a_are_manners T.fd_are_manners P_are_manners (sp_are_manners T) := by
  have G_is_between := ok_is_between (P := P) (w := w) (base := base) T
  refine T.F_are_manners.ok sc_are_manners (fun vs H Q E h => ?_) (fun cdv A outer s H vs Q E hr h => ?_)
  · obtain ⟨x, d, rfl, _⟩ := h
    rfl
  · obtain ⟨x, d, rfl, hd, hm, k⟩ := h
    have hu64 := hr.units
    refine ⟨_, (pss_cons (ps_if (PW.pt (pw_or (pt_not (pt_val (pe_callB call_isi (by rfl) T.n_isinstance (by decide +kernel) (pa_cons (pv 0) (pa_cons (pe_bltn (v := .ty "tuple") (u := .type "tuple") (by rfl) T.n_tuple (by decide +kernel) rfl) pa_nil))))) (pw_or1 (pt_cmpR (op_neD hu64) (pe_lc (own := [("one", 1)]) (g := (gName 1)) (tt := (tNot (tB (tCall _ [] E0 (tCons (tVar 1) (tCons (tC (.int 0)) (tCons (tC (.int 9)) tNil))))))) (te := (tVar 1)) rfl sc_are_manners.nd (pi_tup (pv 0)) (blkOk_by (own := [("one", 1)]) (N := N_are_manners) (sc := defScope s_are_manners) (by decide +kernel)) (fun _ _ _ _ _ => (pg_name (i := 1) sc_are_manners.nd rfl (by first | exact Or.inl rfl | exact Or.inr rfl))) (fun _ _ _ _ _ => (pts_one (pt_not (pt_val (pe_call G_is_between (hr.mono (by decide)) rfl T.g_is_between T.F_is_between.kp T.b_is_between .nil pass0 (pa_cons (pv 1) (pa_cons pe_int (pa_cons (pe_glob (v := .int 9) rfl T.v_MOST ⟨_, rfl⟩) pa_nil)))))))) (fun _ _ _ _ _ => (pv 1))) (pe_lst pa_nil) (nomark _)))))
      (pss_one (ps_ret pe_bl))
      pss_nil)
    (pss_one (ps_ret (pe_and (pe_cmpR (op_eqD hu64) (pe_callTy call_list_of (by rfl) T.n_list (by decide +kernel) (pa_cons (pv 0) pa_nil)) (pe_callB (cr_sortedSet rfl) (by rfl) T.n_sorted (by decide +kernel) (pa_cons (pe_callTy (cr_setT rfl) (by rfl) T.n_set (by decide +kernel) (pa_cons (pv 0) pa_nil)) pa_nil)) (nomark _)) (pe_one (pe_cmpR op_in_seq pe_int (pv 0) (by rfl))))))), ?_⟩
    have no : ∀ {c : String} {b : Bool}, kty d = c → kitB c "tuple" = some b → rIsi K [x, .ty "tuple"] H (fun v _ => v = .bl b) := fun e z => ⟨_, _, _, _, _, rfl, .ty _, tyx_D hd, kit_ty (by rw [e]; exact z), rfl⟩
    have k0 : ∀ {b : Bool} {H'}, isMan d = b → Same H H' → Q (.bl b) H' := fun e s => by rw [← e]; exact k _ s
    cases d with
    | none => cases hd; exact ⟨_, rfl, _, _, _, _, _, rfl, .ty _, tyx_D .non, kit_ty kb_nt, _, rfl, iteT (iteT (k0 rfl (.refl _)))⟩
    | bool b => cases hd; exact ⟨_, rfl, _, _, _, _, _, rfl, .ty _, tyx_D (.bl b), kit_ty kb_bt, _, rfl, iteT (iteT (k0 rfl (.refl _)))⟩
    | int i => cases hd; exact ⟨_, rfl, _, _, _, _, _, rfl, .ty _, tyx_D (.int i), kit_ty kb_it, _, rfl, iteT (iteT (k0 rfl (.refl _)))⟩
    | str z => cases hd; exact ⟨_, rfl, _, _, _, _, _, rfl, .ty _, tyx_D (.str z), kit_ty kb_st, _, rfl, iteT (iteT (k0 rfl (.refl _)))⟩
    | list ds => exact hm.elim
    | dict _ => cases hd
    | tuple ds =>
      obtain ⟨hlen, hel⟩ := hm
      have hd' := hd
      cases hd' with
      | tup hT hA =>
        rename_i a xs
        have hxl := hA.length
        refine ⟨_, rfl, _, _, _, _, _, rfl, .ty _, tyx_D hd, kit_ty kb_tt, _, rfl, iteF ?_⟩
        -- the ones that are no manners
        refine ⟨_, rfl, a, rfl, ⟨_, hT⟩, fun D hD => ?_⟩
        refine lc_tup (K := K) (a := a) (xs := xs) (fun i H2 => Same H H2 ∧ ∃ ys : List V, H2 D = some (.lst ys) ∧ DpAll K H ys ((ds.take i).filter fun e => !between e 0 9) ∧ ys.length ≤ i)
          ⟨Same.upd_new hD, [], upd_same, .nil, Nat.le_refl _⟩ (fun i H2 _ ⟨s2, _⟩ => SqT_same s2 hT) ?_ ?_
        · rintro i y H2 hi ⟨s2, ys, hys, hyd, hyl⟩
          obtain ⟨e, he, hde⟩ := hA.get' hi
          have hem : e ∈ ds := List.mem_of_getElem? he
          have htk : ds.take (i + 1) = ds.take i ++ [e] := take_more he
          have hil : i < ds.length := (List.getElem?_eq_some_iff.mp he).1
          refine ⟨rfl, _, rfl, y, e, 0, 9, rfl, hde.same s2, (hel e hem).1, _, rfl, ?_⟩
          refine iteB (fun hb => ?_) (fun hb => ?_)
          · refine ⟨_, rfl, ys, hys, small1000 (by omega), ?_⟩
            have nD : ∀ b o, H b = some o → b ≠ D := fun b o z q => by rw [q, hD] at z; cases z
            have s3 : Same H (upd H2 D (.lst (ys ++ [y]))) := fun b o z => by rw [upd_ne (nD b o z)]; exact s2 b o z
            refine ⟨s3, ys ++ [y], upd_same, ?_, by rw [List.length_append]; simp; omega⟩
            rw [htk, List.filter_append]
            have hf : [e].filter (fun e => !between e 0 9) = [e] := by simp [List.filter, hb]
            rw [hf]
            exact DpAll.append hyd (.cons hde .nil)
          · refine ⟨s2, ys, hys, ?_, by omega⟩
            rw [htk, List.filter_append]
            have hf : [e].filter (fun e => !between e 0 9) = [] := by simp [List.filter, hb]
            rw [hf, List.append_nil]
            exact hyd
        · rintro H2 ⟨s2, ys, hys, hyd, hyl⟩
          rw [hxl, List.take_length] at hyd
          refine ⟨(by show 0 ≤ sizeLine; decide), fun p hp => ?_⟩
          have s3 : Same H2 (upd H2 p (.lst [])) := Same.upd_new hp
          have hlv : lv 2 (.list (ds.filter fun e => !between e 0 9)) := ⟨by have := List.length_filter_le (fun e => !between e 0 9) ds; omega, fun e he => (hel e (List.mem_filter.mp he).1).2⟩
          refine ⟨.list (ds.filter fun e => !between e 0 9), .list [], .lst (SqL.of (s3 _ _ hys)) (hyd.same (s2.trans s3)), .lst (SqL.of upd_same) .nil, shaped_lv hlv (by decide), rfl, _, rfl, ?_⟩
          by_cases hall : ds.all (fun e => between e 0 9) = true
          · have hf0 : (ds.filter fun e => !between e 0 9) = [] := by
              rw [List.filter_eq_nil_iff]
              intro e he
              simp [List.all_eq_true.mp hall e he]
            rw [hf0]
            refine iteF ?_
            -- list(some) == sorted(set(some)) and 0 in some
            have hds := ints_of_between hall
            have hbt := between_of hall
            generalize hns : ds.map intOf = ns at hds hbt
            subst hds
            have hxs := hA.ints_inv
            subst hxs
            have hnl : ns.length ≤ 60 := by rw [List.length_map] at hlen; exact hlen
            have s13 : Same H (upd H2 p (.lst [])) := s2.trans s3
            refine ⟨_, rfl, a, _, rfl, .inr (SqT_same s13 hT), fun l hl => ?_⟩
            have s4 : Same (upd H2 p (.lst [])) (upd (upd H2 p (.lst [])) l (.lst (ns.map V.int))) := Same.upd_new hl
            refine ⟨_, rfl, a, ns, rfl, SqT_same (s13.trans s4) hT, by omega, fun q c hq hc => ?_⟩
            refine ⟨q, _, c, rfl, upd_same, by omega, fun ns' r hs' hm' hl' hr' => ?_⟩
            have s5 := Same.upd_new (o := SetO w q (fun j => decide (j ∈ ns)) c) hq
            have s6 := Same.upd_new (o := .lst (ns'.map V.int)) hr'
            refine ⟨.list (ns.map .int), .list (ns'.map .int), .lst (SqL.of (s6 _ _ (s5 _ _ upd_same))) (dp_ints ns), .lst (SqL.of upd_same) (dp_ints ns'), shaped_ints _, shaped_ints _, _, rfl, ?_⟩
            have s17 := ((s13.trans s4).trans s5).trans s6
            have e1 : PyData.eqv (.list (ns.map .int)) (.list (ns'.map .int)) = decide (ns.Pairwise (· < ·)) := by
              show PyData.eqvAll _ _ = _
              rw [eqvAll_ints]
              by_cases hp : ns.Pairwise (· < ·)
              · rw [decide_eq_true hp, decide_eq_true (sorted_ext hp hs' fun j => by rw [hm']; simp)]
              · rw [decide_eq_false hp, decide_eq_false fun z => hp (by rw [z]; exact hs')]
            have e2 : isMan (.tuple (ns.map .int)) = (decide (ns.Pairwise (· < ·)) && decide (0 ∈ ns)) := by
              have e3 : (ns.map PyData.int).map intOf = ns := hns
              simp only [isMan]
              rw [hall, e3]
              simp
            rw [e1]
            refine iteB (fun hb => ?_) (fun hb => k0 (by rw [e2, hb]; rfl) s17)
            refine ⟨_, rfl, a, _, rfl, .inr (SqT_same s17 hT), rfl, flat_ints ns, ?_⟩
            refine k0 ?_ s17
            rw [e2, hb]
            show (true && decide (0 ∈ ns)) = inV (.int 0) (ns.map V.int)
            rw [inV_int, Bool.true_and]
          · have hne : (ds.filter fun e => !between e 0 9) ≠ [] := by
              intro z
              apply hall
              rw [List.all_eq_true]
              intro e he
              have := List.filter_eq_nil_iff.mp z e he
              simpa using this
            obtain ⟨e, r, her⟩ := List.exists_cons_of_ne_nil hne
            rw [her]
            refine iteT ?_
            have hf : ds.all (fun e => between e 0 9) = false := by simpa using hall
            exact k0 (by simp only [isMan]; rw [hf]; rfl) (s2.trans s3)

end
end TL

namespace TL
open PySem PySem.Spec PyProof.Rows L2
section
variable {P : Program} {w : World} {K : PySem.W.Frag} {mg : Str → Option Value} {base : Heap}
def sp_need_manners (T : Txt w K mg) : Sp := fun vs H Q E => ∃ (x : V) (d : PyData), vs = [x] ∧ Dp K H x d ∧ mdat d ∧ (isMan d = true → ∀ H', Same H H' → Q .non H') ∧ (isMan d = false → ∀ H', Same H H' → E (.ref T.C_BadManners) none H')
theorem ok_need_manners (T : Txt w K mg) : FnOk P w K mg base (L2.CX P w) 3 T.a_need_manners T.fd_need_manners P_need_manners (sp_need_manners T) := by
  have G_are_manners := ok_are_manners (P := P) (w := w) (base := base) T
  refine T.F_need_manners.okX sc_need_manners (fun vs H Q E h => ?_) (fun cdv A outer s H vs Q E hr h => ?_)
  · obtain ⟨x, d, rfl, _⟩ := h
    rfl
  · obtain ⟨x, d, rfl, hd, hm, k1, k2⟩ := h
    refine ⟨_, (pss_one (ps_if (pt_not (pt_val (pe_call G_are_manners (hr.mono (by decide)) rfl T.g_are_manners T.F_are_manners.kp T.b_are_manners .nil pass0 (pa_cons (pv 0) pa_nil))))
      (pss_one (ps_raise rfl (takes_of rfl rfl rfl rfl) (pmk_own PySem.F.excBase_ValueError T.x_BadManners T.c_BadManners T.k_BadManners (raises_own T.s_BadManners T.t_BadManners) rfl)))
      pss_nil)), ?_⟩
    refine ⟨_, rfl, x, d, rfl, hd, hm, fun H' s' => ⟨_, rfl, ?_⟩⟩
    refine iteB (fun hb => ?_) (fun hb => ?_)
    · exact k2 (by simpa using hb) H' s'
    · exact k1 (by simpa using hb) H' s'

end
end TL

namespace TL
open PySem PySem.Spec PyProof.Rows L2
section
variable {P : Program} {w : World} {K : PySem.W.Frag} {mg : Str → Option Value} {base : Heap}
/-- what is handed in third: a tuple or a list of numbers -/
def sp_chosen (T : Txt w K mg) : Sp := fun vs H Q E => ∃ (x y z : V) (dx dy : PyData), vs = [x, y, z] ∧ Dp K H x dx ∧ mdat dx ∧ Dp K H y dy ∧ mdat dy ∧
  (isMan dx = false → ∀ H', Same H H' → E (.ref T.C_BadManners) none H') ∧
  (isMan dx = true → isMan dy = false → ∀ H', Same H H' → E (.ref T.C_BadManners) none H') ∧
  (isMan dx = true → isMan dy = true → ∀ one other, dx = .tuple (one.map .int) → dy = .tuple (other.map .int) → ∃ (b : Addr) (bs : List Int), z = .ref b ∧ (SqL K H b (bs.map V.int) ∨ SqT K H b (bs.map V.int)) ∧ ∀ H', Same H H' → Q (.int (chosenF one other bs)) H')
theorem ok_chosen (T : Txt w K mg) : FnOk P w K mg base (L2.CX P w) 4 T.a_chosen T.fd_chosen P_chosen (sp_chosen T) := by
  have G_need_manners := ok_need_manners (P := P) (w := w) (base := base) T
  refine T.F_chosen.okX sc_chosen (fun vs H Q E h => ?_) (fun cdv A outer s H vs Q E hr h => ?_)
  · obtain ⟨x, y, z, dx, dy, rfl, _⟩ := h
    rfl
  · obtain ⟨x, y, z, dx, dy, rfl, hx, mx, hy, my, k1, k2, k3⟩ := h
    refine ⟨_, (pss_cons (ps_expr (pe_call G_need_manners (hr.mono (by decide)) rfl T.g_need_manners T.F_need_manners.kp T.b_need_manners .nil (passes_call (takes_of rfl rfl rfl rfl) (fun _ _ _ _ h => h)) (pa_cons (pv 0) pa_nil)))
    (pss_cons (ps_expr (pe_call G_need_manners (hr.mono (by decide)) rfl T.g_need_manners T.F_need_manners.kp T.b_need_manners .nil (passes_call (takes_of rfl rfl rfl rfl) (fun _ _ _ _ h => h)) (pa_cons (pv 1) pa_nil)))
    (pss_one (ps_ret (pe_callB (cr_max rfl) (by rfl) T.n_max (by decide +kernel) (pa_cons (pe_op op_cat (pe_lst (pa_cons pe_int pa_nil)) (pe_lc (own := [("manner", 3)]) (g := (gName 3)) (tt := (tAnd (tTest (tOp (rIn K false) (tVar 3) (tVar 1))) (tTest (tOp (rIn K true) (tVar 3) (tVar 2))))) (te := (tVar 3)) rfl sc_chosen.nd (pi_tup (pv 0)) (blkOk_by (own := [("manner", 3)]) (N := N_chosen) (sc := defScope s_chosen) (by decide +kernel)) (fun _ _ _ _ _ => (pg_name (i := 3) sc_chosen.nd rfl (by first | exact Or.inl rfl | exact Or.inr rfl))) (fun _ _ _ _ _ => (pts_one (PW.pt (pw_and (pt_cmpR op_in_seq (pv 3) (pv 1) (by rfl)) (pw_and1 (pt_cmpR op_notIn_seq (pv 3) (pv 2) (by rfl))))))) (fun _ _ _ _ _ => (pv 3)))) pa_nil)))))), ?_⟩
    refine ⟨_, rfl, x, dx, rfl, hx, mx, fun gx H1 s1 => ?_, fun gx H1 s1 => k1 gx H1 s1⟩
    refine ⟨_, rfl, y, dy, rfl, hy.same s1, my, fun gy H2 s2 => ?_, fun gy H2 s2 => k2 gx gy H2 (s1.trans s2)⟩
    obtain ⟨one, rfl, ho⟩ := man_tuple gx
    obtain ⟨other, rfl, hoo⟩ := man_tuple gy
    obtain ⟨b, bs, rfl, hb, k⟩ := k3 gx gy one other rfl rfl
    have s12 := s1.trans s2
    have hl1 : one.length ≤ 60 := by have := mx.1; rw [List.length_map] at this; exact this
    cases hx with
    | tup hTx hAx =>
      rename_i ax xx
      cases hy with
      | tup hTy hAy =>
        rename_i ay yy
        have ex := hAx.ints_inv
        have ey := hAy.ints_inv
        subst ex ey
        refine ⟨(by show 1 ≤ sizeLine; decide), fun p hp => ?_⟩
        have s3 : Same H2 (upd H2 p (.lst [.int 0])) := Same.upd_new hp
        have s13 := s12.trans s3
        refine ⟨_, rfl, ax, rfl, ⟨_, SqT_same s13 hTx⟩, fun D hD => ?_⟩
        have nD : ∀ c o, (upd H2 p (.lst [.int 0])) c = some o → c ≠ D := fun c o e q => by rw [q, hD] at e; cases e
        refine lc_tup (K := K) (a := ax) (xs := one.map V.int) (fun i H3 => Same (upd H2 p (.lst [.int 0])) H3 ∧ H3 D = some (.lst (((one.take i).filter fun m => decide (m ∈ other) && !decide (m ∈ bs)).map V.int)))
          ⟨Same.upd_new hD, upd_same⟩ (fun i H3 _ ⟨s4, _⟩ => SqT_same (s13.trans s4) hTx) ?_ ?_
        · rintro i v H3 hi ⟨s4, hys⟩
          obtain ⟨m, hm, rfl⟩ := getmap hi
          have htk : one.take (i + 1) = one.take i ++ [m] := take_more hm
          have hil : i < one.length := (List.getElem?_eq_some_iff.mp hm).1
          have s14 := s13.trans s4
          have hf : ∀ g : Int → Bool, (one.take (i + 1)).filter g = (one.take i).filter g ++ (if g m = true then [m] else []) := fun g => by
            rw [htk, List.filter_append]
            by_cases q : g m = true
            · simp [List.filter, q]
            · simp [List.filter, q]
          have hb3 : SqL K H3 b (bs.map V.int) ∨ SqT K H3 b (bs.map V.int) := hb.imp (fun z => s14.seq z) (fun z => SqT_same s14 z)
          refine ⟨rfl, _, rfl, _, rfl, ay, _, rfl, .inr (SqT_same s14 hTy), rfl, flat_ints _, _, rfl, ?_⟩
          rw [hf]
          have e1 : inV (.int m) (other.map V.int) = decide (m ∈ other) := inV_int m other
          have e2 : inV (.int m) (bs.map V.int) = decide (m ∈ bs) := inV_int m bs
          show if inV (.int m) (other.map V.int) = true then _ else _
          rw [e1]
          refine iteB (fun q1 => ?_) (fun q1 => ?_)
          · refine ⟨_, rfl, _, rfl, b, _, rfl, hb3, rfl, flat_ints _, _, rfl, ?_⟩
            show if (!inV (.int m) (bs.map V.int)) = true then _ else _
            rw [e2, q1]
            refine iteB (fun q2 => ?_) (fun q2 => ?_)
            · rw [q2]
              refine ⟨_, rfl, _, hys, ?_, fun c o e => ?_, ?_⟩
              · rw [List.length_map]
                have := List.length_filter_le (fun m => decide (m ∈ other) && !decide (m ∈ bs)) (one.take i)
                have := List.length_take_le i one
                exact small1000 (by omega)
              · rw [upd_ne (nD c o e)]
                exact s4 c o e
              · rw [upd_same, List.map_append]
                rfl
            · rw [q2]
              refine ⟨s4, ?_⟩
              rw [hys]
              simp
          · rw [q1]
            refine iteF ⟨s4, ?_⟩
            rw [hys]
            simp
        · rintro H3 ⟨s4, hys⟩
          rw [List.length_map, List.take_length] at hys
          have hpl : H3 p = some (.lst [.int 0]) := s4 _ _ upd_same
          refine ⟨p, D, _, _, rfl, rfl, hpl, hys, ?_, fun q hq => ?_⟩
          · rw [List.length_map]
            have := List.length_filter_le (fun m => decide (m ∈ other) && !decide (m ∈ bs)) one
            exact Nat.le_of_lt (small1000 (by simp only [List.length_cons, List.length_nil]; omega))
          · refine ⟨q, 0 :: (one.filter fun m => decide (m ∈ other) && !decide (m ∈ bs)), rfl, SqL.of (by rw [upd_same]; rfl), by simp, fun m hm hle => ?_⟩
            have e : IsChosen one other bs m := by
              refine ⟨?_, hle 0 (by simp), fun y h1 h2 h3 => hle y ?_⟩
              · rcases List.mem_cons.mp hm with e | e
                · exact .inl e
                · right
                  have := List.mem_filter.mp e
                  simp only [Bool.and_eq_true, decide_eq_true_eq, Bool.not_eq_true', decide_eq_false_iff_not] at this
                  exact this
              · apply List.mem_cons_of_mem
                rw [List.mem_filter]
                simp [h1, h2, h3]
            rw [e.eq]
            exact k _ ((s13.trans s4).trans (Same.upd_new hq))

end
end TL

namespace TL
open PySem PySem.Spec PyProof.Rows L2
section
variable {P : Program} {w : World} {K : PySem.W.Frag} {mg : Str → Option Value} {base : Heap}
def sp_need_manner (T : Txt w K mg) : Sp := fun vs H Q E => ∃ (x : V) (d : PyData), vs = [x] ∧ Dp K H x d ∧ (∀ ds, d ≠ .list ds) ∧ (between d 1 9 = true → Q .non H) ∧ (between d 1 9 = false → E (.ref T.C_BadManners) none H)
theorem ok_need_manner (T : Txt w K mg) : FnOk P w K mg base (L2.CX P w) 2 T.a_need_manner T.fd_need_manner P_need_manner (sp_need_manner T) := by
  have G_is_between := ok_is_between (P := P) (w := w) (base := base) T
  refine T.F_need_manner.okX sc_need_manner (fun vs H Q E h => ?_) (fun cdv A outer s H vs Q E hr h => ?_)
  · obtain ⟨x, d, rfl, _⟩ := h
    rfl
  · obtain ⟨x, d, rfl, hd, nl, k1, k2⟩ := h
    refine ⟨_, (pss_one (ps_if (pt_not (pt_val (pe_call G_is_between (hr.mono (by decide)) rfl T.g_is_between T.F_is_between.kp T.b_is_between .nil pass0 (pa_cons (pv 0) (pa_cons pe_int (pa_cons (pe_glob (v := .int 9) rfl T.v_MOST ⟨_, rfl⟩) pa_nil))))))
      (pss_one (ps_raise rfl (takes_of rfl rfl rfl rfl) (pmk_own PySem.F.excBase_ValueError T.x_BadManners T.c_BadManners T.k_BadManners (raises_own T.s_BadManners T.t_BadManners) rfl)))
      pss_nil)), ?_⟩
    refine ⟨_, rfl, x, d, 1, 9, rfl, hd, nl, _, rfl, ?_⟩
    refine iteB (fun hb => k2 (by simpa using hb)) (fun hb => k1 (by simpa using hb))

end
end TL

namespace TL
open PySem PySem.Spec PyProof.Rows L2
section
variable {P : Program} {w : World} {K : PySem.W.Frag} {mg : Str → Option Value} {base : Heap}
def sp_need_end (T : Txt w K mg) : Sp := fun vs H Q E => ∃ (x : V) (d : PyData), vs = [x] ∧ Dp K H x d ∧ (∀ ds, d ≠ .list ds) ∧ (between d 0 1 = true → Q .non H) ∧ (between d 0 1 = false → E (.ref T.C_BadEnd) none H)
theorem between01 {d : PyData} (h : between d 0 1 = true) : ∃ e, d = .int e ∧ (e = 0 ∨ e = 1) := by
  cases d with
  | int e =>
    simp [between] at h
    exact ⟨e, rfl, by omega⟩
  | _ => simp [between] at h
theorem ok_need_end (T : Txt w K mg) : FnOk P w K mg base (L2.CX P w) 2 T.a_need_end T.fd_need_end P_need_end (sp_need_end T) := by
  have G_is_between := ok_is_between (P := P) (w := w) (base := base) T
  refine T.F_need_end.okX sc_need_end (fun vs H Q E h => ?_) (fun cdv A outer s H vs Q E hr h => ?_)
  · obtain ⟨x, d, rfl, _⟩ := h
    rfl
  · obtain ⟨x, d, rfl, hd, nl, k1, k2⟩ := h
    refine ⟨_, (pss_one (ps_if (pt_not (pt_val (pe_call G_is_between (hr.mono (by decide)) rfl T.g_is_between T.F_is_between.kp T.b_is_between .nil pass0 (pa_cons (pv 0) (pa_cons pe_int (pa_cons pe_int pa_nil))))))
      (pss_one (ps_raise rfl (takes_of rfl rfl rfl rfl) (pmk_own PySem.F.excBase_ValueError T.x_BadEnd T.c_BadEnd T.k_BadEnd (raises_own T.s_BadEnd T.t_BadEnd) rfl)))
      pss_nil)), ?_⟩
    refine ⟨_, rfl, x, d, 0, 1, rfl, hd, nl, _, rfl, ?_⟩
    refine iteB (fun hb => k2 (by simpa using hb)) (fun hb => k1 (by simpa using hb))

end
end TL

namespace TL
open PySem PySem.Spec PyProof.Rows L2
section
variable {P : Program} {w : World} {K : PySem.W.Frag} {mg : Str → Option Value} {base : Heap}
def sp_is_row (T : Txt w K mg) : Sp := fun vs H Q _ => ∃ (x : V) (d : PyData), vs = [x] ∧ Dp K H x d ∧ rdat d ∧ Q (.bl (isRowD d)) H
theorem ok_is_row (T : Txt w K mg) : FnOk P w K mg base CX0 2 T.a_is_row T.fd_is_row P_is_row (sp_is_row T) := by
  have G_is_between := ok_is_between (P := P) (w := w) (base := base) T
  refine T.F_is_row.ok sc_is_row (fun vs H Q E h => ?_) (fun cdv A outer s H vs Q E hr h => ?_)
  · obtain ⟨x, d, rfl, _⟩ := h
    rfl
  · obtain ⟨x, d, rfl, hd, hm, k⟩ := h
    refine ⟨_, (pss_cons (ps_if (PW.pt (pw_or (pt_not (pt_val (pe_callB call_isi (by rfl) T.n_isinstance (by decide +kernel) (pa_cons (pv 0) (pa_cons (pe_bltn (v := .ty "tuple") (u := .type "tuple") (by rfl) T.n_tuple (by decide +kernel) rfl) pa_nil))))) (pw_or1 (pt_cmpR op_ne (pe_callB call_len_seq (by rfl) T.n_len (by decide +kernel) (pa_cons (pv 0) pa_nil)) pe_int (nomark _)))))
      (pss_one (ps_ret pe_bl))
      pss_nil)
    (pss_cons (ps_if (PW.pt (pw_or (pt_not (pt_val (pe_call G_is_between (hr.mono (by decide)) rfl T.g_is_between T.F_is_between.kp T.b_is_between .nil pass0 (pa_cons (pe_ix ix_tup (pv 0) pe_int (fun _ _ => rfl)) (pa_cons pe_int (pa_cons (pe_glob (v := .int 9) rfl T.v_MOST ⟨_, rfl⟩) pa_nil)))))) (pw_or1 (pt_not (pt_val (pe_call G_is_between (hr.mono (by decide)) rfl T.g_is_between T.F_is_between.kp T.b_is_between .nil pass0 (pa_cons (pe_ix ix_tup (pv 0) pe_int (fun _ _ => rfl)) (pa_cons pe_int (pa_cons (pe_glob (v := .int 9) rfl T.v_MOST ⟨_, rfl⟩) pa_nil)))))))))
      (pss_one (ps_ret pe_bl))
      pss_nil)
    (pss_one (ps_ret (pe_and (pe_callB call_isi (by rfl) T.n_isinstance (by decide +kernel) (pa_cons (pe_ix ix_tup (pv 0) pe_int (fun _ _ => rfl)) (pa_cons (pe_bltn (v := .ty "bool") (u := .type "bool") (by rfl) T.n_bool (by decide +kernel) rfl) pa_nil))) (pe_one (pe_callB call_isi (by rfl) T.n_isinstance (by decide +kernel) (pa_cons (pe_ix ix_tup (pv 0) pe_int (fun _ _ => rfl)) (pa_cons (pe_bltn (v := .ty "bool") (u := .type "bool") (by rfl) T.n_bool (by decide +kernel) rfl) pa_nil))))))))), ?_⟩
    have k0 : ∀ {b : Bool}, isRowD d = b → Q (.bl b) H := fun e => by rw [← e]; exact k
    cases d with
    | none => cases hd; exact ⟨_, rfl, _, _, _, _, _, rfl, .ty _, tyx_D .non, kit_ty kb_nt, _, rfl, iteT (iteT (k0 rfl))⟩
    | bool b => cases hd; exact ⟨_, rfl, _, _, _, _, _, rfl, .ty _, tyx_D (.bl b), kit_ty kb_bt, _, rfl, iteT (iteT (k0 rfl))⟩
    | int i => cases hd; exact ⟨_, rfl, _, _, _, _, _, rfl, .ty _, tyx_D (.int i), kit_ty kb_it, _, rfl, iteT (iteT (k0 rfl))⟩
    | str z => cases hd; exact ⟨_, rfl, _, _, _, _, _, rfl, .ty _, tyx_D (.str z), kit_ty kb_st, _, rfl, iteT (iteT (k0 rfl))⟩
    | list ds => exact hm.elim
    | dict _ => cases hd
    | tuple ds =>
      have hd' := hd
      cases hd' with
      | tup hT hA =>
      rename_i a xs
      have hxl := hA.length
      refine ⟨_, rfl, _, _, _, _, _, rfl, .ty _, tyx_D hd, kit_ty kb_tt, _, rfl, iteF ?_⟩
      refine ⟨_, rfl, a, _, rfl, .inr hT, rfl, _, rfl, ?_⟩
      refine iteN (fun hne => k0 ?_) (fun he => ?_)
      · match ds, hxl with
        | [], _ => rfl
        | [_], _ => rfl
        | [_, _], _ => rfl
        | [_, _, _], _ => rfl
        | [_, _, _, _], hxl => exact (hne (by rw [hxl]; rfl)).elim
        | _ :: _ :: _ :: _ :: _ :: _, _ => rfl
      · have hl4 : ds.length = 4 := by
          have := vint_inj.mp he
          omega
        obtain ⟨d0, d1, d2, d3, rfl⟩ : ∃ d0 d1 d2 d3, ds = [d0, d1, d2, d3] := by
          match ds, hl4 with
          | [d0, d1, d2, d3], _ => exact ⟨d0, d1, d2, d3, rfl⟩
        cases hA with
        | cons h0 hA => cases hA with
          | cons h1 hA => cases hA with
            | cons h2 hA => cases hA with
              | cons h3 hA =>
              cases hA
              rename_i v0 v1 v2 v3
              have e : isRowD (.tuple [d0, d1, d2, d3]) = (between d0 0 9 && (between d2 0 9 && (isB d1 && isB d3))) := rfl
              refine ⟨_, rfl, a, _, _, _, rfl, rfl, hT, atI_nat (j := 0) rfl, ?_⟩
              refine ⟨v0, d0, 0, 9, rfl, h0, hm d0 (by simp), _, rfl, ?_⟩
              refine iteB (fun hb => ?_) (fun hb => ?_)
              · have hb : between d0 0 9 = false := by simpa using hb
                exact iteT (k0 (by rw [e, hb]; rfl))
              have hb : between d0 0 9 = true := by simpa using hb
              refine ⟨_, rfl, a, _, _, _, rfl, rfl, hT, atI_nat (j := 2) rfl, ?_⟩
              refine ⟨v2, d2, 0, 9, rfl, h2, hm d2 (by simp), _, rfl, ?_⟩
              refine iteB (fun hc => ?_) (fun hc => ?_)
              · have hc : between d2 0 9 = false := by simpa using hc
                exact k0 (by rw [e, hb, hc]; rfl)
              have hc : between d2 0 9 = true := by simpa using hc
              have isb : ∀ {d : PyData}, (∀ l, d ≠ .list l) → (∀ l, d ≠ .dict l) → kitB (kty d) "bool" = some (isB d) := by
                intro d n1 n2
                cases d with
                | none => exact kb_nb
                | bool b => exact kb_bb
                | int i => exact kb_ib
                | str z => exact kb_sb
                | tuple ds => exact kb_tb
                | list ds => exact (n1 ds rfl).elim
                | dict ds => exact (n2 ds rfl).elim
              have nd : ∀ {v : V} {d : PyData}, Dp K H v d → ∀ l, d ≠ .dict l := fun h l z => by subst z; cases h
              refine ⟨_, rfl, a, _, _, _, rfl, rfl, hT, atI_nat (j := 1) rfl, ?_⟩
              refine ⟨_, _, _, _, _, rfl, .ty _, tyx_D h1, kit_ty (isb (hm d1 (by simp)) (nd h1)), _, rfl, ?_⟩
              refine iteB (fun hx => ?_) (fun hx => k0 (by rw [e, hb, hc, hx]; rfl))
              refine ⟨_, rfl, a, _, _, _, rfl, rfl, hT, atI_nat (j := 3) rfl, ?_⟩
              refine ⟨_, _, _, _, _, rfl, .ty _, tyx_D h3, kit_ty (isb (hm d3 (by simp)) (nd h3)), k0 (by rw [e, hb, hc, hx]; rfl)⟩

end
end TL

namespace TL
open PySem PySem.Spec PyProof.Rows L2
section
variable {P : Program} {w : World} {K : PySem.W.Frag} {mg : Str → Option Value} {base : Heap}
/-- of a log, three hundred rows at most -/
def sp_need_log (T : Txt w K mg) : Sp := fun vs H Q _ => ∃ (a : Addr) (xs : List V) (rs : List Row), vs = [.ref a] ∧ SqL K H a xs ∧ ImAll H xs (rs.map rowD) ∧ (∀ r ∈ rs, okRow r) ∧ rs.length ≤ 300 ∧ ∀ H', Same H H' → Q .non H'
theorem ok_need_log (T : Txt w K mg) : FnOk P w K mg base CX0 3 T.a_need_log T.fd_need_log P_need_log (sp_need_log T) := by
  have G_is_row := ok_is_row (P := P) (w := w) (base := base) T
  refine T.F_need_log.ok sc_need_log (fun vs H Q E h => ?_) (fun cdv A outer s H vs Q E hr h => ?_)
  · obtain ⟨a, xs, rs, rfl, _⟩ := h
    rfl
  · obtain ⟨a, xs, rs, rfl, hL, hA, hok, hl, k⟩ := h
    refine ⟨_, (pss_one (ps_for PassesOwn.never rfl (pi_enum (by rfl) T.n_enumerate (pa_cons (pv 0) pa_nil)) (pg_tup rfl (pgs_cons (pg_name (i := 1) sc_need_log.nd rfl (by first | exact Or.inl rfl | exact Or.inr rfl)) (pgs_cons (pg_name (i := 2) sc_need_log.nd rfl (by first | exact Or.inl rfl | exact Or.inr rfl)) pgs_nil)))
      (pss_one (ps_if (PW.pt (pw_or (pt_cmpR op_ge (pv 1) (pe_glob (v := .int 300) rfl T.v_MOST_ROWS ⟨_, rfl⟩) (nomark _)) (pw_or1 (pt_not (pt_val (pe_call G_is_row (hr.mono (by decide)) rfl T.g_is_row T.F_is_row.kp T.b_is_row .nil pass0 (pa_cons (pv 2) pa_nil)))))))
        (pss_one ps_never)
        pss_nil)))), ?_⟩
    have hxl := rows_len hA
    refine ⟨_, rfl, a, xs, rfl, hL, for_enum (K := K) (a := a) (xs := xs) (fun i σ H2 => Same H H2 ∧ ∃ v1 v2 : Option V, σ = [some (.ref a), v1, v2])
      ⟨.refl _, _, _, rfl⟩ (fun i σ H2 _ ⟨s2, _⟩ => s2.seq hL) ?_ ?_⟩
    · rintro i x N σ H2 hi ⟨s2, v1, v2, rfl⟩ hN
      have s3 : Same H (upd H2 N (.tup [.int (i : Nat), x])) := s2.trans (Same.upd_new hN)
      obtain ⟨t, r, hr, rfl, ht⟩ := rows_get' hA hi
      have hil : i < rs.length := (List.getElem?_eq_some_iff.mp hr).1
      refine ⟨N, _, rfl, SqT.of upd_same, rfl, _, _, rfl, _, _, rfl, rfl, ?_⟩
      refine ⟨_, rfl, _, _, rfl, rfl, _, rfl, ?_⟩
      refine iteD (fun h => by omega) (fun _ => ?_)
      refine ⟨_, rfl, _, _, rfl, ((im_row ht).same s3).dp, rdat_row r, _, rfl, ?_⟩
      rw [isRow_row (hok r (List.mem_of_getElem? hr))]
      exact iteF ⟨s3, _, _, rfl⟩
    · rintro σ H2 ⟨s2, v1, v2, rfl⟩
      exact k H2 s2

end
end TL

namespace TL
open PySem PySem.Spec PyProof.Rows L2
section
variable {P : Program} {w : World} {K : PySem.W.Frag} {mg : Str → Option Value} {base : Heap}
def sp_stretches (T : Txt w K mg) : Sp := fun vs H Q _ => ∃ (a : Addr) (xs : List V) (rs : List Row), vs = [.ref a] ∧ SqL K H a xs ∧ ImAll H xs (rs.map rowD) ∧ (∀ r ∈ rs, okRow r) ∧ rs.length ≤ 300 ∧
  ∀ (p : Addr) (ys : List V) (H' : Hp), H p = none → H' p = some (.lst ys) → ImAll H' ys ((stTo (rs.map mark) rs.length).map strD) → Same H H' → Q (.ref p) H'
theorem ok_stretches (T : Txt w K mg) : FnOk P w K mg base CX0 4 T.a_stretches T.fd_stretches P_stretches (sp_stretches T) := by
  have G_need_log := ok_need_log (P := P) (w := w) (base := base) T
  refine T.F_stretches.ok sc_stretches (fun vs H Q E h => ?_) (fun cdv A outer s H vs Q E hr h => ?_)
  · obtain ⟨a, xs, rs, rfl, _⟩ := h
    rfl
  · obtain ⟨a, xs, rs, rfl, hL, hA, hok, hl, k⟩ := h
    have hu64 := hr.units
    refine ⟨_, (pss_cons (ps_expr (pe_call G_need_log (hr.mono (by decide)) rfl T.g_need_log T.F_need_log.kp T.b_need_log .nil pass0 (pa_cons (pv 0) pa_nil)))
    (pss_cons (ps_set (i := 1) sc_stretches.nd rfl (by first | exact Or.inl rfl | exact Or.inr rfl) (pe_lst pa_nil))
    (pss_cons (ps_for PassesOwn.never rfl (pi_enum (by rfl) T.n_enumerate (pa_cons (pv 0) pa_nil)) (pg_tup rfl (pgs_cons (pg_name (i := 2) sc_stretches.nd rfl (by first | exact Or.inl rfl | exact Or.inr rfl)) (pgs_cons (pg_tup rfl (pgs_cons (pg_name (i := 3) sc_stretches.nd rfl (by first | exact Or.inl rfl | exact Or.inr rfl)) (pgs_cons (pg_name (i := 4) sc_stretches.nd rfl (by first | exact Or.inl rfl | exact Or.inr rfl)) (pgs_cons (pg_name (i := 5) sc_stretches.nd rfl (by first | exact Or.inl rfl | exact Or.inr rfl)) (pgs_cons (pg_name (i := 6) sc_stretches.nd rfl (by first | exact Or.inl rfl | exact Or.inr rfl)) pgs_nil))))) pgs_nil)))
      (pss_one (ps_if (PW.pt (pw_and (pt_val (pv 4)) (pw_and (pt_val (pv 6)) (pw_and1 (pt_cmpR op_eq (pv 3) (pv 5) (nomark _))))))
        (pss_one (ps_if (PW.pt (pw_and (pt_cmpR (op_neD hu64) (pv 1) (pe_lst pa_nil) (nomark _)) (pw_and (pt_cmpR op_eq (pe_ix ix_tup (pe_ix ix_list (pv 1) (pe_un un_neg pe_int) (fun _ _ => rfl)) pe_int (fun _ _ => rfl)) (pv 3) (nomark _)) (pw_and1 (pt_cmpR op_eq (pe_ix ix_tup (pe_ix ix_list (pv 1) (pe_un un_neg pe_int) (fun _ _ => rfl)) pe_int (fun _ _ => rfl)) (pv 2) (nomark _))))))
          (pss_one (ps_asg (pe_tup (pa_cons (pv 3) (pa_cons (pe_ix ix_tup (pe_ix ix_list (pv 1) (pe_un un_neg pe_int) (fun _ _ => rfl)) pe_int (fun _ _ => rfl)) (pa_cons (pe_op op_add (pv 2) pe_int) pa_nil)))) (pg_sub (pv 1) (pe_un un_neg pe_int) set_list)))
          (pss_one (ps_expr (pe_bm PySem.F.plainAttrs_list PySem.F.slot_list_append PySem.F.type_list_append mt_append (pv 1) (pa_cons (pe_tup (pa_cons (pv 3) (pa_cons (pv 2) (pa_cons (pe_op op_add (pv 2) pe_int) pa_nil)))) pa_nil))))))
        pss_nil)))
    (pss_one (ps_ret (pv 1)))))), ?_⟩
    have hxl := rows_len hA
    refine ⟨_, rfl, a, xs, rs, rfl, hL, hA, hok, hl, fun H1 s1 => ?_⟩
    refine ⟨(by show 0 ≤ sizeLine; decide), fun p hp => ?_⟩
    have hpH : H p = none := s1.free hp
    refine ⟨_, rfl, a, xs, rfl, (s1.trans (Same.upd_new hp)).seq hL, for_enum (K := K) (a := a) (xs := xs) (fun i σ H2 => Same H H2 ∧ (∃ v2 v3 v4 v5 v6 : Option V, σ = [some (.ref a), some (.ref p), v2, v3, v4, v5, v6]) ∧ ∃ ys, H2 p = some (.lst ys) ∧ ImAll H2 ys ((stTo (rs.map mark) i).map strD))
      ⟨s1.trans (Same.upd_new hp), ⟨_, _, _, _, _, rfl⟩, [], upd_same, .nil⟩ (fun i σ H2 _ ⟨s2, _⟩ => s2.seq hL) ?_ ?_⟩
    · rintro i x N σ H2 hi ⟨s2, ⟨v2, v3, v4, v5, v6, rfl⟩, ys, hy, hya⟩ hN
      have s3 : Same H (upd H2 N (.tup [.int (i : Nat), x])) := s2.trans (Same.upd_new hN)
      obtain ⟨t, r, hr, rfl, ht⟩ := rows_get' hA hi
      have hil : i < rs.length := (List.getElem?_eq_some_iff.mp hr).1
      have hmk : (rs.map mark).getD i none = mark r := by rw [List.getD_eq_getElem?_getD, List.getElem?_map, hr]; rfl
      have hyl : ys.length ≤ i := by rw [hya.length, List.length_map]; exact stTo_len _ _
      have hy3 : (upd H2 N (.tup [.int (i : Nat), .ref t])) p = some (.lst ys) := by rw [upd_ne (ne_of_none hy hN)]; exact hy
      have hya3 := hya.new (o := .tup [.int (i : Nat), .ref t]) hN
      refine ⟨N, _, rfl, SqT.of upd_same, rfl, _, _, rfl, _, _, rfl, ⟨t, _, rfl, SqT.of (s3 _ _ ht), rfl, _, _, rfl, _, _, rfl, _, _, rfl, _, _, rfl, rfl, rfl, ?_⟩⟩
      -- joined and likewise and mine == yours
      have keepE : mark r = none → ∀ σ', (∃ v2 v3 v4 v5 v6 : Option V, σ' = [some (.ref a), some (.ref p), v2, v3, v4, v5, v6]) → (Same H (upd H2 N (.tup [.int (i : Nat), .ref t])) ∧ (∃ v2 v3 v4 v5 v6 : Option V, σ' = [some (.ref a), some (.ref p), v2, v3, v4, v5, v6]) ∧ ∃ ys, (upd H2 N (.tup [.int (i : Nat), .ref t])) p = some (.lst ys) ∧ ImAll (upd H2 N (.tup [.int (i : Nat), .ref t])) ys ((stTo (rs.map mark) (i + 1)).map strD)) := by
        intro hm σ' hσ
        refine ⟨s3, hσ, ys, hy3, ?_⟩
        rw [stTo_none (hmk.trans hm)]
        exact hya3
      refine ⟨_, rfl, _, rfl, ?_⟩
      refine iteB (fun q1 => ?_) (fun q1 => iteF (keepE (by unfold mark; rw [if_neg]; rintro ⟨z, _⟩; rw [z] at q1; cases q1) _ ⟨_, _, _, _, _, rfl⟩))
      refine ⟨_, rfl, _, rfl, ?_⟩
      refine iteB (fun q2 => ?_) (fun q2 => iteF (keepE (by unfold mark; rw [if_neg]; rintro ⟨_, z, _⟩; rw [z] at q2; cases q2) _ ⟨_, _, _, _, _, rfl⟩))
      refine ⟨_, rfl, _, rfl, rfl, _, rfl, ?_⟩
      refine iteD (fun q3 => ?_) (fun q3 => keepE (by unfold mark; rw [if_neg]; rintro ⟨_, _, z⟩; exact q3 (by rw [z])) _ ⟨_, _, _, _, _, rfl⟩)
      have q3' : r.1 = r.2.2.1 := vint_inj.mp q3
      have hm : mark r = some r.1 := by unfold mark; rw [if_pos ⟨q1, q2, q3'⟩]
      -- found != [] and found[-1][0] == mine and found[-1][2] == number
      have snoc : ∀ (H3 : Hp), Same H H3 → H3 p = some (.lst ys) → ImAll H3 ys ((stTo (rs.map mark) i).map strD) → Fresh (rs.map mark) i → ∀ u, H3 u = none →
          Same H (upd (upd H3 u (.tup [.int r.1, .int (i : Nat), .int ((i : Nat) + 1)])) p (.lst (ys ++ [.ref u]))) ∧ ∃ zs, (upd (upd H3 u (.tup [.int r.1, .int (i : Nat), .int ((i : Nat) + 1)])) p (.lst (ys ++ [.ref u]))) p = some (.lst zs) ∧ ImAll (upd (upd H3 u (.tup [.int r.1, .int (i : Nat), .int ((i : Nat) + 1)])) p (.lst (ys ++ [.ref u]))) zs ((stTo (rs.map mark) (i + 1)).map strD) := by
        intro H3 s4 hp3 ha3 hf u hu
        have npu : p ≠ u := ne_of_none hp3 hu
        have hp4 : (upd H3 u (.tup [.int r.1, .int (i : Nat), .int ((i : Nat) + 1)])) p = some (.lst ys) := by rw [upd_ne npu]; exact hp3
        refine ⟨((Frm.of_same (s4.trans (Same.upd_new hu))).own hpH (Frm.updL hp4)).same, _, upd_same, ?_⟩
        rw [stTo_first (hmk.trans hm) hf, List.map_append]
        refine ImAll.append ((ha3.new hu).updL hp4) (.cons (im_str (s := (r.1, (i : Int), (i : Int) + 1)) ?_) .nil)
        rw [upd_ne (Ne.symm npu), upd_same]
        rfl
      refine ⟨_, rfl, (by show 0 ≤ sizeLine; decide), fun E0 hE => ?_⟩
      have s4 := s3.trans (Same.upd_new (o := .lst []) hE)
      have hy4 : (upd (upd H2 N (.tup [.int (i : Nat), .ref t])) E0 (.lst [])) p = some (.lst ys) := by rw [upd_ne (ne_of_none hy3 hE)]; exact hy3
      have hya4 := hya3.new (o := .lst []) hE
      have hst : ∀ s ∈ stTo (rs.map mark) i, lv 1 (strD s) := fun s _ => ⟨by show 3 ≤ 100000; decide, fun d hd => by simp at hd; rcases hd with rfl | rfl | rfl <;> exact trivial⟩
      have hlv : lv 2 (.list ((stTo (rs.map mark) i).map strD)) := ⟨by rw [List.length_map]; have := stTo_len (rs.map mark) i; omega, fun d hd => by obtain ⟨s, hs, rfl⟩ := List.mem_map.mp hd; exact hst s hs⟩
      refine ⟨.list ((stTo (rs.map mark) i).map strD), .list [], .lst (SqL.of hy4) hya4.dp, .lst (SqL.of upd_same) .nil, shaped_lv hlv (by decide), rfl, _, rfl, ?_⟩
      cases hgl : (stTo (rs.map mark) i).getLast? with
      | none =>
        have h0 : stTo (rs.map mark) i = [] := List.getLast?_eq_none_iff.mp hgl
        rw [h0]
        refine iteF (iteF ?_)
        refine ⟨_, rfl, .inl ⟨rfl, _, SqL.of hy4⟩, _, rfl, _, rfl, _, rfl, _, _, rfl, rfl, (by show 3 ≤ sizeLine; decide), fun u hu => ?_⟩
        obtain ⟨z1, z2⟩ := snoc _ s4 hy4 hya4 (fun k s e z => by rw [hgl] at z; cases z) u hu
        refine ⟨p, ys, _, rfl, rfl, by rw [upd_ne (ne_of_none hy4 hu)]; exact hy4, small1000 (by omega), z1, ⟨_, _, _, _, _, rfl⟩, z2⟩
      | some s =>
        obtain ⟨k0, a0, e0⟩ := s
        obtain ⟨pre, hpre⟩ : ∃ pre, stTo (rs.map mark) i = pre ++ [(k0, a0, e0)] := by
          have := List.getLast?_eq_some_iff.mp hgl
          obtain ⟨pre, h⟩ := this
          exact ⟨pre, h⟩
        have hne : PyData.eqv (.list ((stTo (rs.map mark) i).map strD)) (.list []) = false := by
          rw [hpre]
          cases pre <;> rfl
        rw [hne]
        refine iteT ?_
        have hyy := hya4
        rw [hpre, List.map_append] at hyy
        obtain ⟨lu, hlu, hlt⟩ : ∃ lu, ys[pre.length]? = some (.ref lu) ∧ (upd (upd H2 N (.tup [.int (i : Nat), .ref t])) E0 (.lst [])) lu = some (.tup (strV (k0, a0, e0))) := by
          obtain ⟨x, h1, h2⟩ := hyy.get (i := pre.length) (d := strD (k0, a0, e0)) (by simp)
          obtain ⟨t, rfl, h3⟩ := im_str_inv h2
          exact ⟨t, h1, h3⟩
        have hyl2 : ys.length = pre.length + 1 := by rw [hyy.length]; simp
        have hix : ixN ys.length (-1) = some pre.length := by
          unfold ixN
          rw [if_neg (by omega), if_pos (by omega), hyl2]
          congr 1
          omega
        have hat : atI ys (-1) = some (.ref lu) := by
          unfold atI
          rw [hix]
          exact hlu
        refine ⟨_, rfl, _, rfl, p, _, _, _, rfl, rfl, SqL.of hy4, hat, lu, _, _, _, rfl, rfl, SqT.of hlt, atI_nat (j := 0) rfl, _, rfl, rfl, _, rfl, ?_⟩
        have fr : (k0 = r.1 → e0 ≠ (i : Int)) → Fresh (rs.map mark) i := by
          intro hz k s e z he hmm
          rw [hgl] at z
          cases z
          rw [hmk, hm] at hmm
          have hkk : k0 = r.1 := (Option.some.inj hmm).symm
          exact hz hkk he
        have snoc' : Fresh (rs.map mark) i → ∀ u, (upd (upd H2 N (.tup [.int (i : Nat), .ref t])) E0 (.lst [])) u = none → _ := fun hf u hu => snoc _ s4 hy4 hya4 hf u hu
        refine iteD (fun q4 => ?_) (fun q4 => iteF ?_)
        · refine ⟨_, rfl, _, rfl, p, _, _, _, rfl, rfl, SqL.of hy4, hat, lu, _, _, _, rfl, rfl, SqT.of hlt, atI_nat (j := 2) rfl, _, rfl, rfl, _, rfl, ?_⟩
          have q4' : k0 = r.1 := vint_inj.mp q4
          refine iteD (fun q5 => ?_) (fun q5 => ?_)
          · have q5' : e0 = (i : Int) := vint_inj.mp q5
            subst q4' q5'
            -- the last one grows
            refine ⟨_, rfl, _, rfl, _, rfl, p, _, _, _, rfl, rfl, SqL.of hy4, hat, lu, _, _, _, rfl, rfl, SqT.of hlt, atI_nat (j := 1) rfl, ?_⟩
            refine ⟨_, rfl, _, _, rfl, rfl, (by show 3 ≤ sizeLine; decide), fun u hu => ?_⟩
            have npu := ne_of_none hy4 hu
            have hy5 : (upd (upd (upd H2 N (.tup [.int (i : Nat), .ref t])) E0 (.lst [])) u (.tup [.int r.1, .int a0, .int ((i : Nat) + 1)])) p = some (.lst ys) := by rw [upd_ne npu]; exact hy4
            refine ⟨_, rfl, _, rfl, p, _, _, pre.length, rfl, rfl, hy5, hix, ?_⟩
            refine ⟨((Frm.of_same (s4.trans (Same.upd_new hu))).own hpH (Frm.updL hy5)).same, ⟨_, _, _, _, _, rfl⟩, _, upd_same, ?_⟩
            have e1 : stTo (rs.map mark) (i + 1) = pre ++ [(r.1, a0, (i : Int) + 1)] := by
              show stStep _ _ _ = _
              rw [hmk, hm, hpre]
              unfold stStep
              simp
            have e2 : ys.set pre.length (.ref u) = ys.take pre.length ++ [.ref u] := by
              apply List.ext_getElem?
              intro n
              rw [List.getElem?_set, List.getElem?_append]
              simp only [List.length_take]
              by_cases h1 : pre.length = n
              · subst h1
                rw [if_pos rfl, if_pos (by omega), if_neg (by omega)]
                have : pre.length - min pre.length ys.length = 0 := by omega
                rw [this]
                rfl
              · rw [if_neg h1]
                by_cases h2 : n < pre.length
                · rw [if_pos (by omega), List.getElem?_take, if_pos h2]
                · rw [if_neg (by omega), List.getElem?_eq_none (by omega), List.getElem?_eq_none (by simp; omega)]
            rw [e1, e2, List.map_append]
            refine ImAll.append ?_ (.cons (im_str (s := (r.1, a0, (i : Int) + 1)) ?_) .nil)
            · have z := ((hyy.new (o := .tup [.int r.1, .int a0, .int ((i : Nat) + 1)]) hu).updL (o := .lst (ys.take pre.length ++ [.ref u])) hy5).take pre.length
              have e3 : ((pre.map strD ++ [(r.1, a0, (i : Int))].map strD).take pre.length) = pre.map strD := by
                rw [List.take_append_of_le_length (by simp), List.take_of_length_le (by simp)]
              rw [e3] at z
              exact z
            · rw [upd_ne (Ne.symm npu), upd_same]
              rfl
          · refine ⟨_, rfl, .inl ⟨rfl, _, SqL.of hy4⟩, _, rfl, _, rfl, _, rfl, _, _, rfl, rfl, (by show 3 ≤ sizeLine; decide), fun u hu => ?_⟩
            obtain ⟨z1, z2⟩ := snoc' (fr fun _ z => q5 (by rw [z])) u hu
            exact ⟨p, ys, _, rfl, rfl, by rw [upd_ne (ne_of_none hy4 hu)]; exact hy4, small1000 (by omega), z1, ⟨_, _, _, _, _, rfl⟩, z2⟩
        · refine ⟨_, rfl, .inl ⟨rfl, _, SqL.of hy4⟩, _, rfl, _, rfl, _, rfl, _, _, rfl, rfl, (by show 3 ≤ sizeLine; decide), fun u hu => ?_⟩
          obtain ⟨z1, z2⟩ := snoc' (fr fun z => (q4 (by rw [z])).elim) u hu
          exact ⟨p, ys, _, rfl, rfl, by rw [upd_ne (ne_of_none hy4 hu)]; exact hy4, small1000 (by omega), z1, ⟨_, _, _, _, _, rfl⟩, z2⟩
    · rintro σ H2 ⟨s2, ⟨v2, v3, v4, v5, v6, rfl⟩, ys, hy, hya⟩
      rw [hxl] at hya
      exact ⟨_, rfl, k p ys H2 hpH hy hya s2⟩

end
end TL

namespace TL
open PySem PySem.Spec PyProof.Rows L2
section
variable {P : Program} {w : World} {K : PySem.W.Frag} {mg : Str → Option Value} {base : Heap}
def fieldK (c : Nat) (lo hi : Int) : Prop := (c = 99 ∧ lo = 1 ∧ hi = 100) ∨ (c = 101 ∧ lo = 0 ∧ hi = 1) ∨ (c = 112 ∧ lo = 0 ∧ hi = 1) ∨ (c = 105 ∧ lo = 0 ∧ hi = 999)
/-- a field of one kind; c: the kind's letter -/
def sp_is_field (T : Txt w K mg) : Sp := fun vs H Q _ => ∃ (c : Nat) (v : V) (d : PyData), vs = [.str ⟨#[c]⟩, v] ∧ Dp K H v d ∧ ((c = 109 ∧ mdat d ∧ ∀ H', Same H H' → Q (.bl (isMan d)) H') ∨ ∃ lo hi, fieldK c lo hi ∧ (∀ ds, d ≠ .list ds) ∧ Q (.bl (between d lo hi)) H)
theorem kd_get {a : Addr} {es : Array DictEntry} {n : Nat} (D : KDict K w a es n) {x : Str} {u : Value} {v : V} (e : PySem.W.nsIn K a x = some (some u)) (r : RelV v u) : KDct K w a x v := ⟨es, n, u, D.at_, D.lit, e, r⟩
theorem ok_is_field (T : Txt w K mg) : FnOk P w K mg base CX0 3 T.a_is_field T.fd_is_field P_is_field (sp_is_field T) := by
  have G_is_between := ok_is_between (P := P) (w := w) (base := base) T
  have G_are_manners := ok_are_manners (P := P) (w := w) (base := base) T
  refine T.F_is_field.ok sc_is_field (fun vs H Q E h => ?_) (fun cdv A outer s H vs Q E hr h => ?_)
  · obtain ⟨c, v, d, rfl, _⟩ := h
    rfl
  · obtain ⟨c, v, d, rfl, hd, k⟩ := h
    obtain ⟨es, n, DF_BOUNDS⟩ := T.kd_BOUNDS
    refine ⟨_, (pss_cons (ps_if (pt_cmpR op_eq (pv 0) pe_str (nomark _))
      (pss_one (ps_ret (pe_call G_are_manners (hr.mono (by decide)) rfl T.g_are_manners T.F_are_manners.kp T.b_are_manners .nil pass0 (pa_cons (pv 1) pa_nil))))
      pss_nil)
    (pss_one (ps_ret (pe_call G_is_between (hr.mono (by decide)) rfl T.g_is_between T.F_is_between.kp T.b_is_between .nil pass0 (pa_cons (pv 1) (pa_cons (pe_ix ix_tup (pe_ix ix_kdict (pe_glob (v := .ref T.a_BOUNDS) rfl T.v_BOUNDS rfl) (pv 0) (fun _ _ => rfl)) pe_int (fun _ _ => rfl)) (pa_cons (pe_ix ix_tup (pe_ix ix_kdict (pe_glob (v := .ref T.a_BOUNDS) rfl T.v_BOUNDS rfl) (pv 0) (fun _ _ => rfl)) pe_int (fun _ _ => rfl)) pa_nil))))))), ?_⟩
    rcases k with ⟨rfl, hm, k⟩ | ⟨lo, hi, hk, nl, k⟩
    · refine ⟨_, rfl, rfl, true, congrArg V.bl (decide_eq_true (by decide +kernel)), iteT ?_⟩
      exact ⟨_, rfl, v, d, rfl, hd, hm, fun H' s' => k H' s'⟩
    · rcases hk with ⟨rfl, rfl, rfl⟩ | ⟨rfl, rfl, rfl⟩ | ⟨rfl, rfl, rfl⟩ | ⟨rfl, rfl, rfl⟩
      · obtain ⟨a, ob, its, n', e1, e2, e3, e4, e5, e6⟩ := T.u_BOUNDS_0
        have hz : (⟨#[99]⟩ : Str) = "c" := by decide +kernel
        have kd : KDct K w T.a_BOUNDS ⟨#[99]⟩ (.ref a) := by rw [hz]; exact kd_get DF_BOUNDS e1 rfl
        have sq : ∀ {H : Hp}, SqT K H a [.int 1, .int 100] := fun {H} => .inr ⟨ob, its, n', e2, e3, e4, e5, e6⟩
        refine ⟨_, rfl, rfl, false, congrArg V.bl (decide_eq_false (by decide +kernel)), iteF ?_⟩
        exact ⟨_, rfl, _, rfl, T.a_BOUNDS, _, .ref a, rfl, rfl, kd, a, _, 0, .int 1, rfl, rfl, sq, rfl, _, rfl, T.a_BOUNDS, _, .ref a, rfl, rfl, kd, a, _, 1, .int 100, rfl, rfl, sq, rfl, v, d, _, _, rfl, hd, nl, k⟩
      · obtain ⟨a, ob, its, n', e1, e2, e3, e4, e5, e6⟩ := T.u_BOUNDS_1
        have hz : (⟨#[101]⟩ : Str) = "e" := by decide +kernel
        have kd : KDct K w T.a_BOUNDS ⟨#[101]⟩ (.ref a) := by rw [hz]; exact kd_get DF_BOUNDS e1 rfl
        have sq : ∀ {H : Hp}, SqT K H a [.int 0, .int 1] := fun {H} => .inr ⟨ob, its, n', e2, e3, e4, e5, e6⟩
        refine ⟨_, rfl, rfl, false, congrArg V.bl (decide_eq_false (by decide +kernel)), iteF ?_⟩
        exact ⟨_, rfl, _, rfl, T.a_BOUNDS, _, .ref a, rfl, rfl, kd, a, _, 0, .int 0, rfl, rfl, sq, rfl, _, rfl, T.a_BOUNDS, _, .ref a, rfl, rfl, kd, a, _, 1, .int 1, rfl, rfl, sq, rfl, v, d, _, _, rfl, hd, nl, k⟩
      · obtain ⟨a, ob, its, n', e1, e2, e3, e4, e5, e6⟩ := T.u_BOUNDS_2
        have hz : (⟨#[112]⟩ : Str) = "p" := by decide +kernel
        have kd : KDct K w T.a_BOUNDS ⟨#[112]⟩ (.ref a) := by rw [hz]; exact kd_get DF_BOUNDS e1 rfl
        have sq : ∀ {H : Hp}, SqT K H a [.int 0, .int 1] := fun {H} => .inr ⟨ob, its, n', e2, e3, e4, e5, e6⟩
        refine ⟨_, rfl, rfl, false, congrArg V.bl (decide_eq_false (by decide +kernel)), iteF ?_⟩
        exact ⟨_, rfl, _, rfl, T.a_BOUNDS, _, .ref a, rfl, rfl, kd, a, _, 0, .int 0, rfl, rfl, sq, rfl, _, rfl, T.a_BOUNDS, _, .ref a, rfl, rfl, kd, a, _, 1, .int 1, rfl, rfl, sq, rfl, v, d, _, _, rfl, hd, nl, k⟩
      · obtain ⟨a, ob, its, n', e1, e2, e3, e4, e5, e6⟩ := T.u_BOUNDS_3
        have hz : (⟨#[105]⟩ : Str) = "i" := by decide +kernel
        have kd : KDct K w T.a_BOUNDS ⟨#[105]⟩ (.ref a) := by rw [hz]; exact kd_get DF_BOUNDS e1 rfl
        have sq : ∀ {H : Hp}, SqT K H a [.int 0, .int 999] := fun {H} => .inr ⟨ob, its, n', e2, e3, e4, e5, e6⟩
        refine ⟨_, rfl, rfl, false, congrArg V.bl (decide_eq_false (by decide +kernel)), iteF ?_⟩
        exact ⟨_, rfl, _, rfl, T.a_BOUNDS, _, .ref a, rfl, rfl, kd, a, _, 0, .int 0, rfl, rfl, sq, rfl, _, rfl, T.a_BOUNDS, _, .ref a, rfl, rfl, kd, a, _, 1, .int 999, rfl, rfl, sq, rfl, v, d, _, _, rfl, hd, nl, k⟩

end
end TL

namespace TL
open PySem PySem.Spec PyProof.Rows L2
section
variable {P : Program} {w : World} {K : PySem.W.Frag} {mg : Str → Option Value} {base : Heap}
def sp_is_step (T : Txt w K mg) : Sp := fun vs H Q _ => ∃ (v : V) (d : PyData) (b : Bool), vs = [v] ∧ Im H v d ∧ StepTry d b ∧ ∀ H', Same H H' → Q (.bl b) H'
theorem word_form (T : Txt w K mg) {wd : Str} {f : List Nat} (h : WordF wd f) : ∃ u, PySem.W.nsIn K T.a_FORMS wd = some (some u) ∧ RelV (.str ⟨f.toArray⟩) u := by
  rcases h with ⟨rfl, rfl⟩ | ⟨rfl, rfl⟩ | ⟨rfl, rfl⟩ | ⟨rfl, rfl⟩ | ⟨rfl, rfl⟩ | ⟨rfl, rfl⟩ | ⟨rfl, rfl⟩
  · obtain ⟨u, e1, e2⟩ := T.u_FORMS_0
    exact ⟨u, e1, by rw [show (⟨([99] : List Nat).toArray⟩ : Str) = "c" from by decide +kernel]; exact e2⟩
  · obtain ⟨u, e1, e2⟩ := T.u_FORMS_1
    exact ⟨u, e1, by rw [show (⟨([101, 109] : List Nat).toArray⟩ : Str) = "em" from by decide +kernel]; exact e2⟩
  · obtain ⟨u, e1, e2⟩ := T.u_FORMS_2
    exact ⟨u, e1, by rw [show (⟨([112, 101] : List Nat).toArray⟩ : Str) = "pe" from by decide +kernel]; exact e2⟩
  · obtain ⟨u, e1, e2⟩ := T.u_FORMS_3
    exact ⟨u, e1, by rw [show (⟨([101, 105] : List Nat).toArray⟩ : Str) = "ei" from by decide +kernel]; exact e2⟩
  · obtain ⟨u, e1, e2⟩ := T.u_FORMS_4
    exact ⟨u, e1, by rw [show (⟨([101] : List Nat).toArray⟩ : Str) = "e" from by decide +kernel]; exact e2⟩
  · obtain ⟨u, e1, e2⟩ := T.u_FORMS_5
    exact ⟨u, e1, by rw [show (⟨([101] : List Nat).toArray⟩ : Str) = "e" from by decide +kernel]; exact e2⟩
  · obtain ⟨u, e1, e2⟩ := T.u_FORMS_6
    exact ⟨u, e1, by rw [show (⟨([] : List Nat).toArray⟩ : Str) = "" from by decide +kernel]; exact e2⟩
theorem ok_is_step (T : Txt w K mg) : FnOk P w K mg base CX0 4 T.a_is_step T.fd_is_step P_is_step (sp_is_step T) := by
  have G_is_field := ok_is_field (P := P) (w := w) (base := base) T
  refine T.F_is_step.ok sc_is_step (fun vs H Q E h => ?_) (fun cdv A outer s H vs Q E hr h => ?_)
  · obtain ⟨v, d, b, rfl, _⟩ := h
    rfl
  · obtain ⟨v, d, b, rfl, im, st, k⟩ := h
    have hu64 := hr.units
    obtain ⟨es, n, DF_FORMS⟩ := T.kd_FORMS
    refine ⟨_, (pss_cons (ps_if (PW.pt (pw_or (pt_not (pt_val (pe_callB call_isi (by rfl) T.n_isinstance (by decide +kernel) (pa_cons (pv 0) (pa_cons (pe_bltn (v := .ty "tuple") (u := .type "tuple") (by rfl) T.n_tuple (by decide +kernel) rfl) pa_nil))))) (pw_or (pt_cmpR (op_eqD hu64) (pv 0) (pe_tup pa_nil) (nomark _)) (pw_or (pt_not (pt_val (pe_callB call_isi (by rfl) T.n_isinstance (by decide +kernel) (pa_cons (pe_ix ix_tup (pv 0) pe_int (fun _ _ => rfl)) (pa_cons (pe_bltn (v := .ty "str") (u := .type "str") (by rfl) T.n_str (by decide +kernel) rfl) pa_nil))))) (pw_or1 (pt_cmpR (op_notIn_kd DF_FORMS) (pe_ix ix_tup (pv 0) pe_int (fun _ _ => rfl)) (pe_glob (v := .ref T.a_FORMS) rfl T.v_FORMS rfl) (by rfl)))))))
      (pss_one (ps_ret pe_bl))
      pss_nil)
    (pss_cons (ps_set (i := 1) sc_is_step.nd rfl (by first | exact Or.inl rfl | exact Or.inr rfl) (pe_ix ix_kdict (pe_glob (v := .ref T.a_FORMS) rfl T.v_FORMS rfl) (pe_ix ix_tup (pv 0) pe_int (fun _ _ => rfl)) (fun _ _ => rfl)))
    (pss_one (ps_ret (pe_and (pe_cmpR op_eq (pe_callB call_len_seq (by rfl) T.n_len (by decide +kernel) (pa_cons (pv 0) pa_nil)) (pe_op op_add (pe_callB call_len_str (by rfl) T.n_len (by decide +kernel) (pa_cons (pv 1) pa_nil)) pe_int) (nomark _)) (pe_one (pe_cmpR (op_eqD hu64) (pe_lc (own := [("k", 2)]) (g := (gName 2)) (tt := (tNot (tB (tCall _ [] E0 (tCons (tOp rIxS (tVar 1) (tVar 2)) (tCons (tOp (rIxT K) (tVar 0) (tOp (rI0 fun i j => .int (i + j)) (tC (.int 1)) (tVar 2))) tNil)))))) (te := (tVar 2)) rfl sc_is_step.nd (pi_range1 rfl T.n_range (pa_cons (pe_callB call_len_str (by rfl) T.n_len (by decide +kernel) (pa_cons (pv 1) pa_nil)) pa_nil)) (blkOk_by (own := [("k", 2)]) (N := N_is_step) (sc := defScope s_is_step) (by decide +kernel)) (fun _ _ _ _ _ => (pg_name (i := 2) sc_is_step.nd rfl (by first | exact Or.inl rfl | exact Or.inr rfl))) (fun _ _ _ _ _ => (pts_one (pt_not (pt_val (pe_call G_is_field (hr.mono (by decide)) rfl T.g_is_field T.F_is_field.kp T.b_is_field .nil pass0 (pa_cons (pe_ix ix_str (pv 1) (pv 2) (fun _ _ => rfl)) (pa_cons (pe_ix ix_tup (pv 0) (pe_op op_add pe_int (pv 2)) (fun _ _ => rfl)) pa_nil))))))) (fun _ _ _ _ _ => (pv 2))) (pe_lst pa_nil) (nomark _)))))))), ?_⟩
    have at0 : ∀ {x : V} {l : List V}, atI (x :: l) 0 = some x := atI_nat (j := 0) rfl
    cases st with
    | none =>
      cases im
      exact ⟨_, rfl, _, _, _, _, _, rfl, .ty _, tyx_D (K := K) .non, kit_ty kb_nt, _, rfl, iteT (k _ (.refl _))⟩
    | int i =>
      cases im
      exact ⟨_, rfl, _, _, _, _, _, rfl, .ty _, tyx_D (K := K) (.int _), kit_ty kb_it, _, rfl, iteT (k _ (.refl _))⟩
    | str z =>
      cases im
      exact ⟨_, rfl, _, _, _, _, _, rfl, .ty _, tyx_D (K := K) (.str _), kit_ty kb_st, _, rfl, iteT (k _ (.refl _))⟩
    | empty =>
      obtain ⟨a, xs, rfl, ha, hA⟩ := im_tup_inv im
      cases hA
      refine ⟨_, rfl, _, _, _, _, _, rfl, .ty _, tyx_T (SqT.of ha), kit_ty kb_tt, _, rfl, iteF ?_⟩
      refine ⟨_, rfl, (by show 0 ≤ sizeLine; decide), fun E hE => ?_⟩
      have sE := Same.upd_new (o := .tup []) hE
      have hE1 := upd_same (H := H) (a := E) (o := .tup [])
      generalize (upd H E (.tup [])) = H1 at sE hE1 ⊢
      exact ⟨.tuple [], .tuple [], .tup (SqT.of (sE _ _ ha)) .nil, .tup (SqT.of hE1) .nil, by decide, by decide, true, congrArg V.bl (by rfl), iteT (k _ sE)⟩
    | nokey hw =>
      rename_i wd
      obtain ⟨a, xs, rfl, ha, hA⟩ := im_tup_inv im
      have lvw : lv 2 (.tuple [.str wd, .int 1]) := by
        refine ⟨(by decide : 2 ≤ 100000), fun d hd => ?_⟩
        simp only [List.mem_cons, List.not_mem_nil, or_false] at hd
        rcases hd with rfl | rfl
        · rcases hw with rfl | rfl
          · show (PyData.str "Frames").canLay0 = true
            decide +kernel
          · show (PyData.str "").canLay0 = true
            decide +kernel
        · trivial
      cases hA with
      | cons h1 hA =>
      cases h1
      have e1 : PySem.W.nsIn K T.a_FORMS wd = some none := by
        rcases hw with rfl | rfl
        · exact T.nf_FORMS_0
        · exact T.nf_FORMS_1
      have sq : ∀ {H' : Hp}, Same H H' → SqT K H' a _ := fun s => SqT.of (s _ _ ha)
      refine ⟨_, rfl, _, _, _, _, _, rfl, .ty _, tyx_T (sq (.refl _)), kit_ty kb_tt, _, rfl, iteF ?_⟩
      refine ⟨_, rfl, (by show 0 ≤ sizeLine; decide), fun E hE => ?_⟩
      have sE := Same.upd_new (o := .tup []) hE
      have hE1 := upd_same (H := H) (a := E) (o := .tup [])
      generalize (upd H E (.tup [])) = H1 at sE hE1 ⊢
      refine ⟨_, .tuple [], (im.same sE).dp, .tup (SqT.of hE1) .nil, shaped_lv lvw (by decide), by decide, false, congrArg V.bl (by rfl), iteF ?_⟩
      refine ⟨_, rfl, a, _, _, _, rfl, rfl, sq sE, at0, _, _, _, _, _, rfl, .ty _, tyx_D (.str wd), kit_ty kb_ss, _, rfl, iteF ?_⟩
      exact ⟨_, rfl, a, _, _, _, rfl, rfl, sq sE, at0, _, _, rfl, rfl, e1, true, rfl, iteT (k _ sE)⟩
    | key hW hl hm hb =>
      rename_i wd f rest
      obtain ⟨a, xs, rfl, ha, hA⟩ := im_tup_inv im
      have lvw := lv_key hW hl hm
      obtain ⟨hlay, f2, fc⟩ := hW.lay
      obtain ⟨u, e1, e2⟩ := word_form T hW
      cases hA with
      | cons h1 hA =>
      cases h1
      rename_i ys
      have hyl : ys.length = rest.length := hA.length
      have sq : ∀ {H' : Hp}, Same H H' → SqT K H' a (.str wd :: ys) := fun s => SqT.of (s _ _ ha)
      refine ⟨_, rfl, _, _, _, _, _, rfl, .ty _, tyx_T (sq (.refl _)), kit_ty kb_tt, _, rfl, iteF ?_⟩
      refine ⟨_, rfl, (by show 0 ≤ sizeLine; decide), fun E hE => ?_⟩
      have sE := Same.upd_new (o := .tup []) hE
      have hE1 := upd_same (H := H) (a := E) (o := .tup [])
      generalize (upd H E (.tup [])) = H1 at sE hE1 ⊢
      refine ⟨_, .tuple [], (im.same sE).dp, .tup (SqT.of hE1) .nil, shaped_lv lvw (by decide), by decide, false, congrArg V.bl (by rfl), iteF ?_⟩
      refine ⟨_, rfl, a, _, _, _, rfl, rfl, sq sE, at0, _, _, _, _, _, rfl, .ty _, tyx_D (.str wd), kit_ty kb_ss, _, rfl, iteF ?_⟩
      refine ⟨_, rfl, a, _, _, _, rfl, rfl, sq sE, at0, _, _, rfl, rfl, e1, false, rfl, iteF ?_⟩
      -- its form
      obtain ⟨fs, efs⟩ : ∃ fs : Str, fs = ⟨f.toArray⟩ := ⟨_, rfl⟩
      rw [← efs] at e2
      have lf : fs.length = f.length := by rw [len_tl, efs, tl_mk]
      refine ⟨_, rfl, a, _, _, _, rfl, rfl, sq sE, at0, T.a_FORMS, _, .str fs, rfl, rfl, ⟨_, _, u, DF_FORMS.at_, DF_FORMS.lit, e1, e2⟩, ?_⟩
      refine ⟨_, rfl, a, _, rfl, .inr (sq sE), _, rfl, _, rfl, (by rw [lf]; show f.length ≤ 16777216; omega), _, _, rfl, rfl, rfl, ?_⟩
      by_cases hrl : rest.length = f.length
      · refine ⟨true, congrArg V.bl (decide_eq_true (vint_inj.mpr (by rw [lf, List.length_cons, hyl, hrl]; omega))), iteT ?_⟩
        rw [decide_eq_true hrl, Bool.true_and] at hb
        refine ⟨_, rfl, _, rfl, (by rw [lf]; show f.length ≤ 16777216; omega), ?_⟩
        rw [lf]
        refine ⟨(f.length : Nat), rfl, by omega, by omega, fun D hD => ?_⟩
        refine lc_range (lo := 0) (n := f.length) (fun i H' => Same H1 H' ∧ ∃ bad : List Int, H' D = some (.lst (bad.map V.int)) ∧ bad.length ≤ i ∧ (decide (bad = []) = ((List.zipWith fieldB f rest).take i).all id)) ⟨Same.upd_new hD, [], upd_same, Nat.le_refl _, rfl⟩ ?_ ?_
        · rintro i H2 hi ⟨s2, bad, hD2, hbl, hbd⟩
          have hir : i < rest.length := by omega
          have hc : f[i]? = some f[i] := List.getElem?_eq_getElem hi
          have he : rest[i]? = some rest[i] := List.getElem?_eq_getElem hir
          have hz : (List.zipWith fieldB f rest)[i]? = some (fieldB f[i] rest[i]) := by
            rw [List.getElem?_zipWith, hc, he]
          have htk := take_more hz
          have hcf := fc f[i] (List.getElem_mem hi)
          have hmd := hm rest[i] (List.getElem_mem hir)
          obtain ⟨y, hy, imy⟩ := hA.get he
          have s12 := sE.trans s2
          have hat : atI (V.str wd :: ys) (1 + (0 + (i : Nat))) = some y := by
            have e : (1 : Int) + (0 + (i : Nat)) = ((i + 1 : Nat) : Int) := by omega
            rw [e]
            exact atI_nat (j := i + 1) (by rw [List.getElem?_cons_succ]; exact hy)
          have hac : atI fs.cps.toList (0 + (i : Nat)) = some f[i] := by
            have e : (0 : Int) + (i : Nat) = ((i : Nat) : Int) := by omega
            rw [e, efs]
            exact atI_nat (j := i) hc
          generalize f[i] = c at hcf hac hz htk
          generalize rest[i] = e at he hz htk hmd imy
          refine ⟨rfl, _, rfl, _, rfl, _, (0 + (i : Nat) : Int), c, rfl, rfl, (by rw [lf]; show f.length ≤ 16777216; omega), hac, _, rfl, _, rfl, _, _, rfl, rfl, a, _, _, y, rfl, rfl, sq s12, hat, ?_⟩
          have imy2 := imy.same s12
          refine ⟨c, y, e, rfl, imy2.dp, ?_⟩
          have s22 : Same H2 H2 := .refl _
          rcases hcf with rfl | rfl | rfl | rfl | rfl
          · refine .inr ⟨1, 100, .inl ⟨rfl, rfl, rfl⟩, hmd.nolist, _, rfl, ?_⟩
            cases hx : between e 1 100 with
            | true =>
              have hB : fieldB 99 e = true := hx
              exact iteF ⟨s2.trans s22, bad, s22 _ _ hD2, by omega, by rw [htk, List.all_append, ← hbd]; simp [hB]⟩
            | false =>
              have hB : fieldB 99 e = false := hx
              have hD3 := s22 _ _ hD2
              exact iteT ⟨_, rfl, _, hD3, (by rw [List.length_map]; exact small1000 (by omega)), ((Frm.of_same (s2.trans s22)).own hD (Frm.updL hD3)).same, bad ++ [(0 + (i : Nat) : Int)], by rw [upd_same, List.map_append]; rfl, by rw [List.length_append]; exact Nat.succ_le_succ hbl, by rw [htk, List.all_append]; simp [hB]⟩
          · refine .inr ⟨0, 1, .inr (.inl ⟨rfl, rfl, rfl⟩), hmd.nolist, _, rfl, ?_⟩
            cases hx : between e 0 1 with
            | true =>
              have hB : fieldB 101 e = true := hx
              exact iteF ⟨s2.trans s22, bad, s22 _ _ hD2, by omega, by rw [htk, List.all_append, ← hbd]; simp [hB]⟩
            | false =>
              have hB : fieldB 101 e = false := hx
              have hD3 := s22 _ _ hD2
              exact iteT ⟨_, rfl, _, hD3, (by rw [List.length_map]; exact small1000 (by omega)), ((Frm.of_same (s2.trans s22)).own hD (Frm.updL hD3)).same, bad ++ [(0 + (i : Nat) : Int)], by rw [upd_same, List.map_append]; rfl, by rw [List.length_append]; exact Nat.succ_le_succ hbl, by rw [htk, List.all_append]; simp [hB]⟩
          · refine .inr ⟨0, 999, .inr (.inr (.inr ⟨rfl, rfl, rfl⟩)), hmd.nolist, _, rfl, ?_⟩
            cases hx : between e 0 999 with
            | true =>
              have hB : fieldB 105 e = true := hx
              exact iteF ⟨s2.trans s22, bad, s22 _ _ hD2, by omega, by rw [htk, List.all_append, ← hbd]; simp [hB]⟩
            | false =>
              have hB : fieldB 105 e = false := hx
              have hD3 := s22 _ _ hD2
              exact iteT ⟨_, rfl, _, hD3, (by rw [List.length_map]; exact small1000 (by omega)), ((Frm.of_same (s2.trans s22)).own hD (Frm.updL hD3)).same, bad ++ [(0 + (i : Nat) : Int)], by rw [upd_same, List.map_append]; rfl, by rw [List.length_append]; exact Nat.succ_le_succ hbl, by rw [htk, List.all_append]; simp [hB]⟩
          · refine .inl ⟨rfl, hmd, fun H3 s3 => ⟨_, rfl, ?_⟩⟩
            cases hx : isMan e with
            | true =>
              have hB : fieldB 109 e = true := hx
              exact iteF ⟨s2.trans s3, bad, s3 _ _ hD2, by omega, by rw [htk, List.all_append, ← hbd]; simp [hB]⟩
            | false =>
              have hB : fieldB 109 e = false := hx
              have hD3 := s3 _ _ hD2
              exact iteT ⟨_, rfl, _, hD3, (by rw [List.length_map]; exact small1000 (by omega)), ((Frm.of_same (s2.trans s3)).own hD (Frm.updL hD3)).same, bad ++ [(0 + (i : Nat) : Int)], by rw [upd_same, List.map_append]; rfl, by rw [List.length_append]; exact Nat.succ_le_succ hbl, by rw [htk, List.all_append]; simp [hB]⟩
          · refine .inr ⟨0, 1, .inr (.inr (.inl ⟨rfl, rfl, rfl⟩)), hmd.nolist, _, rfl, ?_⟩
            cases hx : between e 0 1 with
            | true =>
              have hB : fieldB 112 e = true := hx
              exact iteF ⟨s2.trans s22, bad, s22 _ _ hD2, by omega, by rw [htk, List.all_append, ← hbd]; simp [hB]⟩
            | false =>
              have hB : fieldB 112 e = false := hx
              have hD3 := s22 _ _ hD2
              exact iteT ⟨_, rfl, _, hD3, (by rw [List.length_map]; exact small1000 (by omega)), ((Frm.of_same (s2.trans s22)).own hD (Frm.updL hD3)).same, bad ++ [(0 + (i : Nat) : Int)], by rw [upd_same, List.map_append]; rfl, by rw [List.length_append]; exact Nat.succ_le_succ hbl, by rw [htk, List.all_append]; simp [hB]⟩
        · rintro H2 ⟨s2, bad, hD2, hbl, hbd⟩
          refine ⟨(by show 0 ≤ sizeLine; decide), fun F hF => ?_⟩
          have sF := Same.upd_new (o := .lst []) hF
          have ee : PyData.eqv (.list (bad.map .int)) (.list []) = b := by
            rw [hb, ← List.take_of_length_le (i := f.length) (l := List.zipWith fieldB f rest) (by rw [List.length_zipWith]; omega), ← hbd]
            cases bad <;> rfl
          refine ⟨.list (bad.map .int), .list [], .lst (SqL.of (sF _ _ hD2)) (dp_ints _), .lst (SqL.of upd_same) .nil, shaped_lv (lv_ints (by omega)) (by decide), by decide, ?_⟩
          rw [ee]
          exact k _ ((sE.trans s2).trans sF)
      · refine ⟨false, congrArg V.bl (decide_eq_false fun z => hrl ?_), iteF ?_⟩
        · have := vint_inj.mp z
          rw [lf, List.length_cons, hyl] at this
          omega
        · rw [decide_eq_false hrl, Bool.false_and] at hb
          rw [hb] at k
          exact k _ sE

end
end TL

namespace TL
open PySem PySem.Spec PyProof.Rows L2
section
variable {P : Program} {w : World} {K : PySem.W.Frag} {mg : Str → Option Value} {base : Heap}
def sp_BadStep_init (T : Txt w K mg) : Sp := fun vs H Q _ => ∃ (a : Addr) (n : Int), vs = [.ref a, .int n] ∧ H a = some (exo a T.C_BadStep none) ∧
  ∀ dx, H dx = none → dx ≠ a → Q .non (upd (upd H dx (exd dx [("at", .int n)])) a (exo a T.C_BadStep (some dx)))
theorem ok_BadStep_init (T : Txt w K mg) : FnOk P w K mg base CX0 1 T.a_BadStep_init T.fd_BadStep_init P_BadStep_init (sp_BadStep_init T) := by
  skip
  refine T.F_BadStep_init.ok sc_BadStep_init (fun vs H Q E h => ?_) (fun cdv A outer s H vs Q E hr h => ?_)
  · obtain ⟨a, n, rfl, _⟩ := h
    rfl
  · obtain ⟨a, n, rfl, ha, k⟩ := h
    refine ⟨_, (pss_cons (ps_expr (pe_basei rfl T.c_LineError T.bc_LineError (pa_cons (pv 0) (pa_cons (pv 1) pa_nil))))
    (pss_one (ps_ost (pv 0) (pv 1) rfl))), ?_⟩
    refine ⟨_, rfl, _, rfl, a, T.C_BadStep, [.int n], rfl, (by show 1 ≤ 1000; decide), T.ox_BadStep, ha, ?_⟩
    exact ⟨_, rfl, _, rfl, a, T.C_BadStep, rfl, T.ox_BadStep, T.nx_BadStep_at, .inl ⟨ha, fun dx h1 h2 => k dx h1 h2⟩⟩

end
end TL

namespace TL
open PySem PySem.Spec PyProof.Rows L2
section
variable {P : Program} {w : World} {K : PySem.W.Frag} {mg : Str → Option Value} {base : Heap}
/-- m: the first that is no step, or one step too many -/
def firstNo (g : Nat → Bool) (n m : Nat) : Prop := m < n ∧ (200 ≤ m ∨ g m = false) ∧ ∀ j, j < m → j < 200 ∧ g j = true
def TryAll (ds : List PyData) (g : Nat → Bool) : Prop := ∀ i d, ds[i]? = some d → StepTry d (g i)
def sp_need_steps (T : Txt w K mg) : Sp := fun vs H Q E => ∃ (a : Addr) (xs : List V) (ds : List PyData) (g : Nat → Bool), vs = [.ref a] ∧ SqL K H a xs ∧ ImAll H xs ds ∧ TryAll ds g ∧
  (∀ m, firstNo g ds.length m → ∀ (dd : Addr) (H' : Hp), Same H H' → H' dd = some (.xd [("at", .int (m : Nat))]) → E (.ref T.C_BadStep) (some dd) H') ∧
  ((∀ i, i < ds.length → i < 200 ∧ g i = true) → ∀ H', Same H H' → Q .non H')
theorem ok_need_steps (T : Txt w K mg) : FnOk P w K mg base (L2.CX P w) 5 T.a_need_steps T.fd_need_steps P_need_steps (sp_need_steps T) := by
  have G_BadStep_init := ok_BadStep_init (P := P) (w := w) (base := base) T
  have G_is_step := ok_is_step (P := P) (w := w) (base := base) T
  refine T.F_need_steps.okX sc_need_steps (fun vs H Q E h => ?_) (fun cdv A outer s H vs Q E hr h => ?_)
  · obtain ⟨a, xs, ds, g, rfl, _⟩ := h
    rfl
  · obtain ⟨a, xs, ds, g, rfl, hL, hA, ht, kE, kQ⟩ := h
    refine ⟨_, (pss_one (ps_for (passes_of rfl) rfl (pi_enum (by rfl) T.n_enumerate (pa_cons (pv 0) pa_nil)) (pg_tup rfl (pgs_cons (pg_name (i := 1) sc_need_steps.nd rfl (by first | exact Or.inl rfl | exact Or.inr rfl)) (pgs_cons (pg_name (i := 2) sc_need_steps.nd rfl (by first | exact Or.inl rfl | exact Or.inr rfl)) pgs_nil)))
      (pss_one (ps_if (PW.pt (pw_or (pt_cmpR op_ge (pv 1) (pe_glob (v := .int 200) rfl T.v_MOST_STEPS ⟨_, rfl⟩) (nomark _)) (pw_or1 (pt_not (pt_val (pe_call G_is_step (hr.mono (by decide)) rfl T.g_is_step T.F_is_step.kp T.b_is_step .nil pass0 (pa_cons (pv 2) pa_nil)))))))
        (pss_one (ps_raise rfl (takes_of rfl rfl rfl rfl) (pmk_oex T.ox_BadStep T.iC_BadStep T.tI_BadStep G_BadStep_init (hr.mono (by decide)) T.b_BadStep_init .nil pass0 rfl T.c_BadStep (pa_cons (pv 1) pa_nil))))
        pss_nil)))), ?_⟩
    have hxl := hA.length
    refine ⟨_, rfl, a, xs, rfl, hL, for_enum (K := K) (a := a) (xs := xs) (fun i σ H2 => (∃ v1 v2 : Option V, σ = [some (.ref a), v1, v2]) ∧ Same H H2 ∧ ∀ j, j < i → j < 200 ∧ g j = true)
      ⟨⟨_, _, rfl⟩, .refl _, fun j hj => absurd hj (by omega)⟩ (fun i σ H2 _ h => h.2.1.seq hL) ?_ ?_⟩
    · rintro i x N σ H2 hi ⟨⟨v1, v2, rfl⟩, s2, hg⟩ hN
      have s3 : Same H (upd H2 N (.tup [.int (i : Nat), x])) := s2.trans (Same.upd_new hN)
      obtain ⟨d, hd, im⟩ := hA.get' hi
      have hil : i < ds.length := (List.getElem?_eq_some_iff.mp hd).1
      have im3 := im.same s3
      have raise : ∀ (σ' : L2.St) (H3 : Hp), Same H H3 → σ'[1]? = some (some (.int (i : Nat))) → (200 ≤ i ∨ g i = false) → tMkO T.C_BadStep (sp_BadStep_init T) [] (tCons (tVar 1) tNil) σ' H3 fun cls dd H' => E cls dd H' := by
        intro σ' H3 sx hσ hbad
        refine ⟨_, hσ, (by show 1 ≤ 1000; decide), fun o ho => ⟨o, i, rfl, upd_same, fun dx h1 h2 => ?_⟩⟩
        have h1' : H3 dx = none := by rw [upd_ne h2] at h1; exact h1
        refine ⟨rfl, dx, _, upd_same, by rw [upd_ne h2]; exact upd_same, h1', ?_⟩
        exact kE i ⟨hil, hbad, hg⟩ dx _ (sx.trans (raised_same ho h1')) upd_same
      refine ⟨N, _, rfl, SqT.of upd_same, rfl, _, _, rfl, _, _, rfl, rfl, ?_⟩
      generalize upd H2 N (.tup [.int (i : Nat), x]) = H3 at s3 im3 ⊢
      refine ⟨_, rfl, _, _, rfl, rfl, _, rfl, ?_⟩
      refine iteD (fun h3 => iteT (raise _ H3 s3 rfl (.inl (by omega)))) (fun h3 => ?_)
      refine ⟨_, rfl, _, d, g i, rfl, im3, ht i d hd, fun H4 s4 => ⟨_, rfl, ?_⟩⟩
      cases hb : g i with
      | false => exact iteT (raise _ H4 (s3.trans s4) rfl (.inr hb))
      | true =>
        refine iteF ⟨⟨_, _, rfl⟩, s3.trans s4, fun j hj => ?_⟩
        rcases Nat.lt_or_ge j i with q | q
        · exact hg j q
        · have : j = i := by omega
          subst this
          exact ⟨by omega, hb⟩
    · rintro σ H2 ⟨⟨v1, v2, rfl⟩, s2, hg⟩
      exact kQ (fun i hi => hg i (by omega)) H2 s2

end
end TL

namespace TL
open PySem PySem.Spec PyProof.Rows L2
section
variable {P : Program} {w : World} {K : PySem.W.Frag} {mg : Str → Option Value} {base : Heap}
def sp_Line_let_pass (T : Txt w K mg) : Sp := fun vs H Q E => ∃ (Z : List Addr) (x : LoAd) (s : PlS) (v vm : V) (d dm : PyData), vs = [.ref x.o, v, vm] ∧ LoAt T.C_Line T.C_End T.C_Marks Z H x s ∧ (∀ z ∈ x.all, z ∈ Z) ∧ Dp K H v d ∧ (∀ ds, d ≠ .list ds) ∧ Im H vm dm ∧ mdat dm ∧
  (between d 0 1 = false → E (.ref T.C_BadEnd) none H) ∧ (between d 0 1 = true → isMan dm = false → ∀ H', Same H H' → E (.ref T.C_BadManners) none H') ∧
  (∀ (e : Int) (ms : List Int), d = .int e → dm = .tuple (ms.map .int) → (e = 0 ∨ e = 1) → isMan dm = true → ∀ H', LoAt T.C_Line T.C_End T.C_Marks Z H' x { s with ps := setP s.ps e ms } → Frm x.all H H' → Q .non H')
theorem ok_Line_let_pass (T : Txt w K mg) : FnOk P w K mg base (L2.CX P w) 4 T.a_Line_let_pass T.fd_Line_let_pass P_Line_let_pass (sp_Line_let_pass T) := by
  have G_need_end := ok_need_end (P := P) (w := w) (base := base) T
  have G_need_manners := ok_need_manners (P := P) (w := w) (base := base) T
  refine T.F_Line_let_pass.okX sc_Line_let_pass (fun vs H Q E h => ?_) (fun cdv A outer s H vs Q E hr h => ?_)
  · obtain ⟨Z, x, s, v, vm, d, dm, rfl, _⟩ := h
    rfl
  · obtain ⟨Z, x, sk, v, vm, d, dm, rfl, M, hZ, hd, nl, im, hm, k1, k2, k3⟩ := h
    refine ⟨_, (pss_cons (ps_expr (pe_call G_need_end (hr.mono (by decide)) rfl T.g_need_end T.F_need_end.kp T.b_need_end .nil (passes_call (takes_of rfl rfl rfl rfl) (fun _ _ _ _ h => h)) (pa_cons (pv 1) pa_nil)))
    (pss_cons (ps_expr (pe_call G_need_manners (hr.mono (by decide)) rfl T.g_need_manners T.F_need_manners.kp T.b_need_manners .nil (passes_call (takes_of rfl rfl rfl rfl) (fun _ _ _ _ h => h)) (pa_cons (pv 2) pa_nil)))
    (pss_one (ps_asg (pv 2) (pg_sub (pe_fld (pv 0) rfl) (pv 1) set_list))))), ?_⟩
    refine ⟨_, rfl, v, d, rfl, hd, nl, fun g => ?_, fun g => k1 g⟩
    obtain ⟨e, rfl, he⟩ := between01 g
    cases hd
    refine ⟨_, rfl, vm, dm, rfl, im.dp, hm, fun g2 H1 s1 => ?_, fun g2 H' s' => k2 g g2 H' s'⟩
    obtain ⟨ms, rfl, _⟩ := man_tuple g2
    have k := k3 e ms rfl rfl he g2
    cases im with
    | tup ht hA =>
    rename_i t ts
    have ets : ts = ms.map V.int := by
      have q := hA.dp (K := K)
      exact DpAll.ints_inv q
    subst ets
    have M1 := M.same s1
    have ht1 := s1 _ _ ht
    obtain ⟨dx, ho⟩ := M1.ob
    obtain ⟨p0, p1, hpg, hp0, hp1⟩ := M1.pg
    have hz : x.pg ∈ Z := hZ _ (by simp [LoAd.all])
    rcases he with rfl | rfl
    · obtain ⟨M2, f2⟩ := M1.setPass hz (q0 := t) (q1 := p1) (p := (ms, sk.ps.2)) ht1 hp1
      exact ⟨_, rfl, _, rfl, _, T.C_Line, _, _, _, rfl, ho, T.cl_Line, T.no_Line_passing, zip_lookup liN_nd (i := 1) rfl rfl, _, rfl, x.pg, _, _, 0, rfl, rfl, hpg, rfl, k _ M2 ((Frm.of_same s1).trans f2)⟩
    · obtain ⟨M2, f2⟩ := M1.setPass hz (q0 := p0) (q1 := t) (p := (sk.ps.1, ms)) hp0 ht1
      exact ⟨_, rfl, _, rfl, _, T.C_Line, _, _, _, rfl, ho, T.cl_Line, T.no_Line_passing, zip_lookup liN_nd (i := 1) rfl rfl, _, rfl, x.pg, _, _, 1, rfl, rfl, hpg, rfl, k _ M2 ((Frm.of_same s1).trans f2)⟩

end
end TL

namespace TL
open PySem PySem.Spec PyProof.Rows L2
section
variable {P : Program} {w : World} {K : PySem.W.Frag} {mg : Str → Option Value} {base : Heap}
def sp_Line_lose (T : Txt w K mg) : Sp := fun vs H Q E => ∃ (Z : List Addr) (x : LoAd) (s : PlS) (v ve : V) (d de : PyData), vs = [.ref x.o, v, ve] ∧ LoAt T.C_Line T.C_End T.C_Marks Z H x s ∧ (∀ z ∈ x.all, z ∈ Z) ∧ Dp K H v d ∧ (∀ ds, d ≠ .list ds) ∧ Dp K H ve de ∧ (∀ ds, de ≠ .list ds) ∧
  (between d 0 1 = false → E (.ref T.C_BadPart) none H) ∧ (between d 0 1 = true → between de 0 1 = false → E (.ref T.C_BadEnd) none H) ∧
  (∀ p e : Int, d = .int p → de = .int e → (p = 0 ∨ p = 1) → (e = 0 ∨ e = 1) → ∀ H', LoAt T.C_Line T.C_End T.C_Marks Z H' x { s with ls := setL s.ls p e } → Frm x.all H H' → Q .non H')
theorem ok_Line_lose (T : Txt w K mg) : FnOk P w K mg base (L2.CX P w) 3 T.a_Line_lose T.fd_Line_lose P_Line_lose (sp_Line_lose T) := by
  have G_need_end := ok_need_end (P := P) (w := w) (base := base) T
  have G_is_between := ok_is_between (P := P) (w := w) (base := base) T
  refine T.F_Line_lose.okX sc_Line_lose (fun vs H Q E h => ?_) (fun cdv A outer s H vs Q E hr h => ?_)
  · obtain ⟨Z, x, s, v, ve, d, de, rfl, _⟩ := h
    rfl
  · obtain ⟨Z, x, sk, v, ve, d, de, rfl, M, hZ, hd, nl, hde, nle, k1, k2, k3⟩ := h
    have hu := hu_of hr
    refine ⟨_, (pss_cons (ps_if (pt_not (pt_val (pe_call G_is_between (hr.mono (by decide)) rfl T.g_is_between T.F_is_between.kp T.b_is_between .nil pass0 (pa_cons (pv 1) (pa_cons (pe_glob (v := .int 0) rfl T.v_SLOW ⟨_, rfl⟩) (pa_cons (pe_glob (v := .int 1) rfl T.v_FAST ⟨_, rfl⟩) pa_nil))))))
      (pss_one (ps_raise rfl (takes_of rfl rfl rfl rfl) (pmk_own PySem.F.excBase_ValueError T.x_BadPart T.c_BadPart T.k_BadPart (raises_own T.s_BadPart T.t_BadPart) rfl)))
      pss_nil)
    (pss_cons (ps_expr (pe_call G_need_end (hr.mono (by decide)) rfl T.g_need_end T.F_need_end.kp T.b_need_end .nil (passes_call (takes_of rfl rfl rfl rfl) (fun _ _ _ _ h => h)) (pa_cons (pv 2) pa_nil)))
    (pss_one (ps_dput hu (pe_fld (pv 0) rfl) (pe_tup (pa_cons (pv 1) (pa_cons (pv 2) pa_nil))) pe_bl rfl)))), ?_⟩
    refine ⟨_, rfl, v, d, 0, 1, rfl, hd, nl, _, rfl, ?_⟩
    refine iteB (fun hb => k1 (by simpa using hb)) (fun hb => ?_)
    have g : between d 0 1 = true := by simpa using hb
    obtain ⟨p, rfl, hp⟩ := between01 g
    cases hd
    refine ⟨_, rfl, ve, de, rfl, hde, nle, fun g2 => ?_, fun g2 => k2 g g2⟩
    obtain ⟨e, rfl, he⟩ := between01 g2
    cases hde
    have k := k3 p e rfl rfl hp he
    obtain ⟨dx, ho⟩ := M.ob
    obtain ⟨kvs, hlo, hld⟩ := M.lo
    refine ⟨_, rfl, _, T.C_Line, _, _, _, rfl, ho, T.cl_Line, T.no_Line_lost, zip_lookup liN_nd (i := 2) rfl rfl, _, rfl, _, rfl, (by show 2 ≤ sizeLine; decide), fun N hN => ?_⟩
    have sN := Same.upd_new (o := .tup [.int p, .int e]) hN
    have M1 := M.same sN
    have h4 := hld.small
    obtain ⟨M2, f2⟩ := M1.setLost (hZ _ (by simp [LoAd.all])) (hld.put hp he (v := .bl true))
    exact ⟨x.lo, _, rfl, DPut.t (k := lkey p e) (sN _ _ hlo) upd_same (small1000 (by omega)), k _ M2 ((Frm.of_same sN).trans f2)⟩

end
end TL

namespace TL
open PySem PySem.Spec PyProof.Rows L2
section
variable {P : Program} {w : World} {K : PySem.W.Frag} {mg : Str → Option Value} {base : Heap}
def sp_End_send (T : Txt w K mg) : Sp := fun vs H Q E => ∃ (Z : List Addr) (ad : EAd) (s : EndS) (y : V) (dy : PyData), vs = [.ref ad.e, y] ∧ EndAt T.C_End T.C_Marks Z H ad s ∧ (∀ z ∈ ad.all, z ∈ Z) ∧ Dp K H y dy ∧ (∀ ds, dy ≠ .list ds) ∧ s.wait.length ≤ 20 ∧
  (between dy 0 999 = false → E (.ref T.C_BadItem) none H) ∧ (between dy 0 999 = true → s.wait.length = 20 → E (.ref T.C_Full) none H) ∧
  (∀ i, dy = .int i → 0 ≤ i → i ≤ 999 → s.wait.length < 20 → ∀ H', EndAt T.C_End T.C_Marks Z H' ad { s with wait := s.wait ++ [i] } → Frm ad.all H H' → Q .non H')
theorem ok_End_send (T : Txt w K mg) : FnOk P w K mg base (L2.CX P w) 2 T.a_End_send T.fd_End_send P_End_send (sp_End_send T) := by
  have G_is_between := ok_is_between (P := P) (w := w) (base := base) T
  refine T.F_End_send.okX sc_End_send (fun vs H Q E h => ?_) (fun cdv A outer s H vs Q E hr h => ?_)
  · obtain ⟨Z, ad, s, y, dy, rfl, _⟩ := h
    rfl
  · obtain ⟨Z, ad, sk, y, dy, rfl, M, hsub, hy, nl, hl, k1, k2, k3⟩ := h
    refine ⟨_, (pss_cons (ps_if (pt_not (pt_val (pe_call G_is_between (hr.mono (by decide)) rfl T.g_is_between T.F_is_between.kp T.b_is_between .nil pass0 (pa_cons (pv 1) (pa_cons pe_int (pa_cons (pe_glob (v := .int 999) rfl T.v_MOST_ITEM ⟨_, rfl⟩) pa_nil))))))
      (pss_one (ps_raise rfl (takes_of rfl rfl rfl rfl) (pmk_own PySem.F.excBase_ValueError T.x_BadItem T.c_BadItem T.k_BadItem (raises_own T.s_BadItem T.t_BadItem) rfl)))
      pss_nil)
    (pss_cons (ps_if (pt_cmpR op_eq (pe_callB call_len_seq (by rfl) T.n_len (by decide +kernel) (pa_cons (pe_fld (pv 0) rfl) pa_nil)) (pe_glob (v := .int 20) rfl T.v_MOST_ITEMS ⟨_, rfl⟩) (nomark _))
      (pss_one (ps_raise rfl (takes_of rfl rfl rfl rfl) (pmk_own PySem.F.excBase_ValueError T.x_Full T.c_Full T.k_Full (raises_own T.s_Full T.t_Full) rfl)))
      pss_nil)
    (pss_one (ps_expr (pe_bm PySem.F.plainAttrs_list PySem.F.slot_list_append PySem.F.type_list_append mt_append (pe_fld (pv 0) rfl) (pa_cons (pv 1) pa_nil)))))), ?_⟩
    refine ⟨_, rfl, y, dy, 0, 999, rfl, hy, nl, _, rfl, ?_⟩
    refine iteB (fun hb => k1 (by simpa using hb)) (fun hb => ?_)
    have gy : between dy 0 999 = true := by simpa using hb
    obtain ⟨f, rfl⟩ : ∃ f, dy = .int f := by
      cases dy with
      | int f => exact ⟨f, rfl⟩
      | _ => exact absurd gy (by simp [between])
    have gf : 0 ≤ f ∧ f ≤ 999 := by simpa [between] using gy
    cases hy
    obtain ⟨⟨dx, cv, mv, ov, ho, _⟩, _⟩ := id M
    refine ⟨_, rfl, _, T.C_End, _, _, _, rfl, ho, T.cl_End, T.no_End_waiting, zip_lookup enN_nd (i := 11) rfl rfl, ad.w, _, rfl, .inl (SqL.of M.wt), rfl, _, rfl, ?_⟩
    refine iteD (fun he => k2 gy ?_) (fun he => ?_)
    · have := vint_inj.mp he
      rw [List.length_map] at this
      omega
    have hlt : sk.wait.length < 20 := by
      rcases Nat.lt_or_ge sk.wait.length 20 with q | q
      · exact q
      · exact absurd (by rw [List.length_map]; congr 1; omega) he
    refine ⟨_, rfl, _, T.C_End, _, _, _, rfl, ho, T.cl_End, T.no_End_waiting, zip_lookup enN_nd (i := 11) rfl rfl, .inl ⟨rfl, _, SqL.of M.wt⟩, _, rfl, ad.w, _, _, rfl, rfl, M.wt, by rw [List.length_map]; exact small1000 (by omega), ?_⟩
    obtain ⟨E1, f1⟩ := M.setW (hsub _ (by simp [EAd.all])) (sk.wait ++ [f])
    rw [List.map_append] at E1 f1
    exact k3 f rfl gf.1 gf.2 hlt _ E1 f1

end
end TL

namespace TL
open PySem PySem.Spec PyProof.Rows L2
section
variable {P : Program} {w : World} {K : PySem.W.Frag} {mg : Str → Option Value} {base : Heap}
def sp_Line_send (T : Txt w K mg) : Sp := fun vs H Q E => ∃ (Z : List Addr) (x : LoAd) (s : PlS) (v vi : V) (d di : PyData), vs = [.ref x.o, v, vi] ∧ LoAt T.C_Line T.C_End T.C_Marks Z H x s ∧ (∀ z ∈ x.all, z ∈ Z) ∧ Dp K H v d ∧ (∀ ds, d ≠ .list ds) ∧ Dp K H vi di ∧ (∀ ds, di ≠ .list ds) ∧ s.a.wait.length ≤ 20 ∧ s.b.wait.length ≤ 20 ∧
  (between d 0 1 = false → E (.ref T.C_BadEnd) none H) ∧ (between d 0 1 = true → between di 0 999 = false → E (.ref T.C_BadItem) none H) ∧
  (∀ e : Int, d = .int e → (e = 0 ∨ e = 1) → between di 0 999 = true → (if e = 0 then s.a.wait else s.b.wait).length = 20 → E (.ref T.C_Full) none H) ∧
  (∀ e i : Int, d = .int e → di = .int i → (e = 0 ∨ e = 1) → 0 ≤ i → i ≤ 999 → (if e = 0 then s.a.wait else s.b.wait).length < 20 → ∀ H', LoAt T.C_Line T.C_End T.C_Marks Z H' x (sendP s e i) → Frm x.all H H' → Q .non H')
theorem ok_Line_send (T : Txt w K mg) : FnOk P w K mg base (L2.CX P w) 3 T.a_Line_send T.fd_Line_send P_Line_send (sp_Line_send T) := by
  have G_need_end := ok_need_end (P := P) (w := w) (base := base) T
  have G_End_send := ok_End_send (P := P) (w := w) (base := base) T
  refine T.F_Line_send.okX sc_Line_send (fun vs H Q E h => ?_) (fun cdv A outer s H vs Q E hr h => ?_)
  · obtain ⟨Z, x, s, v, vi, d, di, rfl, _⟩ := h
    rfl
  · obtain ⟨Z, x, sk, v, vi, d, di, rfl, M, hZ, hd, nl, hdi, nli, wa, wb, k1, k2, k3, k4⟩ := h
    refine ⟨_, (pss_cons (ps_expr (pe_call G_need_end (hr.mono (by decide)) rfl T.g_need_end T.F_need_end.kp T.b_need_end .nil (passes_call (takes_of rfl rfl rfl rfl) (fun _ _ _ _ h => h)) (pa_cons (pv 1) pa_nil)))
    (pss_one (ps_expr (pe_meth (pe_ix ix_list (pe_fld (pv 0) rfl) (pv 1) (fun _ _ => rfl)) T.cl_End T.m_End_send G_End_send (hr.mono (by decide)) T.b_End_send .nil (passes_call (takes_of rfl rfl rfl rfl) (fun _ _ _ _ h => h)) (pa_cons (pv 2) pa_nil))))), ?_⟩
    refine ⟨_, rfl, v, d, rfl, hd, nl, fun g => ?_, fun g => k1 g⟩
    obtain ⟨e, rfl, he⟩ := between01 g
    cases hd
    have k3 := k3 e rfl he
    have k4 := fun i h1 => k4 e i rfl h1 he
    obtain ⟨dx, ho⟩ := M.ob
    rcases he with rfl | rfl
    · obtain ⟨⟨dxe, _, _, _, hoe, _⟩, _⟩ := id M.ea
      refine ⟨_, rfl, _, T.C_Line, _, _, _, rfl, ho, T.cl_Line, T.no_Line_ends, zip_lookup liN_nd (i := 0) rfl rfl, _, rfl, x.es, _, _, .ref x.a.e, rfl, rfl, SqL.of M.es, rfl, x.a.e, dxe, _, rfl, hoe, zip_no (by decide), _, rfl, Z, x.a, sk.a, vi, di, rfl, M.ea, fun z hz => hZ z (x.a_all z hz), hdi, nli, wa, fun h => k2 g h, fun h1 h2 => k3 h1 h2, fun i h1 h2 h3 h4 H' E' f' => ?_⟩
      obtain ⟨M', f2⟩ := M.setA E' f' hZ
      exact k4 i h1 h2 h3 h4 H' (M'.ghost ⟨rfl, rfl, rfl, rfl, rfl⟩) f2
    · obtain ⟨⟨dxe, _, _, _, hoe, _⟩, _⟩ := id M.eb
      refine ⟨_, rfl, _, T.C_Line, _, _, _, rfl, ho, T.cl_Line, T.no_Line_ends, zip_lookup liN_nd (i := 0) rfl rfl, _, rfl, x.es, _, _, .ref x.b.e, rfl, rfl, SqL.of M.es, rfl, x.b.e, dxe, _, rfl, hoe, zip_no (by decide), _, rfl, Z, x.b, sk.b, vi, di, rfl, M.eb, fun z hz => hZ z (x.b_all z hz), hdi, nli, wb, fun h => k2 g h, fun h1 h2 => k3 h1 h2, fun i h1 h2 h3 h4 H' E' f' => ?_⟩
      obtain ⟨M', f2⟩ := M.setB E' f' hZ
      exact k4 i h1 h2 h3 h4 H' (M'.ghost ⟨rfl, rfl, rfl, rfl, rfl⟩) f2

end
end TL

namespace TL
open PySem PySem.Spec PyProof.Rows L2
section
variable {P : Program} {w : World} {K : PySem.W.Frag} {mg : Str → Option Value} {base : Heap}
def arrD : StepD → Prop
  | .pass _ _ => True
  | .lose _ _ => True
  | .send _ _ => True
  | _ => False
def sp_arrange (T : Txt w K mg) : Sp := fun vs H Q _ => ∃ (Z : List Addr) (x : LoAd) (s : PlS) (a : Addr) (st : StepD) (k : Nat), vs = [.ref x.o, .ref a] ∧ LoAt T.C_Line T.C_End T.C_Marks Z H x s ∧ (∀ z ∈ x.all, z ∈ Z) ∧ PlOk k s ∧ StepAt H a st ∧ st.ok ∧ arrD st ∧
  ∀ (b : Bool) (H' : Hp), (doneF s st).2 = .bool b → LoAt T.C_Line T.C_End T.C_Marks Z H' x (doneF s st).1 → Frm x.all H H' → Q (.bl b) H'
theorem passAll {X : Cx} {W : WX} (tk : Takes X W) : Passes (L2.CX X.prog X.w) X (fun cls d H => ∀ σ, W cls d σ H) := fun _ σ _ _ e s' I c => tk e s' (XE.of_call I (fun _ _ _ h => h σ) c)
theorem ok_arrange (T : Txt w K mg) : FnOk P w K mg base CX0 5 T.a_arrange T.fd_arrange P_arrange (sp_arrange T) := by
  have G_Line_let_pass := ok_Line_let_pass (P := P) (w := w) (base := base) T
  have G_Line_lose := ok_Line_lose (P := P) (w := w) (base := base) T
  have G_Line_send := ok_Line_send (P := P) (w := w) (base := base) T
  refine T.F_arrange.ok sc_arrange (fun vs H Q E h => ?_) (fun cdv A outer s H vs Q E hr h => ?_)
  · obtain ⟨Z, x, s, a, st, k, rfl, _⟩ := h
    rfl
  · obtain ⟨Z, x, sk, a, st, n, rfl, M, hZ, ok, hst, hok, har, k⟩ := h
    refine ⟨_, (pss_cons (ps_if (pt_cmpR op_eq (pe_ix ix_tup (pv 1) pe_int (fun _ _ => rfl)) pe_str (nomark _))
      (pss_one (ps_expr (pe_meth (pv 0) T.cl_Line T.m_Line_let_pass G_Line_let_pass (hr.mono (by decide)) T.b_Line_let_pass .nil passL (pa_cons (pe_ix ix_tup (pv 1) pe_int (fun _ _ => rfl)) (pa_cons (pe_ix ix_tup (pv 1) pe_int (fun _ _ => rfl)) pa_nil)))))
      (pss_one (ps_if (pt_cmpR op_eq (pe_ix ix_tup (pv 1) pe_int (fun _ _ => rfl)) pe_str (nomark _))
        (pss_one (ps_expr (pe_meth (pv 0) T.cl_Line T.m_Line_lose G_Line_lose (hr.mono (by decide)) T.b_Line_lose .nil passL (pa_cons (pe_ix ix_tup (pv 1) pe_int (fun _ _ => rfl)) (pa_cons (pe_ix ix_tup (pv 1) pe_int (fun _ _ => rfl)) pa_nil)))))
        (pss_one (ps_try_only (tb := (fun W => tDrop (tMeth T.C_Line "send" _ [] (fun cls d H => ∀ σ, W cls d σ H) (tVar 0) (tCons (tOp (rIxT K) (tVar 1) (tC (.int 1))) (tCons (tOp (rIxT K) (tVar 1) (tC (.int 2))) tNil))))) rfl rfl ⟨rfl, by decide, .inl T.c_Full⟩ takes0 (fun W pn xe tk _ =>
          (pss_one (ps_expr (pe_meth (pv 0) T.cl_Line T.m_Line_send G_Line_send (hr.mono (by decide)) T.b_Line_send .nil (passAll tk) (pa_cons (pe_ix ix_tup (pv 1) pe_int (fun _ _ => rfl)) (pa_cons (pe_ix ix_tup (pv 1) pe_int (fun _ _ => rfl)) pa_nil))))))
          (fun a oe cls d pn _ _ =>
          (pss_one (ps_ret pe_bl))))))))
    (pss_one (ps_ret pe_bl))), ?_⟩
    obtain ⟨dx, ho⟩ := M.ob
    cases st with
    | frames n => exact har.elim
    | got e => exact har.elim
    | left e => exact har.elim
    | joined => exact har.elim
    | pass e ms =>
      obtain ⟨t, ha, ht⟩ := hst
      obtain ⟨he, hc⟩ := hok
      refine ⟨_, rfl, a, _, _, _, rfl, rfl, SqT.of ha, rfl, rfl, true, congrArg V.bl (decide_eq_true (by decide +kernel)), iteT ?_⟩
      refine ⟨_, rfl, x.o, dx, _, rfl, ho, zip_no (by decide), _, rfl, a, _, _, _, rfl, rfl, SqT.of ha, rfl, _, rfl, a, _, _, _, rfl, rfl, SqT.of ha, rfl, Z, x, sk, .int e, .ref t, .int e, .tuple (ms.map .int), rfl, M, hZ, .int _, (fun ds z => by cases z), .tup ht (im_ints _), mdat_ints hc.2.2.2, (fun z => absurd z (by rcases he with rfl | rfl <;> decide)), (fun _ z => absurd z (by rw [isMan_ints hc]; simp)), fun e' ms' e1 e2 _ _ H' M' f' => ?_⟩
      cases e1
      have e3 : ms' = ms := by
        have q : ms.map PyData.int = ms'.map PyData.int := by injection e2
        exact (List.map_inj_right (fun x y z => by cases z; rfl) |>.mp q).symm
      subst e3
      exact k true H' rfl M' f'
    | lose p e =>
      have ha : H a = some (.tup [.str "lose", .int p, .int e]) := hst
      obtain ⟨hp, he⟩ := hok
      refine ⟨_, rfl, a, _, _, _, rfl, rfl, SqT.of ha, rfl, rfl, false, congrArg V.bl (decide_eq_false (by decide +kernel)), iteF ?_⟩
      refine ⟨_, rfl, a, _, _, _, rfl, rfl, SqT.of ha, rfl, rfl, true, congrArg V.bl (decide_eq_true (by decide +kernel)), iteT ?_⟩
      refine ⟨_, rfl, x.o, dx, _, rfl, ho, zip_no (by decide), _, rfl, a, _, _, _, rfl, rfl, SqT.of ha, rfl, _, rfl, a, _, _, _, rfl, rfl, SqT.of ha, rfl, Z, x, sk, .int p, .int e, .int p, .int e, rfl, M, hZ, .int _, (fun ds z => by cases z), .int _, (fun ds z => by cases z), (fun z => absurd z (by rcases hp with rfl | rfl <;> decide)), (fun _ z => absurd z (by rcases he with rfl | rfl <;> decide)), fun p' e' e1 e2 _ _ H' M' f' => ?_⟩
      cases e1
      cases e2
      exact k true H' rfl M' f'
    | send e i =>
      have ha : H a = some (.tup [.str "send", .int e, .int i]) := hst
      obtain ⟨he, hi0, hi9⟩ := hok
      have w0 := ok.ok.ea.wait
      have w1 := ok.ok.eb.wait
      refine ⟨_, rfl, a, _, _, _, rfl, rfl, SqT.of ha, rfl, rfl, false, congrArg V.bl (decide_eq_false (by decide +kernel)), iteF ?_⟩
      refine ⟨_, rfl, a, _, _, _, rfl, rfl, SqT.of ha, rfl, rfl, false, congrArg V.bl (decide_eq_false (by decide +kernel)), iteF ?_⟩
      refine ⟨_, rfl, x.o, dx, _, rfl, ho, zip_no (by decide), _, rfl, a, _, _, _, rfl, rfl, SqT.of ha, rfl, _, rfl, a, _, _, _, rfl, rfl, SqT.of ha, rfl, Z, x, sk, .int e, .int i, .int e, .int i, rfl, M, hZ, .int _, (fun ds z => by cases z), .int _, (fun ds z => by cases z), w0, w1, (fun z => absurd z (by rcases he with rfl | rfl <;> decide)), (fun _ z => ?_), fun e' e1 _ _ hw σ => ?_, fun e' i' e1 e2 _ _ _ hw H' M' f' => ?_⟩
      · simp [between] at z
        omega
      · cases e1
        have hw : (endW sk e).length = 20 := hw
        exact ⟨true, T.q_Full, fun _ a' ha' => k false H (by rw [done_send, if_pos hw]) (by rw [done_send, if_pos hw]; exact M) (.refl _ _), fun q => nomatch q⟩
      · cases e1
        cases e2
        have hne : ¬ (endW sk e).length = 20 := fun q => by
          have q' : (if e = 0 then sk.a.wait else sk.b.wait).length = 20 := q
          omega
        exact k true H' (by rw [done_send, if_neg hne]) (by rw [done_send, if_neg hne]; exact M') f'

end
end TL

namespace TL
open PySem PySem.Spec PyProof.Rows L2
section
variable {P : Program} {w : World} {K : PySem.W.Frag} {mg : Str → Option Value} {base : Heap}
def sp_End_got (T : Txt w K mg) : Sp := fun vs H Q _ => ∃ (Z : List Addr) (ad : EAd) (s : EndS), vs = [.ref ad.e] ∧ EndAt T.C_End T.C_Marks Z H ad s ∧ ∀ l, H l = none → Q (.ref l) (upd H l (.lst (s.got.map V.int)))
theorem ok_End_got (T : Txt w K mg) : FnOk P w K mg base CX0 1 T.a_End_got T.fd_End_got P_End_got (sp_End_got T) := by
  skip
  refine T.F_End_got.ok sc_End_got (fun vs H Q E h => ?_) (fun cdv A outer s H vs Q E hr h => ?_)
  · obtain ⟨Z, ad, s, rfl, _⟩ := h
    rfl
  · obtain ⟨Z, ad, sk, rfl, M, k⟩ := h
    refine ⟨_, (pss_one (ps_ret (pe_callTy call_list_of (by rfl) T.n_list (by decide +kernel) (pa_cons (pe_fld (pv 0) rfl) pa_nil)))), ?_⟩
    obtain ⟨⟨dx, cv, mv, ov, ho, _⟩, _⟩ := id M
    refine ⟨_, rfl, _, T.C_End, _, _, _, rfl, ho, T.cl_End, T.no_End_gathered, zip_lookup enN_nd (i := 13) rfl rfl, ad.g, _, rfl, .inl (SqL.of M.gt), k⟩

end
end TL

namespace TL
open PySem PySem.Spec PyProof.Rows L2
section
variable {P : Program} {w : World} {K : PySem.W.Frag} {mg : Str → Option Value} {base : Heap}
def sp_Line_got (T : Txt w K mg) : Sp := fun vs H Q E => ∃ (Z : List Addr) (x : LoAd) (s : PlS) (v : V) (d : PyData), vs = [.ref x.o, v] ∧ LoAt T.C_Line T.C_End T.C_Marks Z H x s ∧ Dp K H v d ∧ (∀ ds, d ≠ .list ds) ∧ (between d 0 1 = false → E (.ref T.C_BadEnd) none H) ∧
  (∀ e : Int, d = .int e → (e = 0 ∨ e = 1) → ∀ l, H l = none → Q (.ref l) (upd H l (.lst ((if e = 0 then s.a.got else s.b.got).map V.int))))
theorem ok_Line_got (T : Txt w K mg) : FnOk P w K mg base (L2.CX P w) 3 T.a_Line_got T.fd_Line_got P_Line_got (sp_Line_got T) := by
  have G_need_end := ok_need_end (P := P) (w := w) (base := base) T
  have G_End_got := ok_End_got (P := P) (w := w) (base := base) T
  refine T.F_Line_got.okX sc_Line_got (fun vs H Q E h => ?_) (fun cdv A outer s H vs Q E hr h => ?_)
  · obtain ⟨Z, x, s, v, d, rfl, _⟩ := h
    rfl
  · obtain ⟨Z, x, sk, v, d, rfl, M, hd, nl, k1, k2⟩ := h
    refine ⟨_, (pss_cons (ps_expr (pe_call G_need_end (hr.mono (by decide)) rfl T.g_need_end T.F_need_end.kp T.b_need_end .nil (passes_call (takes_of rfl rfl rfl rfl) (fun _ _ _ _ h => h)) (pa_cons (pv 1) pa_nil)))
    (pss_one (ps_ret (pe_meth0 (pe_ix ix_list (pe_fld (pv 0) rfl) (pv 1) (fun _ _ => rfl)) T.cl_End T.m_End_got G_End_got (hr.mono (by decide)) T.b_End_got .nil pass0)))), ?_⟩
    obtain ⟨dx, ho⟩ := M.ob
    refine ⟨_, rfl, v, d, rfl, hd, nl, fun g => ?_, fun g => k1 g⟩
    obtain ⟨e, rfl, he⟩ := between01 g
    cases hd
    have k := k2 e rfl he
    rcases he with rfl | rfl
    · obtain ⟨⟨dxe, _, _, _, hoe, _⟩, _⟩ := id M.ea
      exact ⟨_, rfl, _, T.C_Line, _, _, _, rfl, ho, T.cl_Line, T.no_Line_ends, zip_lookup liN_nd (i := 0) rfl rfl, _, rfl, x.es, _, _, .ref x.a.e, rfl, rfl, SqL.of M.es, rfl, x.a.e, dxe, _, rfl, hoe, zip_no (by decide), Z, x.a, sk.a, rfl, M.ea, k⟩
    · obtain ⟨⟨dxe, _, _, _, hoe, _⟩, _⟩ := id M.eb
      exact ⟨_, rfl, _, T.C_Line, _, _, _, rfl, ho, T.cl_Line, T.no_Line_ends, zip_lookup liN_nd (i := 0) rfl rfl, _, rfl, x.es, _, _, .ref x.b.e, rfl, rfl, SqL.of M.es, rfl, x.b.e, dxe, _, rfl, hoe, zip_no (by decide), Z, x.b, sk.b, rfl, M.eb, k⟩

end
end TL

namespace TL
open PySem PySem.Spec PyProof.Rows L2
section
variable {P : Program} {w : World} {K : PySem.W.Frag} {mg : Str → Option Value} {base : Heap}
def sp_End_left (T : Txt w K mg) : Sp := fun vs H Q _ => ∃ (Z : List Addr) (ad : EAd) (s : EndS), vs = [.ref ad.e] ∧ EndAt T.C_End T.C_Marks Z H ad s ∧ Q (.int (s.wait.length : Nat)) H
theorem ok_End_left (T : Txt w K mg) : FnOk P w K mg base CX0 1 T.a_End_left T.fd_End_left P_End_left (sp_End_left T) := by
  skip
  refine T.F_End_left.ok sc_End_left (fun vs H Q E h => ?_) (fun cdv A outer s H vs Q E hr h => ?_)
  · obtain ⟨Z, ad, s, rfl, _⟩ := h
    rfl
  · obtain ⟨Z, ad, sk, rfl, M, k⟩ := h
    refine ⟨_, (pss_one (ps_ret (pe_callB call_len_seq (by rfl) T.n_len (by decide +kernel) (pa_cons (pe_fld (pv 0) rfl) pa_nil)))), ?_⟩
    obtain ⟨⟨dx, cv, mv, ov, ho, _⟩, _⟩ := id M
    refine ⟨_, rfl, _, T.C_End, _, _, _, rfl, ho, T.cl_End, T.no_End_waiting, zip_lookup enN_nd (i := 11) rfl rfl, ad.w, _, rfl, .inl (SqL.of M.wt), ?_⟩
    rw [List.length_map]
    exact k

end
end TL

namespace TL
open PySem PySem.Spec PyProof.Rows L2
section
variable {P : Program} {w : World} {K : PySem.W.Frag} {mg : Str → Option Value} {base : Heap}
def sp_Line_left (T : Txt w K mg) : Sp := fun vs H Q E => ∃ (Z : List Addr) (x : LoAd) (s : PlS) (v : V) (d : PyData), vs = [.ref x.o, v] ∧ LoAt T.C_Line T.C_End T.C_Marks Z H x s ∧ Dp K H v d ∧ (∀ ds, d ≠ .list ds) ∧ (between d 0 1 = false → E (.ref T.C_BadEnd) none H) ∧
  (∀ e : Int, d = .int e → (e = 0 ∨ e = 1) → Q (.int ((if e = 0 then s.a.wait else s.b.wait).length : Nat)) H)
theorem ok_Line_left (T : Txt w K mg) : FnOk P w K mg base (L2.CX P w) 3 T.a_Line_left T.fd_Line_left P_Line_left (sp_Line_left T) := by
  have G_need_end := ok_need_end (P := P) (w := w) (base := base) T
  have G_End_left := ok_End_left (P := P) (w := w) (base := base) T
  refine T.F_Line_left.okX sc_Line_left (fun vs H Q E h => ?_) (fun cdv A outer s H vs Q E hr h => ?_)
  · obtain ⟨Z, x, s, v, d, rfl, _⟩ := h
    rfl
  · obtain ⟨Z, x, sk, v, d, rfl, M, hd, nl, k1, k2⟩ := h
    refine ⟨_, (pss_cons (ps_expr (pe_call G_need_end (hr.mono (by decide)) rfl T.g_need_end T.F_need_end.kp T.b_need_end .nil (passes_call (takes_of rfl rfl rfl rfl) (fun _ _ _ _ h => h)) (pa_cons (pv 1) pa_nil)))
    (pss_one (ps_ret (pe_meth0 (pe_ix ix_list (pe_fld (pv 0) rfl) (pv 1) (fun _ _ => rfl)) T.cl_End T.m_End_left G_End_left (hr.mono (by decide)) T.b_End_left .nil pass0)))), ?_⟩
    obtain ⟨dx, ho⟩ := M.ob
    refine ⟨_, rfl, v, d, rfl, hd, nl, fun g => ?_, fun g => k1 g⟩
    obtain ⟨e, rfl, he⟩ := between01 g
    cases hd
    have k := k2 e rfl he
    rcases he with rfl | rfl
    · obtain ⟨⟨dxe, _, _, _, hoe, _⟩, _⟩ := id M.ea
      exact ⟨_, rfl, _, T.C_Line, _, _, _, rfl, ho, T.cl_Line, T.no_Line_ends, zip_lookup liN_nd (i := 0) rfl rfl, _, rfl, x.es, _, _, .ref x.a.e, rfl, rfl, SqL.of M.es, rfl, x.a.e, dxe, _, rfl, hoe, zip_no (by decide), Z, x.a, sk.a, rfl, M.ea, k⟩
    · obtain ⟨⟨dxe, _, _, _, hoe, _⟩, _⟩ := id M.eb
      exact ⟨_, rfl, _, T.C_Line, _, _, _, rfl, ho, T.cl_Line, T.no_Line_ends, zip_lookup liN_nd (i := 0) rfl rfl, _, rfl, x.es, _, _, .ref x.b.e, rfl, rfl, SqL.of M.es, rfl, x.b.e, dxe, _, rfl, hoe, zip_no (by decide), Z, x.b, sk.b, rfl, M.eb, k⟩

end
end TL

namespace TL
open PySem PySem.Spec PyProof.Rows L2
section
variable {P : Program} {w : World} {K : PySem.W.Frag} {mg : Str → Option Value} {base : Heap}
def sp_End_need_part (T : Txt w K mg) : Sp := fun vs H Q E => ∃ (Z : List Addr) (ad : EAd) (s : EndS) (y : V) (dy : PyData), vs = [.ref ad.e, y] ∧ EndAt T.C_End T.C_Marks Z H ad s ∧ Dp K H y dy ∧ (∀ ds, dy ≠ .list ds) ∧ 0 ≤ s.part ∧ s.part ≤ 1 ∧
  (dy = .int s.part → Q .non H) ∧ (dy ≠ .int s.part → E (.ref T.C_BadPart) none H)
theorem ok_End_need_part (T : Txt w K mg) : FnOk P w K mg base (L2.CX P w) 2 T.a_End_need_part T.fd_End_need_part P_End_need_part (sp_End_need_part T) := by
  have G_is_between := ok_is_between (P := P) (w := w) (base := base) T
  refine T.F_End_need_part.okX sc_End_need_part (fun vs H Q E h => ?_) (fun cdv A outer s H vs Q E hr h => ?_)
  · obtain ⟨Z, ad, s, y, dy, rfl, _⟩ := h
    rfl
  · obtain ⟨Z, ad, sk, y, dy, rfl, M, hy, nl, p0, p1, k1, k2⟩ := h
    refine ⟨_, (pss_one (ps_if (PW.pt (pw_or (pt_not (pt_val (pe_call G_is_between (hr.mono (by decide)) rfl T.g_is_between T.F_is_between.kp T.b_is_between .nil pass0 (pa_cons (pv 1) (pa_cons (pe_glob (v := .int 0) rfl T.v_SLOW ⟨_, rfl⟩) (pa_cons (pe_glob (v := .int 1) rfl T.v_FAST ⟨_, rfl⟩) pa_nil)))))) (pw_or1 (pt_cmpR op_ne (pv 1) (pe_fld (pv 0) rfl) (nomark _)))))
      (pss_one (ps_raise rfl (takes_of rfl rfl rfl rfl) (pmk_own PySem.F.excBase_ValueError T.x_BadPart T.c_BadPart T.k_BadPart (raises_own T.s_BadPart T.t_BadPart) rfl)))
      pss_nil)), ?_⟩
    refine ⟨_, rfl, y, dy, 0, 1, rfl, hy, nl, _, rfl, ?_⟩
    refine iteB (fun hb => k2 fun e => ?_) (fun hb => ?_)
    · subst e
      simp [between, p0, p1] at hb
    have gy : between dy 0 1 = true := by simpa using hb
    obtain ⟨f, rfl⟩ : ∃ f, dy = .int f := by
      cases dy with
      | int f => exact ⟨f, rfl⟩
      | _ => exact absurd gy (by simp [between])
    cases hy
    obtain ⟨⟨dx, cv, mv, ov, ho, _⟩, _⟩ := id M
    refine ⟨_, rfl, _, rfl, _, T.C_End, _, _, _, rfl, ho, T.cl_End, T.no_End_part, zip_lookup enN_nd (i := 14) rfl rfl, rfl, _, rfl, ?_⟩
    refine iteN (fun hne => k2 fun e => hne ?_) (fun heq => k1 ?_)
    · cases e; rfl
    · cases heq; rfl

end
end TL

namespace TL
open PySem PySem.Spec PyProof.Rows L2
section
variable {P : Program} {w : World} {K : PySem.W.Frag} {mg : Str → Option Value} {base : Heap}
def sp_Marks_bad (T : Txt w K mg) : Sp := fun vs H Q E => ∃ (Z : List Addr) (ad : MAd) (s : MkS) (y : V) (dy : PyData), vs = [.ref ad.m, y] ∧ MarksAt T.C_Marks Z H ad s ∧ Dp K H y dy ∧ (∀ ds, dy ≠ .list ds) ∧
  (between dy 0 1000000 = false → E (.ref T.C_BadCount) none H) ∧
  (∀ f, dy = .int f → 0 ≤ f → f ≤ 1000000 → ∀ (p : Addr) (H' : Hp), H p = none → H' p = some (.lst ((badF s f).map V.int)) → Same H H' → Q (.ref p) H')
theorem ok_Marks_bad (T : Txt w K mg) : FnOk P w K mg base (L2.CX P w) 2 T.a_Marks_bad T.fd_Marks_bad P_Marks_bad (sp_Marks_bad T) := by
  have G_is_between := ok_is_between (P := P) (w := w) (base := base) T
  refine T.F_Marks_bad.okX sc_Marks_bad (fun vs H Q E h => ?_) (fun cdv A outer s H vs Q E hr h => ?_)
  · obtain ⟨Z, ad, s, y, dy, rfl, _⟩ := h
    rfl
  · obtain ⟨Z, ad, sk, y, dy, rfl, M, hy, nl, k1, k2⟩ := h
    have hu := hu_of hr
    refine ⟨_, (pss_cons (ps_if (pt_not (pt_val (pe_call G_is_between (hr.mono (by decide)) rfl T.g_is_between T.F_is_between.kp T.b_is_between .nil pass0 (pa_cons (pv 1) (pa_cons pe_int (pa_cons (pe_glob (v := .int 1000000) rfl T.v_MOST_FRAME ⟨_, rfl⟩) pa_nil))))))
      (pss_one (ps_raise rfl (takes_of rfl rfl rfl rfl) (pmk_own PySem.F.excBase_ValueError T.x_BadCount T.c_BadCount T.k_BadCount (raises_own T.s_BadCount T.t_BadCount) rfl)))
      pss_nil)
    (pss_one (ps_ret (pe_lc (own := [("manner", 2)]) (g := (gName 2)) (tt := (tTest (tOp (rI0 fun i j => .bl (decide (i ≤ j))) (tVar 1) (tDGet (tFld K (tVar 0) "until") (tVar 2))))) (te := (tVar 2)) rfl sc_Marks_bad.nd (pi_list (pe_callB (call_sortedDI rfl) (by rfl) T.n_sorted (by decide +kernel) (pa_cons (pe_fld (pv 0) rfl) pa_nil))) (blkOk_by (own := [("manner", 2)]) (N := N_Marks_bad) (sc := defScope s_Marks_bad) (by decide +kernel)) (fun _ _ _ _ _ => (pg_name (i := 2) sc_Marks_bad.nd rfl (by first | exact Or.inl rfl | exact Or.inr rfl))) (fun _ _ _ _ _ => (pts_one (pt_cmpR op_le (pv 1) (pe_dget hu (pe_fld (pv 0) rfl) (pv 2) (fun _ _ => rfl)) (nomark _)))) (fun _ _ _ _ _ => (pv 2)))))), ?_⟩
    refine ⟨_, rfl, y, dy, 0, 1000000, rfl, hy, nl, _, rfl, ?_⟩
    refine iteB (fun hb => k1 (by simpa using hb)) (fun hb => ?_)
    have hb : between dy 0 1000000 = true := by simpa using hb
    cases dy with
    | int f =>
      cases hy
      have hf : 0 ≤ f ∧ f ≤ 1000000 := by simpa [between] using hb
      obtain ⟨⟨dx, ho⟩, _⟩ := id M
      obtain ⟨kvs, ks, hd, hks, hlt, hsort⟩ := until_keys M.u
      refine ⟨_, rfl, _, T.C_Marks, _, _, _, rfl, ho, T.cl_Marks, T.no_Marks_until, zip_lookup mkN_nd (i := 1) rfl rfl, ad.u, kvs, ks, rfl, Rd.of hd, hks, hlt, fun ys q hp hs hq => ?_⟩
      have e1 := hsort ys hp hs
      have s1 : Same H (upd H q (.lst (ys.map V.int))) := Same.upd_new hq
      refine ⟨q, rfl, ⟨_, SqL.of upd_same⟩, fun D hD => ?_⟩
      have s2 := s1.trans (Same.upd_new (o := .lst []) hD)
      have hDH := s1.free hD
      have nqD : q ≠ D := fun e => by rw [← e, upd_same] at hD; cases hD
      refine lc_list (K := K) (a := q) (xs := ys.map V.int) (fun i H2 => Same H H2 ∧ H2 q = some (.lst (ys.map V.int)) ∧ H2 D = some (.lst (((ys.take i).filter fun i => match sk.untl i with | some u => decide (f ≤ u) | none => false).map V.int)))
        ⟨s2, by rw [upd_ne nqD]; exact upd_same, upd_same⟩ (fun i H2 _ ⟨_, h2, _⟩ => SqL.of h2) ?_ ?_
      · rintro i v H2 hi ⟨s3, hq2, hD2⟩
        obtain ⟨m, hm, rfl⟩ := getmap hi
        have hil : i < ys.length := (List.getElem?_eq_some_iff.mp hm).1
        have hmy : m ∈ ys := List.mem_of_getElem? hm
        rw [e1, List.mem_filter] at hmy
        obtain ⟨u, hu2⟩ := Option.isSome_iff_exists.mp hmy.2
        have M2 := M.same s3
        obtain ⟨⟨dx2, ho2⟩, _⟩ := id M2
        have hg := M2.u.get m
        rw [hu2] at hg
        have hyl : ys.length ≤ 9 := by rw [e1]; exact List.length_filter_le _ _
        refine ⟨rfl, _, rfl, _, rfl, _, T.C_Marks, _, _, _, rfl, ho2, T.cl_Marks, T.no_Marks_until, zip_lookup mkN_nd (i := 1) rfl rfl, _, rfl, ad.u, .int u, rfl, hg, _, _, rfl, rfl, _, rfl, ?_⟩
        have htk := take_more hm
        refine iteD (fun hle => ?_) (fun hle => ⟨s3, hq2, ?_⟩)
        · refine ⟨_, rfl, _, hD2, ?_, ((Frm.of_same s3).own hDH (Frm.updL hD2)).same, by rw [upd_ne nqD]; exact hq2, ?_⟩
          · rw [List.length_map]
            have := List.length_filter_le (fun i => match sk.untl i with | some u => decide (f ≤ u) | none => false) (ys.take i)
            have := List.length_take_le i ys
            exact small1000 (by omega)
          · rw [upd_same, htk, List.filter_append, List.map_append]
            simp [List.filter, hu2, hle]
        · rw [hD2, htk, List.filter_append]
          simp [List.filter, hu2, hle]
      · rintro H2 ⟨s3, hq2, hD2⟩
        rw [List.length_map, List.take_length] at hD2
        refine k2 f rfl hf.1 hf.2 D H2 hDH ?_ s3
        rw [hD2, e1]
        congr 3
        unfold badF
        rw [List.filter_filter]
        apply List.filter_congr
        intro x _
        cases sk.untl x <;> simp
    | _ => exact absurd hb (by simp [between])

end
end TL

namespace TL
open PySem PySem.Spec PyProof.Rows L2
section
variable {P : Program} {w : World} {K : PySem.W.Frag} {mg : Str → Option Value} {base : Heap}
def sp_End_refresh (T : Txt w K mg) : Sp := fun vs H Q _ => ∃ (Z : List Addr) (ad : EAd) (s : EndS), vs = [.ref ad.e] ∧ EndAt T.C_End T.C_Marks Z H ad s ∧ (∀ z ∈ ad.all, z ∈ Z) ∧ EndOk s ∧
  ∀ H', EndAt T.C_End T.C_Marks Z H' ad (refreshF s) → Frm ad.all H H' → Q .non H'
theorem ok_End_refresh (T : Txt w K mg) : FnOk P w K mg base CX0 3 T.a_End_refresh T.fd_End_refresh P_End_refresh (sp_End_refresh T) := by
  have G_Marks_bad := ok_Marks_bad (P := P) (w := w) (base := base) T
  refine T.F_End_refresh.ok sc_End_refresh (fun vs H Q E h => ?_) (fun cdv A outer s H vs Q E hr h => ?_)
  · obtain ⟨Z, ad, s, rfl, _⟩ := h
    rfl
  · obtain ⟨Z, ad, sk, rfl, M, hsub, ok, k⟩ := h
    have hu64 := hr.units
    refine ⟨_, (pss_cons (ps_set (i := 1) sc_End_refresh.nd rfl (by first | exact Or.inl rfl | exact Or.inr rfl) (pe_tup (pa_cons (pe_fld (pv 0) rfl) (pa_cons (pe_callTy call_tuple_of (by rfl) T.n_tuple (by decide +kernel) (pa_cons (pe_meth (pe_fld (pv 0) rfl) T.cl_Marks T.m_Marks_bad G_Marks_bad (hr.mono (by decide)) T.b_Marks_bad .nil passL (pa_cons (pe_fld (pv 0) rfl) pa_nil)) pa_nil)) pa_nil))))
    (pss_one (ps_if (pt_cmpR (op_neD hu64) (pv 1) (pe_fld (pv 0) rfl) (nomark _))
      (pss_cons (ps_fld (pv 0) (pv 1) rfl)
      (pss_one (ps_fld (pv 0) (pe_op op_add (pe_fld (pv 0) rfl) pe_int) rfl)))
      pss_nil))), ?_⟩
    obtain ⟨⟨dx, cv, mv, ov, ho, hc, hm, hv⟩, _⟩ := id M
    obtain ⟨⟨dmk, hmk⟩, _⟩ := id M.mks
    refine ⟨_, rfl, _, T.C_End, _, _, _, rfl, ho, T.cl_End, T.no_End_can, zip_lookup enN_nd (i := 0) rfl rfl, _, rfl, _, T.C_End, _, _, _, rfl, ho, T.cl_End, T.no_End_marks, zip_lookup enN_nd (i := 1) rfl rfl, ad.mks.m, dmk, _, rfl, hmk, zip_no (by decide), _, rfl, _, T.C_End, _, _, _, rfl, ho, T.cl_End, T.no_End_over, zip_lookup enN_nd (i := 2) rfl rfl, ?_⟩
    refine ⟨Z, ad.mks, sk.mks, _, .int sk.over, rfl, M.mks, .int _, (fun ds z => by cases z), (fun z => ?_), fun f hf h0 h1 p H1 hpn hp s1 => ?_⟩
    · have := ok.o0
      have := ok.o1
      simp [between, *] at z
    cases hf
    refine ⟨p, _, rfl, .inl ⟨SqL.of hp, fun t ht => ?_⟩⟩
    have s2 := s1.trans (Same.upd_new (o := .tup ((badF sk.mks sk.over).map V.int)) ht)
    refine ⟨(by show 2 ≤ sizeLine; decide), fun u hun => ?_⟩
    have s3 := s2.trans (Same.upd_new (o := .tup [cv, .ref t]) hun)
    have M3 := M.same s3
    have hm3 : Im (upd (upd H1 t (.tup ((badF sk.mks sk.over).map V.int))) u (.tup [cv, .ref t])) (.ref u) (mindD (sk.can, badF sk.mks sk.over)) := by
      refine .tup upd_same (.cons (hc.same s3) (.cons (.tup (a := t) ?_ (im_ints _)) .nil))
      rw [upd_ne (ne_of_none upd_same hun)]
      exact upd_same
    obtain ⟨⟨dx3, cv3, mv3, ov3, ho3, hc3, hmm3, hv3⟩, _⟩ := id M3
    refine ⟨_, rfl, _, rfl, _, T.C_End, _, _, _, rfl, ho3, T.cl_End, T.no_End_mind, zip_lookup enN_nd (i := 4) rfl rfl, mindD (sk.can, badF sk.mks sk.over), mindD (sk.can, sk.bad), hm3.dp, hmm3.dp,
      shaped_lv (lv_mind ok.can.2.2.2 (Nat.le_trans (bad_len _ _) (by decide)) 0) (by decide), shaped_lv (lv_mind ok.can.2.2.2 (Nat.le_trans ok.bad (by decide)) 0) (by decide), _, rfl, ?_⟩
    rw [eqv_mind]
    refine iteN (fun hne => ?_) (fun heq => ?_)
    · have hne' : badF sk.mks sk.over ≠ sk.bad := fun z => hne (by rw [z])
      refine ⟨_, rfl, _, rfl, ?_⟩
      refine M3.sfld T.cl_End T.no_End_mind (hsub _ (by simp [EAd.all])) 4 (.ref u) { sk with bad := badF sk.mks sk.over } rfl (by decide) (fun cv mv ov h1 h2 h3 => ⟨cv, .ref u, ov, rfl, h1, hm3, h3⟩) rfl rfl rfl fun H4 M4 f4 => ?_
      obtain ⟨⟨dx4, cv4, mv4, ov4, ho4, _⟩, _⟩ := id M4
      refine ⟨_, rfl, _, T.C_End, _, _, _, rfl, ho4, T.cl_End, T.no_End_version, zip_lookup enN_nd (i := 3) rfl rfl, _, _, rfl, rfl, _, rfl, ?_⟩
      refine M4.sfld T.cl_End T.no_End_version (hsub _ (by simp [EAd.all])) 3 (.int (sk.ver + 1)) { sk with bad := badF sk.mks sk.over, ver := sk.ver + 1 } rfl (by decide) (fun cv mv ov h1 h2 h3 => ⟨cv, mv, ov, rfl, h1, h2, h3⟩) rfl rfl rfl fun H5 M5 f5 => ?_
      have e : refreshF sk = { sk with bad := badF sk.mks sk.over, ver := sk.ver + 1 } := by unfold refreshF; rw [if_neg hne']
      exact k H5 (by rw [e]; exact M5) (((Frm.of_same s3).trans f4).trans f5)
    · have heq' : badF sk.mks sk.over = sk.bad := (Prod.mk.inj heq).2
      have e : refreshF sk = sk := by unfold refreshF; rw [if_pos heq']
      exact k _ (by rw [e]; exact M3) (Frm.of_same s3)

end
end TL

namespace TL
open PySem PySem.Spec PyProof.Rows L2
section
variable {P : Program} {w : World} {K : PySem.W.Frag} {mg : Str → Option Value} {base : Heap}
def sp_End_say (T : Txt w K mg) : Sp := fun vs H Q E => ∃ (Z : List Addr) (ad : EAd) (s : EndS) (y : V) (dy : PyData), vs = [.ref ad.e, y] ∧ EndAt T.C_End T.C_Marks Z H ad s ∧ (∀ z ∈ ad.all, z ∈ Z) ∧ EndOk s ∧ Dp K H y dy ∧ (∀ ds, dy ≠ .list ds) ∧ 0 ≤ s.part ∧ s.part ≤ 1 ∧
  (dy ≠ .int s.part → E (.ref T.C_BadPart) none H) ∧
  (dy = .int s.part → s.part = 0 → ∀ x H', EndAt T.C_End T.C_Marks Z H' ad (refreshF s) → Im H' x (.tuple [.int 0, slowD (slowOf (refreshF s))]) → Frm ad.all H H' → Q x H') ∧
  (dy = .int s.part → s.part = 1 → ∀ x H', EndAt T.C_End T.C_Marks Z H' ad s → Im H' x (.tuple [.int s.now, fastD (fastOf s)]) → Same H H' → Q x H')
theorem ok_End_say (T : Txt w K mg) : FnOk P w K mg base (L2.CX P w) 4 T.a_End_say T.fd_End_say P_End_say (sp_End_say T) := by
  have G_End_need_part := ok_End_need_part (P := P) (w := w) (base := base) T
  have G_End_refresh := ok_End_refresh (P := P) (w := w) (base := base) T
  refine T.F_End_say.okX sc_End_say (fun vs H Q E h => ?_) (fun cdv A outer s H vs Q E hr h => ?_)
  · obtain ⟨Z, ad, s, y, dy, rfl, _⟩ := h
    rfl
  · obtain ⟨Z, ad, sk, y, dy, rfl, M, hsub, ok, hy, nl, p0, p1, k1, k2, k3⟩ := h
    have hu64 := hr.units
    refine ⟨_, (pss_cons (ps_expr (pe_meth (pv 0) T.cl_End T.m_End_need_part G_End_need_part (hr.mono (by decide)) T.b_End_need_part .nil (passes_call (takes_of rfl rfl rfl rfl) (fun _ _ _ _ h => h)) (pa_cons (pv 1) pa_nil)))
    (pss_cons (ps_if (pt_cmpR op_eq (pv 1) (pe_glob (v := .int 0) rfl T.v_SLOW ⟨_, rfl⟩) (nomark _))
      (pss_cons (ps_expr (pe_meth0 (pv 0) T.cl_End T.m_End_refresh G_End_refresh (hr.mono (by decide)) T.b_End_refresh .nil pass0))
      (pss_one (ps_ret (pe_tup (pa_cons pe_int (pa_cons (pe_tup (pa_cons (pe_fld (pv 0) rfl) (pa_cons (pe_fld (pv 0) rfl) (pa_cons (pe_fld (pv 0) rfl) pa_nil)))) pa_nil))))))
      pss_nil)
    (pss_cons (ps_set (i := 2) sc_End_say.nd rfl (by first | exact Or.inl rfl | exact Or.inr rfl) (pe_ifExp (pt_cmpR (op_neD hu64) (pe_fld (pv 0) rfl) (pe_lst pa_nil) (nomark _)) (pe_ix ix_list (pe_fld (pv 0) rfl) pe_int (fun _ _ => rfl)) pe_non))
    (pss_one (ps_ret (pe_tup (pa_cons (pe_fld (pv 0) rfl) (pa_cons (pe_tup (pa_cons (pe_fld (pv 0) rfl) (pa_cons (pv 2) (pa_cons (pe_callB call_len_seq (by rfl) T.n_len (by decide +kernel) (pa_cons (pe_fld (pv 0) rfl) pa_nil)) pa_nil)))) pa_nil)))))))), ?_⟩
    obtain ⟨⟨dx, cv, mv, ov, ho, hc, hm, hv⟩, _⟩ := id M
    refine ⟨_, rfl, ad.e, dx, _, rfl, ho, zip_no (by decide), _, rfl, Z, ad, sk, y, dy, rfl, M, hy, nl, p0, p1, fun e => ?_, k1⟩
    subst e
    cases hy
    refine ⟨_, rfl, rfl, _, rfl, ?_⟩
    refine iteD (fun hp => ?_) (fun hp => ?_)
    · have hp0 : sk.part = 0 := vint_inj.mp hp
      refine ⟨_, rfl, ad.e, dx, _, rfl, ho, zip_no (by decide), Z, ad, sk, rfl, M, hsub, ok, fun H1 M1 f1 => ?_⟩
      obtain ⟨⟨dx1, cv1, mv1, ov1, ho1, hc1, hm1, hv1⟩, _⟩ := id M1
      refine ⟨_, rfl, _, T.C_End, _, _, _, rfl, ho1, T.cl_End, T.no_End_version, zip_lookup enN_nd (i := 3) rfl rfl, _, rfl, _, T.C_End, _, _, _, rfl, ho1, T.cl_End, T.no_End_mind, zip_lookup enN_nd (i := 4) rfl rfl, _, rfl, _, T.C_End, _, _, _, rfl, ho1, T.cl_End, T.no_End_seen, zip_lookup enN_nd (i := 6) rfl rfl, (by show 3 ≤ sizeLine; decide), fun t ht => ?_⟩
      have s2 : Same H1 (upd H1 t (.tup [.int (refreshF sk).ver, mv1, .int (refreshF sk).seen])) := Same.upd_new ht
      refine ⟨(by show 2 ≤ sizeLine; decide), fun u hu => ?_⟩
      have s3 := s2.trans (Same.upd_new (o := .tup [.int 0, .ref t]) hu)
      refine k2 rfl hp0 _ _ (M1.same s3) (.tup upd_same (.cons (.int 0) (.cons (.tup (a := t) ?_ (.cons (.int _) (.cons (hm1.same s3) (.cons (.int _) .nil)))) .nil))) (f1.trans (Frm.of_same s3))
      rw [upd_ne (ne_of_none upd_same hu)]
      exact upd_same
    · have hp1 : sk.part = 1 := by
        have : sk.part ≠ 0 := fun z => hp (by rw [z])
        omega
      -- the item that is to come
      refine ⟨_, rfl, _, T.C_End, _, _, _, rfl, ho, T.cl_End, T.no_End_waiting, zip_lookup enN_nd (i := 11) rfl rfl, (by show 0 ≤ sizeLine; decide), fun e he => ?_⟩
      have s1 : Same H (upd H e (.lst [])) := Same.upd_new he
      have M1 := M.same s1
      obtain ⟨⟨dx1, cv1, mv1, ov1, ho1, hc1, hm1, hv1⟩, _⟩ := id M1
      refine ⟨.list (sk.wait.map .int), .list [], .lst (SqL.of M1.wt) (dp_ints _), .lst (SqL.of upd_same) .nil, shaped_ints _, shaped_ints [], _, rfl, ?_⟩
      have ee : PyData.eqv (.list (sk.wait.map .int)) (.list []) = decide (sk.wait = []) := eqvAll_ints sk.wait []
      rw [ee]
      refine iteN (fun hne => ?_) (fun hwe => ?_)
      · obtain ⟨w0, wr, hw⟩ : ∃ a r, sk.wait = a :: r := by
          cases h : sk.wait with
          | nil => exact absurd h hne
          | cons a r => exact ⟨a, r, rfl⟩
        refine ⟨_, rfl, _, T.C_End, _, _, _, rfl, ho1, T.cl_End, T.no_End_waiting, zip_lookup enN_nd (i := 11) rfl rfl, ad.w, _, _, .int w0, rfl, rfl, SqL.of M1.wt, atI_nat (j := 0) (by rw [hw]; rfl), ?_⟩
        refine ⟨_, rfl, _, T.C_End, _, _, _, rfl, ho1, T.cl_End, T.no_End_now, zip_lookup enN_nd (i := 9) rfl rfl, _, rfl, _, T.C_End, _, _, _, rfl, ho1, T.cl_End, T.no_End_count, zip_lookup enN_nd (i := 12) rfl rfl, _, rfl, _, rfl, _, T.C_End, _, _, _, rfl, ho1, T.cl_End, T.no_End_gathered, zip_lookup enN_nd (i := 13) rfl rfl, ad.g, _, rfl, .inl (SqL.of M1.gt), (by show 3 ≤ sizeLine; decide), fun t ht => ?_⟩
        have s2 := s1.trans (Same.upd_new (o := .tup [.int sk.count, .int w0, .int ((sk.got.map V.int).length : Nat)]) ht)
        refine ⟨(by show 2 ≤ sizeLine; decide), fun u hu => ?_⟩
        have s3 := s2.trans (Same.upd_new (o := .tup [.int sk.now, .ref t]) hu)
        refine k3 rfl hp1 _ _ (M.same s3) (.tup upd_same (.cons (.int _) (.cons (.tup (a := t) (xs := [.int sk.count, .int w0, .int ((sk.got.map V.int).length : Nat)]) ?_ ?_) .nil))) s3
        · rw [upd_ne (ne_of_none upd_same hu)]
          exact upd_same
        · rw [List.length_map]
          refine .cons (.int _) (.cons ?_ (.cons (.int _) .nil))
          show Im _ _ (optD sk.wait.head?)
          rw [hw]
          exact .int w0
      · refine ⟨_, rfl, _, T.C_End, _, _, _, rfl, ho1, T.cl_End, T.no_End_now, zip_lookup enN_nd (i := 9) rfl rfl, _, rfl, _, T.C_End, _, _, _, rfl, ho1, T.cl_End, T.no_End_count, zip_lookup enN_nd (i := 12) rfl rfl, _, rfl, _, rfl, _, T.C_End, _, _, _, rfl, ho1, T.cl_End, T.no_End_gathered, zip_lookup enN_nd (i := 13) rfl rfl, ad.g, _, rfl, .inl (SqL.of M1.gt), (by show 3 ≤ sizeLine; decide), fun t ht => ?_⟩
        have s2 := s1.trans (Same.upd_new (o := .tup [.int sk.count, .non, .int ((sk.got.map V.int).length : Nat)]) ht)
        refine ⟨(by show 2 ≤ sizeLine; decide), fun u hu => ?_⟩
        have s3 := s2.trans (Same.upd_new (o := .tup [.int sk.now, .ref t]) hu)
        refine k3 rfl hp1 _ _ (M.same s3) (.tup upd_same (.cons (.int _) (.cons (.tup (a := t) (xs := [.int sk.count, .non, .int ((sk.got.map V.int).length : Nat)]) ?_ ?_) .nil))) s3
        · rw [upd_ne (ne_of_none upd_same hu)]
          exact upd_same
        · rw [List.length_map]
          refine .cons (.int _) (.cons ?_ (.cons (.int _) .nil))
          show Im _ _ (optD sk.wait.head?)
          rw [hwe]
          exact .non

end
end TL

namespace TL
open PySem PySem.Spec PyProof.Rows L2
section
variable {P : Program} {w : World} {K : PySem.W.Frag} {mg : Str → Option Value} {base : Heap}
def sp_End_take (T : Txt w K mg) : Sp := fun vs H Q _ => ∃ (Z : List Addr) (ad : EAd) (s : EndS), vs = [.ref ad.e] ∧ EndAt T.C_End T.C_Marks Z H ad s ∧ Can s.can ∧ s.bad.length ≤ 9 ∧ (∀ m, s.oth = some m → Can m.1 ∧ m.2.length ≤ 9) ∧ ∀ H', Same H H' → Q (.int (takeF s)) H'
theorem ok_End_take (T : Txt w K mg) : FnOk P w K mg base CX0 5 T.a_End_take T.fd_End_take P_End_take (sp_End_take T) := by
  have G_chosen := ok_chosen (P := P) (w := w) (base := base) T
  refine T.F_End_take.ok sc_End_take (fun vs H Q E h => ?_) (fun cdv A outer s H vs Q E hr h => ?_)
  · obtain ⟨Z, ad, s, rfl, _⟩ := h
    rfl
  · obtain ⟨Z, ad, sk, rfl, M, hcan, hbad, hoth, k⟩ := h
    refine ⟨_, (pss_cons (ps_if (pt_cmpR op_isN1 (pe_fld (pv 0) rfl) pe_non (nomark _))
      (pss_one (ps_ret pe_int))
      pss_nil)
    (pss_one (ps_ret (pe_call G_chosen (hr.mono (by decide)) rfl T.g_chosen T.F_chosen.kp T.b_chosen .nil passL (pa_cons (pe_fld (pv 0) rfl) (pa_cons (pe_ix ix_tup (pe_fld (pv 0) rfl) pe_int (fun _ _ => rfl)) (pa_cons (pe_op op_catA (pe_ix ix_tup (pe_fld (pv 0) rfl) pe_int (fun _ _ => rfl)) (pe_ix ix_tup (pe_fld (pv 0) rfl) pe_int (fun _ _ => rfl))) pa_nil))))))), ?_⟩
    obtain ⟨⟨dx, cv, mv, ov, ho, hc, hm, hv⟩, _⟩ := id M
    refine ⟨_, rfl, _, T.C_End, _, _, _, rfl, ho, T.cl_End, T.no_End_other, zip_lookup enN_nd (i := 5) rfl rfl, rfl, _, rfl, ?_⟩
    have hcs : sk.oth = none ∨ ∃ m, sk.oth = some m := by
      cases sk.oth with
      | none => exact .inl rfl
      | some m => exact .inr ⟨m, rfl⟩
    rcases hcs with hn | ⟨m, hsm⟩
    · rw [hn] at hv
      cases hv
      refine iteT ?_
      have e : takeF sk = 0 := by unfold takeF; rw [hn]
      rw [e] at k
      exact k H (.refl _)
    · rw [hsm] at hv
      obtain ⟨ot, o1, o2, rfl, hot, ho1, ho2⟩ := im_two_inv hv
      obtain ⟨c2, rfl, hc2⟩ := im_can_inv (ms := m.1) ho1
      obtain ⟨b2, rfl, hb2⟩ := im_can_inv (ms := m.2) ho2
      obtain ⟨mt, m1, m2, rfl, hmt, hm1, hm2⟩ := im_two_inv hm
      obtain ⟨c1, rfl, hc1⟩ := im_can_inv hc
      obtain ⟨b1, rfl, hb1⟩ := im_can_inv (ms := sk.bad) hm2
      obtain ⟨hcm, hbm⟩ := hoth m hsm
      refine iteF ?_
      refine ⟨_, rfl, _, T.C_End, _, _, _, rfl, ho, T.cl_End, T.no_End_can, zip_lookup enN_nd (i := 0) rfl rfl, _, rfl, _, T.C_End, _, _, _, rfl, ho, T.cl_End, T.no_End_other, zip_lookup enN_nd (i := 5) rfl rfl, ot, _, _, _, rfl, rfl, SqT.of hot, rfl, _, rfl, _, T.C_End, _, _, _, rfl, ho, T.cl_End, T.no_End_mind, zip_lookup enN_nd (i := 4) rfl rfl, mt, _, _, _, rfl, rfl, SqT.of hmt, rfl, _, rfl, _, T.C_End, _, _, _, rfl, ho, T.cl_End, T.no_End_other, zip_lookup enN_nd (i := 5) rfl rfl, ot, _, _, _, rfl, rfl, SqT.of hot, rfl, ?_⟩
      refine catA (SqT.of hb1) (SqT.of hb2) (by rw [List.length_map, List.length_map]; exact Nat.le_of_lt (small1000 (by omega))) fun u H1 hu s1 => ?_
      have hcD : Im H1 (.ref c1) (canD sk.can) := (Im.tup hc1 (im_ints _)).same s1
      have hcE : Im H1 (.ref c2) (canD m.1) := (Im.tup hc2 (im_ints _)).same s1
      refine ⟨_, _, _, canD sk.can, canD m.1, rfl, hcD.dp, mdat_ints hcan.2.2.2, hcE.dp, mdat_ints hcm.2.2.2, (fun z => absurd z (by show ¬ isMan (.tuple _) = false; rw [isMan_ints hcan]; simp)), (fun _ z => absurd z (by show ¬ isMan (.tuple _) = false; rw [isMan_ints hcm]; simp)), fun _ _ one other e1 e2 => ?_⟩
      have inj : ∀ {a b : List Int}, a.map PyData.int = b.map PyData.int → a = b := fun {a b} e => List.map_inj_right (fun x y z => by cases z; rfl) |>.mp e
      obtain rfl := inj (by injection e1)
      obtain rfl := inj (by injection e2)
      refine ⟨u, sk.bad ++ m.2, rfl, .inr (by rw [List.map_append]; exact hu), fun H2 s2 => ?_⟩
      have e : takeF sk = chosenF sk.can m.1 (sk.bad ++ m.2) := by unfold takeF; rw [hsm]
      rw [e] at k
      exact k H2 (s1.trans s2)

end
end TL

namespace TL
open PySem PySem.Spec PyProof.Rows L2
section
variable {P : Program} {w : World} {K : PySem.W.Frag} {mg : Str → Option Value} {base : Heap}
def sp_End_hear_slow (T : Txt w K mg) : Sp := fun vs H Q _ => ∃ (Z : List Addr) (ad : EAd) (s : EndS) (z : V) (l : Option SlowL), vs = [.ref ad.e, z] ∧ EndAt T.C_End T.C_Marks Z H ad s ∧ (∀ z ∈ ad.all, z ∈ Z) ∧ EndOk s ∧ Im H z (slowO l) ∧ (∀ x, l = some x → Can x.2.1.1 ∧ x.2.1.2.length ≤ 9) ∧
  ∀ H', EndAt T.C_End T.C_Marks Z H' ad (hearSlowF s l) → Frm ad.all H H' → Q .non H'
theorem ok_End_hear_slow (T : Txt w K mg) : FnOk P w K mg base CX0 6 T.a_End_hear_slow T.fd_End_hear_slow P_End_hear_slow (sp_End_hear_slow T) := by
  have G_End_refresh := ok_End_refresh (P := P) (w := w) (base := base) T
  have G_End_take := ok_End_take (P := P) (w := w) (base := base) T
  refine T.F_End_hear_slow.ok sc_End_hear_slow (fun vs H Q E h => ?_) (fun cdv A outer s H vs Q E hr h => ?_)
  · obtain ⟨Z, ad, s, z, l, rfl, _⟩ := h
    rfl
  · obtain ⟨Z, ad, sk, z, l, rfl, M, hsub, ok, hz, hl, k⟩ := h
    refine ⟨_, (pss_cons (ps_expr (pe_meth0 (pv 0) T.cl_End T.m_End_refresh G_End_refresh (hr.mono (by decide)) T.b_End_refresh .nil pass0))
    (pss_cons (ps_fld (pv 0) pe_bl rfl)
    (pss_cons (ps_cut (ps_if (pt_cmpR op_notN1 (pv 1) pe_non (nomark _))
      (pss_cons (ps_asg (pv 1) (pg_tup rfl (pgs_cons (pg_fld (pv 0)) (pgs_cons (pg_fld (pv 0)) (pgs_cons (pg_fld (pv 0)) pgs_nil)))))
      (pss_one (ps_fld (pv 0) (pe_cmpR op_eq (pe_fld (pv 0) rfl) (pe_fld (pv 0) rfl) (nomark _)) rfl)))
      pss_nil))
    (pss_one (ps_fld (pv 0) (pe_meth0 (pv 0) T.cl_End T.m_End_take G_End_take (hr.mono (by decide)) T.b_End_take .nil pass0) rfl))))), ?_⟩
    obtain ⟨⟨dx, cv, mv, ov, ho, hc, hm, hv⟩, _⟩ := id M
    refine ⟨_, rfl, ad.e, dx, _, rfl, ho, zip_no (by decide), Z, ad, sk, rfl, M, hsub, ok, fun H1 M1 f1 => ?_⟩
    have ok1 := ok.refresh
    refine ⟨_, rfl, M1.sfld T.cl_End T.no_End_ready (hsub _ (by simp [EAd.all])) 8 (.bl false) { refreshF sk with ready := false } rfl (by decide) (fun cv mv ov h1 h2 h3 => ⟨cv, mv, ov, rfl, h1, h2, h3⟩) rfl rfl rfl fun H2 M2 f2 => ?_⟩
    have f12 := f1.trans f2
    refine ⟨fun σ' H' => σ' = [some (.ref ad.e), some z] ∧ EndAt T.C_End T.C_Marks Z H' ad (heardS (refreshF sk) l) ∧ Frm ad.all H H', ?_, ?_⟩
    · refine ⟨_, rfl, rfl, _, rfl, ?_⟩
      cases l with
      | none =>
        cases hz
        exact iteF ⟨rfl, M2, f12⟩
      | some l =>
        obtain ⟨t, x, y, w, rfl, ht, hx, hy, hw⟩ := im_three_inv (hz.frm f12)
        have := im_int_inv hx; subst this
        have := im_int_inv hw; subst this
        refine iteT ?_
        refine ⟨_, rfl, t, _, rfl, SqT.of ht, rfl, _, _, rfl, ?_⟩
        refine M2.gfld T.cl_End T.no_End_seen (hsub _ (by simp [EAd.all])) 6 (.int l.1) { refreshF sk with ready := false, seen := l.1 } rfl (by decide) (fun cv mv ov h1 h2 h3 => ⟨cv, mv, ov, rfl, h1, h2, h3⟩) rfl rfl rfl fun H3 M3 f3 => ?_
        refine ⟨_, _, rfl, ?_⟩
        refine M3.gfld T.cl_End T.no_End_other (hsub _ (by simp [EAd.all])) 5 y { refreshF sk with ready := false, seen := l.1, oth := some l.2.1 } rfl (by decide) (fun cv mv ov h1 h2 h3 => ⟨cv, mv, y, rfl, h1, h2, hy.frm f3⟩) rfl rfl rfl fun H4 M4 f4 => ?_
        refine ⟨_, _, rfl, ?_⟩
        refine M4.gfld T.cl_End T.no_End_known (hsub _ (by simp [EAd.all])) 7 (.int l.2.2) { refreshF sk with ready := false, seen := l.1, oth := some l.2.1, known := l.2.2 } rfl (by decide) (fun cv mv ov h1 h2 h3 => ⟨cv, mv, ov, rfl, h1, h2, h3⟩) rfl rfl rfl fun H5 M5 f5 => ?_
        refine ⟨rfl, ?_⟩
        obtain ⟨⟨dx5, cv5, mv5, ov5, ho5, _⟩, _⟩ := id M5
        refine ⟨_, rfl, _, T.C_End, _, _, _, rfl, ho5, T.cl_End, T.no_End_known, zip_lookup enN_nd (i := 7) rfl rfl, _, rfl, _, T.C_End, _, _, _, rfl, ho5, T.cl_End, T.no_End_version, zip_lookup enN_nd (i := 3) rfl rfl, rfl, _, rfl, M5.sfld T.cl_End T.no_End_ready (hsub _ (by simp [EAd.all])) 8 _ (heardS (refreshF sk) (some l)) rfl (by decide) (fun cv mv ov h1 h2 h3 => ⟨cv, mv, ov, ?_, h1, h2, h3⟩) rfl rfl rfl fun H6 M6 f6 => ⟨rfl, M6, f12.trans (((f3.trans f4).trans f5).trans f6)⟩⟩
        have e : decide (V.int l.2.2 = V.int (refreshF sk).ver) = decide (l.2.2 = (refreshF sk).ver) := decide_eq_decide.mpr vint_inj
        rw [e]
        rfl
    rintro σ' H3 ⟨rfl, M3, f3⟩
    obtain ⟨⟨dx3, cv3, mv3, ov3, ho3, _⟩, _⟩ := id M3
    have hob : (heardS (refreshF sk) l).can = (refreshF sk).can ∧ (heardS (refreshF sk) l).bad = (refreshF sk).bad ∧ (∀ m, (heardS (refreshF sk) l).oth = some m → Can m.1 ∧ m.2.length ≤ 9) := by
      cases l with
      | none => exact ⟨rfl, rfl, ok1.oth⟩
      | some l => exact ⟨rfl, rfl, fun m e => by
          have e' : l.2.1 = m := Option.some.inj e
          rw [← e']
          exact hl l rfl⟩
    refine ⟨_, rfl, ad.e, dx3, _, rfl, ho3, zip_no (by decide), Z, ad, _, rfl, M3, by rw [hob.1]; exact ok1.can, by rw [hob.2.1]; exact ok1.bad, hob.2.2, fun H4 s4 => ?_⟩
    refine ⟨_, rfl, (M3.same s4).sfld T.cl_End T.no_End_now (hsub _ (by simp [EAd.all])) 9 _ (hearSlowF sk l) rfl (by decide) (fun cv mv ov h1 h2 h3 => ⟨cv, mv, ov, rfl, h1, h2, h3⟩) rfl rfl rfl fun H5 M5 f5 => ?_⟩
    exact k H5 M5 ((f3.trans (Frm.of_same s4)).trans f5)

end
end TL

namespace TL
open PySem PySem.Spec PyProof.Rows L2
section
variable {P : Program} {w : World} {K : PySem.W.Frag} {mg : Str → Option Value} {base : Heap}
def sp_Marks_note (T : Txt w K mg) : Sp := fun vs H Q E => ∃ (Z : List Addr) (ad : MAd) (s : MkS) (x y : V) (dx dy : PyData) (b : Bool), vs = [.ref ad.m, x, .bl b, y] ∧ MarksAt T.C_Marks Z H ad s ∧ Alloc Z H ∧ (∀ z ∈ ad.all, z ∈ Z) ∧ Dp K H x dx ∧ (∀ ds, dx ≠ .list ds) ∧ Dp K H y dy ∧ (∀ ds, dy ≠ .list ds) ∧
  (between dx 1 9 = false → E (.ref T.C_BadManners) none H) ∧ (between dx 1 9 = true → between dy 0 1000000 = false → E (.ref T.C_BadCount) none H) ∧
  (∀ m f, dx = .int m → dy = .int f → 1 ≤ m → m ≤ 9 → 0 ≤ f → f ≤ 1000000 → ∀ H', MarksAt T.C_Marks Z H' ad (noteF s m b f) → Frm ad.all H H' → Q (.bl (isMarked s m b)) H')
theorem ok_Marks_note (T : Txt w K mg) : FnOk P w K mg base (L2.CX P w) 3 T.a_Marks_note T.fd_Marks_note P_Marks_note (sp_Marks_note T) := by
  have G_need_manner := ok_need_manner (P := P) (w := w) (base := base) T
  have G_is_between := ok_is_between (P := P) (w := w) (base := base) T
  refine T.F_Marks_note.okX sc_Marks_note (fun vs H Q E h => ?_) (fun cdv A outer s H vs Q E hr h => ?_)
  · obtain ⟨Z, ad, s, x, y, dx, dy, b, rfl, _⟩ := h
    rfl
  · obtain ⟨Z, ad, sk, x, y, dx, dy, b, rfl, M, AZ, hsub, hx, nlx, hy, nly, k1, k2, k3⟩ := h
    have hu := hu_of hr
    refine ⟨_, (pss_cons (ps_expr (pe_call G_need_manner (hr.mono (by decide)) rfl T.g_need_manner T.F_need_manner.kp T.b_need_manner .nil (passes_call (takes_of rfl rfl rfl rfl) (fun _ _ _ _ h => h)) (pa_cons (pv 1) pa_nil)))
    (pss_cons (ps_if (pt_not (pt_val (pe_call G_is_between (hr.mono (by decide)) rfl T.g_is_between T.F_is_between.kp T.b_is_between .nil pass0 (pa_cons (pv 3) (pa_cons pe_int (pa_cons (pe_glob (v := .int 1000000) rfl T.v_MOST_FRAME ⟨_, rfl⟩) pa_nil))))))
      (pss_one (ps_raise rfl (takes_of rfl rfl rfl rfl) (pmk_own PySem.F.excBase_ValueError T.x_BadCount T.c_BadCount T.k_BadCount (raises_own T.s_BadCount T.t_BadCount) rfl)))
      pss_nil)
    (pss_cons (ps_dput hu (pe_fld (pv 0) rfl) (pv 1) (pe_slice sl_list (pe_op op_cat (pe_dget2 hu (pe_fld (pv 0) rfl) (pv 1) (pe_lst pa_nil) ⟨rfl, rfl, rfl, rfl⟩) (pe_lst (pa_cons (pv 2) pa_nil))) (po_some (pe_op op_sub pe_int (pe_glob (v := .int 6) rfl T.v_LAST ⟨_, rfl⟩))) po_none) rfl)
    (pss_cons (ps_cut (ps_dput hu (pe_fld (pv 0) rfl) (pv 1) (pe_ifExp (pt_val (pv 2)) (pe_op op_add (pe_dget2 hu (pe_fld (pv 0) rfl) (pv 1) pe_int ⟨rfl, rfl, rfl, rfl⟩) pe_int) pe_int) rfl))
    (pss_cons (ps_cut (ps_if (pt_cmpR op_eq (pe_dget hu (pe_fld (pv 0) rfl) (pv 1) (fun _ _ => rfl)) (pe_glob (v := .int 32) rfl T.v_STAYS ⟨_, rfl⟩) (nomark _))
      (pss_one (ps_dput hu (pe_fld (pv 0) rfl) (pv 1) (pe_glob (v := .int 16) rfl T.v_FIRST ⟨_, rfl⟩) rfl))
      pss_nil))
    (pss_cons (ps_if (pt_cmpR op_lt (pe_bm PySem.F.plainAttrs_list PySem.F.slot_list_count PySem.F.type_list_count mt_countF (pe_dget hu (pe_fld (pv 0) rfl) (pv 1) (fun _ _ => rfl)) (pa_cons pe_bl pa_nil)) (pe_glob (v := .int 3) rfl T.v_LOST ⟨_, rfl⟩) (nomark _))
      (pss_one (ps_ret pe_bl))
      pss_nil)
    (pss_cons (ps_set (i := 4) sc_Marks_note.nd rfl (by first | exact Or.inl rfl | exact Or.inr rfl) (pe_dget2 hu (pe_fld (pv 0) rfl) (pv 1) (pe_glob (v := .int 16) rfl T.v_FIRST ⟨_, rfl⟩) ⟨rfl, rfl, rfl, rfl⟩))
    (pss_cons (ps_dput hu (pe_fld (pv 0) rfl) (pv 1) (pe_callB (call_max2 rfl) (by rfl) T.n_max (by decide +kernel) (pa_cons (pe_dget2 hu (pe_fld (pv 0) rfl) (pv 1) pe_int ⟨rfl, rfl, rfl, rfl⟩) (pa_cons (pe_op op_add (pv 3) (pv 4)) pa_nil))) rfl)
    (pss_cons (ps_dput hu (pe_fld (pv 0) rfl) (pv 1) (pe_callB (call_min2 rfl) (by rfl) T.n_min (by decide +kernel) (pa_cons (pe_glob (v := .int 256) rfl T.v_LONGEST ⟨_, rfl⟩) (pa_cons (pe_op op_mul pe_int (pv 4)) pa_nil))) rfl)
    (pss_cons (ps_dput hu (pe_fld (pv 0) rfl) (pv 1) (pe_lst pa_nil) rfl)
    (pss_one (ps_ret pe_bl)))))))))))), ?_⟩
    refine ⟨_, rfl, x, dx, rfl, hx, nlx, fun gx => ?_, k1⟩
    refine ⟨_, rfl, y, dy, 0, 1000000, rfl, hy, nly, _, rfl, ?_⟩
    refine iteB (fun hb => k2 gx (by simpa using hb)) (fun hb => ?_)
    have gy : between dy 0 1000000 = true := by simpa using hb
    obtain ⟨m, rfl, hm1, hm9⟩ : ∃ m, dx = .int m ∧ 1 ≤ m ∧ m ≤ 9 := by
      cases dx with
      | int m => exact ⟨m, rfl, by simpa [between] using gx⟩
      | _ => exact absurd gx (by simp [between])
    obtain ⟨f, rfl, hf0, hf1⟩ : ∃ f, dy = .int f ∧ 0 ≤ f ∧ f ≤ 1000000 := by
      cases dy with
      | int f => exact ⟨f, rfl, by simpa [between] using gy⟩
      | _ => exact absurd gy (by simp [between])
    cases hx; cases hy
    have k := k3 m f rfl rfl hm1 hm9 hf0 hf1
    -- tries
    obtain ⟨⟨dm, ho⟩, _⟩ := id M
    refine ⟨_, rfl, _, T.C_Marks, _, _, _, rfl, ho, T.cl_Marks, T.no_Marks_tries, zip_lookup mkN_nd (i := 3) rfl rfl, ad.t, rfl, (by obtain ⟨ta, ht, _⟩ := M.t; exact ht.isD), _, rfl, (by show 0 ≤ sizeLine; decide), fun e he => ?_⟩
    have s1 : Same H (upd H e (.lst [])) := Same.upd_new he
    have M1 := M.same s1
    obtain ⟨ta, ht, hls⟩ := id M1.t
    refine ⟨_, ht.get m, ?_⟩
    obtain ⟨l0, hl0, hc0, hb0⟩ : ∃ l0, ((fun i => (ta i).map V.ref) m).getD (.ref e) = .ref l0 ∧ (upd H e (.lst [])) l0 = some (.lst (((sk.tries m).getD []).map V.bl)) ∧ ((sk.tries m).getD []).length ≤ 6 := by
      rcases hls m with ⟨q1, q2⟩ | ⟨l, bs, q1, q2, q3, _, q4⟩
      · refine ⟨e, by simp [q1], ?_, ?_⟩
        · rw [q2]; exact upd_same
        · rw [q2]; exact Nat.zero_le _
      · refine ⟨l, by simp [q1], ?_, ?_⟩
        · rw [q2]; exact q3
        · rw [q2]; exact q4
    rw [hl0]
    refine ⟨_, rfl, (by show 1 ≤ sizeLine; decide), fun q hq => ?_⟩
    have s2 := Same.upd_new (o := .lst [.bl b]) hq
    refine ⟨l0, q, _, _, rfl, rfl, s2 _ _ hc0, upd_same, by rw [List.length_map]; exact Nat.le_of_lt (small1000 (by simp; omega)), fun c hc => ?_⟩
    have s3 := Same.upd_new (o := .lst (((sk.tries m).getD []).map V.bl ++ [.bl b])) hc
    refine ⟨_, _, rfl, rfl, _, rfl, c, _, rfl, SqL.of upd_same, fun l hl => ?_⟩
    have s4 := Same.upd_new (o := .lst (cutV (((sk.tries m).getD []).map V.bl ++ [.bl b]) (some (0 - 6)) none)) hl
    have s14 := ((s1.trans s2).trans s3).trans s4
    have M4 := M.same s14
    have hl4 : (upd (upd (upd (upd H e (.lst [])) q (.lst [.bl b])) c (.lst (((sk.tries m).getD []).map V.bl ++ [.bl b]))) l (.lst (cutV (((sk.tries m).getD []).map V.bl ++ [.bl b]) (some (0 - 6)) none))) l = some (.lst ((triesOf sk m b).map V.bl)) := by
      rw [upd_same, cut6]
      have e1 : ((sk.tries m).getD []).map V.bl ++ [.bl b] = ((sk.tries m).getD [] ++ [b]).map V.bl := by simp
      rw [e1, last6_map]
      rfl
    have hlZ : l ∉ Z := AZ.not (((s1.trans s2).trans s3).free hl)
    obtain ⟨H5, d5, M5, f5, hl5⟩ := M4.put_t hm1 hm9 hl4 hlZ (last6_len _)
    obtain ⟨⟨dm4, ho4⟩, _⟩ := id M4
    refine ⟨_, rfl, _, T.C_Marks, _, _, _, rfl, ho4, T.cl_Marks, T.no_Marks_tries, zip_lookup mkN_nd (i := 3) rfl rfl, _, rfl, ad.t, H5, rfl, d5, ?_⟩
    have F5 : Frm ad.all H H5 := (Frm.of_same s14).trans f5
    -- runs
    obtain ⟨⟨dm5, ho5⟩, _⟩ := id M5
    obtain ⟨H6, d6, M6, f6⟩ := M5.put_r hm1 hm9 (runOf sk m b)
    refine ⟨fun σ' H' => σ' = [some (.ref ad.m), some (.int m), some (.bl b), some (.int f), none] ∧ H' = H6, ?_, ?_⟩
    · refine ⟨_, rfl, ?_⟩
      cases b with
      | false =>
        refine ⟨_, rfl, ?_⟩
        refine iteB (fun z => by cases z) fun _ => ?_
        exact ⟨_, rfl, _, T.C_Marks, _, _, _, rfl, ho5, T.cl_Marks, T.no_Marks_runs, zip_lookup mkN_nd (i := 2) rfl rfl, _, rfl, ad.r, H6, rfl, d6, rfl, rfl⟩
      | true =>
        refine ⟨_, rfl, ?_⟩
        refine iteB (fun _ => ?_) fun z => by cases z
        refine ⟨_, rfl, _, T.C_Marks, _, _, _, rfl, ho5, T.cl_Marks, T.no_Marks_runs, zip_lookup mkN_nd (i := 2) rfl rfl, ad.r, rfl, M5.r.isD, _, rfl, _, M5.r.get m, ?_⟩
        have er : ((fun i => (sk.run i).map V.int) m).getD (.int 0) = .int ((sk.run m).getD 0) := by
          show ((sk.run m).map V.int).getD (.int 0) = _
          cases sk.run m <;> rfl
        refine ⟨_, _, er, rfl, ?_⟩
        exact ⟨_, rfl, _, T.C_Marks, _, _, _, rfl, ho5, T.cl_Marks, T.no_Marks_runs, zip_lookup mkN_nd (i := 2) rfl rfl, _, rfl, ad.r, H6, rfl, d6, rfl, rfl⟩
    rintro σ' H' ⟨rfl, rfl⟩
    have F6 := F5.trans f6
    -- the wait is sixteen again
    refine ⟨fun σ' H' => σ' = [some (.ref ad.m), some (.int m), some (.bl b), some (.int f), none] ∧ MarksAt T.C_Marks Z H' ad ⟨waitsOf sk m b, sk.untl, setA sk.run m (runOf sk m b), setA sk.tries m (triesOf sk m b)⟩ ∧ Frm ad.all H H', ?_, ?_⟩
    · obtain ⟨⟨dm6, ho6⟩, _⟩ := id M6
      have hg : DGet H' ad.r (.int m) (some (.int (runOf sk m b))) := by
        have q := M6.r.get m
        simpa [setA] using q
      refine ⟨_, rfl, _, T.C_Marks, _, _, _, rfl, ho6, T.cl_Marks, T.no_Marks_runs, zip_lookup mkN_nd (i := 2) rfl rfl, _, rfl, ad.r, _, rfl, hg, rfl, _, rfl, ?_⟩
      refine iteD (fun h32 => ?_) (fun h32 => ⟨rfl, ?_, F6⟩)
      · obtain ⟨H7, d7, M7, f7⟩ := M6.put_w hm1 hm9 16
        refine ⟨_, rfl, _, T.C_Marks, _, _, _, rfl, ho6, T.cl_Marks, T.no_Marks_waits, zip_lookup mkN_nd (i := 0) rfl rfl, _, rfl, ad.w, H7, rfl, d7, rfl, ?_, F6.trans f7⟩
        have : waitsOf sk m b = setA sk.wait m 16 := by unfold waitsOf; rw [if_pos (vint_inj.mp h32)]
        rw [this]
        exact M7
      · have : waitsOf sk m b = sk.wait := by unfold waitsOf; rw [if_neg fun z => h32 (by rw [z])]
        rw [this]
        exact M6
    rintro σ' H7 ⟨rfl, M7, F7⟩
    -- marked?
    obtain ⟨⟨dm7, ho7⟩, _⟩ := id M7
    obtain ⟨ta7, ht7, hls7⟩ := id M7.t
    obtain ⟨l7, hl7a, hl7⟩ : ∃ l, ta7 m = some l ∧ H7 l = some (.lst ((triesOf sk m b).map V.bl)) := by
      rcases hls7 m with ⟨_, q⟩ | ⟨l, bs, q1, q2, q3, _⟩
      · simp [setA] at q
      · simp [setA] at q2
        subst q2
        exact ⟨l, q1, q3⟩
    have hg7 : DGet H7 ad.t (.int m) (some (.ref l7)) := by
      have q := ht7.get m
      simpa [hl7a] using q
    refine ⟨_, rfl, _, T.C_Marks, _, _, _, rfl, ho7, T.cl_Marks, T.no_Marks_tries, zip_lookup mkN_nd (i := 3) rfl rfl, _, rfl, ad.t, _, rfl, hg7, .inl ⟨rfl, _, SqL.of hl7⟩, l7, _, _, rfl, rfl, SqL.of hl7, rfl, flat_bls _, _, _, rfl, rfl, _, rfl, ?_⟩
    rw [count_bl]
    have eM : isMarked sk m b = !decide (((triesOf sk m b).count false : Int) < 3) := rfl
    refine iteD (fun hlt => ?_) (fun hge => ?_)
    · have e0 : isMarked sk m b = false := by rw [eM, decide_eq_true hlt]; rfl
      have q := k H7 (by unfold noteF; rw [e0, if_neg (by simp)]; exact M7) F7
      rw [e0] at q
      exact q
    have e1 : isMarked sk m b = true := by rw [eM, decide_eq_false hge]; rfl
    -- the mark
    have ew : ((fun i => ((waitsOf sk m b) i).map V.int) m).getD (.int 16) = .int (((waitsOf sk m b) m).getD 16) := by
      show (((waitsOf sk m b) m).map V.int).getD (.int 16) = _
      cases (waitsOf sk m b) m <;> rfl
    refine ⟨_, rfl, _, T.C_Marks, _, _, _, rfl, ho7, T.cl_Marks, T.no_Marks_waits, zip_lookup mkN_nd (i := 0) rfl rfl, ad.w, rfl, M7.w.isD, _, rfl, _, M7.w.get m, ?_⟩
    rw [ew]
    have eu : ((fun i => (sk.untl i).map V.int) m).getD (.int 0) = .int ((sk.untl m).getD 0) := by
      show ((sk.untl m).map V.int).getD (.int 0) = _
      cases sk.untl m <;> rfl
    refine ⟨_, rfl, _, T.C_Marks, _, _, _, rfl, ho7, T.cl_Marks, T.no_Marks_until, zip_lookup mkN_nd (i := 1) rfl rfl, ad.u, rfl, M7.u.isD, _, rfl, _, M7.u.get m, ?_⟩
    rw [eu]
    refine ⟨_, rfl, _, rfl, _, _, rfl, rfl, _, _, rfl, ?_⟩
    have emax : ∀ i j : Int, (if j > i then j else i) = max i j := fun i j => by split <;> omega
    rw [emax]
    obtain ⟨H8, d8, M8, f8⟩ := M7.put_u hm1 hm9 (max ((sk.untl m).getD 0) (f + ((waitsOf sk m b) m).getD 16))
    refine ⟨_, rfl, _, T.C_Marks, _, _, _, rfl, ho7, T.cl_Marks, T.no_Marks_until, zip_lookup mkN_nd (i := 1) rfl rfl, _, rfl, ad.u, H8, rfl, d8, ?_⟩
    obtain ⟨⟨dm8, ho8⟩, _⟩ := id M8
    refine ⟨_, rfl, _, _, rfl, rfl, .inl ⟨by decide, by decide⟩, _, _, rfl, ?_⟩
    have emin : ∀ i j : Int, (if j < i then j else i) = min i j := fun i j => by split <;> omega
    rw [emin]
    obtain ⟨H9, d9, M9, f9⟩ := M8.put_w hm1 hm9 (min 256 (2 * ((waitsOf sk m b) m).getD 16))
    refine ⟨_, rfl, _, T.C_Marks, _, _, _, rfl, ho8, T.cl_Marks, T.no_Marks_waits, zip_lookup mkN_nd (i := 0) rfl rfl, _, rfl, ad.w, H9, rfl, d9, ?_⟩
    obtain ⟨⟨dm9, ho9⟩, _⟩ := id M9
    have F9 := (F7.trans f8).trans f9
    refine ⟨(by show 0 ≤ sizeLine; decide), fun n hn => ?_⟩
    have M10 := M9.same (Same.upd_new (o := .lst []) hn)
    obtain ⟨H11, d11, M11, f11, _⟩ := M10.put_t (bs := []) hm1 hm9 (l := n) upd_same (AZ.not (F9.free hn)) (Nat.zero_le _)
    obtain ⟨⟨dm10, ho10⟩, _⟩ := id M10
    refine ⟨_, rfl, _, T.C_Marks, _, _, _, rfl, ho10, T.cl_Marks, T.no_Marks_tries, zip_lookup mkN_nd (i := 3) rfl rfl, _, rfl, ad.t, H11, rfl, d11, ?_⟩
    have q := k H11 (by
      unfold noteF
      rw [e1, if_pos rfl]
      have e2 : setA (setA sk.tries m (triesOf sk m b)) m [] = setA sk.tries m [] := by
        funext j
        unfold setA
        split <;> rfl
      have M12 := M11
      simp only [e2] at M12
      exact M12) ((F9.trans (Frm.new hn)).trans f11)
    rw [e1] at q
    exact q

end
end TL

namespace TL
open PySem PySem.Spec PyProof.Rows L2
section
variable {P : Program} {w : World} {K : PySem.W.Frag} {mg : Str → Option Value} {base : Heap}
def sp_End_hear_fast (T : Txt w K mg) : Sp := fun vs H Q _ => ∃ (Z : List Addr) (ad : EAd) (s : EndS) (z : V) (l : Option FastL), vs = [.ref ad.e, z] ∧ EndAt T.C_End T.C_Marks Z H ad s ∧ (∀ z ∈ ad.all, z ∈ Z) ∧ Alloc Z H ∧ EndOk s ∧ Im H z (fastO l) ∧ (∀ x, l = some x → s.count < x.2.2 → s.wait ≠ []) ∧
  ∀ H', EndAt T.C_End T.C_Marks Z H' ad (hearFastF s l) → Frm ad.all H H' → Q .non H'
theorem ok_End_hear_fast (T : Txt w K mg) : FnOk P w K mg base CX0 4 T.a_End_hear_fast T.fd_End_hear_fast P_End_hear_fast (sp_End_hear_fast T) := by
  have G_Marks_note := ok_Marks_note (P := P) (w := w) (base := base) T
  refine T.F_End_hear_fast.ok sc_End_hear_fast (fun vs H Q E h => ?_) (fun cdv A outer s H vs Q E hr h => ?_)
  · obtain ⟨Z, ad, s, z, l, rfl, _⟩ := h
    rfl
  · obtain ⟨Z, ad, sk, z, l, rfl, M, hsub, AZ, ok, hz, hl, k⟩ := h
    refine ⟨_, (pss_cons (ps_fld (pv 0) (pe_cmpR op_notN1 (pv 1) pe_non (nomark _)) rfl)
    (pss_cons (ps_cut (ps_if (PW.pt (pw_and (pt_cmpR op_gt (pe_fld (pv 0) rfl) pe_int (nomark _)) (pw_and1 (PW.pt (pw_or (pt_val (pe_fld (pv 0) rfl)) (pw_or1 (pt_val (pe_fld (pv 0) rfl))))))))
      (pss_one (ps_expr (pe_meth (pe_fld (pv 0) rfl) T.cl_Marks T.m_Marks_note G_Marks_note (hr.mono (by decide)) T.b_Marks_note .nil passL (pa_cons (pe_fld (pv 0) rfl) (pa_cons (pe_fld (pv 0) rfl) (pa_cons (pe_fld (pv 0) rfl) pa_nil))))))
      pss_nil))
    (pss_cons (ps_if (pt_cmpR op_isN1 (pv 1) pe_non (nomark _))
      (pss_one ps_retN)
      pss_nil)
    (pss_cons (ps_asg (pv 1) (pg_tup rfl (pgs_cons (pg_name (i := 2) sc_End_hear_fast.nd rfl (by first | exact Or.inl rfl | exact Or.inr rfl)) (pgs_cons (pg_name (i := 3) sc_End_hear_fast.nd rfl (by first | exact Or.inl rfl | exact Or.inr rfl)) (pgs_cons (pg_name (i := 4) sc_End_hear_fast.nd rfl (by first | exact Or.inl rfl | exact Or.inr rfl)) pgs_nil)))))
    (pss_cons (ps_cut (ps_if (PW.pt (pw_and (pt_cmpR op_notN1 (pv 3) pe_non (nomark _)) (pw_and1 (pt_cmpR op_eq (pv 2) (pe_callB call_len_seq (by rfl) T.n_len (by decide +kernel) (pa_cons (pe_fld (pv 0) rfl) pa_nil)) (nomark _)))))
      (pss_one (ps_expr (pe_bm PySem.F.plainAttrs_list PySem.F.slot_list_append PySem.F.type_list_append mt_append (pe_fld (pv 0) rfl) (pa_cons (pv 3) pa_nil))))
      pss_nil))
    (pss_one (ps_if (pt_cmpR op_gt (pv 4) (pe_fld (pv 0) rfl) (nomark _))
      (pss_cons (ps_fld (pv 0) (pv 4) rfl)
      (pss_one (ps_expr (pe_bm PySem.F.plainAttrs_list PySem.F.slot_list_pop PySem.F.type_list_pop mt_popAt (pe_fld (pv 0) rfl) (pa_cons pe_int pa_nil)))))
      pss_nil))))))), ?_⟩
    refine ⟨_, rfl, rfl, ?_⟩
    have ej : (!decide (z = V.non)) = l.isSome := by
      cases l with
      | none => cases hz; rfl
      | some l => obtain ⟨t, x, y, w, rfl, _⟩ := im_three_inv hz; rfl
    rw [ej]
    refine ⟨_, rfl, M.sfld T.cl_End T.no_End_joined (hsub _ (by simp [EAd.all])) 10 (.bl l.isSome) { sk with joined := l.isSome } rfl (by decide) (fun cv mv ov h1 h2 h3 => ⟨cv, mv, ov, rfl, h1, h2, h3⟩) rfl rfl rfl fun H1 M1 f1 => ?_⟩
    refine ⟨fun σ' H' => σ' = [some (.ref ad.e), some z, none, none, none] ∧ EndAt T.C_End T.C_Marks Z H' ad (notedF sk l.isSome) ∧ Frm ad.all H H', ?_, ?_⟩
    · obtain ⟨⟨dx1, cv1, mv1, ov1, ho1, _⟩, _⟩ := id M1
      have no : ∀ (h : ¬ (0 < sk.now ∧ (l.isSome = true ∨ sk.ready = true))), notedF sk l.isSome = { sk with joined := l.isSome } := fun h => by unfold notedF; rw [if_neg h]
      refine ⟨_, rfl, _, T.C_End, _, _, _, rfl, ho1, T.cl_End, T.no_End_now, zip_lookup enN_nd (i := 9) rfl rfl, _, _, rfl, rfl, _, rfl, ?_⟩
      refine iteD (fun hn => ?_) (fun hn => iteF ⟨rfl, by rw [no fun z => hn z.1]; exact M1, f1⟩)
      have go : (0 < sk.now ∧ (l.isSome = true ∨ sk.ready = true)) → True := fun _ => trivial
      have note : (0 < sk.now ∧ (l.isSome = true ∨ sk.ready = true)) → ∀ H3, MarksAt T.C_Marks Z H3 ad.mks (noteF sk.mks sk.now l.isSome sk.over) → Frm ad.mks.all H1 H3 → EndAt T.C_End T.C_Marks Z H3 ad (notedF sk l.isSome) ∧ Frm ad.all H H3 := fun hh H3 M3 f3 => by
        obtain ⟨g1, g2⟩ := M1.setM M3 f3
        have e : notedF sk l.isSome = { sk with joined := l.isSome, mks := noteF sk.mks sk.now l.isSome sk.over } := by unfold notedF; rw [if_pos hh]
        rw [e]
        exact ⟨g1, f1.trans g2⟩
      obtain ⟨⟨dmk, hmk⟩, _⟩ := id M1.mks
      have ob0 := ok.o0
      have ob1 := ok.o1
      have nb9 := ok.n9
      have hn' : 0 < sk.now := hn
      refine ⟨_, rfl, _, T.C_End, _, _, _, rfl, ho1, T.cl_End, T.no_End_joined, zip_lookup enN_nd (i := 10) rfl rfl, _, rfl, ?_⟩
      refine iteB (fun hj => iteT ?_) (fun hj => ⟨_, rfl, _, T.C_End, _, _, _, rfl, ho1, T.cl_End, T.no_End_ready, zip_lookup enN_nd (i := 8) rfl rfl, _, rfl, iteB (fun hr => ?_) (fun hr => ⟨rfl, by rw [no fun z => z.2.elim (fun q => Bool.noConfusion (q.symm.trans hj)) (fun q => Bool.noConfusion (q.symm.trans hr))]; exact M1, f1⟩)⟩)
      · refine ⟨_, rfl, _, T.C_End, _, _, _, rfl, ho1, T.cl_End, T.no_End_marks, zip_lookup enN_nd (i := 1) rfl rfl, ad.mks.m, dmk, _, rfl, hmk, zip_no (by decide), _, rfl, _, T.C_End, _, _, _, rfl, ho1, T.cl_End, T.no_End_now, zip_lookup enN_nd (i := 9) rfl rfl, _, rfl, _, T.C_End, _, _, _, rfl, ho1, T.cl_End, T.no_End_joined, zip_lookup enN_nd (i := 10) rfl rfl, _, rfl, _, T.C_End, _, _, _, rfl, ho1, T.cl_End, T.no_End_over, zip_lookup enN_nd (i := 2) rfl rfl, Z, ad.mks, sk.mks, _, _, .int sk.now, .int sk.over, l.isSome, rfl, M1.mks, AZ.frm f1, fun z hz => hsub z (ad.mk_all z hz), .int _, (fun ds z => by cases z), .int _, (fun ds z => by cases z), (fun z => ?_), (fun _ z => ?_), fun m f e1 e2 _ _ _ _ H3 M3 f3 => ?_⟩
        · simp [between] at z
          omega
        · simp [between] at z
          omega
        · cases e1
          cases e2
          obtain ⟨g1, g2⟩ := note ⟨hn', .inl hj⟩ H3 M3 f3
          exact ⟨rfl, g1, g2⟩
      · refine ⟨_, rfl, _, T.C_End, _, _, _, rfl, ho1, T.cl_End, T.no_End_marks, zip_lookup enN_nd (i := 1) rfl rfl, ad.mks.m, dmk, _, rfl, hmk, zip_no (by decide), _, rfl, _, T.C_End, _, _, _, rfl, ho1, T.cl_End, T.no_End_now, zip_lookup enN_nd (i := 9) rfl rfl, _, rfl, _, T.C_End, _, _, _, rfl, ho1, T.cl_End, T.no_End_joined, zip_lookup enN_nd (i := 10) rfl rfl, _, rfl, _, T.C_End, _, _, _, rfl, ho1, T.cl_End, T.no_End_over, zip_lookup enN_nd (i := 2) rfl rfl, Z, ad.mks, sk.mks, _, _, .int sk.now, .int sk.over, l.isSome, rfl, M1.mks, AZ.frm f1, fun z hz => hsub z (ad.mk_all z hz), .int _, (fun ds z => by cases z), .int _, (fun ds z => by cases z), (fun z => ?_), (fun _ z => ?_), fun m f e1 e2 _ _ _ _ H3 M3 f3 => ?_⟩
        · simp [between] at z
          omega
        · simp [between] at z
          omega
        · cases e1
          cases e2
          obtain ⟨g1, g2⟩ := note ⟨hn', .inr hr⟩ H3 M3 f3
          exact ⟨rfl, g1, g2⟩
    rintro σ' H2 ⟨rfl, M2, f2⟩
    refine ⟨_, rfl, rfl, _, rfl, ?_⟩
    cases l with
    | none =>
      cases hz
      exact iteT (k H2 M2 f2)
    | some l =>
      obtain ⟨t, x, y, w, rfl, ht, hx, hy, hw⟩ := im_three_inv (hz.frm f2)
      have := im_int_inv hx; subst this
      have := im_int_inv hw; subst this
      obtain ⟨n, i, c⟩ := l
      have M2 : EndAt T.C_End T.C_Marks Z H2 ad (notedF sk true) := M2
      refine iteF ?_
      refine ⟨_, rfl, t, _, rfl, SqT.of ht, rfl, _, _, rfl, _, _, rfl, _, _, rfl, rfl, ?_⟩
      have hgl : (notedF sk true).got = sk.got ∧ (notedF sk true).wait = sk.wait ∧ (notedF sk true).count = sk.count := by
        unfold notedF
        split <;> exact ⟨rfl, rfl, rfl⟩
      refine ⟨fun σ' H' => σ' = [some (.ref ad.e), some (.ref t), some (.int n), some y, some (.int c)] ∧ EndAt T.C_End T.C_Marks Z H' ad (gatherF (notedF sk true) n i) ∧ Frm ad.all H H', ?_, ?_⟩
      · refine ⟨_, rfl, rfl, _, rfl, ?_⟩
        cases i with
        | none =>
          cases hy
          exact iteF ⟨rfl, M2, f2⟩
        | some i =>
          cases hy
          obtain ⟨⟨dx2, cv2, mv2, ov2, ho2, _⟩, _⟩ := id M2
          refine iteT ⟨_, rfl, _, rfl, _, T.C_End, _, _, _, rfl, ho2, T.cl_End, T.no_End_gathered, zip_lookup enN_nd (i := 13) rfl rfl, ad.g, _, rfl, .inl (SqL.of M2.gt), rfl, _, rfl, ?_⟩
          have eg : ∀ q : n = ((notedF sk true).got.length : Nat), gatherF (notedF sk true) n (some i) = { notedF sk true with got := (notedF sk true).got ++ [i] } := fun q => by
            show (if n = ((notedF sk true).got.length : Nat) then _ else _) = _
            rw [if_pos q]
          have en : ∀ q : ¬ n = ((notedF sk true).got.length : Nat), gatherF (notedF sk true) n (some i) = notedF sk true := fun q => by
            show (if n = ((notedF sk true).got.length : Nat) then _ else _) = _
            rw [if_neg q]
          refine iteD (fun q => ?_) (fun q => ⟨rfl, by rw [en fun z => q (by rw [z, List.length_map]; rfl)]; exact M2, f2⟩)
          have q' := vint_inj.mp q
          rw [List.length_map] at q'
          refine ⟨_, rfl, _, T.C_End, _, _, _, rfl, ho2, T.cl_End, T.no_End_gathered, zip_lookup enN_nd (i := 13) rfl rfl, .inl ⟨rfl, _, SqL.of M2.gt⟩, _, rfl, ad.g, _, _, rfl, rfl, M2.gt, (by rw [List.length_map]; show (notedF sk true).got.length < sizeLine; rw [hgl.1]; have := ok.got; exact small1000 (by omega)), ?_⟩
          obtain ⟨M3, f3⟩ := M2.setG (hsub _ (by simp [EAd.all])) ((notedF sk true).got ++ [i])
          rw [List.map_append] at M3 f3
          exact ⟨rfl, by rw [eg q']; exact M3, f2.trans f3⟩
      rintro σ' H3 ⟨rfl, M3, f3⟩
      have hg3 : (gatherF (notedF sk true) n i).wait = sk.wait ∧ (gatherF (notedF sk true) n i).count = sk.count := by
        unfold gatherF
        split
        · exact hgl.2
        · split
          · exact hgl.2
          · exact hgl.2
      obtain ⟨⟨dx3, cv3, mv3, ov3, ho3, _⟩, _⟩ := id M3
      refine ⟨_, rfl, _, rfl, _, T.C_End, _, _, _, rfl, ho3, T.cl_End, T.no_End_count, zip_lookup enN_nd (i := 12) rfl rfl, _, _, rfl, rfl, _, rfl, ?_⟩
      have ek : hearFastF sk (some (n, i, c)) = if (gatherF (notedF sk true) n i).count < c then { gatherF (notedF sk true) n i with count := c, wait := (gatherF (notedF sk true) n i).wait.tail } else gatherF (notedF sk true) n i := rfl
      refine iteD (fun q => ?_) (fun q => k H3 (by rw [ek, if_neg q]; exact M3) f3)
      have hwn : sk.wait ≠ [] := hl _ rfl (by rw [hg3.2] at q; exact q)
      refine ⟨_, rfl, _, rfl, M3.sfld T.cl_End T.no_End_count (hsub _ (by simp [EAd.all])) 12 (.int c) { gatherF (notedF sk true) n i with count := c } rfl (by decide) (fun cv mv ov h1 h2 h3 => ⟨cv, mv, ov, rfl, h1, h2, h3⟩) rfl rfl rfl fun H4 M4 f4 => ?_⟩
      obtain ⟨⟨dx4, cv4, mv4, ov4, ho4, _⟩, _⟩ := id M4
      obtain ⟨w0, wr, hw⟩ : ∃ a r, sk.wait = a :: r := by
        cases h : sk.wait with
        | nil => exact absurd h hwn
        | cons a r => exact ⟨a, r, rfl⟩
      have hw4 : H4 ad.w = some (.lst ((w0 :: wr).map V.int)) := by
        have := M4.wt
        rw [show ({ gatherF (notedF sk true) n i with count := c } : EndS).wait = w0 :: wr from hg3.1.trans hw] at this
        exact this
      have s2 : seqIndex? 0 ((w0 :: wr).map V.int).length = some 0 := by
        have e : ixN ((w0 :: wr).map V.int).length 0 = some 0 := by
          unfold ixN
          simp only [List.length_map, List.length_cons]
          rw [if_pos (by omega), if_pos (by omega)]
          rfl
        exact (ixN_seq e).1
      refine ⟨_, rfl, _, T.C_End, _, _, _, rfl, ho4, T.cl_End, T.no_End_waiting, zip_lookup enN_nd (i := 11) rfl rfl, .inl ⟨rfl, _, SqL.of M4.wt⟩, ad.w, _, _, 0, .int w0, rfl, rfl, hw4, by decide, by decide, s2, rfl, ?_⟩
      obtain ⟨M5, f5⟩ := M4.setW (hsub _ (by simp [EAd.all])) wr
      refine k _ (by rw [ek, if_pos q, hg3.1, hw]; exact M5) ((f3.trans f4).trans f5)

end
end TL

namespace TL
open PySem PySem.Spec PyProof.Rows L2
section
variable {P : Program} {w : World} {K : PySem.W.Frag} {mg : Str → Option Value} {base : Heap}
def sp_End_hear (T : Txt w K mg) : Sp := fun vs H Q E => ∃ (Z : List Addr) (ad : EAd) (s : EndS) (y z : V) (dy : PyData), vs = [.ref ad.e, y, z] ∧ EndAt T.C_End T.C_Marks Z H ad s ∧ (∀ z ∈ ad.all, z ∈ Z) ∧ Alloc Z H ∧ EndOk s ∧ Dp K H y dy ∧ (∀ ds, dy ≠ .list ds) ∧ 0 ≤ s.part ∧ s.part ≤ 1 ∧
  (dy ≠ .int s.part → E (.ref T.C_BadPart) none H) ∧
  (dy = .int s.part → s.part = 0 → ∃ l : Option SlowL, Im H z (slowO l) ∧ (∀ x, l = some x → Can x.2.1.1 ∧ x.2.1.2.length ≤ 9) ∧ ∀ H', EndAt T.C_End T.C_Marks Z H' ad (hearF0 s l) → Frm ad.all H H' → Q .non H') ∧
  (dy = .int s.part → s.part = 1 → ∃ l : Option FastL, Im H z (fastO l) ∧ (∀ x, l = some x → s.count < x.2.2 → s.wait ≠ []) ∧ ∀ H', EndAt T.C_End T.C_Marks Z H' ad (hearF1 s l) → Frm ad.all H H' → Q .non H')
theorem ok_End_hear (T : Txt w K mg) : FnOk P w K mg base (L2.CX P w) 7 T.a_End_hear T.fd_End_hear P_End_hear (sp_End_hear T) := by
  have G_End_need_part := ok_End_need_part (P := P) (w := w) (base := base) T
  have G_End_hear_slow := ok_End_hear_slow (P := P) (w := w) (base := base) T
  have G_End_hear_fast := ok_End_hear_fast (P := P) (w := w) (base := base) T
  refine T.F_End_hear.okX sc_End_hear (fun vs H Q E h => ?_) (fun cdv A outer s H vs Q E hr h => ?_)
  · obtain ⟨Z, ad, s, y, z, dy, rfl, _⟩ := h
    rfl
  · obtain ⟨Z, ad, sk, y, z, dy, rfl, M, hsub, AZ, ok, hy, nl, p0, p1, k1, k2, k3⟩ := h
    refine ⟨_, (pss_cons (ps_expr (pe_meth (pv 0) T.cl_End T.m_End_need_part G_End_need_part (hr.mono (by decide)) T.b_End_need_part .nil (passes_call (takes_of rfl rfl rfl rfl) (fun _ _ _ _ h => h)) (pa_cons (pv 1) pa_nil)))
    (pss_one (ps_if (pt_cmpR op_eq (pv 1) (pe_glob (v := .int 0) rfl T.v_SLOW ⟨_, rfl⟩) (nomark _))
      (pss_cons (ps_expr (pe_meth (pv 0) T.cl_End T.m_End_hear_slow G_End_hear_slow (hr.mono (by decide)) T.b_End_hear_slow .nil pass0 (pa_cons (pv 2) pa_nil)))
      (pss_one (ps_fld (pv 0) (pe_glob (v := .int 1) rfl T.v_FAST ⟨_, rfl⟩) rfl)))
      (pss_cons (ps_expr (pe_meth (pv 0) T.cl_End T.m_End_hear_fast G_End_hear_fast (hr.mono (by decide)) T.b_End_hear_fast .nil pass0 (pa_cons (pv 2) pa_nil)))
      (pss_cons (ps_fld (pv 0) (pe_glob (v := .int 0) rfl T.v_SLOW ⟨_, rfl⟩) rfl)
      (pss_one (ps_fld (pv 0) (pe_op op_add (pe_fld (pv 0) rfl) pe_int) rfl))))))), ?_⟩
    obtain ⟨⟨dx, cv, mv, ov, ho, hc, hm, hv⟩, _⟩ := id M
    refine ⟨_, rfl, ad.e, dx, _, rfl, ho, zip_no (by decide), _, rfl, Z, ad, sk, y, dy, rfl, M, hy, nl, p0, p1, fun e => ?_, k1⟩
    subst e
    cases hy
    refine ⟨_, rfl, rfl, _, rfl, ?_⟩
    refine iteD (fun hp => ?_) (fun hp => ?_)
    · have hp0 : sk.part = 0 := vint_inj.mp hp
      obtain ⟨l, hz, hl, k⟩ := k2 rfl hp0
      refine ⟨_, rfl, ad.e, dx, _, rfl, ho, zip_no (by decide), _, rfl, Z, ad, sk, z, l, rfl, M, hsub, ok, hz, hl, fun H1 M1 f1 => ?_⟩
      refine ⟨_, rfl, M1.sfld T.cl_End T.no_End_part (hsub _ (by simp [EAd.all])) 14 (.int 1) (hearF0 sk l) rfl (by decide) (fun cv mv ov h1 h2 h3 => ⟨cv, mv, ov, rfl, h1, h2, h3⟩) rfl rfl rfl fun H2 M2 f2 => ?_⟩
      exact k H2 M2 (f1.trans f2)
    · have hp1 : sk.part = 1 := by
        have : sk.part ≠ 0 := fun z => hp (by rw [z])
        omega
      obtain ⟨l, hz, hl, k⟩ := k3 rfl hp1
      refine ⟨_, rfl, ad.e, dx, _, rfl, ho, zip_no (by decide), _, rfl, Z, ad, sk, z, l, rfl, M, hsub, AZ, ok, hz, hl, fun H1 M1 f1 => ?_⟩
      refine ⟨_, rfl, M1.sfld T.cl_End T.no_End_part (hsub _ (by simp [EAd.all])) 14 (.int 0) { hearFastF sk l with part := 0 } rfl (by decide) (fun cv mv ov h1 h2 h3 => ⟨cv, mv, ov, rfl, h1, h2, h3⟩) rfl rfl rfl fun H2 M2 f2 => ?_⟩
      obtain ⟨⟨dx2, cv2, mv2, ov2, ho2, _⟩, _⟩ := id M2
      refine ⟨_, rfl, _, T.C_End, _, _, _, rfl, ho2, T.cl_End, T.no_End_over, zip_lookup enN_nd (i := 2) rfl rfl, _, _, rfl, rfl, _, rfl, M2.sfld T.cl_End T.no_End_over (hsub _ (by simp [EAd.all])) 2 (.int ((hearFastF sk l).over + 1)) (hearF1 sk l) rfl (by decide) (fun cv mv ov h1 h2 h3 => ⟨cv, mv, ov, rfl, h1, h2, h3⟩) rfl rfl rfl fun H3 M3 f3 => ?_⟩
      exact k H3 M3 ((f1.trans f2).trans f3)

end
end TL

namespace TL
open PySem PySem.Spec PyProof.Rows L2
section
variable {P : Program} {w : World} {K : PySem.W.Frag} {mg : Str → Option Value} {base : Heap}
theorem sayA0L {T : Txt w K mg} {Z : List Addr} {H : Hp} {x : LoAd} {s : PlS} {Q : VK} (M : LoAt T.C_Line T.C_End T.C_Marks Z H x s) (ok : EndOk s.a) (hp : s.a.part = 0) (hZ : ∀ z ∈ x.all, z ∈ Z)
    (k : ∀ v H', LoAt T.C_Line T.C_End T.C_Marks Z H' x { s with a := refreshF s.a } → Im H' v (.tuple [.int 0, slowD (slowOf (refreshF s.a))]) → Frm x.all H H' → Q v H') : sp_End_say T [.ref x.a.e, .int 0] H Q E0 := by
  refine ⟨Z, x.a, s.a, .int 0, .int 0, rfl, M.ea, fun z hz => hZ z (x.a_all z hz), ok, .int 0, (fun ds z => by cases z), by omega, by omega, fun z => absurd (by rw [hp]) z, fun _ _ v H' E i f => ?_, fun _ z => by omega⟩
  obtain ⟨M', f'⟩ := M.setA E f hZ
  exact k v H' M' i f'
theorem sayA1L {T : Txt w K mg} {Z : List Addr} {H : Hp} {x : LoAd} {s : PlS} {Q : VK} (M : LoAt T.C_Line T.C_End T.C_Marks Z H x s) (ok : EndOk s.a) (hp : s.a.part = 1) (hZ : ∀ z ∈ x.all, z ∈ Z)
    (k : ∀ v H', LoAt T.C_Line T.C_End T.C_Marks Z H' x s → Im H' v (.tuple [.int s.a.now, fastD (fastOf s.a)]) → Same H H' → Q v H') : sp_End_say T [.ref x.a.e, .int 1] H Q E0 := by
  refine ⟨Z, x.a, s.a, .int 1, .int 1, rfl, M.ea, fun z hz => hZ z (x.a_all z hz), ok, .int 1, (fun ds z => by cases z), by omega, by omega, fun z => absurd (by rw [hp]) z, fun _ z => by omega, fun _ _ v H' E i f => ?_⟩
  exact k v H' (M.same f) i f
theorem hearA0L {T : Txt w K mg} {Z : List Addr} {H : Hp} {x : LoAd} {s : PlS} {Q : VK} {z : V} {l : Option SlowL} (M : LoAt T.C_Line T.C_End T.C_Marks Z H x s) (ok : EndOk s.a) (hp : s.a.part = 0) (hZ : ∀ z ∈ x.all, z ∈ Z) (AZ : Alloc Z H)
    (hz : Im H z (slowO l)) (hl : ∀ m, l = some m → Can m.2.1.1 ∧ m.2.1.2.length ≤ 9) (k : ∀ H', LoAt T.C_Line T.C_End T.C_Marks Z H' x { s with a := hearF0 s.a l } → Frm x.all H H' → Q .non H') : sp_End_hear T [.ref x.a.e, .int 0, z] H Q E0 := by
  refine ⟨Z, x.a, s.a, .int 0, z, .int 0, rfl, M.ea, fun z hz => hZ z (x.a_all z hz), AZ, ok, .int 0, (fun ds z => by cases z), by omega, by omega, fun z => absurd (by rw [hp]) z, fun _ _ => ⟨l, hz, hl, fun H' E f => ?_⟩, fun _ z => by omega⟩
  obtain ⟨M', f'⟩ := M.setA E f hZ
  exact k H' M' f'
theorem hearA1L {T : Txt w K mg} {Z : List Addr} {H : Hp} {x : LoAd} {s : PlS} {Q : VK} {z : V} {l : Option FastL} (M : LoAt T.C_Line T.C_End T.C_Marks Z H x s) (ok : EndOk s.a) (hp : s.a.part = 1) (hZ : ∀ z ∈ x.all, z ∈ Z) (AZ : Alloc Z H)
    (hz : Im H z (fastO l)) (hl : ∀ m, l = some m → s.a.count < m.2.2 → s.a.wait ≠ []) (k : ∀ H', LoAt T.C_Line T.C_End T.C_Marks Z H' x { s with a := hearF1 s.a l } → Frm x.all H H' → Q .non H') : sp_End_hear T [.ref x.a.e, .int 1, z] H Q E0 := by
  refine ⟨Z, x.a, s.a, .int 1, z, .int 1, rfl, M.ea, fun z hz => hZ z (x.a_all z hz), AZ, ok, .int 1, (fun ds z => by cases z), by omega, by omega, fun z => absurd (by rw [hp]) z, fun _ z => by omega, fun _ _ => ⟨l, hz, hl, fun H' E f => ?_⟩⟩
  obtain ⟨M', f'⟩ := M.setA E f hZ
  exact k H' M' f'
theorem sayB0L {T : Txt w K mg} {Z : List Addr} {H : Hp} {x : LoAd} {s : PlS} {Q : VK} (M : LoAt T.C_Line T.C_End T.C_Marks Z H x s) (ok : EndOk s.b) (hp : s.b.part = 0) (hZ : ∀ z ∈ x.all, z ∈ Z)
    (k : ∀ v H', LoAt T.C_Line T.C_End T.C_Marks Z H' x { s with b := refreshF s.b } → Im H' v (.tuple [.int 0, slowD (slowOf (refreshF s.b))]) → Frm x.all H H' → Q v H') : sp_End_say T [.ref x.b.e, .int 0] H Q E0 := by
  refine ⟨Z, x.b, s.b, .int 0, .int 0, rfl, M.eb, fun z hz => hZ z (x.b_all z hz), ok, .int 0, (fun ds z => by cases z), by omega, by omega, fun z => absurd (by rw [hp]) z, fun _ _ v H' E i f => ?_, fun _ z => by omega⟩
  obtain ⟨M', f'⟩ := M.setB E f hZ
  exact k v H' M' i f'
theorem sayB1L {T : Txt w K mg} {Z : List Addr} {H : Hp} {x : LoAd} {s : PlS} {Q : VK} (M : LoAt T.C_Line T.C_End T.C_Marks Z H x s) (ok : EndOk s.b) (hp : s.b.part = 1) (hZ : ∀ z ∈ x.all, z ∈ Z)
    (k : ∀ v H', LoAt T.C_Line T.C_End T.C_Marks Z H' x s → Im H' v (.tuple [.int s.b.now, fastD (fastOf s.b)]) → Same H H' → Q v H') : sp_End_say T [.ref x.b.e, .int 1] H Q E0 := by
  refine ⟨Z, x.b, s.b, .int 1, .int 1, rfl, M.eb, fun z hz => hZ z (x.b_all z hz), ok, .int 1, (fun ds z => by cases z), by omega, by omega, fun z => absurd (by rw [hp]) z, fun _ z => by omega, fun _ _ v H' E i f => ?_⟩
  exact k v H' (M.same f) i f
theorem hearB0L {T : Txt w K mg} {Z : List Addr} {H : Hp} {x : LoAd} {s : PlS} {Q : VK} {z : V} {l : Option SlowL} (M : LoAt T.C_Line T.C_End T.C_Marks Z H x s) (ok : EndOk s.b) (hp : s.b.part = 0) (hZ : ∀ z ∈ x.all, z ∈ Z) (AZ : Alloc Z H)
    (hz : Im H z (slowO l)) (hl : ∀ m, l = some m → Can m.2.1.1 ∧ m.2.1.2.length ≤ 9) (k : ∀ H', LoAt T.C_Line T.C_End T.C_Marks Z H' x { s with b := hearF0 s.b l } → Frm x.all H H' → Q .non H') : sp_End_hear T [.ref x.b.e, .int 0, z] H Q E0 := by
  refine ⟨Z, x.b, s.b, .int 0, z, .int 0, rfl, M.eb, fun z hz => hZ z (x.b_all z hz), AZ, ok, .int 0, (fun ds z => by cases z), by omega, by omega, fun z => absurd (by rw [hp]) z, fun _ _ => ⟨l, hz, hl, fun H' E f => ?_⟩, fun _ z => by omega⟩
  obtain ⟨M', f'⟩ := M.setB E f hZ
  exact k H' M' f'
theorem hearB1L {T : Txt w K mg} {Z : List Addr} {H : Hp} {x : LoAd} {s : PlS} {Q : VK} {z : V} {l : Option FastL} (M : LoAt T.C_Line T.C_End T.C_Marks Z H x s) (ok : EndOk s.b) (hp : s.b.part = 1) (hZ : ∀ z ∈ x.all, z ∈ Z) (AZ : Alloc Z H)
    (hz : Im H z (fastO l)) (hl : ∀ m, l = some m → s.b.count < m.2.2 → s.b.wait ≠ []) (k : ∀ H', LoAt T.C_Line T.C_End T.C_Marks Z H' x { s with b := hearF1 s.b l } → Frm x.all H H' → Q .non H') : sp_End_hear T [.ref x.b.e, .int 1, z] H Q E0 := by
  refine ⟨Z, x.b, s.b, .int 1, z, .int 1, rfl, M.eb, fun z hz => hZ z (x.b_all z hz), AZ, ok, .int 1, (fun ds z => by cases z), by omega, by omega, fun z => absurd (by rw [hp]) z, fun _ z => by omega, fun _ _ => ⟨l, hz, hl, fun H' E f => ?_⟩⟩
  obtain ⟨M', f'⟩ := M.setB E f hZ
  exact k H' M' f'
/-- both say, in a list -/
theorem lc_say0L {T : Txt w K mg} {Z : List Addr} {H : Hp} {x : LoAd} {s : PlS} {i : Nat} {te : TE} {σ : L2.St} {D : Addr} {Qd : Hp → Prop} (M : LoAt T.C_Line T.C_End T.C_Marks Z H x s) (oka : EndOk s.a) (okb : EndOk s.b) (pa : s.a.part = 0) (pb : s.b.part = 0) (hZ : ∀ z ∈ x.all, z ∈ Z) (hD : H D = none)
    (hw : ∀ v, wipe ((wipe σ [i]).set i (some v)) [i] = wipe σ [i]) (hte : ∀ a dx fs H Q, H a = some (.ins T.C_End dx fs) → fs.lookup ("say" : Str) = none → sp_End_say T [.ref a, .int 0] H Q E0 → te ((wipe σ [i]).set i (some (.ref a))) H Q)
    (k : ∀ H' v0 v1, LoAt T.C_Line T.C_End T.C_Marks Z H' x { s with a := refreshF s.a, b := refreshF s.b } → H' D = some (.lst [v0, v1]) → Im H' v0 (.tuple [.int 0, slowD (slowOf (refreshF s.a))]) → Im H' v1 (.tuple [.int 0, slowD (slowOf (refreshF s.b))]) → Frm x.all H H' → Qd H') :
    LcW (Itl K x.es) (gName i) tYes te [i] σ H D Qd := by
  have hZ' : ∀ z ∈ x.all, z ∈ D :: Z := fun z hz => List.mem_cons_of_mem _ (hZ z hz)
  have nD : D ∉ x.all := fun z => M.ne_new hD (x.sub_all _ z)
  have nDe : D ∉ x.every := M.ne_new hD
  have M0 : LoAt T.C_Line T.C_End T.C_Marks (D :: Z) H x s := M.more fun y hy => (List.mem_cons.mp hy).elim (fun e => .inr fun bs z => by rw [e, hD] at z; cases z) .inl
  have put : ∀ {s' : PlS} {H' : Hp} {xs ys : List V}, LoAt T.C_Line T.C_End T.C_Marks (D :: Z) H' x s' → H' D = some (.lst xs) → Frm x.all H H' → LoAt T.C_Line T.C_End T.C_Marks (D :: Z) (upd H' D (.lst ys)) x s' ∧ Frm x.all H (upd H' D (.lst ys)) := fun {s' H' xs ys} m h f =>
    ⟨m.frm (Frm.updL h) (fun y hy => by simp at hy; simp [hy]) (fun y hy z => by simp at z; subst z; exact nDe hy), f.own hD (Frm.updL h)⟩
  refine lc_two (fun H' => LoAt T.C_Line T.C_End T.C_Marks (D :: Z) H' x s ∧ H' D = some (.lst []) ∧ Frm x.all H H')
    (fun H' => ∃ v0, LoAt T.C_Line T.C_End T.C_Marks (D :: Z) H' x { s with a := refreshF s.a } ∧ H' D = some (.lst [v0]) ∧ Im H' v0 (.tuple [.int 0, slowD (slowOf (refreshF s.a))]) ∧ Frm x.all H H')
    (fun H' => ∃ v0 v1, LoAt T.C_Line T.C_End T.C_Marks (D :: Z) H' x { s with a := refreshF s.a, b := refreshF s.b } ∧ H' D = some (.lst [v0, v1]) ∧ Im H' v0 (.tuple [.int 0, slowD (slowOf (refreshF s.a))]) ∧ Im H' v1 (.tuple [.int 0, slowD (slowOf (refreshF s.b))]) ∧ Frm x.all H H')
    ⟨M0.same (Same.upd_new hD), upd_same, Frm.new hD⟩ (fun H' h => SqL.of h.1.es) (fun H' ⟨_, h⟩ => SqL.of h.1.es) (fun H' ⟨_, _, h⟩ => SqL.of h.1.es) ?_ ?_ ?_
  · rintro H' ⟨m, h, f⟩
    obtain ⟨⟨dx, _, _, _, ho, _⟩, _⟩ := id m.ea
    refine ⟨hw _, ?_⟩
    refine hte _ dx _ _ _ ho (zip_no (by decide)) (sayA0L m oka pa hZ' fun v H'' m' iv f' => ?_)
    have h' := f' _ _ h nD
    obtain ⟨m2, f2⟩ := put (ys := [v]) m' h' (f.trans f')
    exact ⟨[], h', small1000 (by decide), v, m2, upd_same, iv.updL h', f2⟩
  · rintro H' ⟨v0, m, h, i0, f⟩
    obtain ⟨⟨dx, _, _, _, ho, _⟩, _⟩ := id m.eb
    refine ⟨hw _, ?_⟩
    refine hte _ dx _ _ _ ho (zip_no (by decide)) (sayB0L m okb pb hZ' fun v H'' m' iv f' => ?_)
    have h' := f' _ _ h nD
    obtain ⟨m2, f2⟩ := put (ys := [v0, v]) m' h' (f.trans f')
    exact ⟨[v0], h', small1000 (by simp), v0, v, m2, upd_same, (i0.frm f').updL h', iv.updL h', f2⟩
  · rintro H' ⟨v0, v1, m, h, i0, i1, f⟩
    exact k H' v0 v1 (m.more fun y hy => .inl (List.mem_cons_of_mem _ hy)) h i0 i1 f
theorem lc_say1L {T : Txt w K mg} {Z : List Addr} {H : Hp} {x : LoAd} {s : PlS} {i : Nat} {te : TE} {σ : L2.St} {D : Addr} {Qd : Hp → Prop} (M : LoAt T.C_Line T.C_End T.C_Marks Z H x s) (oka : EndOk s.a) (okb : EndOk s.b) (pa : s.a.part = 1) (pb : s.b.part = 1) (hZ : ∀ z ∈ x.all, z ∈ Z) (hD : H D = none)
    (hw : ∀ v, wipe ((wipe σ [i]).set i (some v)) [i] = wipe σ [i]) (hte : ∀ a dx fs H Q, H a = some (.ins T.C_End dx fs) → fs.lookup ("say" : Str) = none → sp_End_say T [.ref a, .int 1] H Q E0 → te ((wipe σ [i]).set i (some (.ref a))) H Q)
    (k : ∀ H' v0 v1, H' D = some (.lst [v0, v1]) → Im H' v0 (.tuple [.int s.a.now, fastD (fastOf s.a)]) → Im H' v1 (.tuple [.int s.b.now, fastD (fastOf s.b)]) → Same H H' → Qd H') :
    LcW (Itl K x.es) (gName i) tYes te [i] σ H D Qd := by
  have put : ∀ {H' : Hp} {xs ys : List V}, H' D = some (.lst xs) → Same H H' → Same H (upd H' D (.lst ys)) := fun {H' xs ys} h f => ((Frm.of_same (S := []) f).own hD (Frm.updL h)).same
  refine lc_two (fun H' => H' D = some (.lst []) ∧ Same H H')
    (fun H' => ∃ v0, H' D = some (.lst [v0]) ∧ Im H' v0 (.tuple [.int s.a.now, fastD (fastOf s.a)]) ∧ Same H H')
    (fun H' => ∃ v0 v1, H' D = some (.lst [v0, v1]) ∧ Im H' v0 (.tuple [.int s.a.now, fastD (fastOf s.a)]) ∧ Im H' v1 (.tuple [.int s.b.now, fastD (fastOf s.b)]) ∧ Same H H')
    ⟨upd_same, Same.upd_new hD⟩ (fun H' h => SqL.of (h.2 _ _ M.es)) (fun H' ⟨_, h⟩ => SqL.of (h.2.2 _ _ M.es)) (fun H' ⟨_, _, h⟩ => SqL.of (h.2.2.2 _ _ M.es)) ?_ ?_ ?_
  · rintro H' ⟨h, f⟩
    have m := M.same f
    obtain ⟨⟨dx, _, _, _, ho, _⟩, _⟩ := id m.ea
    refine ⟨hw _, ?_⟩
    refine hte _ dx _ _ _ ho (zip_no (by decide)) (sayA1L m oka pa hZ fun v H'' m' iv f' => ?_)
    have h' := f' _ _ h
    exact ⟨[], h', small1000 (by decide), v, upd_same, iv.updL h', put h' (f.trans f')⟩
  · rintro H' ⟨v0, h, i0, f⟩
    have m := M.same f
    obtain ⟨⟨dx, _, _, _, ho, _⟩, _⟩ := id m.eb
    refine ⟨hw _, ?_⟩
    refine hte _ dx _ _ _ ho (zip_no (by decide)) (sayB1L m okb pb hZ fun v H'' m' iv f' => ?_)
    have h' := f' _ _ h
    exact ⟨[v0], h', small1000 (by simp), v0, v, upd_same, (i0.same f').updL h', iv.updL h', put h' (f.trans f')⟩
  · rintro H' ⟨v0, v1, h, i0, i1, f⟩
    exact k H' v0 v1 h i0 i1 f

end
end TL

namespace TL
open PySem PySem.Spec PyProof.Rows L2
section
variable {P : Program} {w : World} {K : PySem.W.Frag} {mg : Str → Option Value} {base : Heap}
def sp_Line_carry (T : Txt w K mg) : Sp := fun vs H Q _ => ∃ (Z : List Addr) (x : LoAd) (s : PlS) (pt : Int), vs = [.ref x.o, .int pt] ∧ LoAt T.C_Line T.C_End T.C_Marks Z H x s ∧ (∀ z ∈ x.all, z ∈ Z) ∧ Alloc Z H ∧ LnOk pt s.toLnS ∧ (pt = 0 ∨ pt = 1) ∧ s.a.over < 1000000 ∧
  ∀ H', LoAt T.C_Line T.C_End T.C_Marks Z H' x (if pt = 0 then halfP s else fastP s) → Frm x.all H H' → Q .non H'
theorem jo_b (na nb : Int) (m : List Int) (l : Bool) : jo na nb m l = (decide (na = nb) && (decide (nb ∈ m) && !l)) := by
  unfold jo
  by_cases h : na = nb
  · subst h
    rfl
  · rw [decide_eq_false h]
    rfl
theorem for_enum2 {K : PySem.W.Frag} {a : Addr} {v0 v1 : V} {g : TG} {tb : TS} {D : Ends} {σ : L2.St} {H : Hp} (P0 P1 P2 : L2.St → Hp → Prop) (h0 : P0 σ H) (l0 : ∀ σ H, P0 σ H → SqL K H a [v0, v1]) (l1 : ∀ σ H, P1 σ H → SqL K H a [v0, v1]) (l2 : ∀ σ H, P2 σ H → SqL K H a [v0, v1])
    (s0 : ∀ σ H T, P0 σ H → H T = none → g (.ref T) σ (upd H T (.tup [.int 0, v0])) fun σ2 H2 => tb { D with nx := P1, ct := P1, bk := D.nx } σ2 H2)
    (s1 : ∀ σ H T, P1 σ H → H T = none → g (.ref T) σ (upd H T (.tup [.int 1, v1])) fun σ2 H2 => tb { D with nx := P2, ct := P2, bk := D.nx } σ2 H2)
    (hd : ∀ σ H, P2 σ H → D.nx σ H) : ForW (Ite K a) g tb D σ H := by
  refine for_enum (K := K) (a := a) (xs := [v0, v1]) (fun i σ H => match i with | 0 => P0 σ H | 1 => P1 σ H | _ => P2 σ H) h0 ?_ ?_ hd
  · intro i σ H hi p
    match i, p with
    | 0, p => exact l0 σ H p
    | 1, p => exact l1 σ H p
    | n + 2, p => exact l2 σ H p
  · intro i x T σ H hx p hT
    match i, hx, p with
    | 0, hx, p =>
      have e : v0 = x := Option.some.inj hx
      subst e
      exact s0 σ H T p hT
    | 1, hx, p =>
      have e : v1 = x := Option.some.inj hx
      subst e
      exact s1 σ H T p hT
    | n + 2, hx, p => simp at hx
theorem ok_Line_carry (T : Txt w K mg) : FnOk P w K mg base CX0 8 T.a_Line_carry T.fd_Line_carry P_Line_carry (sp_Line_carry T) := by
  have G_End_say := ok_End_say (P := P) (w := w) (base := base) T
  have G_End_hear := ok_End_hear (P := P) (w := w) (base := base) T
  refine T.F_Line_carry.ok sc_Line_carry (fun vs H Q E h => ?_) (fun cdv A outer s H vs Q E hr h => ?_)
  · obtain ⟨Z, x, s, pt, rfl, _⟩ := h
    rfl
  · obtain ⟨Z, x, sk, pt, rfl, M, hZ, AZ, ok, hpt, hov, kk⟩ := h
    have hu := hu_of hr
    refine ⟨_, (pss_cons (ps_cut (ps_setLc (i := 2) (own := [("end", 3)]) (g := (gName 3)) (tt := tYes) (te := (tMeth T.C_End "say" _ [] E0 (tVar 3) (tCons (tVar 1) tNil))) rfl sc_Line_carry.nd rfl rfl (sw_true rfl rfl rfl (by decide +kernel)) (pi_list (pe_fld (pv 0) rfl)) (blkOk_by (own := [("end", 3)]) (N := N_Line_carry) (sc := defScope s_Line_carry) (by decide +kernel)) (fun _ _ _ _ _ => (pg_name (i := 3) sc_Line_carry.nd rfl (by first | exact Or.inl rfl | exact Or.inr rfl))) (fun _ _ _ _ _ => pts_nil) (fun _ _ _ _ _ => (pe_meth (pv 3) T.cl_End T.m_End_say G_End_say (hr.mono (by decide)) T.b_End_say .nil passL (pa_cons (pv 1) pa_nil)))))
    (pss_one (ps_for PassesOwn.never rfl (pi_enum (by rfl) T.n_enumerate (pa_cons (pe_fld (pv 0) rfl) pa_nil)) (pg_tup rfl (pgs_cons (pg_name (i := 4) sc_Line_carry.nd rfl (by first | exact Or.inl rfl | exact Or.inr rfl)) (pgs_cons (pg_name (i := 3) sc_Line_carry.nd rfl (by first | exact Or.inl rfl | exact Or.inr rfl)) pgs_nil)))
      (pss_cons (ps_cut (ps_set (i := 5) sc_Line_carry.nd rfl (by first | exact Or.inl rfl | exact Or.inr rfl) (pe_and (pe_cmpR op_eq (pe_ix ix_tup (pe_ix ix_list (pv 2) pe_int (fun _ _ => rfl)) pe_int (fun _ _ => rfl)) (pe_ix ix_tup (pe_ix ix_list (pv 2) pe_int (fun _ _ => rfl)) pe_int (fun _ _ => rfl)) (nomark _)) (pe_one (pe_cmpR op_in_seq (pe_ix ix_tup (pe_ix ix_list (pv 2) (pv 4) (fun _ _ => rfl)) pe_int (fun _ _ => rfl)) (pe_ix ix_list (pe_fld (pv 0) rfl) (pv 4) (fun _ _ => rfl)) (by rfl))))))
      (pss_one (ps_expr (pe_meth (pv 3) T.cl_End T.m_End_hear G_End_hear (hr.mono (by decide)) T.b_End_hear .nil passL (pa_cons (pv 1) (pa_cons (pe_cut (pe_ifExp (PW.pt (pw_and (pt_val (pv 5)) (pw_and1 (pt_cmp (pc_dnotin hu (pe_tup (pa_cons (pv 1) (pa_cons (pv 4) pa_nil))) (pe_fld (pv 0) rfl)) (by rfl))))) (pe_ix ix_tup (pe_ix ix_list (pv 2) (pe_op op_sub pe_int (pv 4)) (fun _ _ => rfl)) pe_int (fun _ _ => rfl)) pe_non)) pa_nil))))))))), ?_⟩
    have mind : ∀ {e : EndS} {b : Bool} {m : SlowL}, EndOk e → when b (slowOf (refreshF e)) = some m → Can m.2.1.1 ∧ m.2.1.2.length ≤ 9 := fun {e b m} he hm => by
      rw [← (when_some hm).2]
      exact ⟨he.refresh.can, he.refresh.bad⟩
    rcases hpt with rfl | rfl
    · have pa0 : (refreshF sk.a).part = 0 := by rw [(refresh_same sk.a).2.2.2.2.2.2.2.2.2.2.2.2]; exact ok.pa
      have pb0 : (refreshF sk.b).part = 0 := by rw [(refresh_same sk.b).2.2.2.2.2.2.2.2.2.2.2.2]; exact ok.pb
      -- said
      refine ⟨fun σ' H' => ∃ (q t0 t1 : Addr) (q0 q1 : V), σ' = [some (V.ref x.o), some (.int 0), some (.ref q), none, none, none] ∧ LoAt T.C_Line T.C_End T.C_Marks Z H' x { sk with a := refreshF sk.a, b := refreshF sk.b } ∧ Frm x.all H H' ∧ H' q = some (.lst [.ref t0, .ref t1]) ∧ q ∉ x.all ∧ H' t0 = some (.tup [.int 0, q0]) ∧ H' t1 = some (.tup [.int 0, q1]) ∧ Im H' q0 (slowD (slowOf (refreshF sk.a))) ∧ Im H' q1 (slowD (slowOf (refreshF sk.b))), ?_, ?_⟩
      · obtain ⟨dx0, hob⟩ := M.ob
        refine ⟨_, rfl, _, T.C_Line, _, _, _, rfl, hob, T.cl_Line, T.no_Line_ends, zip_lookup liN_nd (i := 0) rfl rfl, x.es, rfl, ⟨_, SqL.of M.es⟩, fun D hD => ?_⟩
        have nDx := M.ne_new hD
        refine lc_say0L M ok.ea ok.eb ok.pa ok.pb hZ hD (fun v => rfl) (fun a dx fs H Q h1 h2 h3 => ⟨_, rfl, a, dx, fs, rfl, h1, h2, _, rfl, h3⟩) fun H4 y0 y1 M4 h4 i0 i1 f4 => ?_
        obtain ⟨t0, n0, q0, rfl, ht0, in0, iq0⟩ := im_two_inv i0
        obtain ⟨t1, n1, q1, rfl, ht1, in1, iq1⟩ := im_two_inv i1
        have := im_int_inv in0; subst this
        have := im_int_inv in1; subst this
        exact ⟨D, t0, t1, q0, q1, rfl, M4, f4, h4, fun z => nDx (x.sub_all _ z), ht0, ht1, iq0, iq1⟩
      rintro σ' H4 ⟨q, t0, t1, q0, q1, rfl, M4, F4, hq4, nqx, ht0, ht1, iq0, iq1⟩
      obtain ⟨dx4, hob4⟩ := M4.ob
      have eal : decide (V.int 0 = V.int 0) = decide ((0 : Int) = 0) := decide_eq_decide.mpr vint_inj
      have Q4 : ∀ {H' : Hp}, Frm x.all H4 H' → H' q = some (.lst [.ref t0, .ref t1]) ∧ H' t0 = some (.tup [.int 0, q0]) ∧ H' t1 = some (.tup [.int 0, q1]) ∧ Im H' q0 (slowD (slowOf (refreshF sk.a))) ∧ Im H' q1 (slowD (slowOf (refreshF sk.b))) := fun f => ⟨f _ _ hq4 nqx, f.tups _ _ ht0, f.tups _ _ ht1, iq0.frm f, iq1.frm f⟩
      have AZ4 := AZ.frm F4
      refine ⟨_, rfl, _, T.C_Line, _, _, _, rfl, hob4, T.cl_Line, T.no_Line_ends, zip_lookup liN_nd (i := 0) rfl rfl, x.es, _, rfl, SqL.of M4.es, for_enum2 (K := K) (a := x.es) (v0 := .ref x.a.e) (v1 := .ref x.b.e)
        (fun (σ' : L2.St) (H' : Hp) => (∃ v3 v4 v5 : Option V, σ' = [some (V.ref x.o), some (.int 0), some (.ref q), v3, v4, v5]) ∧ LoAt T.C_Line T.C_End T.C_Marks Z H' x { sk with a := refreshF sk.a, b := refreshF sk.b } ∧ Frm x.all H4 H')
        (fun (σ' : L2.St) (H' : Hp) => (∃ v3 v4 v5 : Option V, σ' = [some (V.ref x.o), some (.int 0), some (.ref q), v3, v4, v5]) ∧ LoAt T.C_Line T.C_End T.C_Marks Z H' x { sk with a := hearF0 (refreshF sk.a) (when (jo 0 0 sk.ps.1 sk.ls.1.1) (slowOf (refreshF sk.b))), b := refreshF sk.b } ∧ Frm x.all H4 H')
        (fun (σ' : L2.St) (H' : Hp) => (∃ v3 v4 v5 : Option V, σ' = [some (V.ref x.o), some (.int 0), some (.ref q), v3, v4, v5]) ∧ LoAt T.C_Line T.C_End T.C_Marks Z H' x (halfP sk) ∧ Frm x.all H4 H')
        ⟨⟨_, _, _, rfl⟩, M4, .refl _ _⟩ (fun σ H' h => SqL.of h.2.1.es) (fun σ H' h => SqL.of h.2.1.es) (fun σ H' h => SqL.of h.2.1.es) ?_ ?_ ?_⟩
      · rintro σ H5 T0 ⟨⟨v3, v4, v5, rfl⟩, M5, F5⟩ hT
        have sT := Same.upd_new (o := .tup [.int 0, .ref x.a.e]) hT
        refine ⟨T0, _, rfl, SqT.of upd_same, rfl, _, _, rfl, _, _, rfl, rfl, ?_⟩
        have M6 := M5.same sT
        have F6 := F5.trans (Frm.of_same sT)
        generalize (upd H5 T0 (.tup [.int 0, .ref x.a.e])) = H6 at M6 F6 ⊢
        obtain ⟨hq6, hs0, hs1, iq0, iq1⟩ := Q4 F6
        obtain ⟨dx6, hob6⟩ := M6.ob
        obtain ⟨p0, p1, hpg, hp0, hp1⟩ := M6.pg
        -- comes
        refine ⟨fun σ' H' => σ' = [some (V.ref x.o), some (.int 0), some (.ref q), some (.ref x.a.e), some (.int 0), some (.bl (decide ((0 : Int) = 0) && decide (0 ∈ sk.ps.1)))] ∧ H' = H6, ?_, ?_⟩
        · refine ⟨_, rfl, q, _, _, _, rfl, rfl, SqL.of hq6, rfl, t0, _, _, _, rfl, rfl, SqT.of hs0, rfl, _, rfl, q, _, _, _, rfl, rfl, SqL.of hq6, rfl, t1, _, _, _, rfl, rfl, SqT.of hs1, rfl, rfl, decide ((0 : Int) = 0), congrArg V.bl eal, iteB (fun g1 => ?_) (fun g1 => ⟨?_, rfl⟩)⟩
          · refine ⟨_, rfl, _, rfl, q, _, _, _, rfl, rfl, SqL.of hq6, rfl, t0, _, _, _, rfl, rfl, SqT.of hs0, rfl, _, rfl, _, T.C_Line, _, _, _, rfl, hob6, T.cl_Line, T.no_Line_passing, zip_lookup liN_nd (i := 1) rfl rfl, _, rfl, x.pg, _, _, _, rfl, rfl, SqL.of hpg, rfl, p0, _, rfl, .inr (SqT.of hp0), rfl, flat_ints _, ?_⟩
            have ein : inV (V.int 0) (sk.ps.1.map V.int) = decide (0 ∈ sk.ps.1) := inV_int _ _
            refine ⟨?_, rfl⟩
            rw [g1, Bool.true_and, ← ein]
            rfl
          · rw [g1, Bool.false_and]
            rfl
        rintro σ' H' ⟨rfl, eH⟩
        obtain rfl := eH.symm
        -- heard
        obtain ⟨kvs, hlo, hld⟩ := M6.lo
        obtain ⟨⟨dxe, _, _, _, hoe, _⟩, _⟩ := id M6.ea
        refine ⟨_, rfl, x.a.e, dxe, _, rfl, hoe, zip_no (by decide), _, rfl, fun z H' => Same H6 H' ∧ Im H' z (slowO (when (jo 0 0 sk.ps.1 sk.ls.1.1) (slowOf (refreshF sk.b)))), ?_, ?_⟩
        · have non : ∀ H' : Hp, (jo 0 0 sk.ps.1 sk.ls.1.1) = false → Im H' .non (slowO (when (jo 0 0 sk.ps.1 sk.ls.1.1) (slowOf (refreshF sk.b)))) := fun H' e => by rw [e]; exact .non
          refine ⟨_, rfl, _, rfl, iteB (fun g => ?_) (fun g => iteF ⟨.refl _, non _ (by unfold jo; rw [← Bool.and_assoc, g]; rfl)⟩)⟩
          refine ⟨_, rfl, _, rfl, (by show 2 ≤ sizeLine; decide), fun N hN => ?_⟩
          have sN := Same.upd_new (o := .tup [.int 0, .int 0]) hN
          have hN6 := upd_same (H := H6) (a := N) (o := .tup [.int 0, .int 0])
          generalize (upd H6 N (.tup [.int 0, .int 0])) = H7 at sN hN6 ⊢
          have hb : (valV kvs (lkey 0 0)).isSome = sk.ls.1.1 := hld.b 0 0 (by omega) (by omega)
          refine ⟨_, rfl, _, T.C_Line, _, _, _, rfl, sN _ _ hob6, T.cl_Line, T.no_Line_lost, zip_lookup liN_nd (i := 2) rfl rfl, x.lo, _, rfl, DGet.t (k := lkey 0 0) (sN _ _ hlo) hN6, _, rfl, ?_⟩
          rw [hb]
          refine iteB (fun g2 => ?_) (fun g2 => ⟨sN, non _ (by unfold jo; rw [← Bool.and_assoc, g, g2]; rfl)⟩)
          refine ⟨_, rfl, _, rfl, _, _, rfl, rfl, q, _, _, _, rfl, rfl, SqL.of (sN _ _ hq6), rfl, t1, _, _, _, rfl, rfl, SqT.of (sN _ _ hs1), rfl, sN, ?_⟩
          have e : (jo 0 0 sk.ps.1 sk.ls.1.1) = true := by unfold jo; rw [← Bool.and_assoc, g, g2]; rfl
          rw [e]
          exact iq1.same sN
        rintro z H7 ⟨s7, hz⟩
        exact hearA0L (Q := fun _ H8 => (∃ v3 v4 v5 : Option V, [some (V.ref x.o), some (.int 0), some (.ref q), some (.ref x.a.e), some (.int 0), some (.bl (decide ((0 : Int) = 0) && decide (0 ∈ sk.ps.1)))] = [some (V.ref x.o), some (.int 0), some (.ref q), v3, v4, v5]) ∧ LoAt T.C_Line T.C_End T.C_Marks Z H8 x { sk with a := hearF0 (refreshF sk.a) (when (jo 0 0 sk.ps.1 sk.ls.1.1) (slowOf (refreshF sk.b))), b := refreshF sk.b } ∧ Frm x.all H4 H8) (M6.same s7) ok.ea.refresh pa0 hZ ((AZ4.frm F6).frm (Frm.of_same (S := []) s7)) hz (fun mm hm => mind ok.eb hm) fun H8 M8 f8 => ⟨⟨_, _, _, rfl⟩, M8, (F6.trans (Frm.of_same s7)).trans f8⟩
      · rintro σ H5 T0 ⟨⟨v3, v4, v5, rfl⟩, M5, F5⟩ hT
        have sT := Same.upd_new (o := .tup [.int 1, .ref x.b.e]) hT
        refine ⟨T0, _, rfl, SqT.of upd_same, rfl, _, _, rfl, _, _, rfl, rfl, ?_⟩
        have M6 := M5.same sT
        have F6 := F5.trans (Frm.of_same sT)
        generalize (upd H5 T0 (.tup [.int 1, .ref x.b.e])) = H6 at M6 F6 ⊢
        obtain ⟨hq6, hs0, hs1, iq0, iq1⟩ := Q4 F6
        obtain ⟨dx6, hob6⟩ := M6.ob
        obtain ⟨p0, p1, hpg, hp0, hp1⟩ := M6.pg
        -- comes
        refine ⟨fun σ' H' => σ' = [some (V.ref x.o), some (.int 0), some (.ref q), some (.ref x.b.e), some (.int 1), some (.bl (decide ((0 : Int) = 0) && decide (0 ∈ sk.ps.2)))] ∧ H' = H6, ?_, ?_⟩
        · refine ⟨_, rfl, q, _, _, _, rfl, rfl, SqL.of hq6, rfl, t0, _, _, _, rfl, rfl, SqT.of hs0, rfl, _, rfl, q, _, _, _, rfl, rfl, SqL.of hq6, rfl, t1, _, _, _, rfl, rfl, SqT.of hs1, rfl, rfl, decide ((0 : Int) = 0), congrArg V.bl eal, iteB (fun g1 => ?_) (fun g1 => ⟨?_, rfl⟩)⟩
          · refine ⟨_, rfl, _, rfl, q, _, _, _, rfl, rfl, SqL.of hq6, rfl, t1, _, _, _, rfl, rfl, SqT.of hs1, rfl, _, rfl, _, T.C_Line, _, _, _, rfl, hob6, T.cl_Line, T.no_Line_passing, zip_lookup liN_nd (i := 1) rfl rfl, _, rfl, x.pg, _, _, _, rfl, rfl, SqL.of hpg, rfl, p1, _, rfl, .inr (SqT.of hp1), rfl, flat_ints _, ?_⟩
            have ein : inV (V.int 0) (sk.ps.2.map V.int) = decide (0 ∈ sk.ps.2) := inV_int _ _
            refine ⟨?_, rfl⟩
            rw [g1, Bool.true_and, ← ein]
            rfl
          · rw [g1, Bool.false_and]
            rfl
        rintro σ' H' ⟨rfl, eH⟩
        obtain rfl := eH.symm
        -- heard
        obtain ⟨kvs, hlo, hld⟩ := M6.lo
        obtain ⟨⟨dxe, _, _, _, hoe, _⟩, _⟩ := id M6.eb
        refine ⟨_, rfl, x.b.e, dxe, _, rfl, hoe, zip_no (by decide), _, rfl, fun z H' => Same H6 H' ∧ Im H' z (slowO (when (jo 0 0 sk.ps.2 sk.ls.1.2) (slowOf (refreshF sk.a)))), ?_, ?_⟩
        · have non : ∀ H' : Hp, (jo 0 0 sk.ps.2 sk.ls.1.2) = false → Im H' .non (slowO (when (jo 0 0 sk.ps.2 sk.ls.1.2) (slowOf (refreshF sk.a)))) := fun H' e => by rw [e]; exact .non
          refine ⟨_, rfl, _, rfl, iteB (fun g => ?_) (fun g => iteF ⟨.refl _, non _ (by unfold jo; rw [← Bool.and_assoc, g]; rfl)⟩)⟩
          refine ⟨_, rfl, _, rfl, (by show 2 ≤ sizeLine; decide), fun N hN => ?_⟩
          have sN := Same.upd_new (o := .tup [.int 0, .int 1]) hN
          have hN6 := upd_same (H := H6) (a := N) (o := .tup [.int 0, .int 1])
          generalize (upd H6 N (.tup [.int 0, .int 1])) = H7 at sN hN6 ⊢
          have hb : (valV kvs (lkey 0 1)).isSome = sk.ls.1.2 := hld.b 0 1 (by omega) (by omega)
          refine ⟨_, rfl, _, T.C_Line, _, _, _, rfl, sN _ _ hob6, T.cl_Line, T.no_Line_lost, zip_lookup liN_nd (i := 2) rfl rfl, x.lo, _, rfl, DGet.t (k := lkey 0 1) (sN _ _ hlo) hN6, _, rfl, ?_⟩
          rw [hb]
          refine iteB (fun g2 => ?_) (fun g2 => ⟨sN, non _ (by unfold jo; rw [← Bool.and_assoc, g, g2]; rfl)⟩)
          refine ⟨_, rfl, _, rfl, _, _, rfl, rfl, q, _, _, _, rfl, rfl, SqL.of (sN _ _ hq6), rfl, t0, _, _, _, rfl, rfl, SqT.of (sN _ _ hs0), rfl, sN, ?_⟩
          have e : (jo 0 0 sk.ps.2 sk.ls.1.2) = true := by unfold jo; rw [← Bool.and_assoc, g, g2]; rfl
          rw [e]
          exact iq0.same sN
        rintro z H7 ⟨s7, hz⟩
        exact hearB0L (Q := fun _ H8 => (∃ v3 v4 v5 : Option V, [some (V.ref x.o), some (.int 0), some (.ref q), some (.ref x.b.e), some (.int 1), some (.bl (decide ((0 : Int) = 0) && decide (0 ∈ sk.ps.2)))] = [some (V.ref x.o), some (.int 0), some (.ref q), v3, v4, v5]) ∧ LoAt T.C_Line T.C_End T.C_Marks Z H8 x (halfP sk) ∧ Frm x.all H4 H8) (M6.same s7) ok.eb.refresh pb0 hZ ((AZ4.frm F6).frm (Frm.of_same (S := []) s7)) hz (fun mm hm => mind ok.ea hm) fun H8 M8 f8 => ⟨⟨_, _, _, rfl⟩, M8, (F6.trans (Frm.of_same s7)).trans f8⟩
      · rintro σ H5 ⟨⟨v3, v4, v5, rfl⟩, M5, F5⟩
        exact kk H5 M5 (F4.trans F5)
    · skip
      -- said
      refine ⟨fun σ' H' => ∃ (q t0 t1 : Addr) (q0 q1 : V), σ' = [some (V.ref x.o), some (.int 1), some (.ref q), none, none, none] ∧ LoAt T.C_Line T.C_End T.C_Marks Z H' x sk ∧ Frm x.all H H' ∧ H' q = some (.lst [.ref t0, .ref t1]) ∧ q ∉ x.all ∧ H' t0 = some (.tup [.int sk.a.now, q0]) ∧ H' t1 = some (.tup [.int sk.b.now, q1]) ∧ Im H' q0 (fastD (fastOf sk.a)) ∧ Im H' q1 (fastD (fastOf sk.b)), ?_, ?_⟩
      · obtain ⟨dx0, hob⟩ := M.ob
        refine ⟨_, rfl, _, T.C_Line, _, _, _, rfl, hob, T.cl_Line, T.no_Line_ends, zip_lookup liN_nd (i := 0) rfl rfl, x.es, rfl, ⟨_, SqL.of M.es⟩, fun D hD => ?_⟩
        have nDx := M.ne_new hD
        refine lc_say1L M ok.ea ok.eb ok.pa ok.pb hZ hD (fun v => rfl) (fun a dx fs H Q h1 h2 h3 => ⟨_, rfl, a, dx, fs, rfl, h1, h2, _, rfl, h3⟩) fun H4 y0 y1 h4 i0 i1 s4 => ?_
        have M4 := M.same s4
        have f4 : Frm x.all H H4 := Frm.of_same s4
        obtain ⟨t0, n0, q0, rfl, ht0, in0, iq0⟩ := im_two_inv i0
        obtain ⟨t1, n1, q1, rfl, ht1, in1, iq1⟩ := im_two_inv i1
        have := im_int_inv in0; subst this
        have := im_int_inv in1; subst this
        exact ⟨D, t0, t1, q0, q1, rfl, M4, f4, h4, fun z => nDx (x.sub_all _ z), ht0, ht1, iq0, iq1⟩
      rintro σ' H4 ⟨q, t0, t1, q0, q1, rfl, M4, F4, hq4, nqx, ht0, ht1, iq0, iq1⟩
      obtain ⟨dx4, hob4⟩ := M4.ob
      have eal : decide (V.int sk.a.now = V.int sk.b.now) = decide ((sk.a.now : Int) = sk.b.now) := decide_eq_decide.mpr vint_inj
      have Q4 : ∀ {H' : Hp}, Frm x.all H4 H' → H' q = some (.lst [.ref t0, .ref t1]) ∧ H' t0 = some (.tup [.int sk.a.now, q0]) ∧ H' t1 = some (.tup [.int sk.b.now, q1]) ∧ Im H' q0 (fastD (fastOf sk.a)) ∧ Im H' q1 (fastD (fastOf sk.b)) := fun f => ⟨f _ _ hq4 nqx, f.tups _ _ ht0, f.tups _ _ ht1, iq0.frm f, iq1.frm f⟩
      have AZ4 := AZ.frm F4
      refine ⟨_, rfl, _, T.C_Line, _, _, _, rfl, hob4, T.cl_Line, T.no_Line_ends, zip_lookup liN_nd (i := 0) rfl rfl, x.es, _, rfl, SqL.of M4.es, for_enum2 (K := K) (a := x.es) (v0 := .ref x.a.e) (v1 := .ref x.b.e)
        (fun (σ' : L2.St) (H' : Hp) => (∃ v3 v4 v5 : Option V, σ' = [some (V.ref x.o), some (.int 1), some (.ref q), v3, v4, v5]) ∧ LoAt T.C_Line T.C_End T.C_Marks Z H' x sk ∧ Frm x.all H4 H')
        (fun (σ' : L2.St) (H' : Hp) => (∃ v3 v4 v5 : Option V, σ' = [some (V.ref x.o), some (.int 1), some (.ref q), v3, v4, v5]) ∧ LoAt T.C_Line T.C_End T.C_Marks Z H' x { sk with a := hearF1 sk.a (when (jo sk.a.now sk.b.now sk.ps.1 sk.ls.2.1) (fastOf sk.b)) } ∧ Frm x.all H4 H')
        (fun (σ' : L2.St) (H' : Hp) => (∃ v3 v4 v5 : Option V, σ' = [some (V.ref x.o), some (.int 1), some (.ref q), v3, v4, v5]) ∧ LoAt T.C_Line T.C_End T.C_Marks Z H' x (fastP sk) ∧ Frm x.all H4 H')
        ⟨⟨_, _, _, rfl⟩, M4, .refl _ _⟩ (fun σ H' h => SqL.of h.2.1.es) (fun σ H' h => SqL.of h.2.1.es) (fun σ H' h => SqL.of h.2.1.es) ?_ ?_ ?_⟩
      · rintro σ H5 T0 ⟨⟨v3, v4, v5, rfl⟩, M5, F5⟩ hT
        have sT := Same.upd_new (o := .tup [.int 0, .ref x.a.e]) hT
        refine ⟨T0, _, rfl, SqT.of upd_same, rfl, _, _, rfl, _, _, rfl, rfl, ?_⟩
        have M6 := M5.same sT
        have F6 := F5.trans (Frm.of_same sT)
        generalize (upd H5 T0 (.tup [.int 0, .ref x.a.e])) = H6 at M6 F6 ⊢
        obtain ⟨hq6, hs0, hs1, iq0, iq1⟩ := Q4 F6
        obtain ⟨dx6, hob6⟩ := M6.ob
        obtain ⟨p0, p1, hpg, hp0, hp1⟩ := M6.pg
        -- comes
        refine ⟨fun σ' H' => σ' = [some (V.ref x.o), some (.int 1), some (.ref q), some (.ref x.a.e), some (.int 0), some (.bl (decide ((sk.a.now : Int) = sk.b.now) && decide (sk.a.now ∈ sk.ps.1)))] ∧ H' = H6, ?_, ?_⟩
        · refine ⟨_, rfl, q, _, _, _, rfl, rfl, SqL.of hq6, rfl, t0, _, _, _, rfl, rfl, SqT.of hs0, rfl, _, rfl, q, _, _, _, rfl, rfl, SqL.of hq6, rfl, t1, _, _, _, rfl, rfl, SqT.of hs1, rfl, rfl, decide ((sk.a.now : Int) = sk.b.now), congrArg V.bl eal, iteB (fun g1 => ?_) (fun g1 => ⟨?_, rfl⟩)⟩
          · refine ⟨_, rfl, _, rfl, q, _, _, _, rfl, rfl, SqL.of hq6, rfl, t0, _, _, _, rfl, rfl, SqT.of hs0, rfl, _, rfl, _, T.C_Line, _, _, _, rfl, hob6, T.cl_Line, T.no_Line_passing, zip_lookup liN_nd (i := 1) rfl rfl, _, rfl, x.pg, _, _, _, rfl, rfl, SqL.of hpg, rfl, p0, _, rfl, .inr (SqT.of hp0), rfl, flat_ints _, ?_⟩
            have ein : inV (V.int sk.a.now) (sk.ps.1.map V.int) = decide (sk.a.now ∈ sk.ps.1) := inV_int _ _
            refine ⟨?_, rfl⟩
            rw [g1, Bool.true_and, ← ein]
            rfl
          · rw [g1, Bool.false_and]
            rfl
        rintro σ' H' ⟨rfl, eH⟩
        obtain rfl := eH.symm
        -- heard
        obtain ⟨kvs, hlo, hld⟩ := M6.lo
        obtain ⟨⟨dxe, _, _, _, hoe, _⟩, _⟩ := id M6.ea
        refine ⟨_, rfl, x.a.e, dxe, _, rfl, hoe, zip_no (by decide), _, rfl, fun z H' => Same H6 H' ∧ Im H' z (fastO (when (jo sk.a.now sk.b.now sk.ps.1 sk.ls.2.1) (fastOf sk.b))), ?_, ?_⟩
        · have non : ∀ H' : Hp, (jo sk.a.now sk.b.now sk.ps.1 sk.ls.2.1) = false → Im H' .non (fastO (when (jo sk.a.now sk.b.now sk.ps.1 sk.ls.2.1) (fastOf sk.b))) := fun H' e => by rw [e]; exact .non
          refine ⟨_, rfl, _, rfl, iteB (fun g => ?_) (fun g => iteF ⟨.refl _, non _ (by unfold jo; rw [← Bool.and_assoc, g]; rfl)⟩)⟩
          refine ⟨_, rfl, _, rfl, (by show 2 ≤ sizeLine; decide), fun N hN => ?_⟩
          have sN := Same.upd_new (o := .tup [.int 1, .int 0]) hN
          have hN6 := upd_same (H := H6) (a := N) (o := .tup [.int 1, .int 0])
          generalize (upd H6 N (.tup [.int 1, .int 0])) = H7 at sN hN6 ⊢
          have hb : (valV kvs (lkey 1 0)).isSome = sk.ls.2.1 := hld.b 1 0 (by omega) (by omega)
          refine ⟨_, rfl, _, T.C_Line, _, _, _, rfl, sN _ _ hob6, T.cl_Line, T.no_Line_lost, zip_lookup liN_nd (i := 2) rfl rfl, x.lo, _, rfl, DGet.t (k := lkey 1 0) (sN _ _ hlo) hN6, _, rfl, ?_⟩
          rw [hb]
          refine iteB (fun g2 => ?_) (fun g2 => ⟨sN, non _ (by unfold jo; rw [← Bool.and_assoc, g, g2]; rfl)⟩)
          refine ⟨_, rfl, _, rfl, _, _, rfl, rfl, q, _, _, _, rfl, rfl, SqL.of (sN _ _ hq6), rfl, t1, _, _, _, rfl, rfl, SqT.of (sN _ _ hs1), rfl, sN, ?_⟩
          have e : (jo sk.a.now sk.b.now sk.ps.1 sk.ls.2.1) = true := by unfold jo; rw [← Bool.and_assoc, g, g2]; rfl
          rw [e]
          exact iq1.same sN
        rintro z H7 ⟨s7, hz⟩
        exact hearA1L (Q := fun _ H8 => (∃ v3 v4 v5 : Option V, [some (V.ref x.o), some (.int 1), some (.ref q), some (.ref x.a.e), some (.int 0), some (.bl (decide ((sk.a.now : Int) = sk.b.now) && decide (sk.a.now ∈ sk.ps.1)))] = [some (V.ref x.o), some (.int 1), some (.ref q), v3, v4, v5]) ∧ LoAt T.C_Line T.C_End T.C_Marks Z H8 x { sk with a := hearF1 sk.a (when (jo sk.a.now sk.b.now sk.ps.1 sk.ls.2.1) (fastOf sk.b)) } ∧ Frm x.all H4 H8) (M6.same s7) ok.ea ok.pa hZ ((AZ4.frm F6).frm (Frm.of_same (S := []) s7)) hz (fun mm hm => by rw [← (when_some hm).2]; exact ok.da.waits) fun H8 M8 f8 => ⟨⟨_, _, _, rfl⟩, M8, (F6.trans (Frm.of_same s7)).trans f8⟩
      · rintro σ H5 T0 ⟨⟨v3, v4, v5, rfl⟩, M5, F5⟩ hT
        have sT := Same.upd_new (o := .tup [.int 1, .ref x.b.e]) hT
        refine ⟨T0, _, rfl, SqT.of upd_same, rfl, _, _, rfl, _, _, rfl, rfl, ?_⟩
        have M6 := M5.same sT
        have F6 := F5.trans (Frm.of_same sT)
        generalize (upd H5 T0 (.tup [.int 1, .ref x.b.e])) = H6 at M6 F6 ⊢
        obtain ⟨hq6, hs0, hs1, iq0, iq1⟩ := Q4 F6
        obtain ⟨dx6, hob6⟩ := M6.ob
        obtain ⟨p0, p1, hpg, hp0, hp1⟩ := M6.pg
        -- comes
        refine ⟨fun σ' H' => σ' = [some (V.ref x.o), some (.int 1), some (.ref q), some (.ref x.b.e), some (.int 1), some (.bl (decide ((sk.a.now : Int) = sk.b.now) && decide (sk.b.now ∈ sk.ps.2)))] ∧ H' = H6, ?_, ?_⟩
        · refine ⟨_, rfl, q, _, _, _, rfl, rfl, SqL.of hq6, rfl, t0, _, _, _, rfl, rfl, SqT.of hs0, rfl, _, rfl, q, _, _, _, rfl, rfl, SqL.of hq6, rfl, t1, _, _, _, rfl, rfl, SqT.of hs1, rfl, rfl, decide ((sk.a.now : Int) = sk.b.now), congrArg V.bl eal, iteB (fun g1 => ?_) (fun g1 => ⟨?_, rfl⟩)⟩
          · refine ⟨_, rfl, _, rfl, q, _, _, _, rfl, rfl, SqL.of hq6, rfl, t1, _, _, _, rfl, rfl, SqT.of hs1, rfl, _, rfl, _, T.C_Line, _, _, _, rfl, hob6, T.cl_Line, T.no_Line_passing, zip_lookup liN_nd (i := 1) rfl rfl, _, rfl, x.pg, _, _, _, rfl, rfl, SqL.of hpg, rfl, p1, _, rfl, .inr (SqT.of hp1), rfl, flat_ints _, ?_⟩
            have ein : inV (V.int sk.b.now) (sk.ps.2.map V.int) = decide (sk.b.now ∈ sk.ps.2) := inV_int _ _
            refine ⟨?_, rfl⟩
            rw [g1, Bool.true_and, ← ein]
            rfl
          · rw [g1, Bool.false_and]
            rfl
        rintro σ' H' ⟨rfl, eH⟩
        obtain rfl := eH.symm
        -- heard
        obtain ⟨kvs, hlo, hld⟩ := M6.lo
        obtain ⟨⟨dxe, _, _, _, hoe, _⟩, _⟩ := id M6.eb
        refine ⟨_, rfl, x.b.e, dxe, _, rfl, hoe, zip_no (by decide), _, rfl, fun z H' => Same H6 H' ∧ Im H' z (fastO (when (jo sk.a.now sk.b.now sk.ps.2 sk.ls.2.2) (fastOf sk.a))), ?_, ?_⟩
        · have non : ∀ H' : Hp, (jo sk.a.now sk.b.now sk.ps.2 sk.ls.2.2) = false → Im H' .non (fastO (when (jo sk.a.now sk.b.now sk.ps.2 sk.ls.2.2) (fastOf sk.a))) := fun H' e => by rw [e]; exact .non
          refine ⟨_, rfl, _, rfl, iteB (fun g => ?_) (fun g => iteF ⟨.refl _, non _ (by rw [jo_b, ← Bool.and_assoc, g]; rfl)⟩)⟩
          refine ⟨_, rfl, _, rfl, (by show 2 ≤ sizeLine; decide), fun N hN => ?_⟩
          have sN := Same.upd_new (o := .tup [.int 1, .int 1]) hN
          have hN6 := upd_same (H := H6) (a := N) (o := .tup [.int 1, .int 1])
          generalize (upd H6 N (.tup [.int 1, .int 1])) = H7 at sN hN6 ⊢
          have hb : (valV kvs (lkey 1 1)).isSome = sk.ls.2.2 := hld.b 1 1 (by omega) (by omega)
          refine ⟨_, rfl, _, T.C_Line, _, _, _, rfl, sN _ _ hob6, T.cl_Line, T.no_Line_lost, zip_lookup liN_nd (i := 2) rfl rfl, x.lo, _, rfl, DGet.t (k := lkey 1 1) (sN _ _ hlo) hN6, _, rfl, ?_⟩
          rw [hb]
          refine iteB (fun g2 => ?_) (fun g2 => ⟨sN, non _ (by rw [jo_b, ← Bool.and_assoc, g, g2]; rfl)⟩)
          refine ⟨_, rfl, _, rfl, _, _, rfl, rfl, q, _, _, _, rfl, rfl, SqL.of (sN _ _ hq6), rfl, t0, _, _, _, rfl, rfl, SqT.of (sN _ _ hs0), rfl, sN, ?_⟩
          have e : (jo sk.a.now sk.b.now sk.ps.2 sk.ls.2.2) = true := by rw [jo_b, ← Bool.and_assoc, g, g2]; rfl
          rw [e]
          exact iq0.same sN
        rintro z H7 ⟨s7, hz⟩
        exact hearB1L (Q := fun _ H8 => (∃ v3 v4 v5 : Option V, [some (V.ref x.o), some (.int 1), some (.ref q), some (.ref x.b.e), some (.int 1), some (.bl (decide ((sk.a.now : Int) = sk.b.now) && decide (sk.b.now ∈ sk.ps.2)))] = [some (V.ref x.o), some (.int 1), some (.ref q), v3, v4, v5]) ∧ LoAt T.C_Line T.C_End T.C_Marks Z H8 x (fastP sk) ∧ Frm x.all H4 H8) (M6.same s7) ok.eb ok.pb hZ ((AZ4.frm F6).frm (Frm.of_same (S := []) s7)) hz (fun mm hm => by rw [← (when_some hm).2]; exact ok.db.waits) fun H8 M8 f8 => ⟨⟨_, _, _, rfl⟩, M8, (F6.trans (Frm.of_same s7)).trans f8⟩
      · rintro σ H5 ⟨⟨v3, v4, v5, rfl⟩, M5, F5⟩
        exact kk H5 M5 (F4.trans F5)

end
end TL

namespace TL
open PySem PySem.Spec PyProof.Rows L2
section
variable {P : Program} {w : World} {K : PySem.W.Frag} {mg : Str → Option Value} {base : Heap}
def sp_End_stands (T : Txt w K mg) : Sp := fun vs H Q _ => ∃ (Z : List Addr) (ad : EAd) (s : EndS), vs = [.ref ad.e] ∧ EndAt T.C_End T.C_Marks Z H ad s ∧ ∀ l, H l = none → Q (.ref l) (upd H l (.tup [.int s.now, .bl s.joined]))
theorem ok_End_stands (T : Txt w K mg) : FnOk P w K mg base CX0 1 T.a_End_stands T.fd_End_stands P_End_stands (sp_End_stands T) := by
  skip
  refine T.F_End_stands.ok sc_End_stands (fun vs H Q E h => ?_) (fun cdv A outer s H vs Q E hr h => ?_)
  · obtain ⟨Z, ad, s, rfl, _⟩ := h
    rfl
  · obtain ⟨Z, ad, sk, rfl, M, k⟩ := h
    refine ⟨_, (pss_one (ps_ret (pe_tup (pa_cons (pe_fld (pv 0) rfl) (pa_cons (pe_fld (pv 0) rfl) pa_nil))))), ?_⟩
    obtain ⟨⟨dx, cv, mv, ov, ho, _⟩, _⟩ := id M
    refine ⟨_, rfl, _, T.C_End, _, _, _, rfl, ho, T.cl_End, T.no_End_now, zip_lookup enN_nd (i := 9) rfl rfl, _, rfl, _, T.C_End, _, _, _, rfl, ho, T.cl_End, T.no_End_joined, zip_lookup enN_nd (i := 10) rfl rfl, (by show 2 ≤ sizeLine; decide), k⟩

end
end TL

namespace TL
open PySem PySem.Spec PyProof.Rows L2
section
variable {P : Program} {w : World} {K : PySem.W.Frag} {mg : Str → Option Value} {base : Heap}
def sp_Line_frame (T : Txt w K mg) : Sp := fun vs H Q _ => ∃ (Z : List Addr) (x : LoAd) (s : PlS), vs = [.ref x.o] ∧ LoAt T.C_Line T.C_End T.C_Marks Z H x s ∧ (∀ z ∈ x.all, z ∈ Z) ∧ Alloc Z H ∧ LnOk 0 s.toLnS ∧ s.a.over < 1000000 ∧ s.log.length < 1000000 ∧
  ∀ (lo t : Addr) (H' : Hp), H lo = none → LoAt T.C_Line T.C_End T.C_Marks (lo :: Z) H' { x with lo := lo } (frameP s) → Frm x.all H H' → H' t = some (.tup (rowV (rowF s.ps s.ls (halfF s.ps s.ls s.toLnS)))) → Q (.ref t) H'
theorem ok_Line_frame (T : Txt w K mg) : FnOk P w K mg base CX0 9 T.a_Line_frame T.fd_Line_frame P_Line_frame (sp_Line_frame T) := by
  have G_Line_carry := ok_Line_carry (P := P) (w := w) (base := base) T
  have G_End_stands := ok_End_stands (P := P) (w := w) (base := base) T
  refine T.F_Line_frame.ok sc_Line_frame (fun vs H Q E h => ?_) (fun cdv A outer s H vs Q E hr h => ?_)
  · obtain ⟨Z, x, s, rfl, _⟩ := h
    rfl
  · obtain ⟨Z, x, sk, rfl, M, hZ, AZ, ok, hov, hlog, k⟩ := h
    refine ⟨_, (pss_cons (ps_expr (pe_meth (pv 0) T.cl_Line T.m_Line_carry G_Line_carry (hr.mono (by decide)) T.b_Line_carry .nil pass0 (pa_cons (pe_glob (v := .int 0) rfl T.v_SLOW ⟨_, rfl⟩) pa_nil)))
    (pss_cons (ps_expr (pe_meth (pv 0) T.cl_Line T.m_Line_carry G_Line_carry (hr.mono (by decide)) T.b_Line_carry .nil pass0 (pa_cons (pe_glob (v := .int 1) rfl T.v_FAST ⟨_, rfl⟩) pa_nil)))
    (pss_cons (ps_fld (pv 0) pe_dnewT rfl)
    (pss_cons (ps_expr (pe_bm PySem.F.plainAttrs_list PySem.F.slot_list_append PySem.F.type_list_append mt_append (pe_fld (pv 0) rfl) (pa_cons (pe_op op_catA (pe_meth0 (pe_ix ix_list (pe_fld (pv 0) rfl) pe_int (fun _ _ => rfl)) T.cl_End T.m_End_stands G_End_stands (hr.mono (by decide)) T.b_End_stands .nil pass0) (pe_meth0 (pe_ix ix_list (pe_fld (pv 0) rfl) pe_int (fun _ _ => rfl)) T.cl_End T.m_End_stands G_End_stands (hr.mono (by decide)) T.b_End_stands .nil pass0)) pa_nil)))
    (pss_one (ps_ret (pe_ix ix_list (pe_fld (pv 0) rfl) (pe_un un_neg pe_int) (fun _ _ => rfl)))))))), ?_⟩
    obtain ⟨dx, ho⟩ := M.ob
    refine ⟨_, rfl, x.o, dx, _, rfl, ho, zip_no (by decide), Z, x, sk, 0, rfl, M, hZ, AZ, ok, .inl rfl, hov, fun H1 M1 f1 => ?_⟩
    have M1 : LoAt T.C_Line T.C_End T.C_Marks Z H1 x (halfP sk) := M1
    have ok1 : LnOk 1 (halfP sk).toLnS := ok.half _ _
    have hov1 : (halfP sk).a.over < 1000000 := by
      show (hearF0 _ _).over < _
      rw [(slow_parts _ _).2.2.1]
      exact hov
    obtain ⟨dx1, ho1⟩ := M1.ob
    refine ⟨_, rfl, x.o, dx1, _, rfl, ho1, zip_no (by decide), Z, x, halfP sk, 1, rfl, M1, hZ, AZ.frm f1, ok1, .inr rfl, hov1, fun H2 M2 f2 => ?_⟩
    have M2 : LoAt T.C_Line T.C_End T.C_Marks Z H2 x (fastP (halfP sk)) := M2
    -- nothing is lost any more
    intro lo hlo
    have s3 := Same.upd_new (o := .dT []) hlo
    have M3 := M2.same s3
    obtain ⟨dx3, ho3⟩ := M3.ob
    have loH : H lo = none := (f1.trans f2).free hlo
    refine ⟨_, rfl, x.o, T.C_Line, dx3, _, rfl, ho3, T.cl_Line, T.no_Line_lost, zip_small (by decide), ?_⟩
    have ezp : putF "lost" (V.ref lo) (liN.zip (liV x)) = liN.zip (liV { x with lo := lo }) := zip_put liN_nd (i := 2) rfl (by show 2 < 4; decide)
    rw [ezp]
    obtain ⟨M4, f4⟩ := M3.newLost (hZ _ (by simp [LoAd.all])) (l := lo) upd_same (M2.ne_new hlo) (H' := upd (upd H2 lo (.dT [])) x.o (.ins T.C_Line dx3 (liN.zip (liV { x with lo := lo })))) (fun dx' h' => by rw [ho3] at h'; cases h'; rfl)
    have F4 : Frm x.all H (upd (upd H2 lo (.dT [])) x.o (.ins T.C_Line dx3 (liN.zip (liV { x with lo := lo })))) := ((f1.trans f2).trans (Frm.of_same s3)).trans f4
    generalize (upd (upd H2 lo (.dT [])) x.o (.ins T.C_Line dx3 (liN.zip (liV { x with lo := lo })))) = H4 at M4 F4 ⊢
    -- the row
    obtain ⟨dx4, ho4⟩ := M4.ob
    obtain ⟨xs, hxs, hA⟩ := M4.rw
    have hxl := rows_len hA
    obtain ⟨⟨dxa, _, _, _, hoa, _⟩, _⟩ := id M4.ea
    refine ⟨_, rfl, _, T.C_Line, _, _, _, rfl, ho4, T.cl_Line, T.no_Line_rows, zip_lookup liN_nd (i := 3) rfl rfl, .inl ⟨rfl, _, SqL.of hxs⟩, ?_⟩
    refine ⟨_, rfl, _, T.C_Line, _, _, _, rfl, ho4, T.cl_Line, T.no_Line_ends, zip_lookup liN_nd (i := 0) rfl rfl, x.es, _, _, .ref x.a.e, rfl, rfl, SqL.of M4.es, rfl, x.a.e, dxa, _, rfl, hoa, zip_no (by decide), _, x.a, _, rfl, M4.ea, fun t0 ht0 => ?_⟩
    have s5 := Same.upd_new (o := .tup [.int (fastP (halfP sk)).a.now, .bl (fastP (halfP sk)).a.joined]) ht0
    have M5 := M4.same s5
    obtain ⟨dx5, ho5⟩ := M5.ob
    obtain ⟨⟨dxb, _, _, _, hob, _⟩, _⟩ := id M5.eb
    have ht05 := upd_same (H := H4) (a := t0) (o := .tup [.int (fastP (halfP sk)).a.now, .bl (fastP (halfP sk)).a.joined])
    refine ⟨_, rfl, _, T.C_Line, _, _, _, rfl, ho5, T.cl_Line, T.no_Line_ends, zip_lookup liN_nd (i := 0) rfl rfl, x.es, _, _, .ref x.b.e, rfl, rfl, SqL.of M5.es, rfl, x.b.e, dxb, _, rfl, hob, zip_no (by decide), _, x.b, _, rfl, M5.eb, fun t1 ht1 => ?_⟩
    have s6 := Same.upd_new (o := .tup [.int (fastP (halfP sk)).b.now, .bl (fastP (halfP sk)).b.joined]) ht1
    refine ⟨t0, t1, _, _, rfl, rfl, SqT.of (s6 _ _ ht05), SqT.of upd_same, (by show 2 + 2 ≤ sizeLine; decide), (fun z => by cases z), (fun _ z => by cases z), fun _ _ t ht => ?_⟩
    have s7 := Same.upd_new (o := .tup ([.int (fastP (halfP sk)).a.now, .bl (fastP (halfP sk)).a.joined] ++ [.int (fastP (halfP sk)).b.now, .bl (fastP (halfP sk)).b.joined])) ht
    have s47 := (s5.trans s6).trans s7
    have erow : ([.int (fastP (halfP sk)).a.now, .bl (fastP (halfP sk)).a.joined] ++ [.int (fastP (halfP sk)).b.now, .bl (fastP (halfP sk)).b.joined] : List V) = rowV (rowF sk.ps sk.ls (halfF sk.ps sk.ls sk.toLnS)) := by
      have e1 : (fastP (halfP sk)).a.now = (halfP sk).a.now := (fast_parts _ _).2.2.2.2.1
      have e2 : (fastP (halfP sk)).b.now = (halfP sk).b.now := (fast_parts _ _).2.2.2.2.1
      have e3 : (fastP (halfP sk)).a.joined = jo (halfP sk).a.now (halfP sk).b.now sk.ps.1 sk.ls.2.1 := by
        show (hearF1 _ _).joined = _
        rw [(fast_parts _ _).2.2.2.2.2.1]
        unfold when
        show (if jo (halfP sk).a.now (halfP sk).b.now sk.ps.1 sk.ls.2.1 = true then _ else _ : Option FastL).isSome = _
        cases jo (halfP sk).a.now (halfP sk).b.now sk.ps.1 sk.ls.2.1 <;> rfl
      have e4 : (fastP (halfP sk)).b.joined = jo (halfP sk).a.now (halfP sk).b.now sk.ps.2 sk.ls.2.2 := by
        show (hearF1 _ _).joined = _
        rw [(fast_parts _ _).2.2.2.2.2.1]
        unfold when
        show (if jo (halfP sk).a.now (halfP sk).b.now sk.ps.2 sk.ls.2.2 = true then _ else _ : Option FastL).isSome = _
        cases jo (halfP sk).a.now (halfP sk).b.now sk.ps.2 sk.ls.2.2 <;> rfl
      rw [e1, e2, e3, e4]
      rfl
    have ht7 := upd_same (H := (upd (upd H4 t0 (.tup [.int (fastP (halfP sk)).a.now, .bl (fastP (halfP sk)).a.joined])) t1 (.tup [.int (fastP (halfP sk)).b.now, .bl (fastP (halfP sk)).b.joined]))) (a := t) (o := .tup ([.int (fastP (halfP sk)).a.now, .bl (fastP (halfP sk)).a.joined] ++ [.int (fastP (halfP sk)).b.now, .bl (fastP (halfP sk)).b.joined]))
    rw [erow] at ht7 s7 s47 ⊢
    generalize (upd (upd (upd H4 t0 (.tup [.int (fastP (halfP sk)).a.now, .bl (fastP (halfP sk)).a.joined])) t1 (.tup [.int (fastP (halfP sk)).b.now, .bl (fastP (halfP sk)).b.joined])) t (.tup (rowV (rowF sk.ps sk.ls (halfF sk.ps sk.ls sk.toLnS))))) = H7 at ht7 s47 ⊢
    have M7 := M4.same s47
    refine ⟨x.rw, xs, _, rfl, rfl, s47 _ _ hxs, ?_, ?_⟩
    · rw [hxl]
      show sk.log.length < sizeLine
      exact Nat.lt_trans hlog (by decide)
    have hA8 : ImAll H7 (xs ++ [.ref t]) ((sk.log ++ [rowF sk.ps sk.ls (halfF sk.ps sk.ls sk.toLnS)]).map rowD) := by
      rw [List.map_append]
      exact (hA.same s47).append (.cons (im_row ht7) .nil)
    obtain ⟨M8, f8⟩ := M7.setRows (List.mem_cons_of_mem _ (hZ _ (by simp [LoAd.all]))) hA8
    have F8 : Frm x.all H (upd H7 x.rw (.lst (xs ++ [.ref t]))) := (F4.trans (Frm.of_same s47)).trans ((Frm.updL (s47 _ _ hxs)).mono fun y hy => by simp at hy; subst hy; simp [LoAd.all])
    obtain ⟨dx8, ho8⟩ := M8.ob
    refine ⟨_, rfl, _, T.C_Line, _, _, _, rfl, ho8, T.cl_Line, T.no_Line_rows, zip_lookup liN_nd (i := 3) rfl rfl, _, rfl, x.rw, _, _, .ref t, rfl, rfl, SqL.of upd_same, atI_last _ _, ?_⟩
    exact k lo t _ loH (M8.ghost ⟨rfl, rfl, rfl, rfl, rfl⟩) F8 (f8.tups _ _ ht7)

end
end TL

namespace TL
open PySem PySem.Spec PyProof.Rows L2
section
variable {P : Program} {w : World} {K : PySem.W.Frag} {mg : Str → Option Value} {base : Heap}
def sp_Line_log (T : Txt w K mg) : Sp := fun vs H Q _ => ∃ (Z : List Addr) (x : LoAd) (s : PlS), vs = [.ref x.o] ∧ LoAt T.C_Line T.C_End T.C_Marks Z H x s ∧ ∀ (l : Addr) (xs : List V), H l = none → ImAll H xs (s.log.map rowD) → Q (.ref l) (upd H l (.lst xs))
theorem ok_Line_log (T : Txt w K mg) : FnOk P w K mg base CX0 1 T.a_Line_log T.fd_Line_log P_Line_log (sp_Line_log T) := by
  skip
  refine T.F_Line_log.ok sc_Line_log (fun vs H Q E h => ?_) (fun cdv A outer s H vs Q E hr h => ?_)
  · obtain ⟨Z, x, s, rfl, _⟩ := h
    rfl
  · obtain ⟨Z, x, sk, rfl, M, k⟩ := h
    refine ⟨_, (pss_one (ps_ret (pe_callTy call_list_of (by rfl) T.n_list (by decide +kernel) (pa_cons (pe_fld (pv 0) rfl) pa_nil)))), ?_⟩
    obtain ⟨dx, ho⟩ := M.ob
    obtain ⟨xs, hr, hA⟩ := M.rw
    exact ⟨_, rfl, _, T.C_Line, _, _, _, rfl, ho, T.cl_Line, T.no_Line_rows, zip_lookup liN_nd (i := 3) rfl rfl, x.rw, _, rfl, .inl (SqL.of hr), fun l hl => k l xs hl hA⟩

end
end TL

namespace TL
open PySem PySem.Spec PyProof.Rows L2
section
variable {P : Program} {w : World} {K : PySem.W.Frag} {mg : Str → Option Value} {base : Heap}
theorem frm_owns2 {S L : List Addr} {H H1 H2 : Hp} (a : Frm S H H1) (hl : ∀ l ∈ L, l ∈ S ∨ H l = none) (b : Frm L H1 H2) : Frm S H H2 :=
  ⟨fun c o e h => b.keep c o (a.keep c o e h) fun z => (hl c z).elim h fun q => (by rw [e] at q; cases q), fun c o e => b.tups c o (a.tups c o e), fun c o e => let ⟨o', e'⟩ := a.there c o e; b.there c o' e'⟩
def sp_done (T : Txt w K mg) : Sp := fun vs H Q _ => ∃ (Z : List Addr) (x : LoAd) (s : PlS) (a : Addr) (st : StepD) (k : Nat), vs = [.ref x.o, .ref a] ∧ LoAt T.C_Line T.C_End T.C_Marks Z H x s ∧ (∀ z ∈ x.all, z ∈ Z) ∧ Alloc Z H ∧ PlOk k s ∧ k < 200 ∧ StepAt H a st ∧ st.ok ∧
  ∀ (Z' : List Addr) (x' : LoAd) (v : V) (H' : Hp), x'.o = x.o → LoAt T.C_Line T.C_End T.C_Marks Z' H' x' (doneF s st).1 → (∀ z ∈ x'.all, z ∈ Z') → (∀ z ∈ Z, z ∈ Z') → Alloc Z' H' → (∀ z ∈ x'.all, z ∈ x.all ∨ H z = none) → (∀ z ∈ x'.every, z ∈ x.every ∨ H z = none) → Frm x.all H H' → Told (fun q => H q = none ∧ q ∉ x'.all) H' v (doneF s st).2 → Q v H'
theorem last_row {s : PlS} {rs : List Row} {r : Row} (h : s.log = rs ++ [r]) : lastRow s = r := by
  unfold lastRow
  rw [h, List.getLast?_concat]
  rfl
theorem ok_done (T : Txt w K mg) : FnOk P w K mg base CX0 10 T.a_done T.fd_done P_done (sp_done T) := by
  have G_arrange := ok_arrange (P := P) (w := w) (base := base) T
  have G_Line_got := ok_Line_got (P := P) (w := w) (base := base) T
  have G_Line_left := ok_Line_left (P := P) (w := w) (base := base) T
  have G_stretches := ok_stretches (P := P) (w := w) (base := base) T
  have G_Line_frame := ok_Line_frame (P := P) (w := w) (base := base) T
  have G_Line_log := ok_Line_log (P := P) (w := w) (base := base) T
  refine T.F_done.ok sc_done (fun vs H Q E h => ?_) (fun cdv A outer s H vs Q E hr h => ?_)
  · obtain ⟨Z, x, s, a, st, k, rfl, _⟩ := h
    rfl
  · obtain ⟨Z, x, sk, a, st, n, rfl, M, hZ, AZ, ok, hn, hst, hok, k⟩ := h
    refine ⟨_, (pss_cons (ps_set (i := 2) sc_done.nd rfl (by first | exact Or.inl rfl | exact Or.inr rfl) (pe_ix ix_tup (pv 1) pe_int (fun _ _ => rfl)))
    (pss_cons (ps_if (pt_cmpR op_eq (pv 2) pe_str (nomark _))
      (pss_cons (ps_cut (ps_for PassesOwn.never rfl (pi_range1 rfl T.n_range (pa_cons (pe_ix ix_tup (pv 1) pe_int (fun _ _ => rfl)) pa_nil)) (pg_name (i := 3) sc_done.nd rfl (by first | exact Or.inl rfl | exact Or.inr rfl))
        (pss_one (ps_expr (pe_meth0 (pv 0) T.cl_Line T.m_Line_frame G_Line_frame (hr.mono (by decide)) T.b_Line_frame .nil pass0)))))
      (pss_one (ps_ret (pe_ix ix_list (pe_meth0 (pv 0) T.cl_Line T.m_Line_log G_Line_log (hr.mono (by decide)) T.b_Line_log .nil pass0) (pe_un un_neg pe_int) (fun _ _ => rfl)))))
      pss_nil)
    (pss_cons (ps_if (pt_cmpR op_eq (pv 2) pe_str (nomark _))
      (pss_one (ps_ret (pe_meth (pv 0) T.cl_Line T.m_Line_got G_Line_got (hr.mono (by decide)) T.b_Line_got .nil passL (pa_cons (pe_ix ix_tup (pv 1) pe_int (fun _ _ => rfl)) pa_nil))))
      pss_nil)
    (pss_cons (ps_if (pt_cmpR op_eq (pv 2) pe_str (nomark _))
      (pss_one (ps_ret (pe_meth (pv 0) T.cl_Line T.m_Line_left G_Line_left (hr.mono (by decide)) T.b_Line_left .nil passL (pa_cons (pe_ix ix_tup (pv 1) pe_int (fun _ _ => rfl)) pa_nil))))
      pss_nil)
    (pss_cons (ps_if (pt_cmpR op_eq (pv 2) pe_str (nomark _))
      (pss_one (ps_ret (pe_call G_stretches (hr.mono (by decide)) rfl T.g_stretches T.F_stretches.kp T.b_stretches .nil pass0 (pa_cons (pe_slice sl_list (pe_meth0 (pv 0) T.cl_Line T.m_Line_log G_Line_log (hr.mono (by decide)) T.b_Line_log .nil pass0) (po_some (pe_un un_neg pe_int)) po_none) pa_nil))))
      pss_nil)
    (pss_one (ps_ret (pe_call G_arrange (hr.mono (by decide)) rfl T.g_arrange T.F_arrange.kp T.b_arrange .nil pass0 (pa_cons (pv 0) (pa_cons (pv 1) pa_nil)))))))))), ?_⟩
    have im := hst.im
    have hno : ∀ {m : Str} {x : LoAd}, m ∉ liN → (liN.zip (liV x)).lookup m = none := fun h => zip_no h
    cases st with
    | frames c =>
      have ha : H a = some (.tup [.str "frames", .int c]) := hst
      obtain ⟨c1, c2⟩ := hok
      have ho0 := ok.ov
      have hl0 := ok.lg
      refine ⟨_, rfl, a, _, _, _, rfl, rfl, SqT.of ha, rfl, ?_⟩
      refine ⟨_, rfl, rfl, true, congrArg V.bl (decide_eq_true (by decide +kernel)), iteT ?_⟩
      refine ⟨fun σ' H' => (∃ v3 : Option V, σ' = [some (V.ref x.o), some (.ref a), some (.str "frames"), v3]) ∧ ∃ Z' x', x'.o = x.o ∧ LoAt T.C_Line T.C_End T.C_Marks Z' H' x' (framesP c.toNat sk) ∧ (∀ z ∈ x'.all, z ∈ Z') ∧ (∀ z ∈ Z, z ∈ Z') ∧ Alloc Z' H' ∧ (∀ z ∈ x'.all, z ∈ x.all ∨ H z = none) ∧ (∀ z ∈ x'.every, z ∈ x.every ∨ H z = none) ∧ Frm x.all H H', ?_, ?_⟩
      · refine ⟨_, rfl, a, _, _, _, rfl, rfl, SqT.of ha, rfl, c, rfl, by omega, by omega, for_range (lo := 0) (n := c.toNat) (fun i σ' H' => (∃ v3 : Option V, σ' = [some (V.ref x.o), some (.ref a), some (.str "frames"), v3]) ∧ ∃ Z' x', x'.o = x.o ∧ LoAt T.C_Line T.C_End T.C_Marks Z' H' x' (framesP i sk) ∧ (∀ z ∈ x'.all, z ∈ Z') ∧ (∀ z ∈ Z, z ∈ Z') ∧ Alloc Z' H' ∧ (∀ z ∈ x'.all, z ∈ x.all ∨ H z = none) ∧ (∀ z ∈ x'.every, z ∈ x.every ∨ H z = none) ∧ Frm x.all H H')
          ⟨⟨_, rfl⟩, Z, x, rfl, M, hZ, fun z hz => hz, AZ, fun z hz => .inl hz, fun z hz => .inl hz, .refl _ _⟩ ?_ (fun σ' H' h => h)⟩
        rintro i σ H1 hi ⟨⟨v3, rfl⟩, Z1, x1, e1, M1, hZ1, hZZ, A1, own1, ow1, f1⟩
        obtain ⟨g1, g2, g3, _⟩ := PlOk.frame (k := n) (n := i) (m := 100 * n) ok.ok ok.rs (by omega) hl0 (by omega)
        obtain ⟨dx, ho⟩ := M1.ob
        refine ⟨_, rfl, x.o, dx, _, rfl, (by rw [← e1]; exact ho), hno (by decide), Z1, x1, framesP i sk, by rw [e1]; rfl, M1, hZ1, A1, g1, by omega, by omega, fun lo t H2 hlo M2 f2 _ => ?_⟩
        refine ⟨⟨_, rfl⟩, lo :: Z1, { x1 with lo := lo }, e1, M2, ?_, fun z hz => List.mem_cons_of_mem _ (hZZ z hz), ?_, ?_, ?_, frm_owns2 f1 own1 f2⟩
        · intro z hz
          simp only [LoAd.all, List.mem_append, List.mem_cons, List.not_mem_nil, or_false] at hz ⊢
          have q := hZ1 z
          simp only [LoAd.all, List.mem_append, List.mem_cons, List.not_mem_nil, or_false] at q
          rcases hz with (h | h | h | h) | h
          · exact .inr (q (.inl (.inl h)))
          · exact .inr (q (.inl (.inr (.inl h))))
          · exact .inr (q (.inl (.inr (.inr (.inl h)))))
          · exact .inl h
          · exact .inr (q (.inr h))
        · intro z hz
          rcases List.mem_cons.mp hz with rfl | hz
          · exact M2.there _ (by simp [LoAd.every, LoAd.base])
          · exact A1.frm f2 z hz
        · intro z hz
          have q := own1 z
          simp only [LoAd.all, List.mem_append, List.mem_cons, List.not_mem_nil, or_false] at hz q ⊢
          rcases hz with (h | h | h | h) | h
          · exact q (.inl (.inl h))
          · exact q (.inl (.inr (.inl h)))
          · exact q (.inl (.inr (.inr (.inl h))))
          · exact .inr (by rw [h]; exact f1.free hlo)
          · exact q (.inr h)
        · intro z hz
          have q := ow1 z
          simp only [LoAd.every, LoAd.base, List.mem_append, List.mem_cons, List.not_mem_nil, or_false] at hz q ⊢
          rcases hz with (h | h | h | h | h) | h
          · exact q (.inl (.inl h))
          · exact q (.inl (.inr (.inl h)))
          · exact q (.inl (.inr (.inr (.inl h))))
          · exact q (.inl (.inr (.inr (.inr (.inl h)))))
          · exact .inr (by rw [h]; exact f1.free hlo)
          · exact q (.inr h)
      rintro σ' H1 ⟨⟨v3, rfl⟩, Z1, x1, e1, M1, hZ1, hZZ, A1, own1, ow1, f1⟩
      obtain ⟨dx, ho⟩ := M1.ob
      refine ⟨_, rfl, x.o, dx, _, rfl, (by rw [← e1]; exact ho), hno (by decide), Z1, x1, _, by rw [e1]; rfl, M1, fun l xs hl hA => ?_⟩
      obtain ⟨i, hi⟩ : ∃ i, c.toNat = i + 1 := ⟨c.toNat - 1, by omega⟩
      have elog : (framesP c.toNat sk).log = (framesP i sk).log ++ [rowF (framesP i sk).ps (framesP i sk).ls (halfF (framesP i sk).ps (framesP i sk).ls (framesP i sk).toLnS)] := by
        rw [hi]
        exact frame_log _ _ _
      rw [elog] at hA
      obtain ⟨t, hat, htr⟩ := at_last hA
      have s2 := Same.upd_new (o := .lst xs) hl
      have er : lastRow (framesP c.toNat sk) = _ := last_row elog
      refine ⟨_, rfl, l, _, _, .ref t, rfl, rfl, SqL.of upd_same, hat, ?_⟩
      refine k Z1 x1 _ _ e1 (M1.same s2) hZ1 hZZ (A1.frm (Frm.of_same (S := []) s2)) own1 ow1 (f1.trans (Frm.of_same s2)) (.inl ?_)
      show Im _ _ (rowD (lastRow (framesP c.toNat sk)))
      rw [er]
      exact im_row (s2 _ _ htr)
    | got e =>
      have ha : H a = some (.tup [.str "got", .int e]) := hst
      obtain ⟨dx, ho⟩ := M.ob
      refine ⟨_, rfl, a, _, _, _, rfl, rfl, SqT.of ha, rfl, ?_⟩
      refine ⟨_, rfl, rfl, false, congrArg V.bl (decide_eq_false (by decide +kernel)), iteF ?_⟩
      refine ⟨_, rfl, rfl, true, congrArg V.bl (decide_eq_true (by decide +kernel)), iteT ?_⟩
      refine ⟨_, rfl, x.o, dx, _, rfl, ho, hno (by decide), _, rfl, a, _, _, _, rfl, rfl, SqT.of ha, rfl, Z, x, sk, .int e, .int e, rfl, M, .int _, (fun ds z => by cases z), (fun z => absurd z (by rcases hok with rfl | rfl <;> decide)), fun e' e1 _ l hl => ?_⟩
      cases e1
      have s2 := Same.upd_new (o := .lst ((if e = 0 then sk.a.got else sk.b.got).map V.int)) hl
      have g0 := ok.ok.ea.got
      have g1 := ok.ok.eb.got
      refine k Z x _ _ rfl (M.same s2) hZ (fun z hz => hz) (AZ.frm (Frm.of_same (S := []) s2)) (fun z hz => .inl hz) (fun z hz => .inl hz) (Frm.of_same s2) (.inr ⟨l, _, _, rfl, rfl, upd_same, im_ints _, ?_, hl, fun z => M.ne_new hl (x.sub_all _ z)⟩)
      rw [List.length_map]
      split <;> omega
    | left e =>
      have ha : H a = some (.tup [.str "left", .int e]) := hst
      obtain ⟨dx, ho⟩ := M.ob
      refine ⟨_, rfl, a, _, _, _, rfl, rfl, SqT.of ha, rfl, ?_⟩
      refine ⟨_, rfl, rfl, false, congrArg V.bl (decide_eq_false (by decide +kernel)), iteF ?_⟩
      refine ⟨_, rfl, rfl, false, congrArg V.bl (decide_eq_false (by decide +kernel)), iteF ?_⟩
      refine ⟨_, rfl, rfl, true, congrArg V.bl (decide_eq_true (by decide +kernel)), iteT ?_⟩
      refine ⟨_, rfl, x.o, dx, _, rfl, ho, hno (by decide), _, rfl, a, _, _, _, rfl, rfl, SqT.of ha, rfl, Z, x, sk, .int e, .int e, rfl, M, .int _, (fun ds z => by cases z), (fun z => absurd z (by rcases hok with rfl | rfl <;> decide)), fun e' e1 _ => ?_⟩
      cases e1
      exact k Z x _ _ rfl M hZ (fun z hz => hz) AZ (fun z hz => .inl hz) (fun z hz => .inl hz) (.refl _ _) (.inl (.int _))
    | joined =>
      have ha : H a = some (.tup [.str "joined"]) := hst
      obtain ⟨dx, ho⟩ := M.ob
      refine ⟨_, rfl, a, _, _, _, rfl, rfl, SqT.of ha, rfl, ?_⟩
      refine ⟨_, rfl, rfl, false, congrArg V.bl (decide_eq_false (by decide +kernel)), iteF ?_⟩
      refine ⟨_, rfl, rfl, false, congrArg V.bl (decide_eq_false (by decide +kernel)), iteF ?_⟩
      refine ⟨_, rfl, rfl, false, congrArg V.bl (decide_eq_false (by decide +kernel)), iteF ?_⟩
      refine ⟨_, rfl, rfl, true, congrArg V.bl (decide_eq_true (by decide +kernel)), iteT ?_⟩
      refine ⟨_, rfl, x.o, dx, _, rfl, ho, hno (by decide), Z, x, _, rfl, M, fun l xs hl hA => ?_⟩
      have s2 := Same.upd_new (o := .lst xs) hl
      have hxl := rows_len hA
      refine ⟨_, rfl, _, rfl, l, xs, rfl, SqL.of upd_same, fun z hz => ?_⟩
      have s3 := Same.upd_new (o := .lst (cutV xs (some (-300)) none)) hz
      have hA3 : ImAll (upd (upd H l (.lst xs)) z (.lst (cutV xs (some (-300)) none))) (cutV xs (some (-300)) none) ((last300 sk.log).map rowD) := by
        have q := hA.drop (sk.log.length - 300)
        have e1 : cutV xs (some (-300)) none = xs.drop (sk.log.length - 300) := by rw [cut300, hxl]
        rw [← List.map_drop, ← e1] at q
        exact q.same (s2.trans s3)
      have h3 := last300_len sk.log
      refine ⟨z, _, last300 sk.log, rfl, SqL.of upd_same, hA3, fun r hr => (ok.rs r (List.mem_of_mem_drop hr)).1, h3, fun p ys H4 hp e4 A4 s4 => ?_⟩
      have s24 := (s2.trans s3).trans s4
      refine k Z x _ _ rfl (M.same s24) hZ (fun z hz => hz) (AZ.frm (Frm.of_same (S := []) s24)) (fun z hz => .inl hz) (fun z hz => .inl hz) (Frm.of_same s24) (.inr ⟨p, ys, _, rfl, rfl, e4, A4, ?_, (Frm.of_same (S := []) (s2.trans s3)).free hp, fun z => M.ne_new ((Frm.of_same (S := []) (s2.trans s3)).free hp) (x.sub_all _ z)⟩)
      rw [A4.length, List.length_map]
      have := stTo_len ((last300 sk.log).map mark) (last300 sk.log).length
      omega
    | pass e ms =>
      obtain ⟨t, ha, ht⟩ := id hst
      refine ⟨_, rfl, a, _, _, _, rfl, rfl, SqT.of ha, rfl, ?_⟩
      refine ⟨_, rfl, rfl, false, congrArg V.bl (decide_eq_false (by decide +kernel)), iteF ?_⟩
      refine ⟨_, rfl, rfl, false, congrArg V.bl (decide_eq_false (by decide +kernel)), iteF ?_⟩
      refine ⟨_, rfl, rfl, false, congrArg V.bl (decide_eq_false (by decide +kernel)), iteF ?_⟩
      refine ⟨_, rfl, rfl, false, congrArg V.bl (decide_eq_false (by decide +kernel)), iteF ?_⟩
      exact ⟨_, rfl, _, rfl, Z, x, sk, a, .pass e ms, n, rfl, M, hZ, ok, hst, hok, trivial, fun b H' eb M' f' => k Z x _ H' rfl M' hZ (fun z hz => hz) (AZ.frm f') (fun z hz => .inl hz) (fun z hz => .inl hz) f' (.inl (by rw [eb]; exact .bl b))⟩
    | lose p e =>
      have ha : H a = some (.tup [.str "lose", .int p, .int e]) := hst
      refine ⟨_, rfl, a, _, _, _, rfl, rfl, SqT.of ha, rfl, ?_⟩
      refine ⟨_, rfl, rfl, false, congrArg V.bl (decide_eq_false (by decide +kernel)), iteF ?_⟩
      refine ⟨_, rfl, rfl, false, congrArg V.bl (decide_eq_false (by decide +kernel)), iteF ?_⟩
      refine ⟨_, rfl, rfl, false, congrArg V.bl (decide_eq_false (by decide +kernel)), iteF ?_⟩
      refine ⟨_, rfl, rfl, false, congrArg V.bl (decide_eq_false (by decide +kernel)), iteF ?_⟩
      exact ⟨_, rfl, _, rfl, Z, x, sk, a, .lose p e, n, rfl, M, hZ, ok, hst, hok, trivial, fun b H' eb M' f' => k Z x _ H' rfl M' hZ (fun z hz => hz) (AZ.frm f') (fun z hz => .inl hz) (fun z hz => .inl hz) f' (.inl (by rw [eb]; exact .bl b))⟩
    | send e i =>
      have ha : H a = some (.tup [.str "send", .int e, .int i]) := hst
      refine ⟨_, rfl, a, _, _, _, rfl, rfl, SqT.of ha, rfl, ?_⟩
      refine ⟨_, rfl, rfl, false, congrArg V.bl (decide_eq_false (by decide +kernel)), iteF ?_⟩
      refine ⟨_, rfl, rfl, false, congrArg V.bl (decide_eq_false (by decide +kernel)), iteF ?_⟩
      refine ⟨_, rfl, rfl, false, congrArg V.bl (decide_eq_false (by decide +kernel)), iteF ?_⟩
      refine ⟨_, rfl, rfl, false, congrArg V.bl (decide_eq_false (by decide +kernel)), iteF ?_⟩
      exact ⟨_, rfl, _, rfl, Z, x, sk, a, .send e i, n, rfl, M, hZ, ok, hst, hok, trivial, fun b H' eb M' f' => k Z x _ H' rfl M' hZ (fun z hz => hz) (AZ.frm f') (fun z hz => .inl hz) (fun z hz => .inl hz) f' (.inl (by rw [eb]; exact .bl b))⟩

end
end TL

namespace TL
open PySem PySem.Spec PyProof.Rows L2
section
variable {P : Program} {w : World} {K : PySem.W.Frag} {mg : Str → Option Value} {base : Heap}
def sp_Marks_init (T : Txt w K mg) : Sp := fun vs H Q _ => ∃ (p dx : Addr), vs = [.ref p] ∧ H p = some (.ins T.C_Marks dx []) ∧
  ∀ (ad : MAd) (H' : Hp), ad.m = p → (∀ Z, MarksAt T.C_Marks Z H' ad .new) → (∀ x ∈ ad.all, H x = none) → Frm [p] H H' → Q .non H'
theorem ok_Marks_init (T : Txt w K mg) : FnOk P w K mg base CX0 1 T.a_Marks_init T.fd_Marks_init P_Marks_init (sp_Marks_init T) := by
  skip
  refine T.F_Marks_init.ok sc_Marks_init (fun vs H Q E h => ?_) (fun cdv A outer s H vs Q E hr h => ?_)
  · obtain ⟨p, dx, rfl, _⟩ := h
    rfl
  · obtain ⟨p, dx, rfl, hp, k⟩ := h
    refine ⟨_, (pss_cons (ps_fld (pv 0) pe_dnewK rfl)
    (pss_cons (ps_fld (pv 0) pe_dnewK rfl)
    (pss_cons (ps_fld (pv 0) pe_dnewK rfl)
    (pss_one (ps_fld (pv 0) pe_dnewK rfl))))), ?_⟩
    intro w hw
    have npw := ne_of_none hp hw
    have p1 : (upd H w (.dK [])) p = some (.ins T.C_Marks dx (mkN.zip [])) := by rw [upd_ne npw]; exact hp
    refine ⟨_, rfl, p, _, dx, _, rfl, p1, T.cl_Marks, T.no_Marks_waits, (by decide), ?_⟩
    rw [zip_add mkN_nd rfl]
    intro u hu
    have npu : p ≠ u := ne_of_none upd_same hu
    refine ⟨_, rfl, p, _, dx, _, rfl, (by rw [upd_ne npu]; exact upd_same), T.cl_Marks, T.no_Marks_until, zip_small (by decide), ?_⟩
    rw [zip_add mkN_nd rfl]
    intro r hr
    have npr : p ≠ r := ne_of_none upd_same hr
    refine ⟨_, rfl, p, _, dx, _, rfl, (by rw [upd_ne npr]; exact upd_same), T.cl_Marks, T.no_Marks_runs, zip_small (by decide), ?_⟩
    rw [zip_add mkN_nd rfl]
    intro t ht
    have npt : p ≠ t := ne_of_none upd_same ht
    refine ⟨_, rfl, p, _, dx, _, rfl, (by rw [upd_ne npt]; exact upd_same), T.cl_Marks, T.no_Marks_tries, zip_small (by decide), ?_⟩
    rw [zip_add mkN_nd rfl]
    -- what stands now
    have f1 : Frm [p] H (upd H w (.dK [])) := Frm.new hw
    have f2 := f1.trans (Frm.updI (o := .ins T.C_Marks dx (mkN.zip [.ref w])) p1)
    have f3 := f2.trans (Frm.new (o := .dK []) hu)
    have p3 : (upd (upd (upd H w (.dK [])) p (.ins T.C_Marks dx (mkN.zip [.ref w]))) u (.dK [])) p = some (.ins T.C_Marks dx (mkN.zip [.ref w])) := by rw [upd_ne npu]; exact upd_same
    have f4 := f3.trans (Frm.updI (o := .ins T.C_Marks dx (mkN.zip [.ref w, .ref u])) p3)
    have f5 := f4.trans (Frm.new (o := .dK []) hr)
    have p5 : (upd (upd (upd (upd (upd H w (.dK [])) p (.ins T.C_Marks dx (mkN.zip [.ref w]))) u (.dK [])) p (.ins T.C_Marks dx (mkN.zip [.ref w, .ref u]))) r (.dK [])) p = some (.ins T.C_Marks dx (mkN.zip [.ref w, .ref u])) := by rw [upd_ne npr]; exact upd_same
    have f6 := f5.trans (Frm.updI (o := .ins T.C_Marks dx (mkN.zip [.ref w, .ref u, .ref r])) p5)
    have f7 := f6.trans (Frm.new (o := .dK []) ht)
    have p7 : (upd (upd (upd (upd (upd (upd (upd H w (.dK [])) p (.ins T.C_Marks dx (mkN.zip [.ref w]))) u (.dK [])) p (.ins T.C_Marks dx (mkN.zip [.ref w, .ref u]))) r (.dK [])) p (.ins T.C_Marks dx (mkN.zip [.ref w, .ref u, .ref r]))) t (.dK [])) p = some (.ins T.C_Marks dx (mkN.zip [.ref w, .ref u, .ref r])) := by rw [upd_ne npt]; exact upd_same
    have f8 := f7.trans (Frm.updI (o := .ins T.C_Marks dx (mkN.zip [.ref w, .ref u, .ref r, .ref t])) p7)
    -- the four are different
    have huw : (upd (upd H w (.dK [])) p (.ins T.C_Marks dx (mkN.zip [.ref w]))) w = some (.dK []) := by rw [upd_ne (Ne.symm npw)]; exact upd_same
    have nwu : w ≠ u := ne_of_none huw hu
    have g3w : (upd (upd (upd (upd H w (.dK [])) p (.ins T.C_Marks dx (mkN.zip [.ref w]))) u (.dK [])) p (.ins T.C_Marks dx (mkN.zip [.ref w, .ref u]))) w = some (.dK []) := by rw [upd_ne (Ne.symm npw), upd_ne nwu]; exact huw
    have g3u : (upd (upd (upd (upd H w (.dK [])) p (.ins T.C_Marks dx (mkN.zip [.ref w]))) u (.dK [])) p (.ins T.C_Marks dx (mkN.zip [.ref w, .ref u]))) u = some (.dK []) := by rw [upd_ne (Ne.symm npu)]; exact upd_same
    have nwr : w ≠ r := ne_of_none g3w hr
    have nur : u ≠ r := ne_of_none g3u hr
    have g5w : (upd (upd (upd (upd (upd (upd H w (.dK [])) p (.ins T.C_Marks dx (mkN.zip [.ref w]))) u (.dK [])) p (.ins T.C_Marks dx (mkN.zip [.ref w, .ref u]))) r (.dK [])) p (.ins T.C_Marks dx (mkN.zip [.ref w, .ref u, .ref r]))) w = some (.dK []) := by rw [upd_ne (Ne.symm npw), upd_ne nwr]; exact g3w
    have g5u : (upd (upd (upd (upd (upd (upd H w (.dK [])) p (.ins T.C_Marks dx (mkN.zip [.ref w]))) u (.dK [])) p (.ins T.C_Marks dx (mkN.zip [.ref w, .ref u]))) r (.dK [])) p (.ins T.C_Marks dx (mkN.zip [.ref w, .ref u, .ref r]))) u = some (.dK []) := by rw [upd_ne (Ne.symm npu), upd_ne nur]; exact g3u
    have g5r : (upd (upd (upd (upd (upd (upd H w (.dK [])) p (.ins T.C_Marks dx (mkN.zip [.ref w]))) u (.dK [])) p (.ins T.C_Marks dx (mkN.zip [.ref w, .ref u]))) r (.dK [])) p (.ins T.C_Marks dx (mkN.zip [.ref w, .ref u, .ref r]))) r = some (.dK []) := by rw [upd_ne (Ne.symm npr)]; exact upd_same
    have nwt := ne_of_none g5w ht
    have nut := ne_of_none g5u ht
    have nrt := ne_of_none g5r ht
    refine k ⟨p, w, u, r, t⟩ _ rfl (fun Z => ⟨⟨dx, upd_same⟩, DictM.new ?_, DictM.new ?_, DictM.new ?_, ⟨fun _ => none, DictM.new ?_, fun _ => .inl ⟨rfl, rfl⟩⟩, nwu, nwr, nwt, nur, nut, nrt⟩) ?_ f8
    · show upd _ p _ w = _
      rw [upd_ne (Ne.symm npw), upd_ne nwt]; exact g5w
    · show upd _ p _ u = _
      rw [upd_ne (Ne.symm npu), upd_ne nut]; exact g5u
    · show upd _ p _ r = _
      rw [upd_ne (Ne.symm npr), upd_ne nrt]; exact g5r
    · show upd _ p _ t = _
      rw [upd_ne (Ne.symm npt)]; exact upd_same
    · intro x hx
      simp [MAd.all] at hx
      rcases hx with rfl | rfl | rfl | rfl
      · exact hw
      · exact f2.free hu
      · exact f4.free hr
      · exact f6.free ht

end
end TL

namespace TL
open PySem PySem.Spec PyProof.Rows L2
section
variable {P : Program} {w : World} {K : PySem.W.Frag} {mg : Str → Option Value} {base : Heap}
def sp_End_init (T : Txt w K mg) : Sp := fun vs H Q E => ∃ (p dx : Addr) (x : V) (d : PyData), vs = [.ref p, x] ∧ H p = some (.ins T.C_End dx []) ∧ Dp K H x d ∧ mdat d ∧
  (isMan d = false → ∀ H', Same H H' → E (.ref T.C_BadManners) none H') ∧
  (isMan d = true → ∀ ms : List Int, d = .tuple (ms.map .int) → Im H x (canD ms) ∧ ∀ (ad : EAd) (H' : Hp), ad.e = p → (∀ Z, EndAt T.C_End T.C_Marks Z H' ad (.new ms)) → (∀ x ∈ ad.every, x = p ∨ H x = none) → Frm [p] H H' → Q .non H')
theorem ok_End_init (T : Txt w K mg) : FnOk P w K mg base (L2.CX P w) 4 T.a_End_init T.fd_End_init P_End_init (sp_End_init T) := by
  have G_need_manners := ok_need_manners (P := P) (w := w) (base := base) T
  have G_Marks_init := ok_Marks_init (P := P) (w := w) (base := base) T
  refine T.F_End_init.okX sc_End_init (fun vs H Q E h => ?_) (fun cdv A outer s H vs Q E hr h => ?_)
  · obtain ⟨p, dx, x, d, rfl, _⟩ := h
    rfl
  · obtain ⟨p, dx, x, d, rfl, hp, hx, mx, k1, k2⟩ := h
    refine ⟨_, (pss_cons (ps_expr (pe_call G_need_manners (hr.mono (by decide)) rfl T.g_need_manners T.F_need_manners.kp T.b_need_manners .nil (passes_call (takes_of rfl rfl rfl rfl) (fun _ _ _ _ h => h)) (pa_cons (pv 1) pa_nil)))
    (pss_cons (ps_fld (pv 0) (pv 1) rfl)
    (pss_cons (ps_fld (pv 0) (pe_make0 T.M_Marks G_Marks_init (hr.mono (by decide)) rfl T.c_Marks T.b_Marks_init .nil pass0) rfl)
    (pss_cons (ps_fld (pv 0) pe_int rfl)
    (pss_cons (ps_fld (pv 0) pe_int rfl)
    (pss_cons (ps_fld (pv 0) (pe_tup (pa_cons (pv 1) (pa_cons (pe_tup pa_nil) pa_nil))) rfl)
    (pss_cons (ps_fld (pv 0) pe_non rfl)
    (pss_cons (ps_fld (pv 0) pe_int rfl)
    (pss_cons (ps_fld (pv 0) pe_int rfl)
    (pss_cons (ps_fld (pv 0) pe_bl rfl)
    (pss_cons (ps_fld (pv 0) pe_int rfl)
    (pss_cons (ps_fld (pv 0) pe_bl rfl)
    (pss_cons (ps_fld (pv 0) (pe_lst pa_nil) rfl)
    (pss_cons (ps_fld (pv 0) pe_int rfl)
    (pss_cons (ps_fld (pv 0) (pe_lst pa_nil) rfl)
    (pss_one (ps_fld (pv 0) (pe_glob (v := .int 0) rfl T.v_SLOW ⟨_, rfl⟩) rfl))))))))))))))))), ?_⟩
    refine ⟨_, rfl, x, d, rfl, hx, mx, fun gx H1 s1 => ?_, fun gx H1 s1 => k1 gx H1 s1⟩
    obtain ⟨ms, rfl, _⟩ := man_tuple gx
    obtain ⟨im, k⟩ := k2 gx ms rfl
    have p1 : H1 p = some (.ins T.C_End dx (enN.zip [])) := s1 _ _ hp
    refine ⟨_, rfl, _, rfl, iniF x p1 T.cl_End T.no_End_can rfl fun H2 p2 f2 => ?_⟩
    -- marks
    intro m dm hm hdm ndm
    have npm : p ≠ m := ne_of_none p2 hm
    have npd : p ≠ dm := ne_of_none p2 hdm
    have sa : Same H2 (upd (upd H2 dm (.own m)) m (.ins T.C_Marks dm [])) := (Same.upd_new hdm).trans (Same.upd_new (by rw [upd_ne (Ne.symm ndm)]; exact hm))
    refine ⟨m, dm, rfl, upd_same, fun am H3 ham Mm hfr f3 => ⟨rfl, ?_⟩⟩
    subst ham
    have p3 := f3 _ _ (sa _ _ p2) (by simp [npm])
    have f23 : Frm [p] H2 H3 := (Frm.of_same sa).own hm f3
    have nall : ∀ x ∈ am.all, x ≠ p := fun x hx => Ne.symm (ne_of_none (sa _ _ p2) (hfr x hx))
    have hfr2 : ∀ x ∈ am.all, H2 x = none := fun x hx => (Frm.of_same (S := []) sa).free (hfr x hx)
    refine ⟨_, rfl, iniF (.ref am.m) p3 T.cl_End T.no_End_marks rfl fun H4 p4 f4 => ?_⟩
    refine ⟨_, rfl, iniF (.int 0) p4 T.cl_End T.no_End_over rfl fun H5 p5 f5 => ?_⟩
    refine ⟨_, rfl, iniF (.int 1) p5 T.cl_End T.no_End_version rfl fun H6 p6 f6 => ?_⟩
    -- (can, ())
    refine ⟨_, rfl, (by show 0 ≤ sizeLine; decide), fun e he => ⟨(by show 2 ≤ sizeLine; decide), fun t ht => ?_⟩⟩
    have s6 : Same H6 (upd (upd H6 e (.tup [])) t (.tup [x, .ref e])) := (Same.upd_new he).trans (Same.upd_new ht)
    have f16 : Frm [p] H1 H6 := (((f2.trans f23).trans f4).trans f5).trans f6
    have im6 : Im H6 x (canD ms) := (im.same s1).frm f16
    have mind : Im (upd (upd H6 e (.tup [])) t (.tup [x, .ref e])) (.ref t) (mindD (ms, [])) := .tup upd_same (.cons (im6.same s6) (.cons (.tup (a := e) (by rw [upd_ne (ne_of_none upd_same ht)]; exact upd_same) .nil) .nil))
    refine ⟨_, rfl, iniF (.ref t) (s6 _ _ p6) T.cl_End T.no_End_mind rfl fun H7 p7 f7 => ?_⟩
    refine ⟨_, rfl, iniF .non p7 T.cl_End T.no_End_other rfl fun H8 p8 f8 => ?_⟩
    refine ⟨_, rfl, iniF (.int 0) p8 T.cl_End T.no_End_seen rfl fun H9 p9 f9 => ?_⟩
    refine ⟨_, rfl, iniF (.int 0) p9 T.cl_End T.no_End_known rfl fun H10 p10 f10 => ?_⟩
    refine ⟨_, rfl, iniF (.bl false) p10 T.cl_End T.no_End_ready rfl fun H11 p11 f11 => ?_⟩
    refine ⟨_, rfl, iniF (.int 0) p11 T.cl_End T.no_End_now rfl fun H12 p12 f12 => ?_⟩
    refine ⟨_, rfl, iniF (.bl false) p12 T.cl_End T.no_End_joined rfl fun H13 p13 f13 => ?_⟩
    have f613 : Frm [p] H6 H13 := (((((((Frm.of_same s6).trans f7).trans f8).trans f9).trans f10).trans f11).trans f12).trans f13
    have f313 : Frm [p] H3 H13 := ((f4.trans f5).trans f6).trans f613
    refine ⟨(by show 0 ≤ sizeLine; decide), fun w hw => ?_⟩
    have s13 : Same H13 (upd H13 w (.lst [])) := Same.upd_new hw
    have npw : p ≠ w := ne_of_none p13 hw
    refine ⟨_, rfl, iniF (.ref w) (s13 _ _ p13) T.cl_End T.no_End_waiting rfl fun H14 p14 f14 => ?_⟩
    have w14 : H14 w = some (.lst []) := f14 _ _ upd_same (by simp [Ne.symm npw])
    refine ⟨_, rfl, iniF (.int 0) p14 T.cl_End T.no_End_count rfl fun H15 p15 f15 => ?_⟩
    have w15 : H15 w = some (.lst []) := f15 _ _ w14 (by simp [Ne.symm npw])
    refine ⟨(by show 0 ≤ sizeLine; decide), fun g hg => ?_⟩
    have s15 : Same H15 (upd H15 g (.lst [])) := Same.upd_new hg
    have npg : p ≠ g := ne_of_none p15 hg
    have nwg : w ≠ g := ne_of_none w15 hg
    refine ⟨_, rfl, iniF (.ref g) (s15 _ _ p15) T.cl_End T.no_End_gathered rfl fun H16 p16 f16' => ?_⟩
    refine ⟨_, rfl, iniF (.int 0) p16 T.cl_End T.no_End_part rfl fun H17 p17 f17 => ?_⟩
    have f1317 : Frm [p] H13 H17 := (((((Frm.of_same s13).trans f14).trans f15).trans (Frm.of_same s15)).trans f16').trans f17
    have f317 := f313.trans f1317
    have w17 : H17 w = some (.lst []) := f17 _ _ (f16' _ _ (s15 _ _ w15) (by simp [Ne.symm npw])) (by simp [Ne.symm npw])
    have g17 : H17 g = some (.lst []) := f17 _ _ (f16' _ _ upd_same (by simp [Ne.symm npg])) (by simp [Ne.symm npg])
    have M17 := MarksAt.ini Mm f317 npm nall
    have M13 := MarksAt.ini Mm f313 npm nall
    have f137 : Frm [p] H1 H17 := (f2.trans f23).trans f317
    have hmw : ∀ x ∈ am.m :: am.all, ∃ o, H13 x = some o := fun x hx => by
      rcases List.mem_cons.mp hx with rfl | hx
      · obtain ⟨⟨q, hq⟩, _⟩ := M13 []
        exact ⟨_, hq⟩
      · exact ((M13 []).out x hx).2
    have nw : ∀ x ∈ am.m :: am.all, x ≠ w := fun x hx => by
      obtain ⟨o, ho⟩ := hmw x hx
      exact ne_of_none ho hw
    have ng : ∀ x ∈ am.m :: am.all, x ≠ g := fun x hx => by
      obtain ⟨o, ho⟩ := hmw x hx
      obtain ⟨o', ho'⟩ := ((Frm.of_same (S := [p]) s13).trans f14 |>.trans f15).there _ _ ho
      exact ne_of_none ho' hg
    have nd := (Mm []).nd
    have mo := (Mm []).out
    have f01 : ∀ x, H1 x = none → H x = none := fun x => (Frm.of_same (S := []) s1).free
    refine k ⟨p, w, g, am⟩ H17 rfl (fun Z => ⟨⟨dx, x, .ref t, .non, p17, (im.same s1).frm f137, mind.frm (((((((f7.trans f8).trans f9).trans f10).trans f11).trans f12).trans f13).trans f1317), .non⟩, M17 Z, w17, g17, ?_⟩) ?_ ?_
    · obtain ⟨n1, n2, n3, n4, n5, n6⟩ := nd
      have a := am.mem
      have q1 := mo _ a.1
      have q2 := mo _ a.2.1
      have q3 := mo _ a.2.2.1
      have q4 := mo _ a.2.2.2
      have e1 := nall _ a.1
      have e2 := nall _ a.2.1
      have e3 := nall _ a.2.2.1
      have e4 := nall _ a.2.2.2
      have w1 := nw _ (List.mem_cons_of_mem _ a.1)
      have w2 := nw _ (List.mem_cons_of_mem _ a.2.1)
      have w3 := nw _ (List.mem_cons_of_mem _ a.2.2.1)
      have w4 := nw _ (List.mem_cons_of_mem _ a.2.2.2)
      have w0 := nw _ (List.mem_cons_self ..)
      have g1 := ng _ (List.mem_cons_of_mem _ a.1)
      have g2 := ng _ (List.mem_cons_of_mem _ a.2.1)
      have g3 := ng _ (List.mem_cons_of_mem _ a.2.2.1)
      have g4 := ng _ (List.mem_cons_of_mem _ a.2.2.2)
      have g0 := ng _ (List.mem_cons_self ..)
      simp only [EAd.every, EAd.all, List.nodup_cons, List.mem_cons, not_or, List.not_mem_nil, not_false_eq_true, List.nodup_nil, and_true]
      exact ⟨⟨Ne.symm npm, w0, g0, Ne.symm q1.1, Ne.symm q2.1, Ne.symm q3.1, Ne.symm q4.1⟩, ⟨npw, npg, Ne.symm e1, Ne.symm e2, Ne.symm e3, Ne.symm e4⟩, ⟨nwg, Ne.symm w1, Ne.symm w2, Ne.symm w3, Ne.symm w4⟩, ⟨Ne.symm g1, Ne.symm g2, Ne.symm g3, Ne.symm g4⟩, ⟨n1, n2, n3⟩, ⟨n4, n5⟩, n6⟩
    · intro y hy
      have m1 : H1 am.m = none := f2.free hm
      have mall : ∀ z ∈ am.all, H1 z = none := fun z hz => f2.free (hfr2 z hz)
      have ww : H1 w = none := ((f2.trans f23).trans f313).free hw
      have gg : H1 g = none := (((f2.trans f23).trans f313).trans (((Frm.of_same s13).trans f14).trans f15)).free hg
      simp [EAd.every, EAd.all] at hy
      rcases hy with rfl | rfl | rfl | rfl | rfl | rfl | rfl | rfl
      · exact .inr (f01 _ m1)
      · exact .inl rfl
      · exact .inr (f01 _ ww)
      · exact .inr (f01 _ gg)
      · exact .inr (f01 _ (mall _ (by simp [MAd.all])))
      · exact .inr (f01 _ (mall _ (by simp [MAd.all])))
      · exact .inr (f01 _ (mall _ (by simp [MAd.all])))
      · exact .inr (f01 _ (mall _ (by simp [MAd.all])))
    · exact (Frm.of_same s1).trans f137

end
end TL

namespace TL
open PySem PySem.Spec PyProof.Rows L2
section
variable {P : Program} {w : World} {K : PySem.W.Frag} {mg : Str → Option Value} {base : Heap}
def sp_Line_init (T : Txt w K mg) : Sp := fun vs H Q _ => ∃ (p dx t0 t1 : Addr) (ca cb : List Int), vs = [.ref p, .ref t0, .ref t1] ∧ H p = some (.ins T.C_Line dx []) ∧ H t0 = some (.tup (ca.map V.int)) ∧ H t1 = some (.tup (cb.map V.int)) ∧ Can ca ∧ Can cb ∧
  ∀ (x : LoAd) (H' : Hp), x.o = p → (∀ Z, LoAt T.C_Line T.C_End T.C_Marks Z H' x (.new ca cb)) → (∀ y ∈ x.every, y = p ∨ H y = none) → Frm [p] H H' → Q .non H'
theorem iniL {K : PySem.W.Frag} {P : Hp → Prop} {f : Str} {CE dx p : Addr} {H : Hp} {vs : List V} (v : V) (h : H p = some (.ins CE dx (liN.zip vs))) (cl : Cls K CE) (no : NoAttr K CE f) (hf : liN[vs.length]? = some f)
    (k : ∀ H', H' p = some (.ins CE dx (liN.zip (vs ++ [v]))) → Frm [p] H H' → P H') :
    ∃ (b C dx : Addr) (fs : List (Str × V)), V.ref p = .ref b ∧ H b = some (.ins C dx fs) ∧ Cls K C ∧ NoAttr K C f ∧ fs.length < 1000 ∧ P (upd H b (.ins C dx (putF f v fs))) := by
  refine ⟨p, CE, dx, _, rfl, h, cl, no, zip_small (by decide), ?_⟩
  rw [zip_add liN_nd hf]
  exact k _ upd_same (Frm.updI h)
theorem rg_ten : rgV 0 (9 + 1) = ten10.map V.int := by decide
theorem ok_Line_init (T : Txt w K mg) : FnOk P w K mg base CX0 6 T.a_Line_init T.fd_Line_init P_Line_init (sp_Line_init T) := by
  have G_End_init := ok_End_init (P := P) (w := w) (base := base) T
  refine T.F_Line_init.ok sc_Line_init (fun vs H Q E h => ?_) (fun cdv A outer s H vs Q E hr h => ?_)
  · obtain ⟨p, dx, t0, t1, ca, cb, rfl, _⟩ := h
    rfl
  · obtain ⟨p, dx, t0, t1, ca, cb, rfl, hp, h0, h1, hca, hcb, k⟩ := h
    refine ⟨_, (pss_cons (ps_fld (pv 0) (pe_lst (pa_cons (pe_make T.M_End G_End_init (hr.mono (by decide)) rfl T.c_End T.b_End_init .nil passL (pa_cons (pv 1) pa_nil)) (pa_cons (pe_make T.M_End G_End_init (hr.mono (by decide)) rfl T.c_End T.b_End_init .nil passL (pa_cons (pv 2) pa_nil)) pa_nil))) rfl)
    (pss_cons (ps_fld (pv 0) (pe_op op_rep (pe_lst (pa_cons (pe_tupRg rfl (by rfl) T.n_tuple (prg_1 (by rfl) T.n_range (pe_op op_add (pe_glob (v := .int 9) rfl T.v_MOST ⟨_, rfl⟩) pe_int))) pa_nil)) pe_int) rfl)
    (pss_cons (ps_fld (pv 0) pe_dnewT rfl)
    (pss_one (ps_fld (pv 0) (pe_lst pa_nil) rfl))))), ?_⟩
    have inj : ∀ {a b : List Int}, a.map PyData.int = b.map PyData.int → a = b := fun {a b} e => List.map_inj_right (fun x y z => by cases z; rfl) |>.mp e
    have hp0 : H p = some (.ins T.C_Line dx (liN.zip [])) := hp
    -- the ends
    refine ⟨_, rfl, ?_⟩
    intro e0 d0 he0 hd0 nd0
    have sa : Same H (upd (upd H d0 (.own e0)) e0 (.ins T.C_End d0 [])) := (Same.upd_new hd0).trans (Same.upd_new (by rw [upd_ne (Ne.symm nd0)]; exact he0))
    have im0 : Im (upd (upd H d0 (.own e0)) e0 (.ins T.C_End d0 [])) (.ref t0) (canD ca) := (Im.tup h0 (im_ints _)).same sa
    refine ⟨e0, d0, .ref t0, canD ca, rfl, upd_same, im0.dp, mdat_ints hca.2.2.2, (fun z => absurd z (by show ¬ isMan (.tuple _) = false; rw [isMan_ints hca]; simp)), fun _ ms ems => ?_⟩
    obtain rfl := inj (by injection ems)
    refine ⟨im0, fun a H3 ha Ea fra fa => ⟨rfl, ?_⟩⟩
    have s3 : Same H H3 := ((Frm.of_same (S := []) sa).own he0 (ha ▸ fa)).same
    have fra2 : ∀ y ∈ a.every, H y = none := fun y hy => by
      rcases fra y hy with rfl | q
      · exact he0
      · exact (Frm.of_same (S := []) sa).free q
    have al3 : Alloc a.every H3 := fun z hz => (Ea []).there z hz
    have nA := (Ea []).nd
    refine ⟨_, rfl, ?_⟩
    intro e1 d1 he1 hd1 nd1
    have sb : Same H3 (upd (upd H3 d1 (.own e1)) e1 (.ins T.C_End d1 [])) := (Same.upd_new hd1).trans (Same.upd_new (by rw [upd_ne (Ne.symm nd1)]; exact he1))
    have im1 : Im (upd (upd H3 d1 (.own e1)) e1 (.ins T.C_End d1 [])) (.ref t1) (canD cb) := (Im.tup h1 (im_ints _)).same (s3.trans sb)
    refine ⟨e1, d1, .ref t1, canD cb, rfl, upd_same, im1.dp, mdat_ints hcb.2.2.2, (fun z => absurd z (by show ¬ isMan (.tuple _) = false; rw [isMan_ints hcb]; simp)), fun _ ms ems => ?_⟩
    obtain rfl := inj (by injection ems)
    refine ⟨im1, fun b H4 hb Eb frb fb => ⟨rfl, ?_⟩⟩
    have s4 : Same H3 H4 := ((Frm.of_same (S := []) sb).own he1 (hb ▸ fb)).same
    have frb2 : ∀ y ∈ b.every, H3 y = none := fun y hy => by
      rcases frb y hy with rfl | q
      · exact he1
      · exact (Frm.of_same (S := []) sb).free q
    have nB := (Eb []).nd
    have al4 : Alloc b.every H4 := fun z hz => (Eb []).there z hz
    subst ha hb
    have n1 : ([p] ++ a.every).Nodup := nd_snoc (by simp) (fun z hz => by simp at hz; subst hz; exact ⟨_, hp⟩) nA fra2
    have a1 : Alloc ([p] ++ a.every) H3 := Alloc.app (fun z hz => by simp at hz; subst hz; exact ⟨_, s3 _ _ hp⟩) al3
    have n2 := nd_snoc n1 a1 nB frb2
    have a2 := (a1.frm (Frm.of_same (S := []) s4)).app al4
    have Z4 : ∀ {Z}, EndAt T.C_End T.C_Marks Z H4 a (.new ca) := fun {Z} => (Ea Z).same s4
    have step : ∀ {L : List Addr} {K1 : Hp} {y : Addr} {o : HO}, L.Nodup → Alloc L K1 → K1 y = none → (L ++ [y]).Nodup ∧ Alloc (L ++ [y]) (upd K1 y o) := fun {L K1 y o} q1 q2 q3 =>
      ⟨nd_snoc q1 q2 (by simp) (by simp [q3]), (q2.frm (Frm.new (S := []) q3)).app fun z hz => by simp at hz; subst hz; exact ⟨_, upd_same⟩⟩
    -- ends, passing, lost, rows
    refine ⟨(by show 2 ≤ sizeLine; decide), fun es hes => ?_⟩
    obtain ⟨n3, a3⟩ := step (o := .lst [.ref a.e, .ref b.e]) n2 a2 hes
    have t5 := Same.upd_new (o := .lst [.ref a.e, .ref b.e]) hes
    have s5 := (s3.trans s4).trans t5
    have es5 := upd_same (H := H4) (a := es) (o := .lst [.ref a.e, .ref b.e])
    generalize (upd H4 es (.lst [.ref a.e, .ref b.e])) = H5 at t5 s5 es5 a3 ⊢
    have nes : es ≠ p := Ne.symm (fun e => by
      have q := n3
      rw [e] at q
      simp at q)
    refine ⟨_, rfl, iniL (.ref es) (s5 _ _ hp0) T.cl_Line T.no_Line_ends rfl fun H6 p6 f6 => ?_⟩
    have a6 := a3.frm f6
    refine ⟨_, _, rfl, rfl, _, rfl, RgOk.of_le (by decide) (by decide) (by decide) (by decide), fun t ht => ?_⟩
    have t7 := Same.upd_new (o := .tup (rgV 0 (9 + 1))) ht
    refine ⟨(by show 1 ≤ sizeLine; decide), fun l hl => ?_⟩
    have t8 := Same.upd_new (o := .lst [.ref t]) hl
    refine ⟨l, 2, _, rfl, rfl, upd_same, by decide, by decide, (by show 1 * 2 ≤ sizeLine; decide), fun pg hpg => ?_⟩
    have ht8 := t8 _ _ (upd_same (H := H6) (a := t) (o := .tup (rgV 0 (9 + 1))))
    have a8 := (a6.frm (Frm.of_same (S := []) t7)).frm (Frm.of_same (S := []) t8)
    have t78 := t7.trans t8
    generalize (upd (upd H6 t (.tup (rgV 0 (9 + 1)))) l (.lst [.ref t])) = H8 at hpg t8 t78 ht8 a8 ⊢
    obtain ⟨n4, a9⟩ := step (o := .lst [.ref t, .ref t]) n3 a8 hpg
    have t9 := Same.upd_new (o := .lst [.ref t, .ref t]) hpg
    have pg9 := upd_same (H := H8) (a := pg) (o := .lst [.ref t, .ref t])
    have e2 : (List.replicate (2 : Int).toNat [V.ref t]).flatten = [.ref t, .ref t] := rfl
    rw [e2]
    have ht9 := t9 _ _ ht8
    have es8 := t78 _ _ (f6 _ _ es5 (by simp [nes]))
    have p8 := t78 _ _ p6
    have npg : pg ≠ p := Ne.symm (ne_of_none p8 hpg)
    have es9 := t9 _ _ es8
    generalize (upd H8 pg (.lst [.ref t, .ref t])) = H9 at t9 pg9 a9 ht9 es9 ⊢
    refine ⟨_, rfl, iniL (.ref pg) (t9 _ _ p8) T.cl_Line T.no_Line_passing rfl fun H10 p10 f10 => ?_⟩
    have a10 := a9.frm f10
    intro lo hlo
    obtain ⟨n5, a11⟩ := step (o := .dT []) n4 a10 hlo
    have t11 := Same.upd_new (o := .dT []) hlo
    have lo11 := upd_same (H := H10) (a := lo) (o := .dT [])
    have nlo : lo ≠ p := Ne.symm (ne_of_none p10 hlo)
    generalize (upd H10 lo (.dT [])) = H11 at t11 lo11 a11 ⊢
    refine ⟨_, rfl, iniL (.ref lo) (t11 _ _ p10) T.cl_Line T.no_Line_lost rfl fun H12 p12 f12 => ?_⟩
    have a12 := a11.frm f12
    refine ⟨(by show 0 ≤ sizeLine; decide), fun rw hrw => ?_⟩
    obtain ⟨n6, a13⟩ := step (o := .lst []) n5 a12 hrw
    have t13 := Same.upd_new (o := .lst []) hrw
    have rw13 := upd_same (H := H12) (a := rw) (o := .lst [])
    have nrw : rw ≠ p := Ne.symm (ne_of_none p12 hrw)
    generalize (upd H12 rw (.lst [])) = H13 at t13 rw13 a13 ⊢
    refine ⟨_, rfl, iniL (.ref rw) (t13 _ _ p12) T.cl_Line T.no_Line_rows rfl fun H14 p14 f14 => ?_⟩
    -- all of it
    have F5 : Frm [p] H5 H14 := ((((f6.trans (Frm.of_same t78)).trans (Frm.of_same t9)).trans f10).trans ((Frm.of_same t11).trans f12)).trans ((Frm.of_same t13).trans f14)
    have F9 : Frm [p] H9 H14 := (f10.trans ((Frm.of_same t11).trans f12)).trans ((Frm.of_same t13).trans f14)
    have F11 : Frm [p] H11 H14 := f12.trans ((Frm.of_same t13).trans f14)
    have F4 : Frm [p] H4 H14 := (Frm.of_same t5).trans F5
    let x : LoAd := ⟨p, es, pg, rw, lo, a, b⟩
    have ndx : x.every.Nodup := by
      refine (List.Perm.nodup_iff ?_).mp n6
      show ([p] ++ a.every ++ b.every ++ [es] ++ [pg] ++ [lo] ++ [rw]).Perm (p :: es :: pg :: rw :: lo :: (a.every ++ b.every))
      have e1 : [p] ++ a.every ++ b.every ++ [es] ++ [pg] ++ [lo] ++ [rw] = p :: ((a.every ++ b.every) ++ [es, pg, lo, rw]) := by simp [List.append_assoc]
      rw [e1]
      refine List.Perm.cons p (List.perm_append_comm.trans ?_)
      show (es :: pg :: lo :: rw :: (a.every ++ b.every)).Perm _
      exact List.Perm.cons es (List.Perm.cons pg (List.Perm.swap rw lo _))
    have nin : ∀ {y}, y ∈ (es :: pg :: rw :: lo :: (a.every ++ b.every)) → y ∉ [p] := fun {y} hy z => by
      have : y = p := by simpa using z
      subst this
      exact (List.nodup_cons.mp ndx).1 hy
    have pt : H9 t = some (.tup (ten10.map V.int)) := by rw [← rg_ten]; exact ht9
    refine k x H14 rfl (fun Z => ⟨⟨dx, p14⟩, F9 _ _ es9 (nin (y := es) (by simp)), ⟨t, t, F9 _ _ pg9 (nin (y := pg) (by simp)), F9.tups _ _ pt, F9.tups _ _ pt⟩, ⟨[], F11 _ _ lo11 (nin (y := lo) (by simp)), LostD.nil⟩, ⟨[], f14 _ _ rw13 (nin (y := rw) (by simp)), .nil⟩, ?_, ?_, ndx⟩) ?_ (((Frm.of_same (s3.trans s4)).trans F4))
    · exact (((Ea (p :: Z)).same s4).frm F4 (fun y hy => by simp at hy; simp [hy]) fun y hy => nin (by simp [hy])).more fun y hy => .inl (List.mem_cons_of_mem _ hy)
    · exact ((Eb (p :: Z)).frm F4 (fun y hy => by simp at hy; simp [hy]) fun y hy => nin (by simp [hy])).more fun y hy => .inl (List.mem_cons_of_mem _ hy)
    · intro y hy
      have g4 : ∀ y, H4 y = none → H y = none := fun y q => (Frm.of_same (S := []) (s3.trans s4)).free q
      have g9 : ∀ {y}, y ∉ [p] → H9 y = none → H y = none := fun {y} n q => by
        refine g4 y ((Frm.of_same (S := []) t5).free ?_)
        exact ((f6.trans (Frm.of_same t78)).trans (Frm.of_same t9)).free q
      simp only [LoAd.every, LoAd.base, List.mem_append, List.mem_cons, List.not_mem_nil, or_false] at hy
      rcases hy with (rfl | rfl | rfl | rfl | rfl) | hy | hy
      · exact .inl rfl
      · exact .inr (g4 _ hes)
      · exact .inr (g4 _ ((Frm.of_same (S := []) t5).free ((f6.trans (Frm.of_same t78)).free hpg)))
      · exact .inr (g4 _ ((Frm.of_same (S := []) t5).free ((f6.trans (Frm.of_same t78)).free ((Frm.of_same (S := [p]) t9).free (f10.free ((Frm.of_same (S := [p]) t11).free (f12.free hrw)))))))
      · exact .inr (g4 _ ((Frm.of_same (S := []) t5).free ((f6.trans (Frm.of_same t78)).free ((Frm.of_same (S := [p]) t9).free (f10.free hlo)))))
      · exact .inr (fra2 y hy)
      · exact .inr ((Frm.of_same (S := []) s3).free (frb2 y hy))

end
end TL

namespace TL
open PySem PySem.Spec PyProof.Rows L2
section
variable {P : Program} {w : World} {K : PySem.W.Frag} {mg : Str → Option Value} {base : Heap}
/-- steps handed in: fit -/
def sp_played (T : Txt w K mg) : Sp := fun vs H Q E => ∃ (t0 a : Addr) (v1 : V) (d1 : PyData) (ca : List Int) (xs : List V) (ds : List PyData) (g : Nat → Bool), vs = [.ref t0, v1, .ref a] ∧ H t0 = some (.tup (ca.map V.int)) ∧ Im H v1 d1 ∧ mdat d1 ∧ Can ca ∧ H a = some (.lst xs) ∧ ImAll H xs ds ∧ TryAll ds g ∧
  ((isMan d1 = false ∧ ∀ H', Same H H' → E (.ref T.C_BadManners) none H') ∨
   (isMan d1 = true ∧ ∃ m, firstNo g ds.length m ∧ ∀ (dd : Addr) (H' : Hp), Same H H' → H' dd = some (.xd [("at", .int (m : Nat))]) → E (.ref T.C_BadStep) (some dd) H') ∨
   ∃ (cb : List Int) (sts : List StepD), d1 = .tuple (cb.map .int) ∧ Can cb ∧ (∀ i, i < ds.length → i < 200 ∧ g i = true) ∧ StepsAt H xs sts ∧ (∀ st ∈ sts, st.ok) ∧ sts.length ≤ 200 ∧
     ∀ (p : Addr) (ys : List V) (H' : Hp), H p = none → H' p = some (.lst ys) → ToldAll (fun q => q ≠ p ∧ H q = none) H' ys (ansP (.new ca cb) sts) → Same H H' → Q (.ref p) H')
theorem ok_played (T : Txt w K mg) : FnOk P w K mg base (L2.CX P w) 11 T.a_played T.fd_played P_played (sp_played T) := by
  have G_need_manners := ok_need_manners (P := P) (w := w) (base := base) T
  have G_need_steps := ok_need_steps (P := P) (w := w) (base := base) T
  have G_Line_init := ok_Line_init (P := P) (w := w) (base := base) T
  have G_done := ok_done (P := P) (w := w) (base := base) T
  refine T.F_played.okX sc_played (fun vs H Q E h => ?_) (fun cdv A outer s H vs Q E hr h => ?_)
  · obtain ⟨t0, a, v1, d1, ca, xs, ds, g, rfl, _⟩ := h
    rfl
  · obtain ⟨t0, a, v1, d1, ca, xs, ds, g, rfl, h0, im1, md1, hca, hL, hAd, hg, kk⟩ := h
    refine ⟨_, (pss_cons (ps_expr (pe_call G_need_manners (hr.mono (by decide)) rfl T.g_need_manners T.F_need_manners.kp T.b_need_manners .nil (passes_call (takes_of rfl rfl rfl rfl) (fun _ _ _ _ h => h)) (pa_cons (pv 0) pa_nil)))
    (pss_cons (ps_expr (pe_call G_need_manners (hr.mono (by decide)) rfl T.g_need_manners T.F_need_manners.kp T.b_need_manners .nil (passes_call (takes_of rfl rfl rfl rfl) (fun _ _ _ _ h => h)) (pa_cons (pv 1) pa_nil)))
    (pss_cons (ps_expr (pe_call G_need_steps (hr.mono (by decide)) rfl T.g_need_steps T.F_need_steps.kp T.b_need_steps .nil (passes_call (takes_of rfl rfl rfl rfl) (fun _ _ _ _ h => h)) (pa_cons (pv 2) pa_nil)))
    (pss_cons (ps_set (i := 3) sc_played.nd rfl (by first | exact Or.inl rfl | exact Or.inr rfl) (pe_make T.M_Line G_Line_init (hr.mono (by decide)) rfl T.c_Line T.b_Line_init .nil pass0 (pa_cons (pv 0) (pa_cons (pv 1) pa_nil))))
    (pss_one (ps_ret (pe_lc (own := [("step", 4)]) (g := (gName 4)) (tt := tYes) (te := (tCall _ [] E0 (tCons (tVar 3) (tCons (tVar 4) tNil)))) rfl sc_played.nd (pi_list (pv 2)) (blkOk_by (own := [("step", 4)]) (N := N_played) (sc := defScope s_played) (by decide +kernel)) (fun _ _ _ _ _ => (pg_name (i := 4) sc_played.nd rfl (by first | exact Or.inl rfl | exact Or.inr rfl))) (fun _ _ _ _ _ => pts_nil) (fun _ _ _ _ _ => (pe_call G_done (hr.mono (by decide)) rfl T.g_done T.F_done.kp T.b_done .nil pass0 (pa_cons (pv 3) (pa_cons (pv 4) pa_nil))))))))))), ?_⟩
    refine ⟨_, rfl, .ref t0, .tuple (ca.map .int), rfl, .tup (SqT.of h0) (dp_ints _), mdat_ints hca.2.2.2, fun _ H1 s1 => ?_, fun z => absurd z (by rw [isMan_ints hca]; simp)⟩
    refine ⟨_, rfl, v1, d1, rfl, (im1.same s1).dp, md1, fun hm H2 s2 => ?_, fun hm H2 s2 => by
      rcases kk with ⟨_, k⟩ | ⟨z, _⟩ | ⟨cb, _, rfl, hcb, _⟩
      · exact k H2 (s1.trans s2)
      · rw [hm] at z; cases z
      · rw [isMan_ints hcb] at hm; cases hm⟩
    have s02 := s1.trans s2
    refine ⟨_, rfl, a, xs, ds, g, rfl, SqL.of (s02 _ _ hL), hAd.same s02, hg, fun m hm1 dd H3 s3 hx => ?_, fun hall H3 s3 => ?_⟩
    · rcases kk with ⟨z, _⟩ | ⟨_, m', hm', k⟩ | ⟨_, _, _, _, hall, _⟩
      · rw [hm] at z; cases z
      · have e : m = m' := by
          obtain ⟨a1, a2, a3⟩ := hm1
          obtain ⟨b1, b2, b3⟩ := hm'
          rcases Nat.lt_trichotomy m m' with q | q | q
          · obtain ⟨c1, c2⟩ := b3 m q
            rcases a2 with z | z
            · omega
            · rw [c2] at z; cases z
          · exact q
          · obtain ⟨c1, c2⟩ := a3 m' q
            rcases b2 with z | z
            · omega
            · rw [c2] at z; cases z
        subst e
        exact k dd H3 (s02.trans s3) hx
      · obtain ⟨a1, a2, a3⟩ := hm1
        obtain ⟨c1, c2⟩ := hall m a1
        rcases a2 with z | z
        · omega
        · rw [c2] at z; cases z
    rcases kk with ⟨z, _⟩ | ⟨_, m', ⟨a1, a2, _⟩, _⟩ | ⟨cb, sts, rfl, hcb, _, hA, hok, hlen, k⟩
    · rw [hm] at z; cases z
    · obtain ⟨c1, c2⟩ := hall m' a1
      rcases a2 with z | z
      · omega
      · rw [c2] at z; cases z
    obtain ⟨t1, rfl, h1⟩ := im_can_inv im1
    have s03 := s02.trans s3
    -- the line
    refine ⟨_, rfl, _, rfl, ?_⟩
    intro o d ho hd nd
    have sa : Same H3 (upd (upd H3 d (.own o)) o (.ins T.C_Line d [])) := (Same.upd_new hd).trans (Same.upd_new (by rw [upd_ne (Ne.symm nd)]; exact ho))
    have s0a := s03.trans sa
    refine ⟨o, d, t0, t1, ca, cb, rfl, upd_same, s0a _ _ h0, s0a _ _ h1, hca, hcb, fun x H4 ex Mx fr f4 => ⟨rfl, ?_⟩⟩
    have s04 : Same H H4 := (((Frm.of_same (S := []) s03).trans (Frm.of_same sa)).own ((Frm.of_same (S := []) s03).free ho) f4).same
    have hL4 := s04 _ _ hL
    have alln : ∀ y ∈ x.every, H y = none := fun y hy => by
      rcases fr y hy with rfl | q
      · exact (Frm.of_same (S := []) s03).free ho
      · exact (Frm.of_same (S := []) s0a).free q
    subst ex
    -- the steps
    refine ⟨_, rfl, a, rfl, ⟨_, SqL.of hL4⟩, fun D hD => ?_⟩
    have nDx : D ∉ x.every := (Mx []).ne_new hD
    have DH : H D = none := (Frm.of_same (S := []) s04).free hD
    have hDa : a ≠ D := ne_of_none hL4 hD
    refine lc_list (K := K) (a := a) (xs := xs) (fun i H' => Same H H' ∧ ∃ (Z : List Addr) (x' : LoAd) (ys : List V), x'.o = x.o ∧ LoAt T.C_Line T.C_End T.C_Marks Z H' x' (runP (.new ca cb) (sts.take i)) ∧ (∀ z ∈ x'.all, z ∈ Z) ∧ D ∈ Z ∧ Alloc Z H' ∧ D ∉ x'.every ∧ (∀ z ∈ x'.all, H z = none) ∧ H' D = some (.lst ys) ∧ ToldAll (fun q => H q = none ∧ q ∉ D :: x'.all) H' ys (ansP (.new ca cb) (sts.take i)))
      ⟨s04.trans (Same.upd_new hD), D :: x.all, x, [], rfl, (Mx _).same (Same.upd_new hD), fun z hz => List.mem_cons_of_mem _ hz, by simp, ?_, nDx, fun z hz => alln z (x.sub_all z hz), upd_same, ToldAll.nil⟩ (fun i H' _ h => SqL.of (h.1 _ _ hL)) ?_ ?_
    · intro z hz
      rcases List.mem_cons.mp hz with rfl | hz
      · exact ⟨_, upd_same⟩
      · exact ((Mx []).same (Same.upd_new hD)).there z (x.sub_all z hz)
    · rintro i v H5 hi ⟨s5, Z, x', ys, e1, M5, hZ, DZ, AZ, nD, own, hD5, told⟩
      obtain ⟨b, st, hst, rfl, hb⟩ := (hA.same s5).get hi
      have il : i < sts.length := (List.getElem?_eq_some_iff.mp hst).1
      have ek : (sts.take i).length = i := by rw [List.length_take]; omega
      have ok0 := (PlOk.run (sts := sts.take i) (PlOk.new hca hcb) (by omega) fun st hs => hok st (List.mem_of_mem_take hs)).1
      rw [ek] at ok0
      refine ⟨rfl, _, rfl, _, rfl, Z, x', _, b, st, 0 + i, by rw [e1]; rfl, M5, hZ, AZ, ok0, by omega, hb, hok st (List.mem_of_getElem? hst), fun Z6 x6 v6 H6 e6 M6 hZ6 hZZ A6 own6 ow6 f6 t6 => ?_⟩
      have nDx' : D ∉ x'.all := fun z => nD (x'.sub_all _ z)
      have hD6 := f6 _ _ hD5 nDx'
      have nD6 : D ∉ x6.every := fun z => (ow6 _ z).elim nD fun q => by rw [hD5] at q; cases q
      have own6' : ∀ z ∈ x6.all, H z = none := fun z hz => (own6 z hz).elim (own z) fun q => (Frm.of_same (S := []) s5).free q
      have s6 : Same H H6 := (frm_owns2 (S := []) (Frm.of_same s5) (fun l hl => .inr (own l hl)) f6).same
      have fD : Frm [D] H6 (upd H6 D (.lst (ys ++ [v6]))) := Frm.updL hD6
      have e1r : runP (.new ca cb) (sts.take (i + 1)) = (doneF (runP (.new ca cb) (sts.take i)) st).1 := by
        rw [take_more hst, runP_app]
        rfl
      have e1a : ansP (.new ca cb) (sts.take (i + 1)) = ansP (.new ca cb) (sts.take i) ++ [(doneF (runP (.new ca cb) (sts.take i)) st).2] := by
        rw [take_more hst, ansP_app]
        rfl
      have yl : ys.length ≤ 1000 := by
        rw [told.1, ansP_len, ek]
        omega
      refine ⟨_, hD6, small1000 yl, ((Frm.of_same (S := []) s6).own DH fD).same, Z6, x6, ys ++ [v6], e6.trans e1, ?_, hZ6, hZZ _ DZ, A6.frm fD, nD6, own6', upd_same, ?_⟩
      · rw [e1r]
        exact M6.frm fD (fun y hy => by simp at hy; subst hy; exact hZZ _ DZ) fun y hy z => by simp at z; subst z; exact nD6 hy
      · rw [e1a]
        have out6 : ∀ q, H q = none → q ∉ D :: x'.all → (∃ o, H5 q = some o) → q ∉ D :: x6.all := fun q _ hq ⟨o, ho⟩ z => by
          rcases List.mem_cons.mp z with rfl | z
          · exact hq (by simp)
          · rcases own6 q z with z | z
            · exact hq (List.mem_cons_of_mem _ z)
            · rw [ho] at z
              cases z
        refine ((told.frm (B' := fun q => H q = none ∧ q ∉ D :: x6.all) f6 fun q hq ho => ⟨⟨hq.1, out6 q hq.1 hq.2 ho⟩, fun z => hq.2 (List.mem_cons_of_mem _ z)⟩).snoc ?_).frm fD fun q hq _ => ⟨hq, fun z => hq.2 (by simp at z; simp [z])⟩
        refine t6.frm (S := []) (.refl _ _) fun q hq ho => ⟨⟨(Frm.of_same (S := []) s5).free hq.1, fun z => ?_⟩, by simp⟩
        rcases List.mem_cons.mp z with rfl | z
        · have q := hq.1
          rw [hD5] at q
          cases q
        · exact hq.2 z
    · rintro H5 ⟨s5, Z, x', ys, e1, M5, hZ, DZ, AZ, nD, own, hD5, told⟩
      rw [hA.1, List.take_length] at told
      exact k D ys H5 DH hD5 (told.frm (Frm.of_same (S := []) (.refl _)) fun q hq _ => ⟨⟨fun e => hq.2 (by simp [e]), hq.1⟩, by simp⟩) s5

end
end TL

namespace TL
open PySem PySem.Spec PyProof.Rows L2
section
variable {P : Program} {w : World} {K : PySem.W.Frag} {mg : Str → Option Value} {base : Heap}
def sp_word_of (T : Txt w K mg) : Sp := fun vs H Q _ => ∃ (v : V) (d : PyData), vs = [v] ∧ Im H v d ∧ PartOk d ∧ ∀ H', Same H H' → Q (.str (partText d)) H'
theorem ok_word_of (T : Txt w K mg) : FnOk P w K mg base CX0 1 T.a_word_of T.fd_word_of P_word_of (sp_word_of T) := by
  skip
  refine T.F_word_of.ok sc_word_of (fun vs H Q E h => ?_) (fun cdv A outer s H vs Q E hr h => ?_)
  · obtain ⟨v, d, rfl, _⟩ := h
    rfl
  · obtain ⟨v, d, rfl, im, ok, k⟩ := h
    refine ⟨_, (pss_one (ps_ret (pe_ifExp (pt_val (pe_callB call_isi (by rfl) T.n_isinstance (by decide +kernel) (pa_cons (pv 0) (pa_cons (pe_bltn (v := .ty "tuple") (u := .type "tuple") (by rfl) T.n_tuple (by decide +kernel) rfl) pa_nil)))) (pe_join pe_str (pe_lc (own := [("manner", 1)]) (g := (gName 1)) (tt := tYes) (te := (tCB (fun xs H Q => ∃ i, xs = [.int i] ∧ i.natAbs.log2 < 1920 ∧ Q (.str (toString i)) H) (tCons (tVar 1) tNil))) rfl sc_word_of.nd (pi_tup (pv 0)) (blkOk_by (own := [("manner", 1)]) (N := N_word_of) (sc := defScope s_word_of) (by decide +kernel)) (fun _ _ _ _ _ => (pg_name (i := 1) sc_word_of.nd rfl (by first | exact Or.inl rfl | exact Or.inr rfl))) (fun _ _ _ _ _ => pts_nil) (fun _ _ _ _ _ => (pe_callTy call_str_int (by rfl) T.n_str (by decide +kernel) (pa_cons (pv 1) pa_nil))))) (pe_callTy TLstr (by rfl) T.n_str (by decide +kernel) (pa_cons (pv 0) pa_nil))))), ?_⟩
    cases d with
    | str z =>
      cases im
      exact ⟨_, rfl, _, _, _, _, _, rfl, .ty _, tyx_D (K := K) (.str _), kit_ty kb_st, _, rfl, iteF ⟨_, rfl, .inr ⟨_, rfl, k _ (.refl _)⟩⟩⟩
    | int i =>
      cases im
      exact ⟨_, rfl, _, _, _, _, _, rfl, .ty _, tyx_D (K := K) (.int _), kit_ty kb_it, _, rfl, iteF ⟨_, rfl, .inl ⟨_, rfl, log2_999 ok.1 ok.2, k _ (.refl _)⟩⟩⟩
    | tuple ds =>
      obtain ⟨ms, rfl, hms⟩ := ok
      obtain ⟨t, rfl, ht⟩ := im_can_inv im
      refine ⟨_, rfl, _, _, _, _, _, rfl, .ty _, tyx_T (SqT.of ht), kit_ty kb_tt, _, rfl, iteT ?_⟩
      refine ⟨⟨_, rfl⟩, _, rfl, t, rfl, ⟨_, SqT.of ht⟩, fun D hD => ?_⟩
      refine lc_tup (K := K) (a := t) (xs := ms.map V.int) (fun i H' => Same H H' ∧ H' D = some (.lst (((ms.take i).map fun m => Str.ofString (toString m)).map V.str))) ⟨Same.upd_new hD, upd_same⟩ (fun i H' _ h => SqT.of (h.1 _ _ ht)) ?_ ?_
      · rintro i v H1 hi ⟨s1, hD1⟩
        obtain ⟨m, hm, rfl⟩ := getmap hi
        have hil : i < ms.length := (List.getElem?_eq_some_iff.mp hm).1
        obtain ⟨m0, m9⟩ := hms.1 m (List.mem_of_getElem? hm)
        have := can_len hms
        refine ⟨rfl, _, rfl, _, rfl, log2_999 m0 (by omega), _, hD1, (by rw [List.length_map, List.length_map, List.length_take]; exact small1000 (by omega)), ((Frm.of_same s1).own hD (Frm.updL hD1)).same, ?_⟩
        rw [upd_same, take_more hm, List.map_append, List.map_append]
        rfl
      · rintro H1 ⟨s1, hD1⟩
        rw [List.length_map, List.take_length] at hD1
        have := can_len hms
        have q := sum_le (m := 3) (l := ms.map fun m => Str.ofString (toString m)) (fun x hx => by
          obtain ⟨m, hm, rfl⟩ := List.mem_map.mp hx
          obtain ⟨m0, m9⟩ := hms.1 m hm
          exact int_len m0 (by omega))
        refine ⟨_, D, _, rfl, rfl, .inl (SqL.of hD1), (by rw [comma_len, List.length_map] at *; omega), ?_⟩
        have e : Txt.join "," (ms.map fun m => Str.ofString (toString m)) = partText (.tuple (ms.map .int)) := by
          show _ = Txt.join "," ((ms.map PyData.int).map fun e => Str.ofString (toString (intOf e)))
          rw [List.map_map]
          rfl
        rw [e]
        exact k _ s1
    | none => exact ok.elim
    | bool b => exact ok.elim
    | list ds => exact ok.elim
    | dict ds => exact ok.elim

end
end TL

namespace TL
open PySem PySem.Spec PyProof.Rows L2
section
variable {P : Program} {w : World} {K : PySem.W.Frag} {mg : Str → Option Value} {base : Heap}
def sp_lines_of (T : Txt w K mg) : Sp := fun vs H Q E => ∃ (a : Addr) (xs : List V) (ds : List PyData) (g : Nat → Bool), vs = [.ref a] ∧ SqL K H a xs ∧ ImAll H xs ds ∧ TryAll ds g ∧
  ((∃ m, firstNo g ds.length m ∧ ∀ (dd : Addr) (H' : Hp), Same H H' → H' dd = some (.xd [("at", .int (m : Nat))]) → E (.ref T.C_BadStep) (some dd) H') ∨
   ∃ sts : List StepD, (∀ i, i < ds.length → i < 200 ∧ g i = true) ∧ StepsAt H xs sts ∧ (∀ st ∈ sts, st.ok) ∧ sts.length ≤ 200 ∧ ∀ H', Same H H' → Q (.str (playText sts)) H')
theorem ok_lines_of (T : Txt w K mg) : FnOk P w K mg base (L2.CX P w) 6 T.a_lines_of T.fd_lines_of P_lines_of (sp_lines_of T) := by
  have G_need_steps := ok_need_steps (P := P) (w := w) (base := base) T
  have G_word_of := ok_word_of (P := P) (w := w) (base := base) T
  refine T.F_lines_of.okX sc_lines_of (fun vs H Q E h => ?_) (fun cdv A outer s H vs Q E hr h => ?_)
  · obtain ⟨a, xs, ds, g, rfl, _⟩ := h
    rfl
  · obtain ⟨a, xs, ds, g, rfl, hL, hAd, hg, kk⟩ := h
    refine ⟨_, (pss_cons (ps_expr (pe_call G_need_steps (hr.mono (by decide)) rfl T.g_need_steps T.F_need_steps.kp T.b_need_steps .nil (passes_call (takes_of rfl rfl rfl rfl) (fun _ _ _ _ h => h)) (pa_cons (pv 0) pa_nil)))
    (pss_one (ps_ret (pe_join pe_str (pe_lc (own := [("step", 2)]) (g := (gName 2)) (tt := tYes) (te := (tM1 (fun x xs H Q => ∃ a p, ∃ ys : List Str, x = .str a ∧ xs = [.ref p] ∧ (SqL K H p (ys.map V.str) ∨ SqT K H p (ys.map V.str)) ∧ (ys.map (·.length)).sum + ys.length * a.length ≤ 16777216 ∧ Q (.str (Txt.join a ys)) H) (tC (.str " ")) (tLc (iTup K (tVar 2)) (gName 1) tYes (tCall _ [] E0 (tCons (tVar 1) tNil)) [1]))) rfl sc_lines_of.nd (pi_list (pv 0)) (blkOk_by (own := [("step", 2)]) (N := N_lines_of) (sc := defScope s_lines_of) (by decide +kernel)) (fun _ _ _ _ _ => (pg_name (i := 2) sc_lines_of.nd rfl (by first | exact Or.inl rfl | exact Or.inr rfl))) (fun _ _ _ _ _ => pts_nil) (fun _ _ _ _ _ => (pe_join pe_str (pe_lc (own := [("part", 1)]) (g := (gName 1)) (tt := tYes) (te := (tCall _ [] E0 (tCons (tVar 1) tNil))) rfl sc_lines_of.nd (pi_tup (pv 2)) (by refine blkOk_in (by show blkD N_lines_of _ _ = true; decide +kernel) ?_; repeat (first | exact trivial | refine ⟨.inl rfl, ?_⟩ | refine ⟨.inr rfl, ?_⟩)) (fun _ _ _ _ _ => (pg_name (i := 1) sc_lines_of.nd rfl (by first | exact Or.inl rfl | exact Or.inr rfl))) (fun _ _ _ _ _ => pts_nil) (fun _ _ _ _ _ => (pe_call G_word_of (hr.mono (by decide)) rfl T.g_word_of T.F_word_of.kp T.b_word_of .nil pass0 (pa_cons (pv 1) pa_nil))))))))))), ?_⟩
    refine ⟨_, rfl, a, xs, ds, g, rfl, hL, hAd, hg, fun m hm1 dd H3 s3 hx => ?_, fun hall H3 s3 => ?_⟩
    · rcases kk with ⟨m', hm', k⟩ | ⟨_, hall, _⟩
      · have e : m = m' := by
          obtain ⟨a1, a2, a3⟩ := hm1
          obtain ⟨b1, b2, b3⟩ := hm'
          rcases Nat.lt_trichotomy m m' with q | q | q
          · obtain ⟨c1, c2⟩ := b3 m q
            rcases a2 with z | z
            · omega
            · rw [c2] at z; cases z
          · exact q
          · obtain ⟨c1, c2⟩ := a3 m' q
            rcases b2 with z | z
            · omega
            · rw [c2] at z; cases z
        subst e
        exact k dd H3 s3 hx
      · obtain ⟨a1, a2, a3⟩ := hm1
        obtain ⟨c1, c2⟩ := hall m a1
        rcases a2 with z | z
        · omega
        · rw [c2] at z; cases z
    rcases kk with ⟨m', ⟨a1, a2, _⟩, _⟩ | ⟨sts, _, hA, hok, hlen, k⟩
    · obtain ⟨c1, c2⟩ := hall m' a1
      rcases a2 with z | z
      · omega
      · rw [c2] at z; cases z
    have hL3 := s3.seq hL
    have hA3 := hA.same s3
    refine ⟨⟨_, rfl⟩, _, rfl, a, rfl, ⟨_, hL3⟩, fun D hD => ?_⟩
    refine lc_list (K := K) (a := a) (xs := xs) (fun i H' => Same H3 H' ∧ H' D = some (.lst (((sts.take i).map stepText).map V.str))) ⟨Same.upd_new hD, upd_same⟩ (fun i H' _ h => h.1.seq hL3) ?_ ?_
    · rintro i v H4 hi ⟨s4, hD4⟩
      obtain ⟨b, st, hst, rfl, hb⟩ := (hA3.same s4).get hi
      obtain ⟨ps, hb1, hps⟩ := hb.parts
      have ok := hok st (List.mem_of_getElem? hst)
      have il : i < sts.length := (List.getElem?_eq_some_iff.mp hst).1
      refine ⟨rfl, ⟨_, rfl⟩, _, rfl, b, rfl, ⟨_, SqT.of hb1⟩, fun D2 hD2 => ?_⟩
      refine lc_tup (K := K) (a := b) (xs := ps) (fun j H' => Same H4 H' ∧ H' D2 = some (.lst ((((stepParts st).take j).map partText).map V.str))) ⟨Same.upd_new hD2, upd_same⟩ (fun j H' _ h => SqT.of (h.1 _ _ hb1)) ?_ ?_
      · rintro j v H5 hj ⟨s5, hD5⟩
        obtain ⟨e, he, ime⟩ := (hps.same s5).get' hj
        have jl : j < (stepParts st).length := (List.getElem?_eq_some_iff.mp he).1
        have := parts_few st
        refine ⟨rfl, _, rfl, v, e, rfl, ime, parts_ok ok e (List.mem_of_getElem? he), fun H6 s6 => ?_⟩
        have hD6 := s6 _ _ hD5
        refine ⟨_, hD6, (by rw [List.length_map, List.length_map, List.length_take]; exact small1000 (by omega)), ((Frm.of_same (s5.trans s6)).own hD2 (Frm.updL hD6)).same, ?_⟩
        rw [upd_same, take_more he, List.map_append, List.map_append]
        rfl
      · rintro H5 ⟨s5, hD5⟩
        rw [hps.length, List.take_length] at hD5
        have q := sum_le (step_texts ok)
        have := parts_few st
        refine ⟨_, D2, _, rfl, rfl, .inl (SqL.of hD5), (by rw [blank_len]; rw [List.length_map] at *; omega), ?_⟩
        have hD6 := s5 _ _ hD4
        refine ⟨_, hD6, (by rw [List.length_map, List.length_map, List.length_take]; exact small1000 (by omega)), ((Frm.of_same (s4.trans s5)).own hD (Frm.updL hD6)).same, ?_⟩
        rw [upd_same, take_more hst, List.map_append, List.map_append]
        rfl
    · rintro H4 ⟨s4, hD4⟩
      rw [hA.1, List.take_length] at hD4
      have q := sum_le (m := 723) (l := sts.map stepText) (fun x hx => by
        obtain ⟨st, hst, rfl⟩ := List.mem_map.mp hx
        exact step_len (hok st hst))
      exact ⟨_, D, _, rfl, rfl, .inl (SqL.of hD4), (by rw [line_len1]; rw [List.length_map] at *; omega), k _ (s3.trans s4)⟩

end
end TL

namespace TL
open PySem PySem.Spec PyProof.Rows L2
section
variable {P : Program} {w : World} {K : PySem.W.Frag} {mg : Str → Option Value} {base : Heap}
def sp__law_dice (T : Txt w K mg) : Sp := fun vs H Q _ => ∃ (a : Addr) (ns : List Int) (k : Int), vs = [.ref a, .int k] ∧ SqL K H a (ns.map V.int) ∧ ns.length ≤ 63 ∧
  ∀ (p : Addr) (H' : Hp), H p = none → DiceAt H' p → Same H H' → Q (.ref p) H'
theorem ok__law_dice (T : Txt w K mg) : FnOk P w K mg base CX0 1 T.a__law_dice T.fd__law_dice P__law_dice (sp__law_dice T) := by
  skip
  refine T.F__law_dice.ok sc__law_dice (fun vs H Q E h => ?_) (fun cdv A outer s H vs Q E hr h => ?_)
  · obtain ⟨a, ns, k, rfl, _⟩ := h
    rfl
  · obtain ⟨a, ns, kz, rfl, hS, hl, k⟩ := h
    refine ⟨_, (pss_cons (ps_set (i := 2) sc__law_dice.nd rfl (by first | exact Or.inl rfl | exact Or.inr rfl) (pv 1))
    (pss_cons (ps_for PassesOwn.never rfl (pi_list (pv 0)) (pg_name (i := 3) sc__law_dice.nd rfl (by first | exact Or.inl rfl | exact Or.inr rfl))
      (pss_one (ps_set (i := 2) sc__law_dice.nd rfl (by first | exact Or.inl rfl | exact Or.inr rfl) (pe_op op_mod (pe_op op_add (pe_op op_mul (pv 2) pe_int) (pe_callB call_abs (by rfl) T.n_abs (by decide +kernel) (pa_cons (pv 3) pa_nil))) pe_int))))
    (pss_one (ps_ret (pe_op op_cat (pe_lst (pa_cons (pv 2) (pa_cons pe_int pa_nil))) (pe_lc (own := [("_law_cell", 3)]) (g := (gName 3)) (tt := (tTest (tOp (rI0 fun i j => .bl (decide (j ≤ i))) (tVar 3) (tOp (rI CPow fun i j => .int (i ^ j.toNat)) (tC (.int 10)) (tC (.int 18)))))) (te := (tVar 3)) rfl sc__law_dice.nd (pi_list (pv 0)) (blkOk_by (own := [("_law_cell", 3)]) (N := N__law_dice) (sc := defScope s__law_dice) (by decide +kernel)) (fun _ _ _ _ _ => (pg_name (i := 3) sc__law_dice.nd rfl (by first | exact Or.inl rfl | exact Or.inr rfl))) (fun _ _ _ _ _ => (pts_one (pt_cmpR op_ge (pv 3) (pe_op op_pow pe_int pe_int) (nomark _)))) (fun _ _ _ _ _ => (pv 3)))))))), ?_⟩
    refine ⟨_, rfl, ?_⟩
    refine ⟨_, rfl, a, rfl, ⟨_, hS⟩, for_list (K := K) (a := a) (xs := ns.map V.int) (fun i σ H2 => H2 = H ∧ ∃ (f : Int) (v : Option V), σ = [some (.ref a), some (.int kz), some (.int f), v])
      ⟨rfl, _, _, rfl⟩ (fun i σ H2 _ ⟨e, _⟩ => by rw [e]; exact hS) ?_ ?_⟩
    · rintro i y σ H2 hi ⟨rfl, f, v, rfl⟩
      obtain ⟨z, hz, rfl⟩ := getmap hi
      exact ⟨_, rfl, _, _, rfl, rfl, .inr (by decide), _, rfl, _, rfl, _, _, rfl, rfl, _, _, rfl, rfl, (by show (0 : Int) < 2147483647; decide), rfl, _, _, rfl⟩
    · rintro σ H2 ⟨rfl, f, v, rfl⟩
      refine ⟨_, rfl, (by show 2 ≤ sizeLine; decide), fun l hlz => ?_⟩
      have s1 : Same H2 (upd H2 l (.lst [.int f, .int 0])) := Same.upd_new hlz
      refine ⟨_, rfl, a, rfl, ⟨_, s1.seq hS⟩, fun D hD => ?_⟩
      refine lc_list (K := K) (a := a) (xs := ns.map V.int) (fun i H3 => ∃ ms : List Int, H3 D = some (.lst (ms.map V.int)) ∧ ms.length ≤ i ∧ Same (upd H2 l (.lst [.int f, .int 0])) H3)
        ⟨[], upd_same, Nat.le_refl _, Same.upd_new hD⟩ (fun i H3 _ ⟨_, _, _, s3⟩ => s3.seq (s1.seq hS)) ?_ ?_
      · rintro i y H3 hi ⟨ms, hm, hml, s3⟩
        obtain ⟨z, hz, rfl⟩ := getmap hi
        have hil : i < ns.length := (List.getElem?_eq_some_iff.mp hz).1
        refine ⟨rfl, _, rfl, _, _, rfl, rfl, ⟨by decide, by decide, by decide⟩, _, _, rfl, rfl, _, rfl, ?_⟩
        refine iteD (fun h0 => ?_) (fun h0 => ⟨ms, hm, Nat.le_succ_of_le hml, s3⟩)
        refine ⟨_, rfl, _, hm, by rw [List.length_map]; exact small1000 (by omega), ms ++ [z], by rw [upd_same, List.map_append]; rfl, by simp; omega, fun b o e => ?_⟩
        rw [upd_ne (fun q => ?_)]
        · exact s3 b o e
        · subst q
          rw [hD] at e
          cases e
      · rintro H3 ⟨ms, hm, hml, s3⟩
        rw [List.length_map] at hml
        have hlH : H3 l = some (.lst [.int f, .int 0]) := s3 _ _ upd_same
        refine ⟨l, D, _, _, rfl, rfl, hlH, hm, by rw [List.length_map]; exact Nat.le_of_lt (small1000 (by simp; omega)), fun p hp => ?_⟩
        refine k p _ ((s1.trans s3).free hp) ⟨f :: 0 :: ms, by rw [upd_same]; rfl, by simp, by simp; omega⟩ ((s1.trans s3).trans (Same.upd_new hp))

end
end TL

namespace TL
open PySem PySem.Spec PyProof.Rows L2
section
variable {P : Program} {w : World} {K : PySem.W.Frag} {mg : Str → Option Value} {base : Heap}
def sp__law_off (T : Txt w K mg) : Sp := fun vs H Q _ => ∃ (d : Addr) (m : Int), vs = [.ref d, .int m] ∧ DiceAt H d ∧ 0 < m ∧ m < 1073741824 ∧
  ∀ (r : Int) (H' : Hp), 0 ≤ r → r < m → DiceAt H' d → Frm [d] H H' → Q (.int r) H'
theorem ok__law_off (T : Txt w K mg) : FnOk P w K mg base CX0 1 T.a__law_off T.fd__law_off P__law_off (sp__law_off T) := by
  skip
  refine T.F__law_off.ok sc__law_off (fun vs H Q E h => ?_) (fun cdv A outer s H vs Q E hr h => ?_)
  · obtain ⟨d, m, rfl, _⟩ := h
    rfl
  · obtain ⟨d, m, rfl, ⟨ns, hd, hl, hl2⟩, hm0, hm1, k⟩ := h
    obtain ⟨a, b, r, rfl⟩ : ∃ a b r, ns = a :: b :: r := by
      match ns, hl with
      | a :: b :: r, _ => exact ⟨a, b, r, rfl⟩
    refine ⟨_, (pss_cons (ps_if (PW.pt (pw_and (pt_cmpR op_eq (pe_ix ix_list (pv 0) pe_int (fun _ _ => rfl)) pe_int (nomark _)) (pw_and1 (pt_cmpR op_gt (pe_callB call_len_seq (by rfl) T.n_len (by decide +kernel) (pa_cons (pv 0) pa_nil)) pe_int (nomark _)))))
      (pss_one (ps_asg (pe_bm PySem.F.plainAttrs_list PySem.F.slot_list_pop PySem.F.type_list_pop mt_popAt (pv 0) (pa_cons pe_int pa_nil)) (pg_sub (pv 0) pe_int set_list)))
      pss_nil)
    (pss_cons (ps_if (pt_cmpR op_gt (pe_ix ix_list (pv 0) pe_int (fun _ _ => rfl)) pe_int (nomark _))
      (pss_cons (ps_set (i := 2) sc__law_off.nd rfl (by first | exact Or.inl rfl | exact Or.inr rfl) (pe_op op_mod (pe_ix ix_list (pv 0) pe_int (fun _ _ => rfl)) (pv 1)))
      (pss_cons (ps_asg (pe_op op_fdiv (pe_ix ix_list (pv 0) pe_int (fun _ _ => rfl)) (pv 1)) (pg_sub (pv 0) pe_int set_list))
      (pss_one (ps_ret (pv 2)))))
      pss_nil)
    (pss_cons (ps_asg (pe_op op_mod (pe_op op_add (pe_op op_mul (pe_ix ix_list (pv 0) pe_int (fun _ _ => rfl)) pe_int) pe_int) pe_int) (pg_sub (pv 0) pe_int set_list))
    (pss_one (ps_ret (pe_op op_mod (pe_op op_fdiv (pe_ix ix_list (pv 0) pe_int (fun _ _ => rfl)) pe_int) (pv 1))))))), ?_⟩
    have key : ∀ (H1 : Hp) (a b : Int) (r : List Int), H1 d = some (.lst ((a :: b :: r).map V.int)) → (a :: b :: r).length ≤ 65 → Frm [d] H H1 → tSeq (tIfS (tTest (tOp (rI0 fun i j => .bl (decide (j < i))) (tOp (rIxL K) (tVar 0) (tC (.int 1))) (tC (.int 0)))) (tSeq (tAsg (tOp (rI (fun _ j => 0 < j) fun i j => .int (i % j)) (tOp (rIxL K) (tVar 0) (tC (.int 1))) (tVar 1)) (gName 2)) (tSeq (tAsg (tOp (rI CDiv fun i j => .int (i / j)) (tOp (rIxL K) (tVar 0) (tC (.int 1))) (tVar 1)) (gSub (tVar 0) (tC (.int 1)) rSetL)) (tRet (tVar 2)))) tNext)
        (tSeq (tAsg (tOp (rI (fun _ j => 0 < j) fun i j => .int (i % j)) (tOp (rI0 fun i j => .int (i + j)) (tOp (rI CMul fun i j => .int (i * j)) (tOp (rIxL K) (tVar 0) (tC (.int 0))) (tC (.int 48271))) (tC (.int 11))) (tC (.int 2147483647))) (gSub (tVar 0) (tC (.int 0)) rSetL))
          (tRet (tOp (rI (fun _ j => 0 < j) fun i j => .int (i % j)) (tOp (rI CDiv fun i j => .int (i / j)) (tOp (rIxL K) (tVar 0) (tC (.int 0))) (tC (.int 64))) (tVar 1))))
        { nx := fun _ H' => Q .non H', rt := Q } [some (.ref d), some (.int m), none] H1 := by
      intro H1 a b r h1 hl e1
      have dz : (ixN ((a :: b :: r).map V.int).length 1) = some 1 := by
        unfold ixN
        simp only [List.length_map, List.length_cons]
        rw [if_pos (by omega), if_pos (by omega)]
        rfl
      have dz0 : (ixN ((a :: b :: r).map V.int).length 0) = some 0 := by
        unfold ixN
        simp only [List.length_map, List.length_cons]
        rw [if_pos (by omega), if_pos (by omega)]
        rfl
      refine ⟨_, rfl, d, _, _, .int b, rfl, rfl, SqL.of h1, atI_nat (j := 1) rfl, _, _, rfl, rfl, _, rfl, ?_⟩
      refine iteD (fun h0 => ?_) (fun h0 => ?_)
      · refine ⟨_, rfl, d, _, _, .int b, rfl, rfl, SqL.of h1, atI_nat (j := 1) rfl, _, rfl, _, _, rfl, rfl, hm0, ?_⟩
        refine ⟨_, rfl, d, _, _, .int b, rfl, rfl, SqL.of h1, atI_nat (j := 1) rfl, _, rfl, _, _, rfl, rfl, ⟨hm0, hm1⟩, ?_⟩
        refine ⟨_, rfl, d, _, _, 1, rfl, rfl, h1, dz, _, rfl, ?_⟩
        refine k _ _ (Int.emod_nonneg _ (by omega)) (Int.emod_lt_of_pos _ hm0) ⟨a :: (b / m) :: r, upd_same, by simp, hl⟩ (e1.trans (Frm.updL h1))
      · refine ⟨_, rfl, d, _, _, .int a, rfl, rfl, SqL.of h1, atI_nat (j := 0) rfl, _, _, rfl, rfl, .inr (by decide), _, _, rfl, rfl, _, _, rfl, rfl, (by show (0 : Int) < 2147483647; decide), ?_⟩
        refine ⟨_, rfl, d, _, _, 0, rfl, rfl, h1, dz0, ?_⟩
        refine ⟨_, rfl, d, _, _, .int ((a * 48271 + 11) % 2147483647), rfl, rfl, SqL.of upd_same, atI_nat (j := 0) rfl, _, _, rfl, rfl, ⟨by decide, by decide⟩, _, rfl, _, _, rfl, rfl, hm0, ?_⟩
        exact k _ _ (Int.emod_nonneg _ (by omega)) (Int.emod_lt_of_pos _ hm0) ⟨((a * 48271 + 11) % 2147483647) :: b :: r, upd_same, by simp, hl⟩ (e1.trans (Frm.updL h1))
    -- d[1] == 0 and len(d) > 2
    refine ⟨_, rfl, d, _, _, .int b, rfl, rfl, SqL.of hd, atI_nat (j := 1) rfl, rfl, _, rfl, ?_⟩
    refine iteD (fun h0 => ?_) (fun h0 => iteF (key H a b r hd hl2 (.refl _ _)))
    refine ⟨_, rfl, d, _, rfl, .inl (SqL.of hd), _, _, rfl, rfl, _, rfl, ?_⟩
    refine iteD (fun h1 => ?_) (fun h1 => key H a b r hd hl2 (.refl _ _))
    obtain ⟨c, r', rfl⟩ : ∃ c r', r = c :: r' := by
      match r, h1 with
      | c :: r', _ => exact ⟨c, r', rfl⟩
      | [], h1 => exact absurd h1 (by simp)
    have s2 : seqIndex? 2 ((a :: b :: c :: r').map V.int).length = some 2 := by
      have e : ixN ((a :: b :: c :: r').map V.int).length 2 = some 2 := by
        unfold ixN
        simp only [List.length_map, List.length_cons]
        rw [if_pos (by omega), if_pos (by omega)]
        rfl
      exact (ixN_seq e).1
    refine ⟨_, rfl, .inl ⟨rfl, _, SqL.of hd⟩, d, _, _, 2, .int c, rfl, rfl, hd, by decide, by decide, s2, rfl, ?_⟩
    have dz : (ixN (((a :: b :: c :: r').map V.int).eraseIdx 2).length 1) = some 1 := by
      unfold ixN
      show (if (0 : Int) ≤ 1 then (if (1 : Int) < ((V.int a :: V.int b :: r'.map V.int).length : Nat) then _ else _) else _) = _
      simp only [List.length_cons]
      rw [if_pos (by omega), if_pos (by omega)]
      rfl
    refine ⟨_, rfl, d, _, _, 1, rfl, rfl, upd_same, dz, ?_⟩
    refine key _ a c r' (by rw [upd_same]; rfl) (by simp only [List.length_cons] at hl2 ⊢; omega) ((Frm.updL hd).trans (Frm.updL upd_same))

end
end TL

namespace TL
open PySem PySem.Spec PyProof.Rows L2
section
variable {P : Program} {w : World} {K : PySem.W.Frag} {mg : Str → Option Value} {base : Heap}
/-- of two things that are the same data True is told; n: how deep they may be, and one more -/
def sp__law_alike (T : Txt w K mg) : Nat → Sp
  | 0 => fun _ _ _ _ => False
  | n + 1 => fun vs H Q _ => ∃ (x y : V) (d : PyData), vs = [x, y] ∧ Dp K H x d ∧ Dp K H y d ∧ lv n d ∧ ∀ H', Same H H' → Q (.bl true) H'
theorem rix_of {H : Hp} {p : Addr} {xs : List V} {i : Int} {v : V} {Q : VK} (h : SqL K H p xs ∨ SqT K H p xs) (e : atI xs i = some v) (q : Q v H) : rIx K (.ref p) (.int i) H Q := by
  rcases h with h | h
  · exact .inl ⟨p, xs, i, v, rfl, rfl, h, e, q⟩
  · exact .inr (.inl ⟨p, xs, i, v, rfl, rfl, h, e, q⟩)
theorem ok__law_alike_step (T : Txt w K mg) (n : Nat) (G__law_alike : FnOk P w K mg base CX0 n T.a__law_alike T.fd__law_alike P__law_alike (sp__law_alike T n)) : FnOk P w K mg base CX0 (n + 1) T.a__law_alike T.fd__law_alike P__law_alike (sp__law_alike T (n + 1)) := by
  refine T.F__law_alike.ok sc__law_alike (fun vs H Q E h => ?_) (fun cdv A outer s H vs Q E hr h => ?_)
  · obtain ⟨x, y, d, rfl, _⟩ := h
    rfl
  · obtain ⟨x, y, d, rfl, hx, hy, hl, k⟩ := h
    have hrS := hr
    refine ⟨_, (pss_cons (ps_if (pt_cmpR op_isN1 (pv 1) pe_non (nomark _))
      (pss_one (ps_ret (pe_cmpR op_isN1 (pv 0) pe_non (nomark _))))
      pss_nil)
    (pss_cons (ps_if (pt_val (pe_callB call_isi (by rfl) T.n_isinstance (by decide +kernel) (pa_cons (pv 1) (pa_cons (pe_bltn (v := .ty "bool") (u := .type "bool") (by rfl) T.n_bool (by decide +kernel) rfl) pa_nil))))
      (pss_one (ps_ret (pe_and (pe_callB call_isi (by rfl) T.n_isinstance (by decide +kernel) (pa_cons (pv 0) (pa_cons (pe_bltn (v := .ty "bool") (u := .type "bool") (by rfl) T.n_bool (by decide +kernel) rfl) pa_nil))) (pe_one (pe_cmpR op_eq (pv 0) (pv 1) (nomark _))))))
      pss_nil)
    (pss_cons (ps_if (pt_val (pe_callB call_isi (by rfl) T.n_isinstance (by decide +kernel) (pa_cons (pv 1) (pa_cons (pe_bltn (v := .ty "int") (u := .type "int") (by rfl) T.n_int (by decide +kernel) rfl) pa_nil))))
      (pss_one (ps_ret (pe_and (pe_callB call_isi (by rfl) T.n_isinstance (by decide +kernel) (pa_cons (pv 0) (pa_cons (pe_bltn (v := .ty "int") (u := .type "int") (by rfl) T.n_int (by decide +kernel) rfl) pa_nil))) (pe_and (pe_not (pe_callB call_isi (by rfl) T.n_isinstance (by decide +kernel) (pa_cons (pv 0) (pa_cons (pe_bltn (v := .ty "bool") (u := .type "bool") (by rfl) T.n_bool (by decide +kernel) rfl) pa_nil)))) (pe_one (pe_cmpR op_eq (pv 0) (pv 1) (nomark _)))))))
      pss_nil)
    (pss_cons (ps_if (pt_val (pe_callB call_isi (by rfl) T.n_isinstance (by decide +kernel) (pa_cons (pv 1) (pa_cons (pe_bltn (v := .ty "str") (u := .type "str") (by rfl) T.n_str (by decide +kernel) rfl) pa_nil))))
      (pss_one (ps_ret (pe_and (pe_callB call_isi (by rfl) T.n_isinstance (by decide +kernel) (pa_cons (pv 0) (pa_cons (pe_bltn (v := .ty "str") (u := .type "str") (by rfl) T.n_str (by decide +kernel) rfl) pa_nil))) (pe_one (pe_cmpR op_eq (pv 0) (pv 1) (nomark _))))))
      pss_nil)
    (pss_cons (ps_if (PW.pt (pw_or (pt_cmpR op_ne (pe_callB call_isi (by rfl) T.n_isinstance (by decide +kernel) (pa_cons (pv 1) (pa_cons (pe_bltn (v := .ty "tuple") (u := .type "tuple") (by rfl) T.n_tuple (by decide +kernel) rfl) pa_nil))) (pe_callB call_isi (by rfl) T.n_isinstance (by decide +kernel) (pa_cons (pv 0) (pa_cons (pe_bltn (v := .ty "tuple") (u := .type "tuple") (by rfl) T.n_tuple (by decide +kernel) rfl) pa_nil))) (nomark _)) (pw_or1 (pt_cmpR op_ne (pe_callB call_isi (by rfl) T.n_isinstance (by decide +kernel) (pa_cons (pv 1) (pa_cons (pe_bltn (v := .ty "list") (u := .type "list") (by rfl) T.n_list (by decide +kernel) rfl) pa_nil))) (pe_callB call_isi (by rfl) T.n_isinstance (by decide +kernel) (pa_cons (pv 0) (pa_cons (pe_bltn (v := .ty "list") (u := .type "list") (by rfl) T.n_list (by decide +kernel) rfl) pa_nil))) (nomark _)))))
      (pss_one (ps_ret pe_bl))
      pss_nil)
    (pss_cons (ps_if (pt_cmpR op_ne (pe_callB call_len_seq (by rfl) T.n_len (by decide +kernel) (pa_cons (pv 0) pa_nil)) (pe_callB call_len_seq (by rfl) T.n_len (by decide +kernel) (pa_cons (pv 1) pa_nil)) (nomark _))
      (pss_one (ps_ret pe_bl))
      pss_nil)
    (pss_one (ps_ret (pe_callB (cr_all rfl) (by rfl) T.n_all (by decide +kernel) (pa_cons (pe_lc (own := [("_law_k", 2)]) (g := (gName 2)) (tt := tYes) (te := (tCall _ [] E0 (tCons (tOp (rIx K) (tVar 0) (tVar 2)) (tCons (tOp (rIx K) (tVar 1) (tVar 2)) tNil)))) rfl sc__law_alike.nd (pi_range1 rfl T.n_range (pa_cons (pe_callB call_len_seq (by rfl) T.n_len (by decide +kernel) (pa_cons (pv 1) pa_nil)) pa_nil)) (blkOk_by (own := [("_law_k", 2)]) (N := N__law_alike) (sc := defScope s__law_alike) (by decide +kernel)) (fun _ _ _ _ _ => (pg_name (i := 2) sc__law_alike.nd rfl (by first | exact Or.inl rfl | exact Or.inr rfl))) (fun _ _ _ _ _ => pts_nil) (fun _ _ _ _ _ => (pe_call G__law_alike hrS rfl T.g__law_alike T.F__law_alike.kp T.b__law_alike .nil pass0 (pa_cons (pe_ix ix_seq (pv 0) (pv 2) (fun _ _ => rfl)) (pa_cons (pe_ix ix_seq (pv 1) (pv 2) (fun _ _ => rfl)) pa_nil))))) pa_nil)))))))))), ?_⟩
    have kk : ∀ {p : Prop} [Decidable p], p → Q (.bl (decide p)) H := fun hp => by rw [decide_eq_true hp]; exact k _ (.refl _)
    cases d with
    | none =>
      cases hx; cases hy
      exact ⟨_, rfl, rfl, _, rfl, iteT ⟨_, rfl, rfl, k _ (.refl _)⟩⟩
    | bool b =>
      cases hx; cases hy
      refine ⟨_, rfl, rfl, _, rfl, iteF ?_⟩
      refine ⟨_, rfl, _, _, _, _, _, rfl, .ty _, tyx_D (.bl b), kit_ty kb_bb, _, rfl, iteT ?_⟩
      exact ⟨_, rfl, _, _, _, _, _, rfl, .ty _, tyx_D (.bl b), kit_ty kb_bb, _, rfl, iteT ⟨_, rfl, _, rfl, rfl, kk rfl⟩⟩
    | int i =>
      cases hx; cases hy
      refine ⟨_, rfl, rfl, _, rfl, iteF ?_⟩
      refine ⟨_, rfl, _, _, _, _, _, rfl, .ty _, tyx_D (.int i), kit_ty kb_ib, _, rfl, iteF ?_⟩
      refine ⟨_, rfl, _, _, _, _, _, rfl, .ty _, tyx_D (.int i), kit_ty kb_ii, _, rfl, iteT ?_⟩
      refine ⟨_, rfl, _, _, _, _, _, rfl, .ty _, tyx_D (.int i), kit_ty kb_ii, _, rfl, iteT ?_⟩
      exact ⟨_, rfl, _, _, _, _, _, rfl, .ty _, tyx_D (.int i), kit_ty kb_ib, _, rfl, _, rfl, iteT ⟨_, rfl, _, rfl, rfl, kk rfl⟩⟩
    | str z =>
      cases hx; cases hy
      refine ⟨_, rfl, rfl, _, rfl, iteF ?_⟩
      refine ⟨_, rfl, _, _, _, _, _, rfl, .ty _, tyx_D (.str z), kit_ty kb_sb, _, rfl, iteF ?_⟩
      refine ⟨_, rfl, _, _, _, _, _, rfl, .ty _, tyx_D (.str z), kit_ty kb_si, _, rfl, iteF ?_⟩
      refine ⟨_, rfl, _, _, _, _, _, rfl, .ty _, tyx_D (.str z), kit_ty kb_ss, _, rfl, iteT ?_⟩
      exact ⟨_, rfl, _, _, _, _, _, rfl, .ty _, tyx_D (.str z), kit_ty kb_ss, _, rfl, iteT ⟨_, rfl, _, rfl, rfl, kk rfl⟩⟩
    | dict _ => cases hx
    | list ds =>
      have hx' := hx
      have hy' := hy
      cases hx' with
      | lst hLx hAx =>
      rename_i a xs
      cases hy' with
      | lst hLy hAy =>
      rename_i b ys
      refine ⟨_, rfl, rfl, _, rfl, iteF ?_⟩
      refine ⟨_, rfl, _, _, _, _, _, rfl, .ty _, tyx_D hy, kit_ty kb_lb, _, rfl, iteF ?_⟩
      refine ⟨_, rfl, _, _, _, _, _, rfl, .ty _, tyx_D hy, kit_ty kb_li, _, rfl, iteF ?_⟩
      refine ⟨_, rfl, _, _, _, _, _, rfl, .ty _, tyx_D hy, kit_ty kb_ls, _, rfl, iteF ?_⟩
      refine ⟨_, rfl, _, _, _, _, _, rfl, .ty _, tyx_D hy, kit_ty kb_lt, _, rfl, _, _, _, _, _, rfl, .ty _, tyx_D hx, kit_ty kb_lt, rfl, _, rfl, iteF ?_⟩
      refine ⟨_, rfl, _, _, _, _, _, rfl, .ty _, tyx_D hy, kit_ty kb_ll, _, rfl, _, _, _, _, _, rfl, .ty _, tyx_D hx, kit_ty kb_ll, rfl, _, rfl, iteF ?_⟩
      obtain ⟨m, rfl⟩ : ∃ m, n = m + 1 := by
        cases n with
        | zero => simp [lv] at hl
        | succ m => exact ⟨m, rfl⟩
      simp only [lv] at hl
      have hLx : SqL K H a xs ∨ SqT K H a xs := .inl hLx
      have hLy : SqL K H b ys ∨ SqT K H b ys := .inl hLy
      have lx := hAx.length
      have ly := hAy.length
      have sq : ∀ {H' : Hp} {c : Addr} {zs : List V}, Same H H' → (SqL K H c zs ∨ SqT K H c zs) → (SqL K H' c zs ∨ SqT K H' c zs) := fun s z => z.imp (fun q => s.seq q) fun q => SqT_same s q
      refine ⟨_, rfl, a, _, rfl, hLx, _, rfl, b, _, rfl, hLy, rfl, _, rfl, iteNS (by rw [lx, ly]) ?_⟩
      refine ⟨_, rfl, b, _, rfl, hLy, _, rfl, by omega, by omega, fun D hD => ?_⟩
      have hn : ((ys.length : Nat) : Int).toNat = ds.length := by omega
      rw [hn]
      refine lc_range (lo := 0) (n := ds.length) (fun i H2 => Same H H2 ∧ H2 D = some (.lst ((List.replicate i true).map V.bl)))
        ⟨Same.upd_new hD, upd_same⟩ ?_ ?_
      · rintro i H2 hi ⟨s2, h2⟩
        obtain ⟨u, hu, hdu⟩ := hAx.get (i := i) (d := ds[i]) (List.getElem?_eq_getElem hi)
        obtain ⟨v, hv, hdv⟩ := hAy.get (i := i) (d := ds[i]) (List.getElem?_eq_getElem hi)
        have e0 : (0 : Int) + (i : Int) = (i : Int) := by omega
        refine ⟨rfl, ?_⟩
        refine ⟨_, rfl, _, rfl, rix_of (sq s2 hLx) (at_of e0 hu) ?_⟩
        refine ⟨_, rfl, _, rfl, rix_of (sq s2 hLy) (at_of e0 hv) ?_⟩
        refine ⟨_, _, ds[i], rfl, hdu.same s2, hdv.same s2, hl.2 _ (List.getElem_mem hi), fun H3 s3 => ?_⟩
        refine ⟨_, s3 _ _ h2, by simp only [List.length_map, List.length_replicate]; exact Nat.lt_of_lt_of_le (Nat.lt_of_lt_of_le hi hl.1) (by decide), fun c o e => ?_, ?_⟩
        · rw [upd_ne (fun q => by rw [q, hD] at e; cases e)]
          exact s3 _ _ (s2 c o e)
        · rw [upd_same, List.replicate_succ', List.map_append]
          rfl
      · rintro H2 ⟨s2, h2⟩
        refine ⟨D, List.replicate ds.length true, rfl, SqL.of h2, ?_⟩
        have : (List.replicate ds.length true).all id = true := by simp
        rw [this]
        exact k _ s2
    | tuple ds =>
      have hx' := hx
      have hy' := hy
      cases hx' with
      | tup hLx hAx =>
      rename_i a xs
      cases hy' with
      | tup hLy hAy =>
      rename_i b ys
      refine ⟨_, rfl, rfl, _, rfl, iteF ?_⟩
      refine ⟨_, rfl, _, _, _, _, _, rfl, .ty _, tyx_D hy, kit_ty kb_tb, _, rfl, iteF ?_⟩
      refine ⟨_, rfl, _, _, _, _, _, rfl, .ty _, tyx_D hy, kit_ty kb_ti, _, rfl, iteF ?_⟩
      refine ⟨_, rfl, _, _, _, _, _, rfl, .ty _, tyx_D hy, kit_ty kb_ts, _, rfl, iteF ?_⟩
      refine ⟨_, rfl, _, _, _, _, _, rfl, .ty _, tyx_D hy, kit_ty kb_tt, _, rfl, _, _, _, _, _, rfl, .ty _, tyx_D hx, kit_ty kb_tt, rfl, _, rfl, iteF ?_⟩
      refine ⟨_, rfl, _, _, _, _, _, rfl, .ty _, tyx_D hy, kit_ty kb_tl, _, rfl, _, _, _, _, _, rfl, .ty _, tyx_D hx, kit_ty kb_tl, rfl, _, rfl, iteF ?_⟩
      obtain ⟨m, rfl⟩ : ∃ m, n = m + 1 := by
        cases n with
        | zero => simp [lv] at hl
        | succ m => exact ⟨m, rfl⟩
      simp only [lv] at hl
      have hLx : SqL K H a xs ∨ SqT K H a xs := .inr hLx
      have hLy : SqL K H b ys ∨ SqT K H b ys := .inr hLy
      have lx := hAx.length
      have ly := hAy.length
      have sq : ∀ {H' : Hp} {c : Addr} {zs : List V}, Same H H' → (SqL K H c zs ∨ SqT K H c zs) → (SqL K H' c zs ∨ SqT K H' c zs) := fun s z => z.imp (fun q => s.seq q) fun q => SqT_same s q
      refine ⟨_, rfl, a, _, rfl, hLx, _, rfl, b, _, rfl, hLy, rfl, _, rfl, iteNS (by rw [lx, ly]) ?_⟩
      refine ⟨_, rfl, b, _, rfl, hLy, _, rfl, by omega, by omega, fun D hD => ?_⟩
      have hn : ((ys.length : Nat) : Int).toNat = ds.length := by omega
      rw [hn]
      refine lc_range (lo := 0) (n := ds.length) (fun i H2 => Same H H2 ∧ H2 D = some (.lst ((List.replicate i true).map V.bl)))
        ⟨Same.upd_new hD, upd_same⟩ ?_ ?_
      · rintro i H2 hi ⟨s2, h2⟩
        obtain ⟨u, hu, hdu⟩ := hAx.get (i := i) (d := ds[i]) (List.getElem?_eq_getElem hi)
        obtain ⟨v, hv, hdv⟩ := hAy.get (i := i) (d := ds[i]) (List.getElem?_eq_getElem hi)
        have e0 : (0 : Int) + (i : Int) = (i : Int) := by omega
        refine ⟨rfl, ?_⟩
        refine ⟨_, rfl, _, rfl, rix_of (sq s2 hLx) (at_of e0 hu) ?_⟩
        refine ⟨_, rfl, _, rfl, rix_of (sq s2 hLy) (at_of e0 hv) ?_⟩
        refine ⟨_, _, ds[i], rfl, hdu.same s2, hdv.same s2, hl.2 _ (List.getElem_mem hi), fun H3 s3 => ?_⟩
        refine ⟨_, s3 _ _ h2, by simp only [List.length_map, List.length_replicate]; exact Nat.lt_of_lt_of_le (Nat.lt_of_lt_of_le hi hl.1) (by decide), fun c o e => ?_, ?_⟩
        · rw [upd_ne (fun q => by rw [q, hD] at e; cases e)]
          exact s3 _ _ (s2 c o e)
        · rw [upd_same, List.replicate_succ', List.map_append]
          rfl
      · rintro H2 ⟨s2, h2⟩
        refine ⟨D, List.replicate ds.length true, rfl, SqL.of h2, ?_⟩
        have : (List.replicate ds.length true).all id = true := by simp
        rw [this]
        exact k _ s2
theorem ok__law_alike (T : Txt w K mg) : ∀ n, FnOk P w K mg base CX0 n T.a__law_alike T.fd__law_alike P__law_alike (sp__law_alike T n)
  | 0 => ⟨fun _ _ _ _ h => h.elim, fun _ _ _ _ _ _ _ _ _ _ _ _ _ h => h.elim⟩
  | n + 1 => ok__law_alike_step T n (ok__law_alike T n)

end
end TL

namespace TL
open PySem PySem.Spec PyProof.Rows L2
section
variable {P : Program} {w : World} {K : PySem.W.Frag} {mg : Str → Option Value} {base : Heap}
def ts__law_word (T : Txt w K mg) (a : Addr) (cls : Value) (d : Option Addr) : TS :=
  (tSeq (tAsg (tLst (tCons (tCB (rIsX K cls d a) (tCons (tVar 1) (tCons (tC (.ref T.C_BadManners)) tNil))) (tCons (tCB (rIsX K cls d a) (tCons (tVar 1) (tCons (tC (.ref T.C_BadCount)) tNil))) (tCons (tCB (rIsX K cls d a) (tCons (tVar 1) (tCons (tC (.ref T.C_BadPart)) tNil))) (tCons (tCB (rIsX K cls d a) (tCons (tVar 1) (tCons (tC (.ref T.C_BadItem)) tNil))) tNil))))) (gName 2))
    (tSeq (tAsg (tOp rCat (tVar 2) (tLst (tCons (tCB (rIsX K cls d a) (tCons (tVar 1) (tCons (tC (.ref T.C_Full)) tNil))) (tCons (tCB (rIsX K cls d a) (tCons (tVar 1) (tCons (tC (.ref T.C_BadLog)) tNil))) (tCons (tCB (rIsX K cls d a) (tCons (tVar 1) (tCons (tC (.ref T.C_BadText)) tNil))) (tCons (tCB (rIsX K cls d a) (tCons (tVar 1) (tCons (tC (.ref T.C_BadEnd)) tNil))) tNil)))))) (gName 2))
    (tSeq (tDrop (tBM K "list" rAppend (tVar 2) (tCons (tCB (rIsX K cls d a) (tCons (tVar 1) (tCons (tC (.ref T.C_BadStep)) tNil))) tNil)))
    (tSeq (tIfS (tOr (tTest (tOp rNe (tBM K "list" (rCountF K) (tVar 2) (tCons (tC (.bl true)) tNil)) (tC (.int 1)))) (tNot (tB (tCB (rIsX K cls d a) (tCons (tVar 1) (tCons (tC (.ty "ValueError")) tNil)))))) (tRet (tTup (tCons (tC (.str "other")) (tCons (tC (.int 0)) tNil)))) tNext)
    (tSeq (tAsg (tOp (rIxL K) (tLst (tCons (tC (.str "manners")) (tCons (tC (.str "count")) (tCons (tC (.str "part")) (tCons (tC (.str "item")) (tCons (tC (.str "full")) (tCons (tC (.str "log")) (tCons (tC (.str "text")) (tCons (tC (.str "end")) (tCons (tC (.str "step")) tNil)))))))))) (tBM K "list" (rIndex K) (tVar 2) (tCons (tC (.bl true)) tNil))) (gName 3))
    (tRet (tTup (tCons (tVar 3) (tCons (tIf (tTest (tOp (rIn K false) (tVar 3) (tTup (tCons (tC (.str "log")) (tCons (tC (.str "text")) tNil))))) (tXg K a cls d "row" (tVar 1)) (tIf (tTest (tOp rEq (tVar 3) (tC (.str "step")))) (tXg K a cls d "at" (tVar 1)) (tC (.int 0)))) tNil)))))))))
/-- what is told of a work handed to it -/
abbrev tW (T : Txt w K mg) := TTw K [T.C_BadManners, T.C_BadCount, T.C_BadPart, T.C_BadItem, T.C_Full, T.C_BadLog, T.C_BadText, T.C_BadEnd, T.C_BadStep] T.C_LineError
/-- the kinds' list behind i of them -/
theorem gives__law_word (T : Txt w K mg) {X : Cx} (h1 : P = X.prog) (h2 : w = X.w) (h3 : K = X.K) (h4 : mg = X.mg) (h5 : base = X.base) (q : Str) {g : Addr} {cdg : Value} :
    LamX.GivesTo X N__law_word "_law_word" (defScope s__law_word) g cdg (defBody s__law_word) "_law_work" q (TTw K [T.C_BadManners, T.C_BadCount, T.C_BadPart, T.C_BadItem, T.C_Full, T.C_BadLog, T.C_BadText, T.C_BadEnd, T.C_BadStep] T.C_LineError) := by
  obtain ⟨P', w', K', mg', base', A1, N1, s1, H1, env1, outer1, st1, ex1, fn1, calm1, pn1, xe1⟩ := X
  dsimp only at h1 h2 h3 h4 h5
  subst h1 h2 h3 h4 h5
  intro f c' s H Q tl act hc h
  refine ⟨_, pss_cons (ps_try_as (i := 1) (x := "LineError") (n := "e") (X := (cxOf CX0 P w K mg base N__law_word "_law_word" (defScope s__law_word) g cdg A1 st1 s H E0).nox) (c := .ref T.C_LineError) (ts := ts__law_word T)
      (tb := fun W D σ H => ∃ Ech : XK, (∀ cls d σ' H', Ech cls d H' → σ'.length = 4 → W cls d σ' H') ∧ σ[0]? = some (some (.ref f)) ∧ H c' = some (LamX.CodeO c' q) ∧ tl Ech H (fun _ H' => D.nx σ H'))
      rfl rfl sc__law_word.nd rfl rfl ⟨rfl, by decide, .inl T.c_LineError⟩ takes0 (fun W pn xe tk _ => ⟨fun pins s' σ H D I hh => ?bo⟩) (fun a oe cls d pn hz hf => ?su)) (pss_one (ps_ret pe_non)), ?right⟩
  case su =>
    have ci := call_isX (X := (cxOf CX0 P w K mg base N__law_word "_law_word" (defScope s__law_word) g cdg A1 st1 s H E0).nox) (a := a) (pn := pn) hz hf
    exact (pss_cons (ps_set (i := 2) sc__law_word.nd rfl (by first | exact Or.inl rfl | exact Or.inr rfl) (pe_lst (pa_cons (pe_callB ci (by rfl) T.n_isinstance (by decide +kernel) (pa_cons (pv 1) (pa_cons (pe_glob (v := .ref T.C_BadManners) rfl T.c_BadManners rfl) pa_nil))) (pa_cons (pe_callB ci (by rfl) T.n_isinstance (by decide +kernel) (pa_cons (pv 1) (pa_cons (pe_glob (v := .ref T.C_BadCount) rfl T.c_BadCount rfl) pa_nil))) (pa_cons (pe_callB ci (by rfl) T.n_isinstance (by decide +kernel) (pa_cons (pv 1) (pa_cons (pe_glob (v := .ref T.C_BadPart) rfl T.c_BadPart rfl) pa_nil))) (pa_cons (pe_callB ci (by rfl) T.n_isinstance (by decide +kernel) (pa_cons (pv 1) (pa_cons (pe_glob (v := .ref T.C_BadItem) rfl T.c_BadItem rfl) pa_nil))) pa_nil))))))
        (pss_cons (ps_set (i := 2) sc__law_word.nd rfl (by first | exact Or.inl rfl | exact Or.inr rfl) (pe_op op_cat (pv 2) (pe_lst (pa_cons (pe_callB ci (by rfl) T.n_isinstance (by decide +kernel) (pa_cons (pv 1) (pa_cons (pe_glob (v := .ref T.C_Full) rfl T.c_Full rfl) pa_nil))) (pa_cons (pe_callB ci (by rfl) T.n_isinstance (by decide +kernel) (pa_cons (pv 1) (pa_cons (pe_glob (v := .ref T.C_BadLog) rfl T.c_BadLog rfl) pa_nil))) (pa_cons (pe_callB ci (by rfl) T.n_isinstance (by decide +kernel) (pa_cons (pv 1) (pa_cons (pe_glob (v := .ref T.C_BadText) rfl T.c_BadText rfl) pa_nil))) (pa_cons (pe_callB ci (by rfl) T.n_isinstance (by decide +kernel) (pa_cons (pv 1) (pa_cons (pe_glob (v := .ref T.C_BadEnd) rfl T.c_BadEnd rfl) pa_nil))) pa_nil)))))))
        (pss_cons (ps_expr (pe_bm PySem.F.plainAttrs_list PySem.F.slot_list_append PySem.F.type_list_append mt_append (pv 2) (pa_cons (pe_callB ci (by rfl) T.n_isinstance (by decide +kernel) (pa_cons (pv 1) (pa_cons (pe_glob (v := .ref T.C_BadStep) rfl T.c_BadStep rfl) pa_nil))) pa_nil)))
        (pss_cons (ps_if (PW.pt (pw_or (pt_cmpR op_ne (pe_bm PySem.F.plainAttrs_list PySem.F.slot_list_count PySem.F.type_list_count mt_countF (pv 2) (pa_cons pe_bl pa_nil)) pe_int (nomark _)) (pw_or1 (pt_not (pt_val (pe_callB ci (by rfl) T.n_isinstance (by decide +kernel) (pa_cons (pv 1) (pa_cons (pe_bltn (v := .ty "ValueError") (u := .type "ValueError") (by rfl) T.n_ValueError (by decide +kernel) rfl) pa_nil))))))))
          (pss_one (ps_ret (pe_tup (pa_cons pe_str (pa_cons pe_int pa_nil)))))
          pss_nil)
        (pss_cons (ps_set (i := 3) sc__law_word.nd rfl (by first | exact Or.inl rfl | exact Or.inr rfl) (pe_ix ix_list (pe_lst (pa_cons pe_str (pa_cons pe_str (pa_cons pe_str (pa_cons pe_str (pa_cons pe_str (pa_cons pe_str (pa_cons pe_str (pa_cons pe_str (pa_cons pe_str pa_nil)))))))))) (pe_bm PySem.F.plainAttrs_list PySem.F.slot_list_index PySem.F.type_list_index mt_index (pv 2) (pa_cons pe_bl pa_nil)) (fun _ _ => rfl)))
        (pss_one (ps_ret (pe_tup (pa_cons (pv 3) (pa_cons (pe_ifExp (pt_cmpR op_in_seq (pv 3) (pe_tup (pa_cons pe_str (pa_cons pe_str pa_nil))) (by rfl)) (pe_xg hz hf (pv 1)) (pe_ifExp (pt_cmpR op_eq (pv 3) pe_str (nomark _)) (pe_xg hz hf (pv 1)) pe_int)) pa_nil))))))))))
  case bo =>
    obtain ⟨Ech, hW, h1, h2, h3⟩ := hh
    have tk2 : Takes ((cxOf CX0 P w K mg base N__law_word "_law_word" (defScope s__law_word) g cdg A1 st1 s _ E0).nox.tr pn xe) (fun cls d σ' H' => σ'.length = 4 → W cls d σ' H') := fun u s2 ⟨a, B, sI, pins, σ, H, cls, d, e, I, nb, up, sky, na, os, ag, w⟩ => tk u s2 ⟨a, B, sI, pins, σ, H, cls, d, e, I, nb, up, sky, na, os, ag, w I.len⟩
    exact (pss_one (ps_expr (act _ pn xe Ech _ _ tk2 fun cls d σ' H' z => hW cls d σ' H' z))).run pins s' σ H D I ⟨h1, h2, h3⟩
  case right =>
    obtain ⟨Ew, hn, hE⟩ := h
    refine ⟨Ew, fun cls d σ' H' z hl => ?_, rfl, hc, hn⟩
    obtain ⟨j, num, ⟨D, rfl, hj, kd, hnum⟩, k⟩ := hE cls d H' z
    refine ⟨true, kd.xm, fun _ a na => ?_, fun z => by cases z⟩
    obtain ⟨x0, x1, x2, x3, rfl⟩ : ∃ x0 x1 x2 x3, σ' = [x0, x1, x2, x3] := by
      match σ', hl with
      | [x0, x1, x2, x3], _ => exact ⟨x0, x1, x2, x3, rfl⟩
    have dc : ∀ {H2}, Same H' H2 → (d = none ∨ ∃ dd fs, d = some dd ∧ H2 dd = some (.xd fs)) := fun {H2} s => by
      rcases hnum with ⟨_, _, _, _, e⟩ | ⟨dd, fs, e, h2, _⟩
      · exact .inl e
      · exact .inr ⟨dd, fs, e, s _ _ h2⟩
    have s0 := Same.refl H'
    refine ⟨_, rfl, D, _, _, _, rfl, rfl, (fun u r => r), kd.ec, kd.ks 0 _ rfl, dc s0, _, rfl, D, _, _, _, rfl, rfl, (fun u r => r), kd.ec, kd.ks 1 _ rfl, dc s0, _, rfl, D, _, _, _, rfl, rfl, (fun u r => r), kd.ec, kd.ks 2 _ rfl, dc s0, _, rfl, D, _, _, _, rfl, rfl, (fun u r => r), kd.ec, kd.ks 3 _ rfl, dc s0, (by show 4 ≤ sizeLine; decide), fun l1 h1 => ?_⟩
    have s1 := Same.upd_new (o := .lst [.bl (decide (0 = j)), .bl (decide (1 = j)), .bl (decide (2 = j)), .bl (decide (3 = j))]) h1
    have q1 := upd_same (H := H') (a := l1) (o := .lst [.bl (decide (0 = j)), .bl (decide (1 = j)), .bl (decide (2 = j)), .bl (decide (3 = j))])
    generalize upd H' l1 (.lst [.bl (decide (0 = j)), .bl (decide (1 = j)), .bl (decide (2 = j)), .bl (decide (3 = j))]) = H1 at s1 q1 ⊢
    refine ⟨_, rfl, _, rfl, D, _, _, _, rfl, rfl, (fun u r => r), kd.ec, kd.ks 4 _ rfl, dc s1, _, rfl, D, _, _, _, rfl, rfl, (fun u r => r), kd.ec, kd.ks 5 _ rfl, dc s1, _, rfl, D, _, _, _, rfl, rfl, (fun u r => r), kd.ec, kd.ks 6 _ rfl, dc s1, _, rfl, D, _, _, _, rfl, rfl, (fun u r => r), kd.ec, kd.ks 7 _ rfl, dc s1, (by show 4 ≤ sizeLine; decide), fun l2 h2 => ?_⟩
    have s2 := Same.upd_new (o := .lst [.bl (decide (4 = j)), .bl (decide (5 = j)), .bl (decide (6 = j)), .bl (decide (7 = j))]) h2
    have q2 := upd_same (H := H1) (a := l2) (o := .lst [.bl (decide (4 = j)), .bl (decide (5 = j)), .bl (decide (6 = j)), .bl (decide (7 = j))])
    generalize upd H1 l2 (.lst [.bl (decide (4 = j)), .bl (decide (5 = j)), .bl (decide (6 = j)), .bl (decide (7 = j))]) = H2 at s2 q2 ⊢
    refine ⟨l1, l2, _, _, rfl, rfl, s2 _ _ q1, q2, (by show 4 + 4 ≤ sizeLine; decide), fun l3 h3 => ?_⟩
    have s3 := Same.upd_new (o := .lst ([.bl (decide (0 = j)), .bl (decide (1 = j)), .bl (decide (2 = j)), .bl (decide (3 = j))] ++ [.bl (decide (4 = j)), .bl (decide (5 = j)), .bl (decide (6 = j)), .bl (decide (7 = j))])) h3
    have q3 := upd_same (H := H2) (a := l3) (o := .lst ([.bl (decide (0 = j)), .bl (decide (1 = j)), .bl (decide (2 = j)), .bl (decide (3 = j))] ++ [.bl (decide (4 = j)), .bl (decide (5 = j)), .bl (decide (6 = j)), .bl (decide (7 = j))]))
    have n3 : ∀ b o, H' b = some o → b ≠ l3 := fun b o e => ne_of_none (s2 _ _ (s1 _ _ e)) h3
    generalize upd H2 l3 (.lst ([.bl (decide (0 = j)), .bl (decide (1 = j)), .bl (decide (2 = j)), .bl (decide (3 = j))] ++ [.bl (decide (4 = j)), .bl (decide (5 = j)), .bl (decide (6 = j)), .bl (decide (7 = j))])) = H3 at s3 q3 ⊢
    have s03 := (s1.trans s2).trans s3
    refine ⟨_, rfl, .inl ⟨rfl, _, SqL.of q3⟩, _, rfl, D, _, _, _, rfl, rfl, (fun u r => r), kd.ec, kd.ks 8 _ rfl, dc s03, l3, _, _, rfl, rfl, q3, (by show 8 < sizeLine; decide), ?_⟩
    have s4 : Same H' (upd H3 l3 (.lst ([.bl (decide (0 = j)), .bl (decide (1 = j)), .bl (decide (2 = j)), .bl (decide (3 = j))] ++ [.bl (decide (4 = j)), .bl (decide (5 = j)), .bl (decide (6 = j)), .bl (decide (7 = j))] ++ [.bl (decide (8 = j))]))) := fun b o e => by
      rw [upd_ne (n3 b o e)]
      exact s03 _ _ e
    have q4 := upd_same (H := H3) (a := l3) (o := .lst ((List.range 9).map fun i => V.bl (decide (i = j))))
    have e9 : ([.bl (decide (0 = j)), .bl (decide (1 = j)), .bl (decide (2 = j)), .bl (decide (3 = j))] ++ [.bl (decide (4 = j)), .bl (decide (5 = j)), .bl (decide (6 = j)), .bl (decide (7 = j))] ++ [.bl (decide (8 = j))] : List V) = (List.range 9).map fun i => V.bl (decide (i = j)) := rfl
    rw [e9] at s4 ⊢
    generalize upd H3 l3 (.lst ((List.range 9).map fun i => V.bl (decide (i = j)))) = H4 at s4 q4 ⊢
    have hfl : ((List.range 9).map fun i => V.bl (decide (i = j))).all flatV = true := by
      rw [List.all_map]
      exact List.all_eq_true.mpr fun x _ => rfl
    have hcn : ((List.range 9).map fun i => V.bl (decide (i = j))).countP (fun z => eqV z (.bl true)) = 1 := (by decide +kernel : ∀ j < 9, ((List.range 9).map fun i => V.bl (decide (i = j))).countP (fun z => eqV z (.bl true)) = 1) j hj
    refine ⟨_, rfl, .inl ⟨rfl, _, SqL.of q4⟩, l3, _, .bl true, rfl, rfl, SqL.of q4, rfl, hfl, ?_⟩
    rw [hcn]
    refine ⟨rfl, false, rfl, iteF ?_⟩
    refine ⟨_, rfl, D, _, _, _, rfl, rfl, (fun u r => r), kd.ec, kd.iv, dc s4, true, rfl, iteF ?_⟩
    refine ⟨(by show 9 ≤ sizeLine; decide), fun l5 h5 => ?_⟩
    have s5 := Same.upd_new (o := .lst [.str "manners", .str "count", .str "part", .str "item", .str "full", .str "log", .str "text", .str "end", .str "step"]) h5
    have q5 := upd_same (H := H4) (a := l5) (o := .lst [.str "manners", .str "count", .str "part", .str "item", .str "full", .str "log", .str "text", .str "end", .str "step"])
    generalize upd H4 l5 (.lst [.str "manners", .str "count", .str "part", .str "item", .str "full", .str "log", .str "text", .str "end", .str "step"]) = H5 at s5 q5 ⊢
    have s05 := s4.trans s5
    have hix : ∀ m : Nat, m < 9 → ((List.range 9).map fun i => V.bl (decide (i = j)))[m]? = some (V.bl (decide (m = j))) := fun m hm => by
      rw [List.getElem?_map, List.getElem?_eq_getElem (by simpa using hm), List.getElem_range]
      rfl
    refine ⟨_, rfl, .inl ⟨rfl, _, SqL.of (s5 _ _ q4)⟩, l3, _, .bl true, j, .bl true, rfl, rfl, SqL.of (s5 _ _ q4), rfl, hfl, (hix j hj).trans (by rw [decide_eq_true rfl]), rfl, fun m z' hm hz => ?_, ?_⟩
    · rw [hix m (by omega), decide_eq_false (by omega)] at hz
      rw [← Option.some.inj hz]
      rfl
    have hw : atI [V.str "manners", .str "count", .str "part", .str "item", .str "full", .str "log", .str "text", .str "end", .str "step"] (j : Int) = some (.str (wordN j)) := (by decide +kernel : ∀ j : Nat, j < 9 → atI [V.str "manners", .str "count", .str "part", .str "item", .str "full", .str "log", .str "text", .str "end", .str "step"] (j : Int) = some (.str (wordN j))) j hj
    refine ⟨l5, _, j, _, rfl, rfl, SqL.of q5, hw, ?_⟩
    refine ⟨_, rfl, _, rfl, (by show 2 ≤ sizeLine; decide), fun u hu => ?_⟩
    have s6 := Same.upd_new (o := .tup [.str "log", .str "text"]) hu
    have q6 := upd_same (H := H5) (a := u) (o := .tup [.str "log", .str "text"])
    generalize upd H5 u (.tup [.str "log", .str "text"]) = H6 at s6 q6 ⊢
    have s06 := s05.trans s6
    have hin : inV (.str (wordN j)) [.str "log", .str "text"] = decide (j = 5 ∨ j = 6) := (by decide +kernel : ∀ j < 9, inV (.str (wordN j)) [.str "log", .str "text"] = decide (j = 5 ∨ j = 6)) j hj
    have hst : decide (V.str (wordN j) = V.str "step") = decide (j = 8) := (by decide +kernel : ∀ j < 9, decide (V.str (wordN j) = V.str "step") = decide (j = 8)) j hj
    have e1 : (if false = true then !inV (.str (wordN j)) [.str "log", .str "text"] else inV (.str (wordN j)) [.str "log", .str "text"]) = decide (j = 5 ∨ j = 6) := (if_neg Bool.false_ne_true).trans hin
    have fin : ∀ (H7 : Hp), Same H6 H7 → (2 ≤ sizeLine ∧ ∀ t, H7 t = none → Q (.ref t) (upd H7 t (.tup [.str (wordN j), .int num]))) := fun H7 s7 =>
      ⟨by decide, fun t ht => k t _ ((s06.trans s7).trans (Same.upd_new ht)) upd_same⟩
    rcases hnum with ⟨n5, n6, n8, rfl, _⟩ | ⟨dd, fs, rfl, hx, xf, ⟨hj56, hno, hl⟩ | ⟨hj8, hno, hl⟩⟩
    · refine ⟨u, _, rfl, .inr (SqT.of q6), rfl, rfl, false, congrArg V.bl (e1.trans (decide_eq_false (by omega))), iteF ?_⟩
      exact ⟨_, rfl, rfl, false, congrArg V.bl (hst.trans (decide_eq_false (by omega))), iteF (fin _ (.refl _))⟩
    · refine ⟨u, _, rfl, .inr (SqT.of q6), rfl, rfl, true, congrArg V.bl (e1.trans (decide_eq_true hj56)), iteT ?_⟩
      exact ⟨_, rfl, rfl, D, dd, fs, .int num, rfl, xf, hno, rfl, s06 _ _ hx, hl, fin _ (.refl _)⟩
    · refine ⟨u, _, rfl, .inr (SqT.of q6), rfl, rfl, false, congrArg V.bl (e1.trans (decide_eq_false (by omega))), iteF ?_⟩
      refine ⟨_, rfl, rfl, true, congrArg V.bl (hst.trans (decide_eq_true hj8)), iteT ?_⟩
      exact ⟨_, rfl, rfl, D, dd, fs, .int num, rfl, xf, hno, rfl, s06 _ _ hx, hl, fin _ (.refl _)⟩

end
end TL

namespace TL
open PySem PySem.Spec PyProof.Rows L2
section
variable {P : Program} {w : World} {K : PySem.W.Frag} {mg : Str → Option Value} {base : Heap}
def sp__law_can (T : Txt w K mg) : Sp := fun vs H Q _ => ∃ d : Addr, vs = [.ref d] ∧ DiceAt H d ∧
  ∀ (t : Addr) (ms : List Int) (H' : Hp), Can ms → H' t = some (.tup (ms.map V.int)) → DiceAt H' d → Frm [d] H H' → Q (.ref t) H'
theorem ok__law_can (T : Txt w K mg) : FnOk P w K mg base CX0 2 T.a__law_can T.fd__law_can P__law_can (sp__law_can T) := by
  have G__law_off := ok__law_off (P := P) (w := w) (base := base) T
  refine T.F__law_can.ok sc__law_can (fun vs H Q E h => ?_) (fun cdv A outer s H vs Q E hr h => ?_)
  · obtain ⟨d, rfl, _⟩ := h
    rfl
  · obtain ⟨d, rfl, hD, k⟩ := h
    refine ⟨_, (pss_cons (ps_set (i := 1) sc__law_can.nd rfl (by first | exact Or.inl rfl | exact Or.inr rfl) (pe_ix ix_list (pe_lst (pa_cons pe_int (pa_cons pe_int (pa_cons pe_int (pa_cons pe_int pa_nil))))) (pe_call G__law_off (hr.mono (by decide)) rfl T.g__law_off T.F__law_off.kp T.b__law_off .nil pass0 (pa_cons (pv 0) (pa_cons pe_int pa_nil))) (fun _ _ => rfl)))
    (pss_one (ps_ret (pe_op op_catA (pe_tup (pa_cons pe_int pa_nil)) (pe_callTy call_tuple_of (by rfl) T.n_tuple (by decide +kernel) (pa_cons (pe_lc (own := [("_law_manner", 2)]) (g := (gName 2)) (tt := (tTest (tOp rEq (tCall _ [] E0 (tCons (tVar 0) (tCons (tVar 1) tNil))) (tC (.int 0))))) (te := (tVar 2)) rfl sc__law_can.nd (pi_range2 rfl T.n_range (pa_cons pe_int (pa_cons pe_int pa_nil))) (blkOk_by (own := [("_law_manner", 2)]) (N := N__law_can) (sc := defScope s__law_can) (by decide +kernel)) (fun _ _ _ _ _ => (pg_name (i := 2) sc__law_can.nd rfl (by first | exact Or.inl rfl | exact Or.inr rfl))) (fun _ _ _ _ _ => (pts_one (pt_cmpR op_eq (pe_call G__law_off (hr.mono (by decide)) rfl T.g__law_off T.F__law_off.kp T.b__law_off .nil pass0 (pa_cons (pv 0) (pa_cons (pv 1) pa_nil))) pe_int (nomark _)))) (fun _ _ _ _ _ => (pv 2))) pa_nil)))))), ?_⟩
    have hD0 : ∃ o, H d = some o := let ⟨ns, e, _⟩ := hD; ⟨_, e⟩
    obtain ⟨od, hod⟩ := hD0
    refine ⟨(by show 4 ≤ sizeLine; decide), fun l hl => ?_⟩
    have nld : d ≠ l := ne_of_none hod hl
    have f1 : Frm [d] H (upd H l (.lst [.int 1, .int 2, .int 2, .int 4])) := Frm.new hl
    refine ⟨_, rfl, d, 4, rfl, hD.frm (Frm.new (S := []) hl) (by simp), (by decide), (by decide), fun r H1 r0 r4 hD1 g1 => ?_⟩
    have hl1 : H1 l = some (.lst [.int 1, .int 2, .int 2, .int 4]) := g1 _ _ upd_same (by simp [Ne.symm nld])
    obtain ⟨m, hm, hm0, hm4⟩ : ∃ m : Int, atI [V.int 1, V.int 2, V.int 2, V.int 4] r = some (.int m) ∧ 0 < m ∧ m ≤ 4 := by
      have : r = 0 ∨ r = 1 ∨ r = 2 ∨ r = 3 := by omega
      rcases this with rfl | rfl | rfl | rfl
      · exact ⟨1, rfl, by decide, by decide⟩
      · exact ⟨2, rfl, by decide, by decide⟩
      · exact ⟨2, rfl, by decide, by decide⟩
      · exact ⟨4, rfl, by decide, by decide⟩
    refine ⟨l, _, r, _, rfl, rfl, SqL.of hl1, hm, ?_⟩
    have f2 := f1.trans g1
    -- (0,) + tuple([..])
    refine ⟨(by show 1 ≤ sizeLine; decide), fun p hp => ?_⟩
    have f3 : Frm [d] H1 (upd H1 p (.tup [.int 0])) := Frm.new hp
    obtain ⟨od1, hod1⟩ : ∃ o, H1 d = some o := let ⟨ns, e, _⟩ := hD1; ⟨_, e⟩
    have npd : d ≠ p := ne_of_none hod1 hp
    have hD2 : DiceAt (upd H1 p (.tup [.int 0])) d := hD1.frm (Frm.new (S := []) hp) (by simp)
    refine ⟨1, 10, rfl, ⟨by decide, by decide, by decide, by decide⟩, fun D hDn => ?_⟩
    have nDd : D ≠ d := fun e => by
      obtain ⟨ns, z, _⟩ := hD2
      rw [← e, hDn] at z
      cases z
    have nDp : D ≠ p := fun e => by rw [e, upd_same] at hDn; cases hDn
    refine lc_range (lo := 1) (n := 9) (fun i H2 => DiceAt H2 d ∧ Frm [d] H H2 ∧ H2 p = some (.tup [.int 0]) ∧ ∃ ms : List Int, H2 D = some (.lst (ms.map V.int)) ∧ ms.Pairwise (· < ·) ∧ (∀ x ∈ ms, 1 ≤ x ∧ x < 1 + i) ∧ ms.length ≤ i)
      ⟨hD2.frm (Frm.new (S := []) hDn) (by simp), (f2.trans f3).trans (Frm.new hDn), by rw [upd_ne (Ne.symm nDp), upd_same], [], upd_same, List.Pairwise.nil, by simp, Nat.le_refl _⟩ ?_ ?_
    · rintro i H2 hi ⟨d2, f, hp2, ms, hms, hpw, hb, hln⟩
      have hS : (wipe [some (V.ref d), some (V.int m), none] [2]).set 2 (some (.int (1 + i))) = [some (V.ref d), some (V.int m), some (.int (1 + i))] := rfl
      refine ⟨rfl, _, rfl, _, rfl, d, m, rfl, d2, hm0, by omega, fun r H3 r0 rm d3 g3 => ?_⟩
      have e3 : H3 D = some (.lst (ms.map V.int)) := g3 _ _ hms (by simp [nDd])
      have p3 : H3 p = some (.tup [.int 0]) := g3 _ _ hp2 (by simp [Ne.symm npd])
      refine ⟨rfl, _, rfl, ?_⟩
      refine iteD (fun _ => ?_) (fun _ => ?_)
      · refine ⟨_, rfl, _, e3, by rw [List.length_map]; exact small1000 (by omega), ?_⟩
        refine ⟨d3.upd_ne (Ne.symm nDd), (f.trans g3).own ((f2.trans f3).free hDn) (Frm.updL e3), by rw [upd_ne (Ne.symm nDp)]; exact p3, ms ++ [1 + (i : Int)], by rw [upd_same, List.map_append]; rfl, ?_, ?_, by simp; omega⟩
        · rw [List.pairwise_append]
          refine ⟨hpw, by simp, fun x hx y hy => ?_⟩
          simp at hy
          have := hb x hx
          omega
        · intro x hx
          rcases List.mem_append.mp hx with h1 | h1
          · have := hb x h1
            omega
          · simp at h1
            omega
      · exact ⟨d3, f.trans g3, p3, ms, e3, hpw, fun x hx => by have := hb x hx; omega, by omega⟩
    · rintro H2 ⟨d2, f, hp2, ms, hms, hpw, hb, hln⟩
      have hcan : Can (0 :: ms) := by
        refine ⟨fun i hi => ?_, ?_, by simp, by simp; omega⟩
        · rcases List.mem_cons.mp hi with e | e
          · omega
          · have := hb i e
            omega
        · rw [List.pairwise_cons]
          exact ⟨fun x hx => by have := hb x hx; omega, hpw⟩
      refine ⟨D, _, rfl, .inl ⟨SqL.of hms, fun q hq => ?_⟩⟩
      have p3 : (upd H2 q (.tup (ms.map V.int))) p = some (.tup [.int 0]) := by rw [upd_ne (ne_of_none hp2 hq)]; exact hp2
      have fq : Frm [d] H2 (upd H2 q (.tup (ms.map V.int))) := Frm.new hq
      have dq : DiceAt (upd H2 q (.tup (ms.map V.int))) d := d2.frm (Frm.new (S := []) hq) (by simp)
      refine ⟨p, q, _, _, rfl, rfl, SqT.of p3, SqT.of upd_same, ?_, (fun z => by cases z), fun _ z => ?_, fun _ _ u hu => ?_⟩
      · rw [List.length_map]
        exact Nat.le_of_lt (small1000 (by simp; omega))
      · have e0 : ms = [] := by simpa using z
        subst e0
        exact k p [0] _ hcan p3 dq (f.trans fq)
      · exact k u (0 :: ms) _ hcan (by rw [upd_same]; rfl) (dq.frm (Frm.new (S := []) hu) (by simp)) ((f.trans fq).trans (Frm.new hu))

end
end TL

namespace TL
open PySem PySem.Spec PyProof.Rows L2
section
variable {P : Program} {w : World} {K : PySem.W.Frag} {mg : Str → Option Value} {base : Heap}
def sp__law_step (T : Txt w K mg) : Sp := fun vs H Q _ => ∃ d : Addr, vs = [.ref d] ∧ DiceAt H d ∧
  ∀ (t : Addr) (st : StepD) (H' : Hp), st.ok → StepAt H' t st → DiceAt H' d → Frm [d] H H' → Q (.ref t) H'
theorem ok__law_step (T : Txt w K mg) : FnOk P w K mg base CX0 3 T.a__law_step T.fd__law_step P__law_step (sp__law_step T) := by
  have G__law_off := ok__law_off (P := P) (w := w) (base := base) T
  have G__law_can := ok__law_can (P := P) (w := w) (base := base) T
  refine T.F__law_step.ok sc__law_step (fun vs H Q E h => ?_) (fun cdv A outer s H vs Q E hr h => ?_)
  · obtain ⟨d, rfl, _⟩ := h
    rfl
  · obtain ⟨d, rfl, D0, k⟩ := h
    refine ⟨_, (pss_cons (ps_set (i := 1) sc__law_step.nd rfl (by first | exact Or.inl rfl | exact Or.inr rfl) (pe_call G__law_off (hr.mono (by decide)) rfl T.g__law_off T.F__law_off.kp T.b__law_off .nil pass0 (pa_cons (pv 0) (pa_cons pe_int pa_nil))))
    (pss_cons (ps_cut (ps_set (i := 2) sc__law_step.nd rfl (by first | exact Or.inl rfl | exact Or.inr rfl) (pe_lst (pa_cons (pe_tup (pa_cons pe_str (pa_cons (pe_ix ix_list (pe_lst (pa_cons (pe_op op_add pe_int (pe_call G__law_off (hr.mono (by decide)) rfl T.g__law_off T.F__law_off.kp T.b__law_off .nil pass0 (pa_cons (pv 0) (pa_cons pe_int pa_nil)))) (pa_cons (pe_op op_add pe_int (pe_call G__law_off (hr.mono (by decide)) rfl T.g__law_off T.F__law_off.kp T.b__law_off .nil pass0 (pa_cons (pv 0) (pa_cons pe_int pa_nil)))) pa_nil))) (pe_callTy call_int1 (by rfl) T.n_int (by decide +kernel) (pa_cons (pe_cmpR op_eq (pe_call G__law_off (hr.mono (by decide)) rfl T.g__law_off T.F__law_off.kp T.b__law_off .nil pass0 (pa_cons (pv 0) (pa_cons pe_int pa_nil))) pe_int (nomark _)) pa_nil)) (fun _ _ => rfl)) pa_nil))) (pa_cons (pe_tup (pa_cons pe_str pa_nil)) pa_nil)))))
    (pss_cons (ps_cut (ps_set (i := 2) sc__law_step.nd rfl (by first | exact Or.inl rfl | exact Or.inr rfl) (pe_op op_cat (pv 2) (pe_lst (pa_cons (pe_tup (pa_cons pe_str (pa_cons (pv 1) (pa_cons (pe_call G__law_can (hr.mono (by decide)) rfl T.g__law_can T.F__law_can.kp T.b__law_can .nil pass0 (pa_cons (pv 0) pa_nil)) pa_nil)))) (pa_cons (pe_tup (pa_cons pe_str (pa_cons (pe_call G__law_off (hr.mono (by decide)) rfl T.g__law_off T.F__law_off.kp T.b__law_off .nil pass0 (pa_cons (pv 0) (pa_cons pe_int pa_nil))) (pa_cons (pv 1) pa_nil)))) (pa_cons (pe_tup (pa_cons pe_str (pa_cons (pv 1) (pa_cons (pe_call G__law_off (hr.mono (by decide)) rfl T.g__law_off T.F__law_off.kp T.b__law_off .nil pass0 (pa_cons (pv 0) (pa_cons pe_int pa_nil))) pa_nil)))) pa_nil)))))))
    (pss_one (ps_ret (pe_ix ix_list (pe_op op_cat (pv 2) (pe_lst (pa_cons (pe_tup (pa_cons pe_str (pa_cons (pv 1) pa_nil))) (pa_cons (pe_tup (pa_cons pe_str (pa_cons (pv 1) pa_nil))) (pa_cons (pe_ix ix_list (pv 2) pe_int (fun _ _ => rfl)) (pa_cons (pe_ix ix_list (pv 2) pe_int (fun _ _ => rfl)) (pa_cons (pe_ix ix_list (pv 2) pe_int (fun _ _ => rfl)) pa_nil))))))) (pe_call G__law_off (hr.mono (by decide)) rfl T.g__law_off T.F__law_off.kp T.b__law_off .nil pass0 (pa_cons (pv 0) (pa_cons pe_int pa_nil))) (fun _ _ => rfl))))))), ?_⟩
    refine ⟨_, rfl, d, 2, rfl, D0, by decide, by decide, fun e H1 e0 e2 D1 f1 => ?_⟩
    have he : bit e := by unfold bit; omega
    -- frames, joined
    refine ⟨fun σ' H' => ∃ (S t0 t1 : Addr) (n : Int), σ' = [some (V.ref d), some (.int e), some (.ref S)] ∧ DiceAt H' d ∧ Frm [d] H1 H' ∧ H' S = some (.lst [.ref t0, .ref t1]) ∧ StepAt H' t0 (.frames n) ∧ (1 ≤ n ∧ n ≤ 100) ∧ StepAt H' t1 .joined, ?_, ?_⟩
    · refine ⟨_, rfl, d, 4, rfl, D1, by decide, by decide, fun a H2 a0 a4 D2 f2 => ⟨_, _, rfl, rfl, ?_⟩⟩
      refine ⟨_, rfl, d, 100, rfl, D2, by decide, by decide, fun b H3 b0 b9 D3 f3 => ⟨_, _, rfl, rfl, (by show 2 ≤ sizeLine; decide), fun l hl => ?_⟩⟩
      have s4 := Same.upd_new (o := .lst [.int (1 + a), .int (1 + b)]) hl
      have nld : l ≠ d := D3.ne_new hl
      refine ⟨_, rfl, d, 5, rfl, D3.same s4, by decide, by decide, fun c H5 c0 c5 D5 f5 => ⟨rfl, .inr ⟨_, rfl, ?_⟩⟩⟩
      have hl5 := f5 _ _ (upd_same (H := H3) (a := l) (o := .lst [.int (1 + a), .int (1 + b)])) (by simp [nld])
      obtain ⟨n, hat, hn⟩ : ∃ n : Int, atI [V.int (1 + a), V.int (1 + b)] (if decide (V.int c = V.int 0) = true then (1 : Int) else 0) = some (.int n) ∧ 1 ≤ n ∧ n ≤ 100 := by
        cases decide (V.int c = V.int 0) with
        | true => exact ⟨1 + b, rfl, by omega, by omega⟩
        | false => exact ⟨1 + a, rfl, by omega, by omega⟩
      refine ⟨l, _, _, _, rfl, rfl, SqL.of hl5, hat, (by show 2 ≤ sizeLine; decide), fun t0 ht0 => ?_⟩
      have s6 := Same.upd_new (o := .tup [.str "frames", .int n]) ht0
      refine ⟨(by show 1 ≤ sizeLine; decide), fun t1 ht1 => ⟨(by show 2 ≤ sizeLine; decide), fun S hS => ?_⟩⟩
      have s7 := Same.upd_new (o := .tup [.str "joined"]) ht1
      have s8 := Same.upd_new (o := .lst [.ref t0, .ref t1]) hS
      have s68 := (s6.trans s7).trans s8
      exact ⟨S, t0, t1, n, rfl, D5.same s68, ((((f2.trans f3).trans (Frm.of_same s4)).trans f5).trans (Frm.of_same s68)), upd_same, s8 _ _ (s7 _ _ upd_same), hn, s8 _ _ upd_same⟩
    rintro σ' H2 ⟨S, t0, t1, n, rfl, D2, f2, hS2, st0, hn, st1⟩
    have dS : S ≠ d := fun z => by
      obtain ⟨ns, q, _⟩ := D2
      rw [← z, hS2] at q
      cases ns <;> cases q
    -- pass, lose, send
    refine ⟨fun σ' H' => ∃ (S2 t2 t3 t4 : Addr) (ms : List Int) (q i : Int), σ' = [some (V.ref d), some (.int e), some (.ref S2)] ∧ DiceAt H' d ∧ Frm [d] H2 H' ∧ H' S2 = some (.lst [.ref t0, .ref t1, .ref t2, .ref t3, .ref t4]) ∧ StepAt H' t2 (.pass e ms) ∧ Can ms ∧ StepAt H' t3 (.lose q e) ∧ bit q ∧ StepAt H' t4 (.send e i) ∧ (0 ≤ i ∧ i ≤ 999), ?_, ?_⟩
    · refine ⟨_, rfl, _, rfl, _, rfl, d, rfl, D2, fun tc ms H3 hms htc D3 f3 => ⟨(by show 3 ≤ sizeLine; decide), fun t2 ht2 => ?_⟩⟩
      have s4 := Same.upd_new (o := .tup [.str "pass", .int e, .ref tc]) ht2
      have h24 : StepAt (upd H3 t2 (.tup [.str "pass", .int e, .ref tc])) t2 (.pass e ms) := ⟨tc, upd_same, s4 _ _ htc⟩
      generalize (upd H3 t2 (.tup [.str "pass", .int e, .ref tc])) = H4 at s4 h24 ⊢
      have D4 := D3.same s4
      refine ⟨_, rfl, d, 2, rfl, D4, by decide, by decide, fun q H5 q0 q2 D5 f5 => ⟨_, rfl, (by show 3 ≤ sizeLine; decide), fun t3 ht3 => ?_⟩⟩
      have s6 := Same.upd_new (o := .tup [.str "lose", .int q, .int e]) ht3
      have h36 : StepAt (upd H5 t3 (.tup [.str "lose", .int q, .int e])) t3 (.lose q e) := upd_same
      generalize (upd H5 t3 (.tup [.str "lose", .int q, .int e])) = H6 at s6 h36 ⊢
      have D6 := D5.same s6
      refine ⟨_, rfl, _, rfl, d, 1000, rfl, D6, by decide, by decide, fun i H7 i0 i9 D7 f7 => ⟨(by show 3 ≤ sizeLine; decide), fun t4 ht4 => ?_⟩⟩
      have s8 := Same.upd_new (o := .tup [.str "send", .int e, .int i]) ht4
      have h48 : StepAt (upd H7 t4 (.tup [.str "send", .int e, .int i])) t4 (.send e i) := upd_same
      generalize (upd H7 t4 (.tup [.str "send", .int e, .int i])) = H8 at s8 h48 ⊢
      refine ⟨(by show 3 ≤ sizeLine; decide), fun z hz => ?_⟩
      have s9 := Same.upd_new (o := .lst [.ref t2, .ref t3, .ref t4]) hz
      have F8 : Frm [d] H2 H8 := ((((f3.trans (Frm.of_same s4)).trans f5).trans (Frm.of_same s6)).trans f7).trans (Frm.of_same s8)
      have F48 : Frm [d] H4 H8 := ((f5.trans (Frm.of_same s6)).trans f7).trans (Frm.of_same s8)
      have F68 : Frm [d] H6 H8 := f7.trans (Frm.of_same s8)
      refine ⟨S, z, _, _, rfl, rfl, s9 _ _ (F8 _ _ hS2 (by simp [dS])), upd_same, (by show 2 + 3 ≤ sizeLine; decide), fun S2 hS2' => ?_⟩
      have s10 := Same.upd_new (o := .lst ([.ref t0, .ref t1] ++ [.ref t2, .ref t3, .ref t4])) hS2'
      have s90 := s9.trans s10
      exact ⟨S2, t2, t3, t4, ms, q, i, rfl, (D7.same s8).same s90, F8.trans (Frm.of_same s90), upd_same, (h24.frm F48).same s90, hms, (h36.frm F68).same s90, by unfold bit; omega, h48.same s90, i0, by omega⟩
    rintro σ' H3 ⟨S2, t2, t3, t4, ms, q, i, rfl, D3, f3, hS3, st2, hms, st3, hq, st4, hi⟩
    have dS2 : S2 ≠ d := fun z => by
      obtain ⟨ns, q, _⟩ := D3
      rw [← z, hS3] at q
      cases ns <;> cases q
    -- got, left
    refine ⟨_, rfl, _, rfl, (by show 2 ≤ sizeLine; decide), fun t5 ht5 => ?_⟩
    have s4 := Same.upd_new (o := .tup [.str "got", .int e]) ht5
    refine ⟨_, rfl, (by show 2 ≤ sizeLine; decide), fun t6 ht6 => ?_⟩
    have s5 := Same.upd_new (o := .tup [.str "left", .int e]) ht6
    have s45 := s4.trans s5
    have st5 : StepAt (upd (upd H3 t5 (.tup [.str "got", .int e])) t6 (.tup [.str "left", .int e])) t5 (.got e) := s5 _ _ upd_same
    have st6 : StepAt (upd (upd H3 t5 (.tup [.str "got", .int e])) t6 (.tup [.str "left", .int e])) t6 (.left e) := upd_same
    generalize (upd (upd H3 t5 (.tup [.str "got", .int e])) t6 (.tup [.str "left", .int e])) = H5 at s45 st5 st6 ⊢
    have hS5 := s45 _ _ hS3
    refine ⟨_, rfl, S2, _, _, _, rfl, rfl, SqL.of hS5, rfl, _, rfl, S2, _, _, _, rfl, rfl, SqL.of hS5, rfl, _, rfl, S2, _, _, _, rfl, rfl, SqL.of hS5, rfl, (by show 5 ≤ sizeLine; decide), fun z hz => ?_⟩
    have s6 := Same.upd_new (o := .lst [.ref t5, .ref t6, .ref t0, .ref t0, .ref t4]) hz
    refine ⟨S2, z, _, _, rfl, rfl, s6 _ _ hS5, upd_same, (by show 5 + 5 ≤ sizeLine; decide), fun S3 hS3' => ?_⟩
    have s7 := Same.upd_new (o := .lst ([.ref t0, .ref t1, .ref t2, .ref t3, .ref t4] ++ [.ref t5, .ref t6, .ref t0, .ref t0, .ref t4])) hS3'
    have s67 := s6.trans s7
    have hS7 := upd_same (H := upd H5 z (.lst [.ref t5, .ref t6, .ref t0, .ref t0, .ref t4])) (a := S3) (o := .lst ([.ref t0, .ref t1, .ref t2, .ref t3, .ref t4] ++ [.ref t5, .ref t6, .ref t0, .ref t0, .ref t4]))
    have D7 := (D3.same s45).same s67
    have dS3 : S3 ≠ d := ((D3.same s45).same s6).ne_new hS3'
    refine ⟨_, rfl, d, 10, rfl, D7, by decide, by decide, fun r H8 r0 r10 D8 f8 => ?_⟩
    have hS8 := f8 _ _ hS7 (by simp [dS3])
    have F38 : Frm [d] H3 H8 := (Frm.of_same (s45.trans s67)).trans f8
    have F58 : Frm [d] H5 H8 := (Frm.of_same s67).trans f8
    have F28 : Frm [d] H2 H8 := f3.trans F38
    obtain ⟨t, st, hat, hok, hst⟩ : ∃ t st, atI ([V.ref t0, .ref t1, .ref t2, .ref t3, .ref t4] ++ [.ref t5, .ref t6, .ref t0, .ref t0, .ref t4]) r = some (.ref t) ∧ StepD.ok st ∧ StepAt H8 t st := by
      have : r = 0 ∨ r = 1 ∨ r = 2 ∨ r = 3 ∨ r = 4 ∨ r = 5 ∨ r = 6 ∨ r = 7 ∨ r = 8 ∨ r = 9 := by omega
      rcases this with rfl | rfl | rfl | rfl | rfl | rfl | rfl | rfl | rfl | rfl
      · exact ⟨t0, .frames n, rfl, hn, st0.frm F28⟩
      · exact ⟨t1, .joined, rfl, trivial, st1.frm F28⟩
      · exact ⟨t2, .pass e ms, rfl, ⟨he, hms⟩, st2.frm F38⟩
      · exact ⟨t3, .lose q e, rfl, ⟨hq, he⟩, st3.frm F38⟩
      · exact ⟨t4, .send e i, rfl, ⟨he, hi⟩, st4.frm F38⟩
      · exact ⟨t5, .got e, rfl, he, st5.frm F58⟩
      · exact ⟨t6, .left e, rfl, he, st6.frm F58⟩
      · exact ⟨t0, .frames n, rfl, hn, st0.frm F28⟩
      · exact ⟨t0, .frames n, rfl, hn, st0.frm F28⟩
      · exact ⟨t4, .send e i, rfl, ⟨he, hi⟩, st4.frm F38⟩
    exact ⟨S3, _, r, _, rfl, rfl, SqL.of hS8, hat, k t st H8 hok hst D8 ((f1.trans f2).trans F28)⟩

end
end TL

namespace TL
open PySem PySem.Spec PyProof.Rows L2
section
variable {P : Program} {w : World} {K : PySem.W.Frag} {mg : Str → Option Value} {base : Heap}
def sp__law_steps (T : Txt w K mg) : Sp := fun vs H Q _ => ∃ (d : Addr) (m : Int), vs = [.ref d, .int m] ∧ DiceAt H d ∧ 0 < m ∧ m ≤ 100 ∧
  ∀ (p : Addr) (xs : List V) (sts : List StepD) (H' : Hp), H p = none → H' p = some (.lst xs) → StepsAt H' xs sts → (∀ st ∈ sts, st.ok) → sts.length < m → DiceAt H' d → Frm [d] H H' → Q (.ref p) H'
theorem StepsAt.snoc {H : Hp} {xs : List V} {sts : List StepD} {a : Addr} {st : StepD} (h : StepsAt H xs sts) (s : StepAt H a st) : StepsAt H (xs ++ [.ref a]) (sts ++ [st]) := by
  refine ⟨by simp [h.1], fun i v st' h1 h2 => ?_⟩
  rcases Nat.lt_or_ge i xs.length with q | q
  · rw [List.getElem?_append_left q] at h1
    rw [List.getElem?_append_left (by rw [← h.1]; exact q)] at h2
    exact h.2 i v st' h1 h2
  · rw [List.getElem?_append_right q] at h1
    rw [List.getElem?_append_right (by rw [← h.1]; exact q)] at h2
    have : i - xs.length = 0 := by
      have := (List.getElem?_eq_some_iff.mp h1).1
      simp at this
      omega
    rw [this] at h1
    rw [← h.1, this] at h2
    rw [← Option.some.inj h1, ← Option.some.inj h2]
    exact ⟨a, rfl, s⟩
theorem ok__law_steps (T : Txt w K mg) : FnOk P w K mg base CX0 4 T.a__law_steps T.fd__law_steps P__law_steps (sp__law_steps T) := by
  have G__law_step := ok__law_step (P := P) (w := w) (base := base) T
  have G__law_off := ok__law_off (P := P) (w := w) (base := base) T
  refine T.F__law_steps.ok sc__law_steps (fun vs H Q E h => ?_) (fun cdv A outer s H vs Q E hr h => ?_)
  · obtain ⟨d, m, rfl, _⟩ := h
    rfl
  · obtain ⟨d, m, rfl, D0, m0, m9, k⟩ := h
    refine ⟨_, (pss_one (ps_ret (pe_lc (own := [("_law_step_here", 2)]) (g := (gName 2)) (tt := tYes) (te := (tCall _ [] E0 (tCons (tVar 0) tNil))) rfl sc__law_steps.nd (pi_range1 rfl T.n_range (pa_cons (pe_call G__law_off (hr.mono (by decide)) rfl T.g__law_off T.F__law_off.kp T.b__law_off .nil pass0 (pa_cons (pv 0) (pa_cons (pv 1) pa_nil))) pa_nil)) (blkOk_by (own := [("_law_step_here", 2)]) (N := N__law_steps) (sc := defScope s__law_steps) (by decide +kernel)) (fun _ _ _ _ _ => (pg_name (i := 2) sc__law_steps.nd rfl (by first | exact Or.inl rfl | exact Or.inr rfl))) (fun _ _ _ _ _ => pts_nil) (fun _ _ _ _ _ => (pe_call G__law_step (hr.mono (by decide)) rfl T.g__law_step T.F__law_step.kp T.b__law_step .nil pass0 (pa_cons (pv 0) pa_nil)))))), ?_⟩
    refine ⟨_, rfl, _, rfl, d, m, rfl, D0, m0, by omega, fun r H1 r0 rm D1 f1 => ?_⟩
    refine ⟨r, rfl, by omega, by omega, fun D hD => ?_⟩
    have nDd : D ≠ d := D1.ne_new hD
    refine lc_range (lo := 0) (n := r.toNat) (fun i H' => DiceAt H' d ∧ Frm [d] H1 H' ∧ ∃ (xs : List V) (sts : List StepD), H' D = some (.lst xs) ∧ StepsAt H' xs sts ∧ (∀ st ∈ sts, st.ok) ∧ sts.length = i)
      ⟨D1.new hD, Frm.new hD, [], [], upd_same, ⟨rfl, fun i v st h => by simp at h⟩, by simp, rfl⟩ ?_ ?_
    · rintro i H2 hi ⟨D2, f2, xs, sts, hx, hs, ho, hl⟩
      refine ⟨rfl, _, rfl, d, rfl, D2, fun t st H3 hok hst D3 f3 => ?_⟩
      have hx3 := f3 _ _ hx (by simp [nDd])
      have fD : Frm [D] H3 (upd H3 D (.lst (xs ++ [.ref t]))) := Frm.updL hx3
      refine ⟨_, hx3, by rw [hs.1, hl]; exact small1000 (by omega), D3.upd_ne (Ne.symm nDd), (f2.trans f3).own hD fD, _, _, upd_same, ((hs.frm f3).snoc hst).frm fD, fun x hx => ?_, by simp [hl]⟩
      rcases List.mem_append.mp hx with q | q
      · exact ho x q
      · simp at q
        subst q
        exact hok
    · rintro H2 ⟨D2, f2, xs, sts, hx, hs, ho, hl⟩
      exact k D xs sts H2 (f1.free hD) hx hs ho (by omega) D2 (f1.trans f2)

end
end TL

namespace TL
open PySem PySem.Spec PyProof.Rows L2
section
variable {P : Program} {w : World} {K : PySem.W.Frag} {mg : Str → Option Value} {base : Heap}
/-- printed by gen_k17.py -/
theorem ns_snoc {H H' : Hp} {xs : List V} {v : V} (h : ∀ x ∈ xs, NS H x) (s : Same H H') (n : NS H' v) : ∀ x ∈ xs ++ [v], NS H' x := fun x hx => by
  rcases List.mem_append.mp hx with q | q
  · exact (h x q).same s
  · rw [List.mem_singleton.mp q]
    exact n
theorem ns_app {H H' : Hp} {xs ys : List V} (h : ∀ x ∈ xs, NS H x) (s : Same H H') (n : ∀ x ∈ ys, NS H' x) : ∀ x ∈ xs ++ ys, NS H' x := fun x hx => by
  rcases List.mem_append.mp hx with q | q
  · exact (h x q).same s
  · exact n x q
def sp__law_no_step (T : Txt w K mg) : Sp := fun vs H Q _ => ∃ d, vs = [.ref d] ∧ DiceAt H d ∧ ∀ (v : V) (H' : Hp), NS H' v → DiceAt H' d → Frm [d] H H' → Q v H'
theorem ok__law_no_step (T : Txt w K mg) : FnOk P w K mg base CX0 2 T.a__law_no_step T.fd__law_no_step P__law_no_step (sp__law_no_step T) := by
  have G__law_off := ok__law_off (P := P) (w := w) (base := base) T
  refine T.F__law_no_step.ok sc__law_no_step (fun vs H Q E h => ?_) (fun cdv A outer s H vs Q E hr h => ?_)
  · obtain ⟨d, rfl, _⟩ := h
    rfl
  · obtain ⟨d, rfl, D0, k⟩ := h
    refine ⟨_, (pss_cons (ps_set (i := 1) sc__law_no_step.nd rfl (by first | exact Or.inl rfl | exact Or.inr rfl) (pe_callB (call_max2 rfl) (by rfl) T.n_max (by decide +kernel) (pa_cons pe_int (pa_cons (pe_op op_sub (pe_call G__law_off (hr.mono (by decide)) rfl T.g__law_off T.F__law_off.kp T.b__law_off .nil pass0 (pa_cons (pv 0) (pa_cons (pe_op op_pow pe_int pe_int) pa_nil))) pe_int) pa_nil))))
    (pss_cons (ps_cut (ps_set (i := 2) sc__law_no_step.nd rfl (by first | exact Or.inl rfl | exact Or.inr rfl) (pe_lst (pa_cons (pe_tup pa_nil) (pa_cons (pe_tup (pa_cons pe_str (pa_cons pe_int pa_nil))) (pa_cons (pe_tup (pa_cons pe_str (pa_cons (pe_op op_add pe_int (pv 1)) pa_nil))) (pa_cons (pe_tup (pa_cons pe_str (pa_cons pe_bl pa_nil))) (pa_cons (pe_tup (pa_cons pe_str pa_nil)) (pa_cons (pe_tup (pa_cons pe_str (pa_cons pe_int pa_nil))) (pa_cons (pe_tup (pa_cons pe_str (pa_cons pe_int (pa_cons (pe_tup (pa_cons pe_int pa_nil)) pa_nil)))) pa_nil))))))))))
    (pss_cons (ps_cut (ps_set (i := 2) sc__law_no_step.nd rfl (by first | exact Or.inl rfl | exact Or.inr rfl) (pe_op op_cat (pv 2) (pe_lst (pa_cons (pe_tup (pa_cons pe_str (pa_cons (pe_op op_add pe_int (pv 1)) (pa_cons (pe_tup (pa_cons pe_int pa_nil)) pa_nil)))) (pa_cons (pe_tup (pa_cons pe_str (pa_cons pe_int (pa_cons (pe_tup (pa_cons pe_int (pa_cons pe_int pa_nil))) pa_nil)))) (pa_cons (pe_tup (pa_cons pe_str (pa_cons pe_int pa_nil))) (pa_cons (pe_tup (pa_cons pe_str (pa_cons pe_int (pa_cons pe_int pa_nil)))) (pa_cons (pe_tup (pa_cons pe_str (pa_cons pe_int (pa_cons (pe_un un_neg pe_int) pa_nil)))) (pa_cons (pe_tup (pa_cons pe_str (pa_cons pe_int pa_nil))) pa_nil))))))))))
    (pss_cons (ps_cut (ps_set (i := 2) sc__law_no_step.nd rfl (by first | exact Or.inl rfl | exact Or.inr rfl) (pe_op op_cat (pv 2) (pe_lst (pa_cons (pe_tup (pa_cons pe_str (pa_cons pe_int (pa_cons (pe_op op_add pe_int (pv 1)) pa_nil)))) (pa_cons (pe_tup (pa_cons pe_str (pa_cons pe_int (pa_cons (pe_op op_sub (pe_un un_neg pe_int) (pv 1)) pa_nil)))) (pa_cons (pe_tup (pa_cons pe_str (pa_cons pe_bl (pa_cons pe_int pa_nil)))) (pa_cons (pe_tup (pa_cons pe_str (pa_cons pe_int pa_nil))) (pa_cons (pe_tup (pa_cons pe_str pa_nil)) pa_nil)))))))))
    (pss_cons (ps_cut (ps_expr (pe_bm PySem.F.plainAttrs_list PySem.F.slot_list_append PySem.F.type_list_append mt_append (pv 2) (pa_cons (pe_tup (pa_cons pe_str (pa_cons (pe_un un_neg pe_int) pa_nil))) pa_nil))))
    (pss_one (ps_ret (pe_ix ix_list (pe_op op_cat (pv 2) (pe_lst (pa_cons (pe_tup (pa_cons pe_str (pa_cons pe_int pa_nil))) (pa_cons pe_str (pa_cons pe_non (pa_cons pe_int (pa_cons (pe_tup (pa_cons pe_str (pa_cons pe_int (pa_cons (pe_tup (pa_cons pe_int (pa_cons pe_int pa_nil))) pa_nil)))) (pa_cons (pe_tup (pa_cons pe_str (pa_cons pe_non pa_nil))) pa_nil)))))))) (pe_call G__law_off (hr.mono (by decide)) rfl T.g__law_off T.F__law_off.kp T.b__law_off .nil pass0 (pa_cons (pv 0) (pa_cons pe_int pa_nil))) (fun _ _ => rfl))))))))), ?_⟩
    refine ⟨_, rfl, _, _, rfl, rfl, ⟨by decide, by decide, by decide⟩, d, _, rfl, D0, by decide, by decide, fun x HS x0 x1 DS fS => ?_⟩
    refine ⟨_, _, rfl, rfl, _, _, rfl, ?_⟩
    obtain ⟨far, efar, far0⟩ : ∃ far : Int, (if x - 500000 > 0 then x - 500000 else 0) = far ∧ 0 ≤ far := ⟨_, rfl, by split <;> omega⟩
    rw [efar]
    refine ⟨fun σ' H' => ∃ (l : Addr) (xs : List V), σ' = [some (V.ref d), some (.int far), some (.ref l)] ∧ H' l = some (.lst xs) ∧ (∀ x ∈ xs, NS H' x) ∧ xs.length = 7 ∧ HS l = none ∧ Same HS H', ?_, ?_⟩
    · have s0 : Same HS HS := .refl _
      have N : ∀ x ∈ ([] : List V), NS HS x := fun x hx => by simp at hx
      refine ⟨(by show 0 ≤ sizeLine; decide), fun t1 h1 => ?_⟩
      have s1 := Same.upd_new (o := .tup []) h1
      have q1 := upd_same (H := HS) (a := t1) (o := .tup [])
      generalize upd HS t1 (.tup []) = J1 at s1 q1 ⊢
      have s0 := s0.trans s1
      have N : ∀ x ∈ [.ref t1], NS J1 x := ns_snoc N s1 ⟨_, .tup q1 .nil, .empty, ⟨(by decide : 0 ≤ 100000), fun d hd => by simp at hd⟩⟩
      refine ⟨(by show 2 ≤ sizeLine; decide), fun t2 h2 => ?_⟩
      have s2 := Same.upd_new (o := .tup [.str "frames", V.int 0]) h2
      have q2 := upd_same (H := J1) (a := t2) (o := .tup [.str "frames", V.int 0])
      generalize upd J1 t2 (.tup [.str "frames", V.int 0]) = J2 at s2 q2 ⊢
      have s0 := s0.trans s2
      have n2 : NS J2 (.ref t2) := ns_key (w := "frames") (f := [99]) (rest := [.int 0]) q2 (.cons (.int _) .nil) (.inl ⟨rfl, rfl⟩) (by simp) (fun e he => by
          simp only [List.mem_cons, List.not_mem_nil, or_false] at he
          rcases he with rfl
          · exact trivial) (by decide +kernel)
      have N : ∀ x ∈ [.ref t1, .ref t2], NS J2 x := ns_snoc N s2 n2
      refine ⟨_, rfl, _, _, rfl, rfl, (by show 2 ≤ sizeLine; decide), fun t3 h3 => ?_⟩
      have s3 := Same.upd_new (o := .tup [.str "frames", .int (101 + far)]) h3
      have q3 := upd_same (H := J2) (a := t3) (o := .tup [.str "frames", .int (101 + far)])
      generalize upd J2 t3 (.tup [.str "frames", .int (101 + far)]) = J3 at s3 q3 ⊢
      have s0 := s0.trans s3
      have n3 : NS J3 (.ref t3) := ns_key (w := "frames") (f := [99]) (rest := [.int (101 + far)]) q3 (.cons (.int _) .nil) (.inl ⟨rfl, rfl⟩) (by simp) (fun e he => by
          simp only [List.mem_cons, List.not_mem_nil, or_false] at he
          rcases he with rfl
          · exact trivial) (by show false = (true && (between (.int (101 + far)) 1 100 && true)); rw [far_no (by omega)]; rfl)
      have N : ∀ x ∈ [.ref t1, .ref t2, .ref t3], NS J3 x := ns_snoc N s3 n3
      refine ⟨(by show 2 ≤ sizeLine; decide), fun t4 h4 => ?_⟩
      have s4 := Same.upd_new (o := .tup [.str "frames", .bl true]) h4
      have q4 := upd_same (H := J3) (a := t4) (o := .tup [.str "frames", .bl true])
      generalize upd J3 t4 (.tup [.str "frames", .bl true]) = J4 at s4 q4 ⊢
      have s0 := s0.trans s4
      have n4 : NS J4 (.ref t4) := ns_key (w := "frames") (f := [99]) (rest := [.bool true]) q4 (.cons (.bl _) .nil) (.inl ⟨rfl, rfl⟩) (by simp) (fun e he => by
          simp only [List.mem_cons, List.not_mem_nil, or_false] at he
          rcases he with rfl
          · exact trivial) (by decide +kernel)
      have N : ∀ x ∈ [.ref t1, .ref t2, .ref t3, .ref t4], NS J4 x := ns_snoc N s4 n4
      refine ⟨(by show 1 ≤ sizeLine; decide), fun t5 h5 => ?_⟩
      have s5 := Same.upd_new (o := .tup [.str "frames"]) h5
      have q5 := upd_same (H := J4) (a := t5) (o := .tup [.str "frames"])
      generalize upd J4 t5 (.tup [.str "frames"]) = J5 at s5 q5 ⊢
      have s0 := s0.trans s5
      have n5 : NS J5 (.ref t5) := ns_key (w := "frames") (f := [99]) (rest := []) q5 .nil (.inl ⟨rfl, rfl⟩) (by simp) (fun e he => by simp at he) (by decide +kernel)
      have N : ∀ x ∈ [.ref t1, .ref t2, .ref t3, .ref t4, .ref t5], NS J5 x := ns_snoc N s5 n5
      refine ⟨(by show 2 ≤ sizeLine; decide), fun t6 h6 => ?_⟩
      have s6 := Same.upd_new (o := .tup [.str "Frames", V.int 1]) h6
      have q6 := upd_same (H := J5) (a := t6) (o := .tup [.str "Frames", V.int 1])
      generalize upd J5 t6 (.tup [.str "Frames", V.int 1]) = J6 at s6 q6 ⊢
      have s0 := s0.trans s6
      have N : ∀ x ∈ [.ref t1, .ref t2, .ref t3, .ref t4, .ref t5, .ref t6], NS J6 x := ns_snoc N s6 ⟨_, .tup q6 (.cons (.str _) (.cons (.int _) .nil)), .nokey (.inl rfl), (by
          refine ⟨(by decide : 2 ≤ 100000), fun d hd => ?_⟩
          simp only [List.mem_cons, List.not_mem_nil, or_false] at hd
          rcases hd with rfl | rfl
          · show (PyData.str "Frames").canLay0 = true
            decide +kernel
          · trivial)⟩
      refine ⟨(by show 1 ≤ sizeLine; decide), fun t7 h7 => ?_⟩
      have s7 := Same.upd_new (o := .tup [.int 1]) h7
      have q7 := upd_same (H := J6) (a := t7) (o := .tup [.int 1])
      generalize upd J6 t7 (.tup [.int 1]) = J7 at s7 q7 ⊢
      have s0 := s0.trans s7
      have N : ∀ x ∈ [.ref t1, .ref t2, .ref t3, .ref t4, .ref t5, .ref t6], NS J7 x := fun x hx => (N x hx).same s7
      refine ⟨(by show 3 ≤ sizeLine; decide), fun t8 h8 => ?_⟩
      have s8 := Same.upd_new (o := .tup [.str "pass", V.int 0, .ref t7]) h8
      have q8 := upd_same (H := J7) (a := t8) (o := .tup [.str "pass", V.int 0, .ref t7])
      generalize upd J7 t8 (.tup [.str "pass", V.int 0, .ref t7]) = J8 at s8 q8 ⊢
      have s0 := s0.trans s8
      have n8 : NS J8 (.ref t8) := ns_key (w := "pass") (f := [101, 109]) (rest := [.int 0, .tuple [.int 1]]) q8 (.cons (.int _) (.cons (.tup (s8 _ _ q7) (im_ints [1])) .nil)) (.inr (.inl ⟨rfl, rfl⟩)) (by simp) (fun e he => by
          simp only [List.mem_cons, List.not_mem_nil, or_false] at he
          rcases he with rfl | rfl
          · exact trivial
          · exact mdat_ints (ms := [1]) (by decide)) (by decide +kernel)
      have N : ∀ x ∈ [.ref t1, .ref t2, .ref t3, .ref t4, .ref t5, .ref t6, .ref t8], NS J8 x := ns_snoc N s8 n8
      refine ⟨(by show 7 ≤ sizeLine; decide), fun l hl => ?_⟩
      have sl := Same.upd_new (o := .lst [.ref t1, .ref t2, .ref t3, .ref t4, .ref t5, .ref t6, .ref t8]) hl
      exact ⟨l, _, rfl, upd_same, fun x hx => (N x hx).same sl, rfl, (Frm.of_same (S := []) s0).free hl, s0.trans sl⟩
    rintro σ' HA ⟨l, xs, rfl, hl, NA, hxs, lS, sA⟩
    refine ⟨fun σ' H' => ∃ (l : Addr) (xs : List V), σ' = [some (V.ref d), some (.int far), some (.ref l)] ∧ H' l = some (.lst xs) ∧ (∀ x ∈ xs, NS H' x) ∧ xs.length = 13 ∧ HS l = none ∧ Same HS H', ?_, ?_⟩
    · have s0 : Same HA HA := .refl _
      have N : ∀ x ∈ ([] : List V), NS HA x := fun x hx => by simp at hx
      refine ⟨_, rfl, _, rfl, _, _, rfl, rfl, (by show 1 ≤ sizeLine; decide), fun t1 h1 => ?_⟩
      have s1 := Same.upd_new (o := .tup [.int 0]) h1
      have q1 := upd_same (H := HA) (a := t1) (o := .tup [.int 0])
      generalize upd HA t1 (.tup [.int 0]) = J1 at s1 q1 ⊢
      have s0 := s0.trans s1
      have N : ∀ x ∈ [], NS J1 x := fun x hx => (N x hx).same s1
      refine ⟨(by show 3 ≤ sizeLine; decide), fun t2 h2 => ?_⟩
      have s2 := Same.upd_new (o := .tup [.str "pass", .int (2 + far), .ref t1]) h2
      have q2 := upd_same (H := J1) (a := t2) (o := .tup [.str "pass", .int (2 + far), .ref t1])
      generalize upd J1 t2 (.tup [.str "pass", .int (2 + far), .ref t1]) = J2 at s2 q2 ⊢
      have s0 := s0.trans s2
      have n2 : NS J2 (.ref t2) := ns_key (w := "pass") (f := [101, 109]) (rest := [.int (2 + far), .tuple [.int 0]]) q2 (.cons (.int _) (.cons (.tup (s2 _ _ q1) (im_ints [0])) .nil)) (.inr (.inl ⟨rfl, rfl⟩)) (by simp) (fun e he => by
          simp only [List.mem_cons, List.not_mem_nil, or_false] at he
          rcases he with rfl | rfl
          · exact trivial
          · exact mdat_ints (ms := [0]) (by decide)) (by show false = (true && (between (.int (2 + far)) 0 1 && (isMan (.tuple [.int 0]) && true))); rw [far_no (by omega)]; rfl)
      have N : ∀ x ∈ [.ref t2], NS J2 x := ns_snoc N s2 n2
      refine ⟨(by show 2 ≤ sizeLine; decide), fun t3 h3 => ?_⟩
      have s3 := Same.upd_new (o := .tup [.int 0, .int 10]) h3
      have q3 := upd_same (H := J2) (a := t3) (o := .tup [.int 0, .int 10])
      generalize upd J2 t3 (.tup [.int 0, .int 10]) = J3 at s3 q3 ⊢
      have s0 := s0.trans s3
      have N : ∀ x ∈ [.ref t2], NS J3 x := fun x hx => (N x hx).same s3
      refine ⟨(by show 3 ≤ sizeLine; decide), fun t4 h4 => ?_⟩
      have s4 := Same.upd_new (o := .tup [.str "pass", V.int 0, .ref t3]) h4
      have q4 := upd_same (H := J3) (a := t4) (o := .tup [.str "pass", V.int 0, .ref t3])
      generalize upd J3 t4 (.tup [.str "pass", V.int 0, .ref t3]) = J4 at s4 q4 ⊢
      have s0 := s0.trans s4
      have n4 : NS J4 (.ref t4) := ns_key (w := "pass") (f := [101, 109]) (rest := [.int 0, .tuple [.int 0, .int 10]]) q4 (.cons (.int _) (.cons (.tup (s4 _ _ q3) (im_ints [0, 10])) .nil)) (.inr (.inl ⟨rfl, rfl⟩)) (by simp) (fun e he => by
          simp only [List.mem_cons, List.not_mem_nil, or_false] at he
          rcases he with rfl | rfl
          · exact trivial
          · exact mdat_ints (ms := [0, 10]) (by decide)) (by decide +kernel)
      have N : ∀ x ∈ [.ref t2, .ref t4], NS J4 x := ns_snoc N s4 n4
      refine ⟨(by show 2 ≤ sizeLine; decide), fun t5 h5 => ?_⟩
      have s5 := Same.upd_new (o := .tup [.str "pass", V.int 0]) h5
      have q5 := upd_same (H := J4) (a := t5) (o := .tup [.str "pass", V.int 0])
      generalize upd J4 t5 (.tup [.str "pass", V.int 0]) = J5 at s5 q5 ⊢
      have s0 := s0.trans s5
      have n5 : NS J5 (.ref t5) := ns_key (w := "pass") (f := [101, 109]) (rest := [.int 0]) q5 (.cons (.int _) .nil) (.inr (.inl ⟨rfl, rfl⟩)) (by simp) (fun e he => by
          simp only [List.mem_cons, List.not_mem_nil, or_false] at he
          rcases he with rfl
          · exact trivial) (by decide +kernel)
      have N : ∀ x ∈ [.ref t2, .ref t4, .ref t5], NS J5 x := ns_snoc N s5 n5
      refine ⟨(by show 3 ≤ sizeLine; decide), fun t6 h6 => ?_⟩
      have s6 := Same.upd_new (o := .tup [.str "lose", V.int 2, V.int 0]) h6
      have q6 := upd_same (H := J5) (a := t6) (o := .tup [.str "lose", V.int 2, V.int 0])
      generalize upd J5 t6 (.tup [.str "lose", V.int 2, V.int 0]) = J6 at s6 q6 ⊢
      have s0 := s0.trans s6
      have n6 : NS J6 (.ref t6) := ns_key (w := "lose") (f := [112, 101]) (rest := [.int 2, .int 0]) q6 (.cons (.int _) (.cons (.int _) .nil)) (.inr (.inr (.inl ⟨rfl, rfl⟩))) (by simp) (fun e he => by
          simp only [List.mem_cons, List.not_mem_nil, or_false] at he
          rcases he with rfl | rfl
          · exact trivial
          · exact trivial) (by decide +kernel)
      have N : ∀ x ∈ [.ref t2, .ref t4, .ref t5, .ref t6], NS J6 x := ns_snoc N s6 n6
      refine ⟨_, rfl, (by show 3 ≤ sizeLine; decide), fun t7 h7 => ?_⟩
      have s7 := Same.upd_new (o := .tup [.str "lose", V.int 0, V.int (-1)]) h7
      have q7 := upd_same (H := J6) (a := t7) (o := .tup [.str "lose", V.int 0, V.int (-1)])
      generalize upd J6 t7 (.tup [.str "lose", V.int 0, V.int (-1)]) = J7 at s7 q7 ⊢
      have s0 := s0.trans s7
      have n7 : NS J7 (.ref t7) := ns_key (w := "lose") (f := [112, 101]) (rest := [.int 0, .int (-1)]) q7 (.cons (.int _) (.cons (.int _) .nil)) (.inr (.inr (.inl ⟨rfl, rfl⟩))) (by simp) (fun e he => by
          simp only [List.mem_cons, List.not_mem_nil, or_false] at he
          rcases he with rfl | rfl
          · exact trivial
          · exact trivial) (by decide +kernel)
      have N : ∀ x ∈ [.ref t2, .ref t4, .ref t5, .ref t6, .ref t7], NS J7 x := ns_snoc N s7 n7
      refine ⟨(by show 2 ≤ sizeLine; decide), fun t8 h8 => ?_⟩
      have s8 := Same.upd_new (o := .tup [.str "", V.int 1]) h8
      have q8 := upd_same (H := J7) (a := t8) (o := .tup [.str "", V.int 1])
      generalize upd J7 t8 (.tup [.str "", V.int 1]) = J8 at s8 q8 ⊢
      have s0 := s0.trans s8
      have N : ∀ x ∈ [.ref t2, .ref t4, .ref t5, .ref t6, .ref t7, .ref t8], NS J8 x := ns_snoc N s8 ⟨_, .tup q8 (.cons (.str _) (.cons (.int _) .nil)), .nokey (.inr rfl), (by
          refine ⟨(by decide : 2 ≤ 100000), fun d hd => ?_⟩
          simp only [List.mem_cons, List.not_mem_nil, or_false] at hd
          rcases hd with rfl | rfl
          · show (PyData.str "").canLay0 = true
            decide +kernel
          · trivial)⟩
      refine ⟨(by show 6 ≤ sizeLine; decide), fun z hz => ?_⟩
      have sz := Same.upd_new (o := .lst [.ref t2, .ref t4, .ref t5, .ref t6, .ref t7, .ref t8]) hz
      have qz := upd_same (H := J8) (a := z) (o := .lst [.ref t2, .ref t4, .ref t5, .ref t6, .ref t7, .ref t8])
      generalize upd J8 z (.lst [.ref t2, .ref t4, .ref t5, .ref t6, .ref t7, .ref t8]) = HZ at sz qz ⊢
      have s0 := s0.trans sz
      refine ⟨l, z, _, _, rfl, rfl, s0 _ _ hl, qz, (by show xs.length + 6 ≤ 16777216; omega), fun S hS => ?_⟩
      have sS := Same.upd_new (o := .lst (xs ++ [.ref t2, .ref t4, .ref t5, .ref t6, .ref t7, .ref t8])) hS
      exact ⟨S, _, rfl, upd_same, ns_app NA (s0.trans sS) fun x hx => ((N x hx).same sz).same sS, (by rw [List.length_append, hxs]; rfl), (Frm.of_same (S := []) (sA.trans s0)).free hS, (sA.trans s0).trans sS⟩
    rintro σ' HA ⟨l, xs, rfl, hl, NA, hxs, lS, sA⟩
    refine ⟨fun σ' H' => ∃ (l : Addr) (xs : List V), σ' = [some (V.ref d), some (.int far), some (.ref l)] ∧ H' l = some (.lst xs) ∧ (∀ x ∈ xs, NS H' x) ∧ xs.length = 18 ∧ HS l = none ∧ Same HS H', ?_, ?_⟩
    · have s0 : Same HA HA := .refl _
      have N : ∀ x ∈ ([] : List V), NS HA x := fun x hx => by simp at hx
      refine ⟨_, rfl, _, rfl, _, _, rfl, rfl, (by show 3 ≤ sizeLine; decide), fun t1 h1 => ?_⟩
      have s1 := Same.upd_new (o := .tup [.str "send", V.int 0, .int (1000 + far)]) h1
      have q1 := upd_same (H := HA) (a := t1) (o := .tup [.str "send", V.int 0, .int (1000 + far)])
      generalize upd HA t1 (.tup [.str "send", V.int 0, .int (1000 + far)]) = J1 at s1 q1 ⊢
      have s0 := s0.trans s1
      have n1 : NS J1 (.ref t1) := ns_key (w := "send") (f := [101, 105]) (rest := [.int 0, .int (1000 + far)]) q1 (.cons (.int _) (.cons (.int _) .nil)) (.inr (.inr (.inr (.inl ⟨rfl, rfl⟩)))) (by simp) (fun e he => by
          simp only [List.mem_cons, List.not_mem_nil, or_false] at he
          rcases he with rfl | rfl
          · exact trivial
          · exact trivial) (by show false = (true && (between (.int 0) 0 1 && (between (.int (1000 + far)) 0 999 && true))); rw [far_no (i := 1000 + far) (lo := 0) (hi := 999) (by omega)]; rfl)
      have N : ∀ x ∈ [.ref t1], NS J1 x := ns_snoc N s1 n1
      refine ⟨_, rfl, _, rfl, _, _, rfl, rfl, (by show 3 ≤ sizeLine; decide), fun t2 h2 => ?_⟩
      have s2 := Same.upd_new (o := .tup [.str "send", V.int 0, .int (-1 - far)]) h2
      have q2 := upd_same (H := J1) (a := t2) (o := .tup [.str "send", V.int 0, .int (-1 - far)])
      generalize upd J1 t2 (.tup [.str "send", V.int 0, .int (-1 - far)]) = J2 at s2 q2 ⊢
      have s0 := s0.trans s2
      have n2 : NS J2 (.ref t2) := ns_key (w := "send") (f := [101, 105]) (rest := [.int 0, .int (-1 - far)]) q2 (.cons (.int _) (.cons (.int _) .nil)) (.inr (.inr (.inr (.inl ⟨rfl, rfl⟩)))) (by simp) (fun e he => by
          simp only [List.mem_cons, List.not_mem_nil, or_false] at he
          rcases he with rfl | rfl
          · exact trivial
          · exact trivial) (by show false = (true && (between (.int 0) 0 1 && (between (.int (-1 - far)) 0 999 && true))); rw [far_no (i := -1 - far) (lo := 0) (hi := 999) (by omega)]; rfl)
      have N : ∀ x ∈ [.ref t1, .ref t2], NS J2 x := ns_snoc N s2 n2
      refine ⟨(by show 3 ≤ sizeLine; decide), fun t3 h3 => ?_⟩
      have s3 := Same.upd_new (o := .tup [.str "send", .bl true, V.int 1]) h3
      have q3 := upd_same (H := J2) (a := t3) (o := .tup [.str "send", .bl true, V.int 1])
      generalize upd J2 t3 (.tup [.str "send", .bl true, V.int 1]) = J3 at s3 q3 ⊢
      have s0 := s0.trans s3
      have n3 : NS J3 (.ref t3) := ns_key (w := "send") (f := [101, 105]) (rest := [.bool true, .int 1]) q3 (.cons (.bl _) (.cons (.int _) .nil)) (.inr (.inr (.inr (.inl ⟨rfl, rfl⟩)))) (by simp) (fun e he => by
          simp only [List.mem_cons, List.not_mem_nil, or_false] at he
          rcases he with rfl | rfl
          · exact trivial
          · exact trivial) (by decide +kernel)
      have N : ∀ x ∈ [.ref t1, .ref t2, .ref t3], NS J3 x := ns_snoc N s3 n3
      refine ⟨(by show 2 ≤ sizeLine; decide), fun t4 h4 => ?_⟩
      have s4 := Same.upd_new (o := .tup [.str "got", V.int 2]) h4
      have q4 := upd_same (H := J3) (a := t4) (o := .tup [.str "got", V.int 2])
      generalize upd J3 t4 (.tup [.str "got", V.int 2]) = J4 at s4 q4 ⊢
      have s0 := s0.trans s4
      have n4 : NS J4 (.ref t4) := ns_key (w := "got") (f := [101]) (rest := [.int 2]) q4 (.cons (.int _) .nil) (.inr (.inr (.inr (.inr (.inl ⟨rfl, rfl⟩))))) (by simp) (fun e he => by
          simp only [List.mem_cons, List.not_mem_nil, or_false] at he
          rcases he with rfl
          · exact trivial) (by decide +kernel)
      have N : ∀ x ∈ [.ref t1, .ref t2, .ref t3, .ref t4], NS J4 x := ns_snoc N s4 n4
      refine ⟨(by show 1 ≤ sizeLine; decide), fun t5 h5 => ?_⟩
      have s5 := Same.upd_new (o := .tup [.str "got"]) h5
      have q5 := upd_same (H := J4) (a := t5) (o := .tup [.str "got"])
      generalize upd J4 t5 (.tup [.str "got"]) = J5 at s5 q5 ⊢
      have s0 := s0.trans s5
      have n5 : NS J5 (.ref t5) := ns_key (w := "got") (f := [101]) (rest := []) q5 .nil (.inr (.inr (.inr (.inr (.inl ⟨rfl, rfl⟩))))) (by simp) (fun e he => by simp at he) (by decide +kernel)
      have N : ∀ x ∈ [.ref t1, .ref t2, .ref t3, .ref t4, .ref t5], NS J5 x := ns_snoc N s5 n5
      refine ⟨(by show 5 ≤ sizeLine; decide), fun z hz => ?_⟩
      have sz := Same.upd_new (o := .lst [.ref t1, .ref t2, .ref t3, .ref t4, .ref t5]) hz
      have qz := upd_same (H := J5) (a := z) (o := .lst [.ref t1, .ref t2, .ref t3, .ref t4, .ref t5])
      generalize upd J5 z (.lst [.ref t1, .ref t2, .ref t3, .ref t4, .ref t5]) = HZ at sz qz ⊢
      have s0 := s0.trans sz
      refine ⟨l, z, _, _, rfl, rfl, s0 _ _ hl, qz, (by show xs.length + 5 ≤ 16777216; omega), fun S hS => ?_⟩
      have sS := Same.upd_new (o := .lst (xs ++ [.ref t1, .ref t2, .ref t3, .ref t4, .ref t5])) hS
      exact ⟨S, _, rfl, upd_same, ns_app NA (s0.trans sS) fun x hx => ((N x hx).same sz).same sS, (by rw [List.length_append, hxs]; rfl), (Frm.of_same (S := []) (sA.trans s0)).free hS, (sA.trans s0).trans sS⟩
    rintro σ' HA ⟨l, xs, rfl, hl, NA, hxs, lS, sA⟩
    refine ⟨fun σ' H' => ∃ (l : Addr) (xs : List V), σ' = [some (V.ref d), some (.int far), some (.ref l)] ∧ H' l = some (.lst xs) ∧ (∀ x ∈ xs, NS H' x) ∧ xs.length = 19 ∧ HS l = none ∧ Same HS H', ?_, ?_⟩
    · have s0 : Same HA HA := .refl _
      have N : ∀ x ∈ ([] : List V), NS HA x := fun x hx => by simp at hx
      refine ⟨_, rfl, .inl ⟨rfl, _, SqL.of hl⟩, _, rfl, (by show 2 ≤ sizeLine; decide), fun t1 h1 => ?_⟩
      have s1 := Same.upd_new (o := .tup [.str "left", V.int (-1)]) h1
      have q1 := upd_same (H := HA) (a := t1) (o := .tup [.str "left", V.int (-1)])
      generalize upd HA t1 (.tup [.str "left", V.int (-1)]) = J1 at s1 q1 ⊢
      have s0 := s0.trans s1
      have n1 : NS J1 (.ref t1) := ns_key (w := "left") (f := [101]) (rest := [.int (-1)]) q1 (.cons (.int _) .nil) (.inr (.inr (.inr (.inr (.inr (.inl ⟨rfl, rfl⟩)))))) (by simp) (fun e he => by
          simp only [List.mem_cons, List.not_mem_nil, or_false] at he
          rcases he with rfl
          · exact trivial) (by decide +kernel)
      have N : ∀ x ∈ [.ref t1], NS J1 x := ns_snoc N s1 n1
      have hl1 := s0 _ _ hl
      refine ⟨l, _, _, rfl, rfl, hl1, small1000 (by omega), ?_⟩
      have fl : Frm [l] J1 (upd J1 l (.lst (xs ++ [.ref t1]))) := Frm.updL hl1
      exact ⟨l, _, rfl, upd_same, fun x hx => (ns_app NA s0 N x hx).frm fl, (by rw [List.length_append, hxs]; rfl), lS, ((Frm.of_same (S := []) (sA.trans s0)).own lS fl).same⟩
    rintro σ' HA ⟨l, xs, rfl, hl, NA, hxs, lS, sA⟩
    have s0 : Same HA HA := .refl _
    have N : ∀ x ∈ ([] : List V), NS HA x := fun x hx => by simp at hx
    refine ⟨_, rfl, (by show 2 ≤ sizeLine; decide), fun t1 h1 => ?_⟩
    have s1 := Same.upd_new (o := .tup [.str "joined", V.int 0]) h1
    have q1 := upd_same (H := HA) (a := t1) (o := .tup [.str "joined", V.int 0])
    generalize upd HA t1 (.tup [.str "joined", V.int 0]) = J1 at s1 q1 ⊢
    have s0 := s0.trans s1
    have n1 : NS J1 (.ref t1) := ns_key (w := "joined") (f := []) (rest := [.int 0]) q1 (.cons (.int _) .nil) (.inr (.inr (.inr (.inr (.inr (.inr ⟨rfl, rfl⟩)))))) (by simp) (fun e he => by
        simp only [List.mem_cons, List.not_mem_nil, or_false] at he
        rcases he with rfl
        · exact trivial) (by decide +kernel)
    have N : ∀ x ∈ [.ref t1], NS J1 x := ns_snoc N s1 n1
    have N : ∀ x ∈ [.ref t1, .str "joined"], NS J1 x := ns_snoc N (.refl _) ⟨_, .str _, .str _, by show (PyData.str "joined").canLay0 = true; decide +kernel⟩
    have N : ∀ x ∈ [.ref t1, .str "joined", .non], NS J1 x := ns_snoc N (.refl _) ⟨_, .non, .none, trivial⟩
    have N : ∀ x ∈ [.ref t1, .str "joined", .non, .int 5], NS J1 x := ns_snoc N (.refl _) ⟨_, .int _, .int _, trivial⟩
    refine ⟨(by show 2 ≤ sizeLine; decide), fun t2 h2 => ?_⟩
    have s2 := Same.upd_new (o := .tup [.int 0, .int 0]) h2
    have q2 := upd_same (H := J1) (a := t2) (o := .tup [.int 0, .int 0])
    generalize upd J1 t2 (.tup [.int 0, .int 0]) = J2 at s2 q2 ⊢
    have s0 := s0.trans s2
    have N : ∀ x ∈ [.ref t1, .str "joined", .non, .int 5], NS J2 x := fun x hx => (N x hx).same s2
    refine ⟨(by show 3 ≤ sizeLine; decide), fun t3 h3 => ?_⟩
    have s3 := Same.upd_new (o := .tup [.str "pass", V.int 0, .ref t2]) h3
    have q3 := upd_same (H := J2) (a := t3) (o := .tup [.str "pass", V.int 0, .ref t2])
    generalize upd J2 t3 (.tup [.str "pass", V.int 0, .ref t2]) = J3 at s3 q3 ⊢
    have s0 := s0.trans s3
    have n3 : NS J3 (.ref t3) := ns_key (w := "pass") (f := [101, 109]) (rest := [.int 0, .tuple [.int 0, .int 0]]) q3 (.cons (.int _) (.cons (.tup (s3 _ _ q2) (im_ints [0, 0])) .nil)) (.inr (.inl ⟨rfl, rfl⟩)) (by simp) (fun e he => by
        simp only [List.mem_cons, List.not_mem_nil, or_false] at he
        rcases he with rfl | rfl
        · exact trivial
        · exact mdat_ints (ms := [0, 0]) (by decide)) (by decide +kernel)
    have N : ∀ x ∈ [.ref t1, .str "joined", .non, .int 5, .ref t3], NS J3 x := ns_snoc N s3 n3
    refine ⟨(by show 2 ≤ sizeLine; decide), fun t4 h4 => ?_⟩
    have s4 := Same.upd_new (o := .tup [.str "left", .non]) h4
    have q4 := upd_same (H := J3) (a := t4) (o := .tup [.str "left", .non])
    generalize upd J3 t4 (.tup [.str "left", .non]) = J4 at s4 q4 ⊢
    have s0 := s0.trans s4
    have n4 : NS J4 (.ref t4) := ns_key (w := "left") (f := [101]) (rest := [.none]) q4 (.cons .non .nil) (.inr (.inr (.inr (.inr (.inr (.inl ⟨rfl, rfl⟩)))))) (by simp) (fun e he => by
        simp only [List.mem_cons, List.not_mem_nil, or_false] at he
        rcases he with rfl
        · exact trivial) (by decide +kernel)
    have N : ∀ x ∈ [.ref t1, .str "joined", .non, .int 5, .ref t3, .ref t4], NS J4 x := ns_snoc N s4 n4
    refine ⟨(by show 6 ≤ sizeLine; decide), fun z hz => ?_⟩
    have sz := Same.upd_new (o := .lst [.ref t1, .str "joined", .non, .int 5, .ref t3, .ref t4]) hz
    have qz := upd_same (H := J4) (a := z) (o := .lst [.ref t1, .str "joined", .non, .int 5, .ref t3, .ref t4])
    generalize upd J4 z (.lst [.ref t1, .str "joined", .non, .int 5, .ref t3, .ref t4]) = HZ at sz qz ⊢
    have s0 := s0.trans sz
    refine ⟨l, z, _, _, rfl, rfl, s0 _ _ hl, qz, (by show xs.length + 6 ≤ 16777216; omega), fun S hS => ?_⟩
    have sS := Same.upd_new (o := .lst (xs ++ [.ref t1, .str "joined", .non, .int 5, .ref t3, .ref t4])) hS
    have NS5 : ∀ x ∈ xs ++ [.ref t1, .str "joined", .non, .int 5, .ref t3, .ref t4], NS _ x := ns_app NA (s0.trans sS) fun x hx => ((N x hx).same sz).same sS
    have qS := upd_same (H := HZ) (a := S) (o := .lst (xs ++ [.ref t1, .str "joined", .non, .int 5, .ref t3, .ref t4]))
    generalize hfin : xs ++ [.ref t1, .str "joined", .non, .int 5, .ref t3, .ref t4] = ys at sS NS5 qS ⊢
    have hyl : ys.length = 25 := by rw [← hfin, List.length_append, hxs]; rfl
    generalize upd HZ S (.lst ys) = HY at sS NS5 qS ⊢
    have sY := (sA.trans s0).trans sS
    have DY := DS.same sY
    have nS := (DS.same (sA.trans s0)).ne_new hS
    refine ⟨_, rfl, d, 25, rfl, DY, by decide, by decide, fun j HX j0 j25 DX fX => ?_⟩
    obtain ⟨v, hv, hat⟩ := at_get (l := ys) (r := j) j0 (by omega)
    exact ⟨S, _, j, v, rfl, rfl, SqL.of (fX _ _ qS (by simp [nS])), hat, k v HX ((NS5 v hv).frm fX) DX ((fS.trans (Frm.of_same sY)).trans fX)⟩

end
end TL

namespace TL
open PySem PySem.Spec PyProof.Rows L2
section
variable {P : Program} {w : World} {K : PySem.W.Frag} {mg : Str → Option Value} {base : Heap}
theorem frm_owns3 {S L : List Addr} {H H1 H2 : Hp} (a : Frm S H H1) (hl : ∀ l ∈ L, l ∈ S ∨ H l = none) (b : Frm L H1 H2) : Frm S H H2 :=
  ⟨fun c o e h => b.keep c o (a.keep c o e h) fun z => (hl c z).elim h fun q => (by rw [e] at q; cases q), fun c o e => b.tups c o (a.tups c o e), fun c o e => let ⟨o', e'⟩ := a.there c o e; b.there c o' e'⟩
theorem last_row' {s : PlS} {rs : List Row} {r : Row} (h : s.log = rs ++ [r]) : lastRow s = r := by
  unfold lastRow
  rw [h, List.getLast?_concat]
  rfl
theorem last_some {ts : List V} (h : ts ≠ []) : ts.getLast? = some (ts.getLast h) := by
  first
    | exact List.getLast?_eq_some_getLast h
    | exact List.getLast?_eq_getLast h
    | simp [List.getLast?_eq_getLast, h]
theorem lo_every' {x : LoAd} {lo : Addr} : ∀ z ∈ ({ x with lo := lo } : LoAd).every, z = lo ∨ z ∈ x.every := by
  intro z hz
  simp only [LoAd.every, LoAd.base, List.mem_append, List.mem_cons, List.not_mem_nil, or_false] at hz ⊢
  rcases hz with (h | h | h | h | h) | h
  · exact .inr (.inl (.inl h))
  · exact .inr (.inl (.inr (.inl h)))
  · exact .inr (.inl (.inr (.inr (.inl h))))
  · exact .inr (.inl (.inr (.inr (.inr (.inl h)))))
  · exact .inl h
  · exact .inr (.inr h)
theorem lo_all' {x : LoAd} {lo : Addr} : ∀ z ∈ ({ x with lo := lo } : LoAd).all, z = lo ∨ z ∈ x.all := by
  intro z hz
  simp only [LoAd.all, List.mem_append, List.mem_cons, List.not_mem_nil, or_false] at hz ⊢
  rcases hz with (h | h | h | h) | h
  · exact .inr (.inl (.inl h))
  · exact .inr (.inl (.inr (.inl h)))
  · exact .inr (.inl (.inr (.inr (.inl h))))
  · exact .inl h
  · exact .inr (.inr h)
theorem at_last' {ts : List V} (h : ts ≠ []) : atI ts (-1) = some (ts.getLast h) := by
  have hl : 0 < ts.length := List.length_pos_iff.mpr h
  unfold atI ixN
  rw [if_neg (by decide), if_pos (by omega)]
  show ts[((-1 : Int) + (ts.length : Int)).toNat]? = _
  have e : ((-1 : Int) + (ts.length : Int)).toNat = ts.length - 1 := by omega
  rw [e, List.getLast_eq_getElem, List.getElem?_eq_getElem]
def sp__law_tells (T : Txt w K mg) : Sp := fun vs H Q _ => ∃ (Z : List Addr) (x : LoAd) (s : PlS) (a : Addr) (st : StepD) (k : Nat), vs = [.ref x.o, .ref a] ∧ LoAt T.C_Line T.C_End T.C_Marks Z H x s ∧ (∀ z ∈ x.all, z ∈ Z) ∧ Alloc Z H ∧ PlOk k s ∧ k < 200 ∧ StepAt H a st ∧ st.ok ∧
  ∀ (Z' : List Addr) (x' : LoAd) (v : V) (H' : Hp), x'.o = x.o → LoAt T.C_Line T.C_End T.C_Marks Z' H' x' (doneF s st).1 → (∀ z ∈ x'.all, z ∈ Z') → (∀ z ∈ Z, z ∈ Z') → Alloc Z' H' → (∀ z ∈ x'.all, z ∈ x.all ∨ H z = none) → (∀ z ∈ x'.every, z ∈ x.every ∨ H z = none) → Frm x.all H H' → Told (fun q => H q = none ∧ q ∉ x'.all) H' v (doneF s st).2 → Q v H'
theorem ok__law_tells (T : Txt w K mg) : FnOk P w K mg base CX0 10 T.a__law_tells T.fd__law_tells P__law_tells (sp__law_tells T) := by
  have G_Line_let_pass := ok_Line_let_pass (P := P) (w := w) (base := base) T
  have G_Line_lose := ok_Line_lose (P := P) (w := w) (base := base) T
  have G_End_send := ok_End_send (P := P) (w := w) (base := base) T
  have G_Line_send := ok_Line_send (P := P) (w := w) (base := base) T
  have G_stretches := ok_stretches (P := P) (w := w) (base := base) T
  have G_End_left := ok_End_left (P := P) (w := w) (base := base) T
  have G_Line_left := ok_Line_left (P := P) (w := w) (base := base) T
  have G_End_got := ok_End_got (P := P) (w := w) (base := base) T
  have G_Line_got := ok_Line_got (P := P) (w := w) (base := base) T
  have G_Line_frame := ok_Line_frame (P := P) (w := w) (base := base) T
  have G_Line_log := ok_Line_log (P := P) (w := w) (base := base) T
  refine T.F__law_tells.ok sc__law_tells (fun vs H Q E h => ?_) (fun cdv A outer s H vs Q E hr h => ?_)
  · obtain ⟨Z, x, s, a, st, k, rfl, _⟩ := h
    rfl
  · obtain ⟨Z, x, sk, a, st, n, rfl, M0, hZ, AZ0, ok, hn, hst, hok, k⟩ := h
    refine ⟨_, (pss_cons (ps_par (i := 2) (j := 3) (by rfl) sc__law_tells.nd rfl rfl (by decide) rfl rfl (pa_cons (pe_ix ix_tup (pv 1) pe_int (fun _ _ => rfl)) (pa_cons (pe_slice sl_tupA (pv 1) (po_some pe_int) po_none) pa_nil)) (by rfl))
    (pss_cons (ps_if (pt_cmpR op_eq (pv 2) pe_str (nomark _))
      (pss_one (ps_ret (pe_ix ix_list (pe_lc (own := [("_law_turn", 4)]) (g := (gName 4)) (tt := tYes) (te := (tMeth T.C_Line "frame" _ [] E0 (tVar 0) tNil)) rfl sc__law_tells.nd (pi_range1 rfl T.n_range (pa_cons (pe_ix ix_tup (pv 3) pe_int (fun _ _ => rfl)) pa_nil)) (blkOk_by (own := [("_law_turn", 4)]) (N := N__law_tells) (sc := defScope s__law_tells) (by decide +kernel)) (fun _ _ _ _ _ => (pg_name (i := 4) sc__law_tells.nd rfl (by first | exact Or.inl rfl | exact Or.inr rfl))) (fun _ _ _ _ _ => pts_nil) (fun _ _ _ _ _ => (pe_meth0 (pv 0) T.cl_Line T.m_Line_frame G_Line_frame (hr.mono (by decide)) T.b_Line_frame .nil pass0))) (pe_un un_neg pe_int) (fun _ _ => rfl))))
      pss_nil)
    (pss_cons (ps_if (pt_cmpR op_eq (pv 2) pe_str (nomark _))
      (pss_one (ps_expr (pe_meth (pv 0) T.cl_Line T.m_Line_let_pass G_Line_let_pass (hr.mono (by decide)) T.b_Line_let_pass .nil passL (pa_cons (pe_ix ix_tup (pv 3) pe_int (fun _ _ => rfl)) (pa_cons (pe_ix ix_tup (pv 3) pe_int (fun _ _ => rfl)) pa_nil)))))
      pss_nil)
    (pss_cons (ps_if (pt_cmpR op_eq (pv 2) pe_str (nomark _))
      (pss_one (ps_expr (pe_meth (pv 0) T.cl_Line T.m_Line_lose G_Line_lose (hr.mono (by decide)) T.b_Line_lose .nil passL (pa_cons (pe_ix ix_tup (pv 3) pe_int (fun _ _ => rfl)) (pa_cons (pe_ix ix_tup (pv 3) pe_int (fun _ _ => rfl)) pa_nil)))))
      pss_nil)
    (pss_cons (ps_if (PW.pt (pw_and (pt_cmpR op_eq (pv 2) pe_str (nomark _)) (pw_and1 (pt_cmpR op_lt (pe_meth (pv 0) T.cl_Line T.m_Line_left G_Line_left (hr.mono (by decide)) T.b_Line_left .nil passL (pa_cons (pe_ix ix_tup (pv 3) pe_int (fun _ _ => rfl)) pa_nil)) pe_int (nomark _)))))
      (pss_cons (ps_expr (pe_meth (pv 0) T.cl_Line T.m_Line_send G_Line_send (hr.mono (by decide)) T.b_Line_send .nil passL (pa_cons (pe_ix ix_tup (pv 3) pe_int (fun _ _ => rfl)) (pa_cons (pe_ix ix_tup (pv 3) pe_int (fun _ _ => rfl)) pa_nil))))
      (pss_one (ps_ret pe_bl)))
      pss_nil)
    (pss_cons (ps_if (pt_cmpR op_in_seq (pv 2) (pe_tup (pa_cons pe_str (pa_cons pe_str pa_nil))) (by rfl))
      (pss_one (ps_ret (pe_ifExp (pt_cmpR op_eq (pv 2) pe_str (nomark _)) (pe_meth (pv 0) T.cl_Line T.m_Line_got G_Line_got (hr.mono (by decide)) T.b_Line_got .nil passL (pa_cons (pe_ix ix_tup (pv 3) pe_int (fun _ _ => rfl)) pa_nil)) (pe_meth (pv 0) T.cl_Line T.m_Line_left G_Line_left (hr.mono (by decide)) T.b_Line_left .nil passL (pa_cons (pe_ix ix_tup (pv 3) pe_int (fun _ _ => rfl)) pa_nil)))))
      pss_nil)
    (pss_one (ps_ret (pe_ifExp (pt_cmpR op_eq (pv 2) pe_str (nomark _)) (pe_call G_stretches (hr.mono (by decide)) rfl T.g_stretches T.F_stretches.kp T.b_stretches .nil pass0 (pa_cons (pe_slice sl_list (pe_meth0 (pv 0) T.cl_Line T.m_Line_log G_Line_log (hr.mono (by decide)) T.b_Line_log .nil pass0) (po_some (pe_un un_neg pe_int)) po_none) pa_nil)) (pe_cmpR op_ne (pv 2) pe_str (nomark _))))))))))), ?_⟩
    have hno : ∀ {m : Str} {x : LoAd}, m ∉ liN → (liN.zip (liV x)).lookup m = none := fun h => zip_no h
    cases st with
    | frames c =>
      have ha : H a = some (.tup [.str "frames", .int c]) := hst
      refine ⟨_, rfl, a, _, _, _, rfl, rfl, SqT.of ha, rfl, _, rfl, _, rfl, a, _, rfl, SqT.of ha, (fun z => absurd z.1 (by show ¬ (1 : Nat) = 0; decide)), fun _ r hrn => ?_⟩
      have ec : cutV [.str "frames", .int c] (some 1) none = [.int c] := rfl
      rw [ec]
      have s1 := Same.upd_new (o := .tup [.int c]) hrn
      have qr := upd_same (H := H) (a := r) (o := .tup [.int c])
      generalize upd H r (.tup [.int c]) = H1 at s1 qr ⊢
      refine ⟨_, _, rfl, ?_⟩
      have M := M0.same s1
      have AZ := AZ0.frm (Frm.of_same (S := []) s1)
      obtain ⟨dx, ho⟩ := M.ob
      refine ⟨_, rfl, rfl, true, congrArg V.bl (decide_eq_true (by decide +kernel)), iteT ?_⟩
      obtain ⟨c1, c2⟩ := hok
      have ho0 := ok.ov
      have hl0 := ok.lg
      refine ⟨_, rfl, r, _, _, _, rfl, rfl, SqT.of qr, rfl, c, rfl, by omega, by omega, fun D hD => ?_⟩
      have sD := Same.upd_new (o := .lst []) hD
      have nD0 := M.ne_new hD
      have M1 : LoAt T.C_Line T.C_End T.C_Marks (D :: Z) (upd H1 D (.lst [])) x sk := (M.more fun y hy => (List.mem_cons.mp hy).elim (fun e => .inr fun bs z => by rw [e, hD] at z; cases z) .inl).same sD
      refine lc_range (lo := 0) (n := c.toNat) (fun i H' => ∃ (Z' : List Addr) (x' : LoAd) (ts : List V), x'.o = x.o ∧ LoAt T.C_Line T.C_End T.C_Marks Z' H' x' (framesP i sk) ∧ (∀ z ∈ x'.all, z ∈ Z') ∧ (∀ z ∈ D :: Z, z ∈ Z') ∧ Alloc Z' H' ∧ (∀ z ∈ x'.all, z ∈ x.all ∨ H1 z = none) ∧ (∀ z ∈ x'.every, z ∈ x.every ∨ H1 z = none) ∧ D ∉ x'.every ∧ Frm x.all H1 H' ∧ H' D = some (.lst ts) ∧ ts.length = i ∧ ∀ v, ts.getLast? = some v → ∃ t, v = .ref t ∧ H' t = some (.tup (rowV (lastRow (framesP i sk)))))
        ⟨D :: Z, x, [], rfl, M1, fun z hz => List.mem_cons_of_mem _ (hZ z hz), fun z hz => hz, ?_, fun z hz => .inl hz, fun z hz => .inl hz, nD0, Frm.of_same sD, upd_same, rfl, fun v hv => by simp at hv⟩ ?_ ?_
      · intro z hz
        rcases List.mem_cons.mp hz with rfl | hz
        · exact ⟨_, upd_same⟩
        · exact AZ.frm (Frm.of_same (S := []) sD) z hz
      · rintro i H2 hi ⟨Z1, x1, ts, e1, M2, hZ1, hZZ, A1, own1, ow1, nD, f1, hD2, htl, _⟩
        obtain ⟨g1, g2, g3, _⟩ := PlOk.frame (k := n) (n := i) (m := 100 * n) ok.ok ok.rs (by omega) hl0 (by omega)
        obtain ⟨dx2, ho2⟩ := M2.ob
        refine ⟨rfl, _, rfl, x.o, dx2, _, rfl, (by rw [← e1]; exact ho2), hno (by decide), Z1, x1, framesP i sk, by rw [e1]; rfl, M2, hZ1, A1, g1, by omega, by omega, fun lo t H3 hlo M3 f3 htr => ?_⟩
        have nDa : D ∉ x1.all := fun z => nD (x1.sub_all _ z)
        have hD3 := f3 _ _ hD2 nDa
        have nlo : lo ≠ D := fun e => by rw [e, hD2] at hlo; cases hlo
        have fD : Frm [D] H3 (upd H3 D (.lst (ts ++ [.ref t]))) := Frm.updL hD3
        have ev : ∀ z ∈ ({ x1 with lo := lo } : LoAd).every, z = lo ∨ z ∈ x1.every := lo_every'
        have nD3 : D ∉ ({ x1 with lo := lo } : LoAd).every := fun z => (ev D z).elim (fun e => nlo e.symm) nD
        have al3 : ∀ z ∈ ({ x1 with lo := lo } : LoAd).all, z = lo ∨ z ∈ x1.all := lo_all'
        have lo1 : H1 lo = none := f1.free hlo
        refine ⟨_, hD3, small1000 (by omega), lo :: Z1, { x1 with lo := lo }, ts ++ [.ref t], e1, M3.frm fD (fun y hy => by simp at hy; subst hy; exact List.mem_cons_of_mem _ (hZZ _ (.head _))) (fun y hy z => by simp at z; subst z; exact nD3 hy), fun z hz => (al3 z hz).elim (fun e => by rw [e]; exact .head _) fun q => List.mem_cons_of_mem _ (hZ1 z q), fun z hz => List.mem_cons_of_mem _ (hZZ z hz), ?_, fun z hz => (al3 z hz).elim (fun e => by rw [e]; exact .inr lo1) (own1 z), fun z hz => (ev z hz).elim (fun e => by rw [e]; exact .inr lo1) (ow1 z), nD3, (frm_owns3 f1 own1 f3).own hD fD, upd_same, by simp [htl], fun v hv => ?_⟩
        · have A3 : Alloc (lo :: Z1) H3 := fun z hz => (List.mem_cons.mp hz).elim (fun e => by rw [e]; exact M3.there _ (by simp [LoAd.every, LoAd.base])) (A1.frm f3 z)
          exact A3.frm fD
        · rw [List.getLast?_concat] at hv
          have elog : (framesP (i + 1) sk).log = (framesP i sk).log ++ [rowF (framesP i sk).ps (framesP i sk).ls (halfF (framesP i sk).ps (framesP i sk).ls (framesP i sk).toLnS)] := frame_log _ _ _
          rw [last_row' elog]
          exact ⟨t, (Option.some.inj hv).symm, fD.tups _ _ htr⟩
      · rintro H2 ⟨Z1, x1, ts, e1, M2, hZ1, hZZ, A1, own1, ow1, nD, f1, hD2, htl, hlast⟩
        have hne : ts ≠ [] := fun z => by rw [z] at htl; simp at htl; omega
        obtain ⟨t, et, htr⟩ := hlast _ (last_some hne)
        have hat : atI ts (-1) = some (.ref t) := by
          rw [← et]
          exact at_last' hne
        refine ⟨_, rfl, D, _, _, .ref t, rfl, rfl, SqL.of hD2, hat, ?_⟩
        exact k Z1 x1 _ _ e1 M2 hZ1 (fun z hz => hZZ z (List.mem_cons_of_mem _ hz)) A1 (fun z hz => (own1 z hz).imp id fun q => (Frm.of_same (S := []) s1).free q) (fun z hz => (ow1 z hz).imp id fun q => (Frm.of_same (S := []) s1).free q) ((Frm.of_same s1).trans f1) (.inl (im_row htr))
    | pass e ms =>
      obtain ⟨tp, ha, htp⟩ := id hst
      refine ⟨_, rfl, a, _, _, _, rfl, rfl, SqT.of ha, rfl, _, rfl, _, rfl, a, _, rfl, SqT.of ha, (fun z => absurd z.1 (by show ¬ (1 : Nat) = 0; decide)), fun _ r hrn => ?_⟩
      have ec : cutV [.str "pass", .int e, .ref tp] (some 1) none = [.int e, .ref tp] := rfl
      rw [ec]
      have s1 := Same.upd_new (o := .tup [.int e, .ref tp]) hrn
      have qr := upd_same (H := H) (a := r) (o := .tup [.int e, .ref tp])
      generalize upd H r (.tup [.int e, .ref tp]) = H1 at s1 qr ⊢
      refine ⟨_, _, rfl, ?_⟩
      have M := M0.same s1
      have AZ := AZ0.frm (Frm.of_same (S := []) s1)
      obtain ⟨dx, ho⟩ := M.ob
      refine ⟨_, rfl, rfl, false, congrArg V.bl (decide_eq_false (by decide +kernel)), iteF ?_⟩
      refine ⟨_, rfl, rfl, true, congrArg V.bl (decide_eq_true (by decide +kernel)), iteT ?_⟩
      have htp1 := s1 _ _ htp
      refine ⟨_, rfl, x.o, dx, _, rfl, ho, hno (by decide), _, rfl, r, _, _, _, rfl, rfl, SqT.of qr, rfl, _, rfl, r, _, _, _, rfl, rfl, SqT.of qr, rfl, Z, x, sk, .int e, .ref tp, .int e, .tuple (ms.map .int), rfl, M, hZ, .int _, (fun ds z => by cases z), .tup htp1 (im_ints _), mdat_ints hok.2.2.2.2, (fun z => absurd z (by rcases hok.1 with rfl | rfl <;> decide)), (fun _ z => absurd z (by rw [isMan_ints hok.2]; simp)), fun e' ms' q1 q2 _ _ H2 M2 f2 => ?_⟩
      cases q1
      have em : ms = ms' := (List.map_inj_right (f := PyData.int) (fun x y z => by cases z; rfl)).mp (by injection q2)
      subst em
      refine ⟨_, rfl, rfl, false, congrArg V.bl (decide_eq_false (by decide +kernel)), iteF ?_⟩
      refine ⟨_, rfl, rfl, false, congrArg V.bl (decide_eq_false (by decide +kernel)), iteF ?_⟩
      refine ⟨_, rfl, (by show 2 ≤ sizeLine; decide), fun E hE => ?_⟩
      have sE := Same.upd_new (o := .tup [.str "got", .str "left"]) hE
      refine ⟨E, _, rfl, .inr (SqT.of upd_same), rfl, by decide +kernel, false, congrArg V.bl (by decide +kernel), iteF ?_⟩
      refine ⟨_, rfl, rfl, false, congrArg V.bl (decide_eq_false (by decide +kernel)), iteF ?_⟩
      have kk := k Z x (.bl true) (upd H2 E (.tup [.str "got", .str "left"])) rfl (M2.same sE) hZ (fun z hz => hz) ((AZ.frm f2).frm (Frm.of_same (S := []) sE)) (fun z hz => .inl hz) (fun z hz => .inl hz) (((Frm.of_same s1).trans f2).trans (Frm.of_same sE)) (.inl (.bl true))
      exact ⟨_, rfl, rfl, kk⟩
    | lose p e =>
      have ha : H a = some (.tup [.str "lose", .int p, .int e]) := hst
      refine ⟨_, rfl, a, _, _, _, rfl, rfl, SqT.of ha, rfl, _, rfl, _, rfl, a, _, rfl, SqT.of ha, (fun z => absurd z.1 (by show ¬ (1 : Nat) = 0; decide)), fun _ r hrn => ?_⟩
      have ec : cutV [.str "lose", .int p, .int e] (some 1) none = [.int p, .int e] := rfl
      rw [ec]
      have s1 := Same.upd_new (o := .tup [.int p, .int e]) hrn
      have qr := upd_same (H := H) (a := r) (o := .tup [.int p, .int e])
      generalize upd H r (.tup [.int p, .int e]) = H1 at s1 qr ⊢
      refine ⟨_, _, rfl, ?_⟩
      have M := M0.same s1
      have AZ := AZ0.frm (Frm.of_same (S := []) s1)
      obtain ⟨dx, ho⟩ := M.ob
      refine ⟨_, rfl, rfl, false, congrArg V.bl (decide_eq_false (by decide +kernel)), iteF ?_⟩
      refine ⟨_, rfl, rfl, false, congrArg V.bl (decide_eq_false (by decide +kernel)), iteF ?_⟩
      refine ⟨_, rfl, rfl, true, congrArg V.bl (decide_eq_true (by decide +kernel)), iteT ?_⟩
      refine ⟨_, rfl, x.o, dx, _, rfl, ho, hno (by decide), _, rfl, r, _, _, _, rfl, rfl, SqT.of qr, rfl, _, rfl, r, _, _, _, rfl, rfl, SqT.of qr, rfl, Z, x, sk, .int p, .int e, .int p, .int e, rfl, M, hZ, .int _, (fun ds z => by cases z), .int _, (fun ds z => by cases z), (fun z => absurd z (by rcases hok.1 with rfl | rfl <;> decide)), (fun _ z => absurd z (by rcases hok.2 with rfl | rfl <;> decide)), fun p' e' q1 q2 _ _ H2 M2 f2 => ?_⟩
      cases q1
      cases q2
      refine ⟨_, rfl, rfl, false, congrArg V.bl (decide_eq_false (by decide +kernel)), iteF ?_⟩
      refine ⟨_, rfl, (by show 2 ≤ sizeLine; decide), fun E hE => ?_⟩
      have sE := Same.upd_new (o := .tup [.str "got", .str "left"]) hE
      refine ⟨E, _, rfl, .inr (SqT.of upd_same), rfl, by decide +kernel, false, congrArg V.bl (by decide +kernel), iteF ?_⟩
      refine ⟨_, rfl, rfl, false, congrArg V.bl (decide_eq_false (by decide +kernel)), iteF ?_⟩
      have kk := k Z x (.bl true) (upd H2 E (.tup [.str "got", .str "left"])) rfl (M2.same sE) hZ (fun z hz => hz) ((AZ.frm f2).frm (Frm.of_same (S := []) sE)) (fun z hz => .inl hz) (fun z hz => .inl hz) (((Frm.of_same s1).trans f2).trans (Frm.of_same sE)) (.inl (.bl true))
      exact ⟨_, rfl, rfl, kk⟩
    | send e i =>
      have ha : H a = some (.tup [.str "send", .int e, .int i]) := hst
      refine ⟨_, rfl, a, _, _, _, rfl, rfl, SqT.of ha, rfl, _, rfl, _, rfl, a, _, rfl, SqT.of ha, (fun z => absurd z.1 (by show ¬ (1 : Nat) = 0; decide)), fun _ r hrn => ?_⟩
      have ec : cutV [.str "send", .int e, .int i] (some 1) none = [.int e, .int i] := rfl
      rw [ec]
      have s1 := Same.upd_new (o := .tup [.int e, .int i]) hrn
      have qr := upd_same (H := H) (a := r) (o := .tup [.int e, .int i])
      generalize upd H r (.tup [.int e, .int i]) = H1 at s1 qr ⊢
      refine ⟨_, _, rfl, ?_⟩
      have M := M0.same s1
      have AZ := AZ0.frm (Frm.of_same (S := []) s1)
      obtain ⟨dx, ho⟩ := M.ob
      refine ⟨_, rfl, rfl, false, congrArg V.bl (decide_eq_false (by decide +kernel)), iteF ?_⟩
      refine ⟨_, rfl, rfl, false, congrArg V.bl (decide_eq_false (by decide +kernel)), iteF ?_⟩
      refine ⟨_, rfl, rfl, false, congrArg V.bl (decide_eq_false (by decide +kernel)), iteF ?_⟩
      refine ⟨_, rfl, rfl, true, congrArg V.bl (decide_eq_true (by decide +kernel)), iteT ?_⟩
      have wa := ok.ok.ea.wait
      have wb := ok.ok.eb.wait
      have w20 : (endW sk e).length ≤ 20 := by unfold endW; split <;> assumption
      refine ⟨_, rfl, x.o, dx, _, rfl, ho, hno (by decide), _, rfl, r, _, _, _, rfl, rfl, SqT.of qr, rfl, Z, x, sk, .int e, .int e, rfl, M, .int _, (fun ds z => by cases z), (fun z => absurd z (by rcases hok.1 with rfl | rfl <;> decide)), fun e' q1 _ => ?_⟩
      cases q1
      refine ⟨_, _, rfl, rfl, _, rfl, ?_⟩
      rw [done_send] at k
      by_cases hw : (endW sk e).length = 20
      · rw [if_pos hw] at k
        refine iteD (fun z => absurd z (by show ¬ (((endW sk e).length : Nat) : Int) < 20; omega)) (fun _ => ?_)
        have f2 : Frm x.all H1 H1 := .refl _ _
        have M2 := M
        obtain ⟨H2, e2⟩ : ∃ H2, H1 = H2 := ⟨_, rfl⟩
        subst e2
        refine ⟨_, rfl, (by show 2 ≤ sizeLine; decide), fun E hE => ?_⟩
        have sE := Same.upd_new (o := .tup [.str "got", .str "left"]) hE
        refine ⟨E, _, rfl, .inr (SqT.of upd_same), rfl, by decide +kernel, false, congrArg V.bl (by decide +kernel), iteF ?_⟩
        refine ⟨_, rfl, rfl, false, congrArg V.bl (decide_eq_false (by decide +kernel)), iteF ?_⟩
        have kk := k Z x (.bl false) (upd H1 E (.tup [.str "got", .str "left"])) rfl (M2.same sE) hZ (fun z hz => hz) ((AZ.frm f2).frm (Frm.of_same (S := []) sE)) (fun z hz => .inl hz) (fun z hz => .inl hz) (((Frm.of_same s1).trans f2).trans (Frm.of_same sE)) (.inl (.bl false))
        exact ⟨_, rfl, rfl, kk⟩
      · rw [if_neg hw] at k
        refine iteD (fun _ => ?_) (fun z => absurd (show (((endW sk e).length : Nat) : Int) < 20 by omega) z)
        refine ⟨_, rfl, x.o, dx, _, rfl, ho, hno (by decide), _, rfl, r, _, _, _, rfl, rfl, SqT.of qr, rfl, _, rfl, r, _, _, _, rfl, rfl, SqT.of qr, rfl, Z, x, sk, .int e, .int i, .int e, .int i, rfl, M, hZ, .int _, (fun ds z => by cases z), .int _, (fun ds z => by cases z), wa, wb, (fun z => absurd z (by rcases hok.1 with rfl | rfl <;> decide)), (fun _ z => absurd z (by rw [btw' hok.2.1 hok.2.2]; simp)), (fun e' q1 _ _ z => ?_), fun e' i' q1 q2 _ _ _ _ H2 M2 f2 => ?_⟩
        · cases q1
          exact absurd z hw
        cases q1
        cases q2
        exact k Z x (.bl true) H2 rfl M2 hZ (fun z hz => hz) (AZ.frm f2) (fun z hz => .inl hz) (fun z hz => .inl hz) ((Frm.of_same s1).trans f2) (.inl (.bl true))
    | got e =>
      have ha : H a = some (.tup [.str "got", .int e]) := hst
      refine ⟨_, rfl, a, _, _, _, rfl, rfl, SqT.of ha, rfl, _, rfl, _, rfl, a, _, rfl, SqT.of ha, (fun z => absurd z.1 (by show ¬ (1 : Nat) = 0; decide)), fun _ r hrn => ?_⟩
      have ec : cutV [.str "got", .int e] (some 1) none = [.int e] := rfl
      rw [ec]
      have s1 := Same.upd_new (o := .tup [.int e]) hrn
      have qr := upd_same (H := H) (a := r) (o := .tup [.int e])
      generalize upd H r (.tup [.int e]) = H1 at s1 qr ⊢
      refine ⟨_, _, rfl, ?_⟩
      have M := M0.same s1
      have AZ := AZ0.frm (Frm.of_same (S := []) s1)
      obtain ⟨dx, ho⟩ := M.ob
      refine ⟨_, rfl, rfl, false, congrArg V.bl (decide_eq_false (by decide +kernel)), iteF ?_⟩
      refine ⟨_, rfl, rfl, false, congrArg V.bl (decide_eq_false (by decide +kernel)), iteF ?_⟩
      refine ⟨_, rfl, rfl, false, congrArg V.bl (decide_eq_false (by decide +kernel)), iteF ?_⟩
      refine ⟨_, rfl, rfl, false, congrArg V.bl (decide_eq_false (by decide +kernel)), iteF ?_⟩
      refine ⟨_, rfl, (by show 2 ≤ sizeLine; decide), fun E hE => ?_⟩
      have sE := Same.upd_new (o := .tup [.str "got", .str "left"]) hE
      refine ⟨E, _, rfl, .inr (SqT.of upd_same), rfl, by decide +kernel, true, congrArg V.bl (by decide +kernel), iteT ?_⟩
      generalize upd H1 E (.tup [.str "got", .str "left"]) = H2 at sE ⊢
      have M2 := M.same sE
      have qr := sE _ _ qr
      obtain ⟨dx, ho⟩ := M2.ob
      refine ⟨_, rfl, rfl, true, congrArg V.bl (decide_eq_true (by decide +kernel)), iteT ?_⟩
      refine ⟨_, rfl, x.o, dx, _, rfl, ho, hno (by decide), _, rfl, r, _, _, _, rfl, rfl, SqT.of qr, rfl, Z, x, sk, .int e, .int e, rfl, M2, .int _, (fun ds z => by cases z), (fun z => absurd z (by rcases hok with rfl | rfl <;> decide)), fun e' q1 _ l hl => ?_⟩
      cases q1
      have s3 := Same.upd_new (o := .lst ((if e = 0 then sk.a.got else sk.b.got).map V.int)) hl
      have s13 := s1.trans sE
      have g0 := ok.ok.ea.got
      have g1 := ok.ok.eb.got
      refine k Z x _ _ rfl (M2.same s3) hZ (fun z hz => hz) (AZ0.frm (Frm.of_same (S := []) (s13.trans s3))) (fun z hz => .inl hz) (fun z hz => .inl hz) (Frm.of_same (s13.trans s3)) (.inr ⟨l, _, _, rfl, rfl, upd_same, im_ints _, ?_, (Frm.of_same (S := []) s13).free hl, fun z => M2.ne_new hl (x.sub_all _ z)⟩)
      rw [List.length_map]
      split <;> omega
    | left e =>
      have ha : H a = some (.tup [.str "left", .int e]) := hst
      refine ⟨_, rfl, a, _, _, _, rfl, rfl, SqT.of ha, rfl, _, rfl, _, rfl, a, _, rfl, SqT.of ha, (fun z => absurd z.1 (by show ¬ (1 : Nat) = 0; decide)), fun _ r hrn => ?_⟩
      have ec : cutV [.str "left", .int e] (some 1) none = [.int e] := rfl
      rw [ec]
      have s1 := Same.upd_new (o := .tup [.int e]) hrn
      have qr := upd_same (H := H) (a := r) (o := .tup [.int e])
      generalize upd H r (.tup [.int e]) = H1 at s1 qr ⊢
      refine ⟨_, _, rfl, ?_⟩
      have M := M0.same s1
      have AZ := AZ0.frm (Frm.of_same (S := []) s1)
      obtain ⟨dx, ho⟩ := M.ob
      refine ⟨_, rfl, rfl, false, congrArg V.bl (decide_eq_false (by decide +kernel)), iteF ?_⟩
      refine ⟨_, rfl, rfl, false, congrArg V.bl (decide_eq_false (by decide +kernel)), iteF ?_⟩
      refine ⟨_, rfl, rfl, false, congrArg V.bl (decide_eq_false (by decide +kernel)), iteF ?_⟩
      refine ⟨_, rfl, rfl, false, congrArg V.bl (decide_eq_false (by decide +kernel)), iteF ?_⟩
      refine ⟨_, rfl, (by show 2 ≤ sizeLine; decide), fun E hE => ?_⟩
      have sE := Same.upd_new (o := .tup [.str "got", .str "left"]) hE
      refine ⟨E, _, rfl, .inr (SqT.of upd_same), rfl, by decide +kernel, true, congrArg V.bl (by decide +kernel), iteT ?_⟩
      generalize upd H1 E (.tup [.str "got", .str "left"]) = H2 at sE ⊢
      have M2 := M.same sE
      have qr := sE _ _ qr
      obtain ⟨dx, ho⟩ := M2.ob
      refine ⟨_, rfl, rfl, false, congrArg V.bl (decide_eq_false (by decide +kernel)), iteF ?_⟩
      refine ⟨_, rfl, x.o, dx, _, rfl, ho, hno (by decide), _, rfl, r, _, _, _, rfl, rfl, SqT.of qr, rfl, Z, x, sk, .int e, .int e, rfl, M2, .int _, (fun ds z => by cases z), (fun z => absurd z (by rcases hok with rfl | rfl <;> decide)), fun e' q1 _ => ?_⟩
      cases q1
      exact k Z x _ _ rfl M2 hZ (fun z hz => hz) (AZ.frm (Frm.of_same (S := []) sE)) (fun z hz => .inl hz) (fun z hz => .inl hz) (Frm.of_same (s1.trans sE)) (.inl (.int _))
    | joined =>
      have ha : H a = some (.tup [.str "joined"]) := hst
      refine ⟨_, rfl, a, _, _, _, rfl, rfl, SqT.of ha, rfl, _, rfl, _, rfl, a, _, rfl, SqT.of ha, (fun z => absurd z.1 (by show ¬ (1 : Nat) = 0; decide)), fun _ r hrn => ?_⟩
      have ec : cutV [.str "joined"] (some 1) none = [] := rfl
      rw [ec]
      have s1 := Same.upd_new (o := .tup []) hrn
      have qr := upd_same (H := H) (a := r) (o := .tup [])
      generalize upd H r (.tup []) = H1 at s1 qr ⊢
      refine ⟨_, _, rfl, ?_⟩
      have M := M0.same s1
      have AZ := AZ0.frm (Frm.of_same (S := []) s1)
      obtain ⟨dx, ho⟩ := M.ob
      refine ⟨_, rfl, rfl, false, congrArg V.bl (decide_eq_false (by decide +kernel)), iteF ?_⟩
      refine ⟨_, rfl, rfl, false, congrArg V.bl (decide_eq_false (by decide +kernel)), iteF ?_⟩
      refine ⟨_, rfl, rfl, false, congrArg V.bl (decide_eq_false (by decide +kernel)), iteF ?_⟩
      refine ⟨_, rfl, rfl, false, congrArg V.bl (decide_eq_false (by decide +kernel)), iteF ?_⟩
      refine ⟨_, rfl, (by show 2 ≤ sizeLine; decide), fun E hE => ?_⟩
      have sE := Same.upd_new (o := .tup [.str "got", .str "left"]) hE
      refine ⟨E, _, rfl, .inr (SqT.of upd_same), rfl, by decide +kernel, false, congrArg V.bl (by decide +kernel), iteF ?_⟩
      generalize upd H1 E (.tup [.str "got", .str "left"]) = H2 at sE ⊢
      have M2 := M.same sE
      obtain ⟨dx, ho⟩ := M2.ob
      refine ⟨_, rfl, rfl, true, congrArg V.bl (decide_eq_true (by decide +kernel)), iteT ?_⟩
      refine ⟨_, rfl, x.o, dx, _, rfl, ho, hno (by decide), Z, x, _, rfl, M2, fun l xs hl hA => ?_⟩
      have s2 := Same.upd_new (o := .lst xs) hl
      have hxl := rows_len hA
      refine ⟨_, rfl, _, rfl, l, xs, rfl, SqL.of upd_same, fun z hz => ?_⟩
      have s3 := Same.upd_new (o := .lst (cutV xs (some (-300)) none)) hz
      have hA3 : ImAll (upd (upd H2 l (.lst xs)) z (.lst (cutV xs (some (-300)) none))) (cutV xs (some (-300)) none) ((last300 sk.log).map rowD) := by
        have q := hA.drop (sk.log.length - 300)
        have e1 : cutV xs (some (-300)) none = xs.drop (sk.log.length - 300) := by rw [cut300, hxl]
        rw [← List.map_drop, ← e1] at q
        exact q.same (s2.trans s3)
      have h3 := last300_len sk.log
      refine ⟨z, _, last300 sk.log, rfl, SqL.of upd_same, hA3, fun r hr => (ok.rs r (List.mem_of_mem_drop hr)).1, h3, fun p ys H4 hp e4 A4 s4 => ?_⟩
      have s24 := ((s1.trans sE).trans (s2.trans s3)).trans s4
      refine k Z x _ _ rfl (M0.same s24) hZ (fun z hz => hz) (AZ0.frm (Frm.of_same (S := []) s24)) (fun z hz => .inl hz) (fun z hz => .inl hz) (Frm.of_same s24) (.inr ⟨p, ys, _, rfl, rfl, e4, A4, ?_, (Frm.of_same (S := []) ((s1.trans sE).trans (s2.trans s3))).free hp, fun z => M0.ne_new ((Frm.of_same (S := []) ((s1.trans sE).trans (s2.trans s3))).free hp) (x.sub_all _ z)⟩)
      rw [A4.length, List.length_map]
      have := stTo_len ((last300 sk.log).map mark) (last300 sk.log).length
      omega

end
end TL

namespace TL
open PySem PySem.Spec PyProof.Rows L2
section
variable {P : Program} {w : World} {K : PySem.W.Frag} {mg : Str → Option Value} {base : Heap}
def spLaw (K : PySem.W.Frag) (P : Addr) : Sp := fun vs H Q _ => ∃ (a : Addr) (ns : List Int), vs = [.ref a] ∧ SqL K H a (ns.map V.int) ∧ ns.length ≤ 63 ∧ LamX.Tabs [(P, lamQ)] H ∧ ∀ H', Q (.bl true) H'
abbrev sp_law (T : Txt w K mg) : Sp := spLaw K T.lP
theorem StepAt.tups {H H' : Hp} {a : Addr} {st : StepD} (h : StepAt H a st) (e : ∀ b ys, H b = some (.tup ys) → H' b = some (.tup ys)) : StepAt H' a st := by
  cases st with
  | pass e' ms => obtain ⟨t, h1, h2⟩ := h; exact ⟨t, e _ _ h1, e _ _ h2⟩
  | _ => exact e _ _ h
theorem StepsAt.tups {H H' : Hp} {xs : List V} {sts : List StepD} (h : StepsAt H xs sts) (e : ∀ b ys, H b = some (.tup ys) → H' b = some (.tup ys)) : StepsAt H' xs sts := ⟨h.1, fun i v st h1 h2 => let ⟨a, e1, s⟩ := h.2 i v st h1 h2; ⟨a, e1, s.tups e⟩⟩
/-- what stands from turn to turn -/
structure I17 (P d t0 t1 S : Addr) (ca cb : List Int) (xs : List V) (sts : List StepD) (H : Hp) : Prop where
  D : DiceAt H d
  T : LamX.Tabs [(P, lamQ)] H
  h0 : H t0 = some (.tup (ca.map V.int))
  h1 : H t1 = some (.tup (cb.map V.int))
  L : H S = some (.lst xs)
  A : StepsAt H xs sts
  nS : S ≠ d
section
variable {P d t0 t1 S : Addr} {ca cb : List Int} {xs : List V} {sts : List StepD} {H H' : Hp}
theorem I17.same (h : I17 P d t0 t1 S ca cb xs sts H) (s : Same H H') : I17 P d t0 t1 S ca cb xs sts H' := ⟨h.D.same s, tabs_same h.T s, s _ _ h.h0, s _ _ h.h1, s _ _ h.L, h.A.same s, h.nS⟩
theorem I17.dice (h : I17 P d t0 t1 S ca cb xs sts H) (D : DiceAt H' d) (f : Frm [d] H H') : I17 P d t0 t1 S ca cb xs sts H' := ⟨D, tabs_dice h.T h.D f, f.tups _ _ h.h0, f.tups _ _ h.h1, f _ _ h.L (by simp [h.nS]), h.A.frm f, h.nS⟩
theorem I17.ext (h : I17 P d t0 t1 S ca cb xs sts H) (e : LamX.ExtN H H') (T : LamX.Tabs [(P, lamQ)] H') : I17 P d t0 t1 S ca cb xs sts H' := ⟨dice_ext h.D e, T, e _ _ h.h0 tup_ne, e _ _ h.h1 tup_ne, e _ _ h.L lst_ne, h.A.tups (ext_tups e), h.nS⟩
end
theorem try_good {sts : List StepD} (h : ∀ st ∈ sts, st.ok) : TryAll (sts.map stepD) (fun _ => true) := fun i d hd => by
  rw [List.getElem?_map] at hd
  cases e : sts[i]? with
  | none => rw [e] at hd; cases hd
  | some st =>
    rw [e] at hd
    cases hd
    exact .good (h st (List.mem_of_getElem? e))
/-- one that is none among them -/
theorem try_bad {sts : List StepD} (h : ∀ st ∈ sts, st.ok) {m r : Nat} (hm : m ≤ sts.length) {dv : PyData} (hd : StepTry dv false) :
    TryAll ((sts.take m).map stepD ++ dv :: ((sts.drop m).map stepD ++ List.replicate r (PyData.tuple []))) (fun i => decide (i ≠ m ∧ i < sts.length + 1)) := by
  intro i d hi
  have tl : ((sts.take m).map stepD).length = m := by rw [List.length_map, List.length_take]; omega
  have dl : ((sts.drop m).map stepD).length = sts.length - m := by rw [List.length_map, List.length_drop]
  rcases Nat.lt_trichotomy i m with q | q | q
  · rw [List.getElem?_append_left (by omega)] at hi
    show StepTry d (decide (i ≠ m ∧ i < sts.length + 1))
    rw [decide_eq_true (⟨by omega, by omega⟩ : i ≠ m ∧ i < sts.length + 1)]
    exact try_good (sts := sts.take m) (fun st hs => h st (List.mem_of_mem_take hs)) i d hi
  · rw [List.getElem?_append_right (by omega), tl, q, Nat.sub_self] at hi
    cases hi
    show StepTry dv (decide (i ≠ m ∧ i < sts.length + 1))
    rw [decide_eq_false (fun z => z.1 q)]
    exact hd
  · rw [List.getElem?_append_right (by omega), tl] at hi
    obtain ⟨j, hj⟩ : ∃ j, i - m = j + 1 := ⟨i - m - 1, by omega⟩
    rw [hj, List.getElem?_cons_succ] at hi
    rcases Nat.lt_or_ge j (sts.length - m) with z | z
    · rw [List.getElem?_append_left (by omega)] at hi
      show StepTry d (decide (i ≠ m ∧ i < sts.length + 1))
      rw [decide_eq_true (⟨by omega, by omega⟩ : i ≠ m ∧ i < sts.length + 1)]
      exact try_good (sts := sts.drop m) (fun st hs => h st (List.mem_of_mem_drop hs)) j d hi
    · rw [List.getElem?_append_right (by omega)] at hi
      have e := List.eq_of_mem_replicate (List.mem_of_getElem? hi)
      subst e
      show StepTry _ (decide (i ≠ m ∧ i < sts.length + 1))
      rw [decide_eq_false (fun z' => by have := z'.2; omega)]
      exact .empty
theorem first_bad {sts : List StepD} {m r : Nat} (hm : m ≤ sts.length) (hl : sts.length ≤ 40) {dv : PyData} : firstNo (fun i => decide (i ≠ m ∧ i < sts.length + 1)) ((sts.take m).map stepD ++ dv :: ((sts.drop m).map stepD ++ List.replicate r (PyData.tuple []))).length m := by
  refine ⟨?_, .inr (decide_eq_false fun z => z.1 rfl), fun j hj => ⟨by omega, decide_eq_true ⟨by omega, by omega⟩⟩⟩
  simp only [List.length_append, List.length_cons, List.length_map, List.length_take]
  omega
/-- looks alone -/
theorem ans_left (s : PlS) (hw : s.a.wait = []) : ∀ n : Nat, ansP s (List.replicate n (.left 0)) = List.replicate n (.int 0)
  | 0 => rfl
  | n + 1 => by
    rw [List.replicate_succ, List.replicate_succ]
    show (PyData.int ((endW s 0).length : Nat)) :: ansP s _ = _
    rw [ans_left s hw n]
    have e : endW s 0 = [] := hw
    rw [e]
    rfl
/-- lists told, one by one longer -/
def Spo (H8 : Hp) (p : Addr) (i : Nat) (H : Hp) (v : V) : Prop := (∃ d, Im H v d) ∨ ∃ q zs, v = .ref q ∧ q ≠ p ∧ H8 q = none ∧ H q = some (.lst zs) ∧ zs.length ≤ 1000 + i
theorem Spo.upd {H8 H : Hp} {p q : Addr} {i : Nat} {v x : V} {zs : List V} (h : Spo H8 p i H v) (hq : H q = some (.lst zs)) (hl : zs.length ≤ 1000 + i) : Spo H8 p (i + 1) (upd H q (.lst (zs ++ [x]))) v := by
  rcases h with ⟨d, im⟩ | ⟨q', zs', rfl, h1, h2, h3, h4⟩
  · exact .inl ⟨d, im.frm (Frm.updL hq : Frm [q] _ _)⟩
  · by_cases e : q' = q
    · subst e
      exact .inr ⟨q', _, rfl, h1, h2, upd_same, by rw [List.length_append]; show _ + 1 ≤ _; omega⟩
    · exact .inr ⟨q', zs', rfl, h1, h2, by rw [upd_ne e]; exact h3, by omega⟩
theorem Spo.mono {H8 H : Hp} {p : Addr} {i : Nat} {v : V} (h : Spo H8 p i H v) : Spo H8 p (i + 1) H v := by
  rcases h with h | ⟨q', zs', rfl, h1, h2, h3, h4⟩
  · exact .inl h
  · exact .inr ⟨q', zs', rfl, h1, h2, h3, by omega⟩
theorem ok_law (T : Txt w K mg) (TB : LamX.TabB base mg T.lC T.lP) : FnOk P w K mg base CX0 14 T.a_law T.fd_law P_law (sp_law T) := by
  have G__law_dice := ok__law_dice (P := P) (w := w) (base := base) T
  have G__law_steps := ok__law_steps (P := P) (w := w) (base := base) T
  have G_Line_init := ok_Line_init (P := P) (w := w) (base := base) T
  have G__law_alike := ok__law_alike (P := P) (w := w) (base := base) T 4
  have G__law_can := ok__law_can (P := P) (w := w) (base := base) T
  have G__law_tells := ok__law_tells (P := P) (w := w) (base := base) T
  have G_played := ok_played (P := P) (w := w) (base := base) T
  have G__law_off := ok__law_off (P := P) (w := w) (base := base) T
  have G_lines_of := ok_lines_of (P := P) (w := w) (base := base) T
  have G__law_no_step := ok__law_no_step (P := P) (w := w) (base := base) T
  have bnw := T.b__law_word
  obtain ⟨ocw, odw, kVw, dcw, pmw, anw, cdw, ctw, slw, efw, lkw, hcw⟩ := T.F__law_word.ex
  rw [efw] at lkw bnw
  refine T.fl.ok sc_law (fun vs H Q E h => ?_) (fun A outer s H vs Q E hr h => ?_)
  · obtain ⟨a, ns, rfl, _⟩ := h
    rfl
  · obtain ⟨a, ns, rfl, hS, hlen, tb0, k⟩ := h
    have hu64 : (A.deeper (envOfC "law" (defScope s_law) s.heap.objs.size T.a_law (.ref T.lC))).units + 64 < cLine := by have := hr.un; omega
    refine ⟨_, (pss_cons (ps_set (i := 1) sc_law.nd rfl (by first | exact Or.inl rfl | exact Or.inr rfl) (pe_call G__law_dice (hr.mono (by decide)) rfl T.g__law_dice T.F__law_dice.kp T.b__law_dice .nil pass0 (pa_cons (pv 0) (pa_cons pe_int pa_nil))))
    (pss_cons (ps_asg (pe_tup (pa_cons (pe_call G__law_can (hr.mono (by decide)) rfl T.g__law_can T.F__law_can.kp T.b__law_can .nil pass0 (pa_cons (pv 1) pa_nil)) (pa_cons (pe_call G__law_can (hr.mono (by decide)) rfl T.g__law_can T.F__law_can.kp T.b__law_can .nil pass0 (pa_cons (pv 1) pa_nil)) pa_nil))) (pg_tup rfl (pgs_cons (pg_name (i := 2) sc_law.nd rfl (by first | exact Or.inl rfl | exact Or.inr rfl)) (pgs_cons (pg_name (i := 3) sc_law.nd rfl (by first | exact Or.inl rfl | exact Or.inr rfl)) pgs_nil))))
    (pss_cons (ps_set (i := 4) sc_law.nd rfl (by first | exact Or.inl rfl | exact Or.inr rfl) (pe_call G__law_steps (hr.mono (by decide)) rfl T.g__law_steps T.F__law_steps.kp T.b__law_steps .nil pass0 (pa_cons (pv 1) (pa_cons pe_int pa_nil))))
    (pss_cons (ps_set (i := 5) sc_law.nd rfl (by first | exact Or.inl rfl | exact Or.inr rfl) (pe_make T.M_Line G_Line_init (hr.mono (by decide)) rfl T.c_Line T.b_Line_init .nil pass0 (pa_cons (pv 2) (pa_cons (pv 3) pa_nil))))
    (pss_cons (ps_cut (ps_setLc (i := 6) (own := [("_law_step_here", 7)]) (g := (gName 7)) (tt := tYes) (te := (tCall _ [] E0 (tCons (tVar 5) (tCons (tVar 7) tNil)))) rfl sc_law.nd rfl rfl (sw_true rfl rfl rfl (by decide +kernel)) (pi_list (pv 4)) (blkOk_by (own := [("_law_step_here", 7)]) (N := N_law) (sc := defScope s_law) (by decide +kernel)) (fun _ _ _ _ _ => (pg_name (i := 7) sc_law.nd rfl (by first | exact Or.inl rfl | exact Or.inr rfl))) (fun _ _ _ _ _ => pts_nil) (fun _ _ _ _ _ => (pe_call G__law_tells (hr.mono (by decide)) rfl T.g__law_tells T.F__law_tells.kp T.b__law_tells .nil pass0 (pa_cons (pv 5) (pa_cons (pv 7) pa_nil))))))
    (pss_cons (ps_for PassesOwn.never rfl (pi_range1 rfl T.n_range (pa_cons pe_int pa_nil)) (pg_name (i := 8) sc_law.nd rfl (by first | exact Or.inl rfl | exact Or.inr rfl))
      (pss_cons (ps_set (i := 9) sc_law.nd rfl (by first | exact Or.inl rfl | exact Or.inr rfl) (pe_callTy call_list_of (by rfl) T.n_list (by decide +kernel) (pa_cons (pv 4) pa_nil)))
      (pss_cons (ps_set (i := 10) sc_law.nd rfl (by first | exact Or.inl rfl | exact Or.inr rfl) (pe_call G_played (hr.mono (by decide)) rfl T.g_played T.F_played.kp T.b_played .nil passL (pa_cons (pv 2) (pa_cons (pv 3) (pa_cons (pv 9) pa_nil)))))
      (pss_cons (ps_if (PW.pt (pw_or (pt_not (pt_val (pe_call G__law_alike (hr.mono (by decide)) rfl T.g__law_alike T.F__law_alike.kp T.b__law_alike .nil pass0 (pa_cons (pv 10) (pa_cons (pv 6) pa_nil))))) (pw_or1 (pt_cmpR (op_neD hu64) (pv 9) (pv 4) (nomark _)))))
        (pss_one (ps_ret pe_bl))
        pss_nil)
      (pss_cons (ps_cut (ps_for PassesOwn.never rfl (pi_list (pv 10)) (pg_name (i := 11) sc_law.nd rfl (by first | exact Or.inl rfl | exact Or.inr rfl))
        (pss_one (ps_if (pt_val (pe_callB call_isi (by rfl) T.n_isinstance (by decide +kernel) (pa_cons (pv 11) (pa_cons (pe_bltn (v := .ty "list") (u := .type "list") (by rfl) T.n_list (by decide +kernel) rfl) pa_nil))))
          (pss_one (ps_expr (pe_bm PySem.F.plainAttrs_list PySem.F.slot_list_append PySem.F.type_list_append mt_append (pv 11) (pa_cons pe_int pa_nil))))
          pss_nil))))
      (pss_one (ps_expr (pe_bm PySem.F.plainAttrs_list PySem.F.slot_list_append PySem.F.type_list_append mt_append (pv 10) (pa_cons pe_int pa_nil)))))))))
    (pss_cons (ps_cut (ps_setLc (i := 12) (own := [("_law_step_here", 7)]) (g := (gName 7)) (tt := tYes) (te := (tM1 (fun x xs H Q => ∃ a p, ∃ ys : List Str, x = .str a ∧ xs = [.ref p] ∧ (SqL K H p (ys.map V.str) ∨ SqT K H p (ys.map V.str)) ∧ (ys.map (·.length)).sum + ys.length * a.length ≤ 16777216 ∧ Q (.str (Txt.join a ys)) H) (tC (.str " ")) (tLc (iTup K (tVar 7)) (gName 11) tYes (tIf (tB (tCB (rIsi K) (tCons (tVar 11) (tCons (tC (.ty "tuple")) tNil)))) (tM1 (fun x xs H Q => ∃ a p, ∃ ys : List Str, x = .str a ∧ xs = [.ref p] ∧ (SqL K H p (ys.map V.str) ∨ SqT K H p (ys.map V.str)) ∧ (ys.map (·.length)).sum + ys.length * a.length ≤ 16777216 ∧ Q (.str (Txt.join a ys)) H) (tC (.str ",")) (tLc (iTup K (tVar 11)) (gName 13) tYes (tCB (fun xs H Q => ∃ i, xs = [.int i] ∧ i.natAbs.log2 < 1920 ∧ Q (.str (toString i)) H) (tCons (tVar 13) tNil)) [13])) (tCB rStrSI (tCons (tVar 11) tNil))) [11]))) rfl sc_law.nd rfl rfl (sw_true rfl rfl rfl (by decide +kernel)) (pi_list (pv 4)) (blkOk_by (own := [("_law_step_here", 7)]) (N := N_law) (sc := defScope s_law) (by decide +kernel)) (fun _ _ _ _ _ => (pg_name (i := 7) sc_law.nd rfl (by first | exact Or.inl rfl | exact Or.inr rfl))) (fun _ _ _ _ _ => pts_nil) (fun _ _ _ _ _ => (pe_join pe_str (pe_lc (own := [("_law_part", 11)]) (g := (gName 11)) (tt := tYes) (te := (tIf (tB (tCB (rIsi K) (tCons (tVar 11) (tCons (tC (.ty "tuple")) tNil)))) (tM1 (fun x xs H Q => ∃ a p, ∃ ys : List Str, x = .str a ∧ xs = [.ref p] ∧ (SqL K H p (ys.map V.str) ∨ SqT K H p (ys.map V.str)) ∧ (ys.map (·.length)).sum + ys.length * a.length ≤ 16777216 ∧ Q (.str (Txt.join a ys)) H) (tC (.str ",")) (tLc (iTup K (tVar 11)) (gName 13) tYes (tCB (fun xs H Q => ∃ i, xs = [.int i] ∧ i.natAbs.log2 < 1920 ∧ Q (.str (toString i)) H) (tCons (tVar 13) tNil)) [13])) (tCB rStrSI (tCons (tVar 11) tNil)))) rfl sc_law.nd (pi_tup (pv 7)) (by refine blkOk_in (by show blkD N_law _ _ = true; decide +kernel) ?_; repeat (first | exact trivial | refine ⟨.inl rfl, ?_⟩ | refine ⟨.inr rfl, ?_⟩)) (fun _ _ _ _ _ => (pg_name (i := 11) sc_law.nd rfl (by first | exact Or.inl rfl | exact Or.inr rfl))) (fun _ _ _ _ _ => pts_nil) (fun _ _ _ _ _ => (pe_ifExp (pt_val (pe_callB call_isi (by rfl) T.n_isinstance (by decide +kernel) (pa_cons (pv 11) (pa_cons (pe_bltn (v := .ty "tuple") (u := .type "tuple") (by rfl) T.n_tuple (by decide +kernel) rfl) pa_nil)))) (pe_join pe_str (pe_lc (own := [("_law_m", 13)]) (g := (gName 13)) (tt := tYes) (te := (tCB (fun xs H Q => ∃ i, xs = [.int i] ∧ i.natAbs.log2 < 1920 ∧ Q (.str (toString i)) H) (tCons (tVar 13) tNil))) rfl sc_law.nd (pi_tup (pv 11)) (by refine blkOk_in (by show blkD N_law _ _ = true; decide +kernel) ?_; repeat (first | exact trivial | refine ⟨.inl rfl, ?_⟩ | refine ⟨.inr rfl, ?_⟩)) (fun _ _ _ _ _ => (pg_name (i := 13) sc_law.nd rfl (by first | exact Or.inl rfl | exact Or.inr rfl))) (fun _ _ _ _ _ => pts_nil) (fun _ _ _ _ _ => (pe_callTy call_str_int (by rfl) T.n_str (by decide +kernel) (pa_cons (pv 13) pa_nil))))) (pe_callTy TLstr (by rfl) T.n_str (by decide +kernel) (pa_cons (pv 11) pa_nil)))))))))
    (pss_cons (ps_if (pt_not (pt_val (pe_call G__law_alike (hr.mono (by decide)) rfl T.g__law_alike T.F__law_alike.kp T.b__law_alike .nil pass0 (pa_cons (pe_call G_lines_of (hr.mono (by decide)) rfl T.g_lines_of T.F_lines_of.kp T.b_lines_of .nil passL (pa_cons (pv 4) pa_nil)) (pa_cons (pe_join pe_str (pv 12)) pa_nil)))))
      (pss_one (ps_ret pe_bl))
      pss_nil)
    (pss_cons (ps_for PassesOwn.never rfl (pi_range1 rfl T.n_range (pa_cons pe_int pa_nil)) (pg_name (i := 14) sc_law.nd rfl (by first | exact Or.inl rfl | exact Or.inr rfl))
      (pss_cons (ps_set (i := 15) sc_law.nd rfl (by first | exact Or.inl rfl | exact Or.inr rfl) (pe_call G__law_off (hr.mono (by decide)) rfl T.g__law_off T.F__law_off.kp T.b__law_off .nil pass0 (pa_cons (pv 1) (pa_cons (pe_op op_add (pe_callB call_len_seq (by rfl) T.n_len (by decide +kernel) (pa_cons (pv 4) pa_nil)) pe_int) pa_nil))))
      (pss_cons (ps_cut (ps_set (i := 16) sc_law.nd rfl (by first | exact Or.inl rfl | exact Or.inr rfl) (pe_op op_cat (pe_slice sl_list (pv 4) po_none (po_some (pv 15))) (pe_lst (pa_cons (pe_call G__law_no_step (hr.mono (by decide)) rfl T.g__law_no_step T.F__law_no_step.kp T.b__law_no_step .nil pass0 (pa_cons (pv 1) pa_nil)) pa_nil)))))
      (pss_cons (ps_cut (ps_set (i := 16) sc_law.nd rfl (by first | exact Or.inl rfl | exact Or.inr rfl) (pe_op op_cat (pe_op op_cat (pv 16) (pe_slice sl_list (pv 4) (po_some (pv 15)) po_none)) (pe_op op_rep (pe_lst (pa_cons (pe_tup pa_nil) pa_nil)) (pe_call G__law_off (hr.mono (by decide)) rfl T.g__law_off T.F__law_off.kp T.b__law_off .nil pass0 (pa_cons (pv 1) (pa_cons pe_int pa_nil)))))))
      (pss_cons (ps_set (i := 17) sc_law.nd rfl (by first | exact Or.inl rfl | exact Or.inr rfl) (pe_lst (pa_cons (pe_lamF (T := [(T.lP, lamQ)]) TB rfl (.head _) (fun p hp _ => by rw [List.mem_singleton.mp hp]; rfl) (NdefX.ndef_free (fr := []) (by show NdefX.ndefB (defScope s_law) _ [] = true; decide +kernel)) rfl) (pa_cons (pe_lamD (T := [(T.lP, lamQ)]) TB rfl (.head _) (fun p hp _ => by rw [List.mem_singleton.mp hp]; rfl) (NdefX.ndef_free (fr := []) (by show NdefX.ndefB (defScope s_law) _ [] = true; decide +kernel)) rfl rfl) pa_nil))))
      (pss_cons (ps_cut (ps_if (pt_not (pt_val (pe_call G__law_alike (hr.mono (by decide)) rfl T.g__law_alike T.F__law_alike.kp T.b__law_alike .nil pass0 (pa_cons (pe_lcK (own := [("_law_work", 18)]) (g := (gName 18)) (tt := fun σL => tYes) (te := fun σL => (tWordX (cxOf CX0 P w K mg base N_law "law" (defScope s_law) T.a_law (.ref T.lC) A outer s H E).nox 12 (fun _ => σL) (tW T) (tVar 18))) rfl sc_law.nd (pi_list (pv 17)) (blkOk_by (own := [("_law_work", 18)]) (N := N_law) (sc := defScope s_law) (by decide +kernel)) (fun _ _ _ _ _ => (pg_name (i := 18) sc_law.nd rfl (by first | exact Or.inl rfl | exact Or.inr rfl))) (fun pins σL s0 H0 C cl ob J z => pts_nil) (fun pins σL s0 H0 C cl ob J z => (pe_word (k := 12) (sel := fun _ => σL) (known_blk J z) rfl T.g__law_word T.F__law_word.kp lkw hcw bnw sc__law_word rfl (.inl rfl) (fun q => gives__law_word T rfl rfl rfl rfl rfl q) (hr.mono (by decide)) (pv 18)))) (pa_cons (pe_op op_rep (pe_lst (pa_cons (pe_tup (pa_cons pe_str (pa_cons (pv 15) pa_nil))) pa_nil)) pe_int) pa_nil)))))
        (pss_one (ps_ret pe_bl))
        pss_nil))
      (pss_one (ps_cut (ps_if (pt_cmpR (op_neD hu64) (pe_word (k := 12) (sel := id) known_def rfl T.g__law_word T.F__law_word.kp lkw hcw bnw sc__law_word rfl (.inl rfl) (fun q => gives__law_word T rfl rfl rfl rfl rfl q) (hr.mono (by decide)) (pe_lamD (T := [(T.lP, lamQ)]) TB rfl (.head _) (fun p hp _ => by rw [List.mem_singleton.mp hp]; rfl) (NdefX.ndef_free (fr := []) (by show NdefX.ndefB (defScope s_law) _ [] = true; decide +kernel)) rfl rfl)) (pe_tup (pa_cons pe_str (pa_cons pe_int pa_nil))) (nomark _))
        (pss_one (ps_ret pe_bl))
        pss_nil)))))))))
    (pss_cons (ps_set (i := 19) sc_law.nd rfl (by first | exact Or.inl rfl | exact Or.inr rfl) (pe_op op_rep (pe_lst (pa_cons (pe_tup (pa_cons pe_str (pa_cons pe_int pa_nil))) pa_nil)) pe_int))
    (pss_cons (ps_if (pt_cmpR (op_neD hu64) (pe_call G_played (hr.mono (by decide)) rfl T.g_played T.F_played.kp T.b_played .nil passL (pa_cons (pv 2) (pa_cons (pv 3) (pa_cons (pv 19) pa_nil)))) (pe_op op_rep (pe_lst (pa_cons pe_int pa_nil)) pe_int) (nomark _))
      (pss_one (ps_ret pe_bl))
      pss_nil)
    (pss_one (ps_ret (pe_call G__law_alike (hr.mono (by decide)) rfl T.g__law_alike T.F__law_alike.kp T.b__law_alike .nil pass0 (pa_cons (pe_word (k := 12) (sel := id) known_def rfl T.g__law_word T.F__law_word.kp lkw hcw bnw sc__law_word rfl (.inl rfl) (fun q => gives__law_word T rfl rfl rfl rfl rfl q) (hr.mono (by decide)) (pe_lamF (T := [(T.lP, lamQ)]) TB rfl (.head _) (fun p hp _ => by rw [List.mem_singleton.mp hp]; rfl) (NdefX.ndef_free (fr := []) (by show NdefX.ndefB (defScope s_law) _ [] = true; decide +kernel)) rfl)) (pa_cons (pe_tup (pa_cons pe_str (pa_cons pe_int pa_nil))) pa_nil)))))))))))))))), ?_⟩
    have big : ∀ {n : Nat}, n ≤ 3000000 → n ≤ sizeLine := fun h => by show _ ≤ 16777216; omega
    refine ⟨_, rfl, a, ns, 0, rfl, hS, hlen, fun d H0 hd D0 s0 => ?_⟩
    have T0 := tabs_same tb0 s0
    refine ⟨_, rfl, d, rfl, D0, fun t0 ca H1 hca ht0 D1 f1 => ?_⟩
    refine ⟨_, rfl, d, rfl, D1, fun t1 cb H2 hcb ht1 D2 f2 => ⟨(by show 2 ≤ sizeLine; decide), fun pr hpr => ?_⟩⟩
    have ht0 := f2.tups _ _ ht0
    have T2 := tabs_dice (tabs_dice T0 D0 f1) D1 f2
    have s3 := Same.upd_new (o := .tup [.ref t0, .ref t1]) hpr
    have q3 := upd_same (H := H2) (a := pr) (o := .tup [.ref t0, .ref t1])
    generalize upd H2 pr (.tup [.ref t0, .ref t1]) = H3 at s3 q3 ⊢
    refine ⟨pr, _, rfl, SqT.of q3, rfl, _, _, rfl, _, _, rfl, rfl, ?_⟩
    have D3 := D2.same s3
    refine ⟨_, rfl, d, 41, rfl, D3, by decide, by decide, fun S xs sts H4 hSn hSL hA hok hsl D4 f4 => ?_⟩
    have hsl40 : sts.length ≤ 40 := by omega
    have hxl : xs.length = sts.length := hA.1
    have I4 : I17 T.lP d t0 t1 S ca cb xs sts H4 := ⟨D4, tabs_dice (tabs_same T2 s3) D3 f4, f4.tups _ _ (s3 _ _ ht0), f4.tups _ _ (s3 _ _ ht1), hSL, hA, D3.ne_new hSn⟩
    have tg := try_good hok
    have gall : ∀ i, i < (sts.map stepD).length → i < 200 ∧ (fun _ : Nat => true) i = true := fun i hi => ⟨by rw [List.length_map] at hi; omega, rfl⟩
    have lvs : lv 4 (.list (sts.map stepD)) := ⟨by rw [List.length_map]; omega, fun x hx => by
      obtain ⟨st, hst, rfl⟩ := List.mem_map.mp hx
      exact lv_stepD (hok st hst)⟩
    have lva : lv 3 (.list (ansP (.new ca cb) sts)) := ⟨by rw [ansP_len]; omega, lv_ansP (PlOk.new hca hcb) (by omega) hok⟩
    -- the line
    refine ⟨_, rfl, _, rfl, ?_⟩
    intro o dl ho hdl ndl
    have sa : Same H4 (upd (upd H4 dl (.own o)) o (.ins T.C_Line dl [])) := (Same.upd_new hdl).trans (Same.upd_new (by rw [upd_ne (Ne.symm ndl)]; exact ho))
    refine ⟨o, dl, t0, t1, ca, cb, rfl, upd_same, sa _ _ I4.h0, sa _ _ I4.h1, hca, hcb, fun x H5 ex Mx fr f5 => ⟨rfl, ?_⟩⟩
    have s45 : Same H4 H5 := ((Frm.of_same (S := []) sa).own ho f5).same
    have alln : ∀ y ∈ x.every, H4 y = none := fun y hy => (fr y hy).elim (fun e => by rw [e]; exact ho) fun q => (Frm.of_same (S := []) sa).free q
    subst ex
    -- what is due
    refine ⟨fun σ' H' => ∃ (D : Addr) (ys : List V), σ' = [some (V.ref a), some (.ref d), some (.ref t0), some (.ref t1), some (.ref S), some (.ref x.o), some (.ref D), none, none, none, none, none, none, none, none, none, none, none, none, none] ∧ H' D = some (.lst ys) ∧ ToldAll (fun _ => True) H' ys (ansP (.new ca cb) sts) ∧ Same H4 H', ?_, ?_⟩
    · have hL5 := s45 _ _ I4.L
      refine ⟨_, rfl, S, rfl, ⟨_, SqL.of hL5⟩, fun D hD => ?_⟩
      have nDx : D ∉ x.every := (Mx []).ne_new hD
      have DH : H4 D = none := (Frm.of_same (S := []) s45).free hD
      refine lc_list (K := K) (a := S) (xs := xs) (fun i H' => Same H4 H' ∧ ∃ (Z : List Addr) (x' : LoAd) (ys : List V), x'.o = x.o ∧ LoAt T.C_Line T.C_End T.C_Marks Z H' x' (runP (.new ca cb) (sts.take i)) ∧ (∀ z ∈ x'.all, z ∈ Z) ∧ D ∈ Z ∧ Alloc Z H' ∧ D ∉ x'.every ∧ (∀ z ∈ x'.all, H4 z = none) ∧ H' D = some (.lst ys) ∧ ToldAll (fun q => H4 q = none ∧ q ∉ D :: x'.all) H' ys (ansP (.new ca cb) (sts.take i)))
        ⟨s45.trans (Same.upd_new hD), D :: x.all, x, [], rfl, (Mx _).same (Same.upd_new hD), fun z hz => List.mem_cons_of_mem _ hz, by simp, ?_, nDx, fun z hz => alln z (x.sub_all z hz), upd_same, ToldAll.nil⟩ (fun i H' _ h => SqL.of (h.1 _ _ I4.L)) ?_ ?_
      · intro z hz
        rcases List.mem_cons.mp hz with rfl | hz
        · exact ⟨_, upd_same⟩
        · exact ((Mx []).same (Same.upd_new hD)).there z (x.sub_all z hz)
      · rintro i v H5 hi ⟨s5, Z, x', ys, e1, M5, hZ, DZ, AZ, nD, own, hD5, told⟩
        obtain ⟨b, st, hst, rfl, hb⟩ := (hA.same s5).get hi
        have il : i < sts.length := (List.getElem?_eq_some_iff.mp hst).1
        have ek : (sts.take i).length = i := by rw [List.length_take]; omega
        have ok0 := (PlOk.run (sts := sts.take i) (PlOk.new hca hcb) (by omega) fun st hs => hok st (List.mem_of_mem_take hs)).1
        rw [ek] at ok0
        refine ⟨rfl, _, rfl, _, rfl, Z, x', _, b, st, 0 + i, by rw [e1]; rfl, M5, hZ, AZ, ok0, by omega, hb, hok st (List.mem_of_getElem? hst), fun Z6 x6 v6 H6 e6 M6 hZ6 hZZ A6 own6 ow6 f6 t6 => ?_⟩
        have nDx' : D ∉ x'.all := fun z => nD (x'.sub_all _ z)
        have hD6 := f6 _ _ hD5 nDx'
        have nD6 : D ∉ x6.every := fun z => (ow6 _ z).elim nD fun q => by rw [hD5] at q; cases q
        have own6' : ∀ z ∈ x6.all, H4 z = none := fun z hz => (own6 z hz).elim (own z) fun q => (Frm.of_same (S := []) s5).free q
        have s6 : Same H4 H6 := (frm_owns3 (S := []) (Frm.of_same s5) (fun l hl => .inr (own l hl)) f6).same
        have fD : Frm [D] H6 (upd H6 D (.lst (ys ++ [v6]))) := Frm.updL hD6
        have e1r : runP (.new ca cb) (sts.take (i + 1)) = (doneF (runP (.new ca cb) (sts.take i)) st).1 := by
          rw [take_more hst, runP_app]
          rfl
        have e1a : ansP (.new ca cb) (sts.take (i + 1)) = ansP (.new ca cb) (sts.take i) ++ [(doneF (runP (.new ca cb) (sts.take i)) st).2] := by
          rw [take_more hst, ansP_app]
          rfl
        have yl : ys.length ≤ 1000 := by
          rw [told.1, ansP_len, ek]
          omega
        refine ⟨_, hD6, small1000 yl, ((Frm.of_same (S := []) s6).own DH fD).same, Z6, x6, ys ++ [v6], e6.trans e1, ?_, hZ6, hZZ _ DZ, A6.frm fD, nD6, own6', upd_same, ?_⟩
        · rw [e1r]
          exact M6.frm fD (fun y hy => by simp at hy; subst hy; exact hZZ _ DZ) fun y hy z => by simp at z; subst z; exact nD6 hy
        · rw [e1a]
          have out6 : ∀ q, H4 q = none → q ∉ D :: x'.all → (∃ o, H5 q = some o) → q ∉ D :: x6.all := fun q _ hq ⟨o, ho⟩ z => by
            rcases List.mem_cons.mp z with rfl | z
            · exact hq (by simp)
            · rcases own6 q z with z | z
              · exact hq (List.mem_cons_of_mem _ z)
              · rw [ho] at z
                cases z
          refine ((told.frm (B' := fun q => H4 q = none ∧ q ∉ D :: x6.all) f6 fun q hq ho => ⟨⟨hq.1, out6 q hq.1 hq.2 ho⟩, fun z => hq.2 (List.mem_cons_of_mem _ z)⟩).snoc ?_).frm fD fun q hq _ => ⟨hq, fun z => hq.2 (by simp at z; simp [z])⟩
          refine t6.frm (S := []) (.refl _ _) fun q hq ho => ⟨⟨(Frm.of_same (S := []) s5).free hq.1, fun z => ?_⟩, by simp⟩
          rcases List.mem_cons.mp z with rfl | z
          · have q := hq.1
            rw [hD5] at q
            cases q
          · exact hq.2 z
      · rintro H5 ⟨s5, Z, x', ys, e1, M5, hZ, DZ, AZ, nD, own, hD5, told⟩
        rw [hxl, List.take_length] at told
        exact ⟨D, ys, rfl, hD5, told.frm (Frm.of_same (S := []) (.refl _)) fun q _ _ => ⟨trivial, by simp⟩, s5⟩
    rintro σ' H6 ⟨D, yd, rfl, hD6, told6, s46⟩
    have I6 := I4.same s46
    -- done twice
    refine ⟨2, rfl, by decide, by decide, for_range (lo := 0) (n := 2) (fun j σ H' => (∃ v8 v9 v10 v11 : Option V, σ = [some (V.ref a), some (.ref d), some (.ref t0), some (.ref t1), some (.ref S), some (.ref x.o), some (.ref D), none, v8, v9, v10, v11, none, none, none, none, none, none, none, none]) ∧ Same H6 H') ⟨⟨_, _, _, _, rfl⟩, .refl _⟩ ?_ ?_⟩
    · rintro j σ H7 hj ⟨⟨v8, v9, v10, v11, rfl⟩, s67⟩
      have I7 := I6.same s67
      refine ⟨_, rfl, S, xs, rfl, .inl (SqL.of I7.L), fun hh hhn => ?_⟩
      have s8 := Same.upd_new (o := .lst xs) hhn
      have q8 := upd_same (H := H7) (a := hh) (o := .lst xs)
      generalize upd H7 hh (.lst xs) = H8 at s8 q8 ⊢
      have I8 := I7.same s8
      refine ⟨_, rfl, _, rfl, _, rfl, t0, hh, .ref t1, .tuple (cb.map .int), ca, xs, sts.map stepD, fun _ => true, rfl, I8.h0, .tup I8.h1 (im_ints _), mdat_ints hcb.2.2.2, hca, q8, I8.A.im, tg, .inr (.inr ⟨cb, sts, rfl, hcb, gall, I8.A, hok, by omega, fun p ys H9 hp hp9 told9 s9 => ?_⟩)⟩
      have s69 := (s67.trans s8).trans s9
      refine ⟨_, rfl, _, rfl, .ref p, .ref D, _, rfl, .lst (SqL.of hp9) told9.dp, .lst (SqL.of (s69 _ _ hD6)) (told6.frm (B' := fun _ => True) (Frm.of_same (S := []) s69) fun q _ _ => ⟨trivial, by simp⟩).dp, lva, fun H10 s10 => ⟨_, rfl, iteF ?_⟩⟩
      have s610 := s69.trans s10
      have I10 := I6.same s610
      refine ⟨_, rfl, _, rfl, _, _, .lst (SqL.of (s10 _ _ (s9 _ _ q8))) I10.A.im.dp, .lst (SqL.of I10.L) I10.A.im.dp, shaped_lv lvs (by decide), shaped_lv lvs (by decide), false, congrArg V.bl (by rw [eqv_refl lvs]; rfl), iteF ?_⟩
      have hp10 := s10 _ _ hp9
      have told10 := told9.frm (B' := fun q => q ≠ p ∧ H8 q = none) (Frm.of_same (S := []) s10) fun q hq _ => ⟨hq, by simp⟩
      have s810 := s9.trans s10
      have yl : ys.length ≤ 40 := by rw [told9.1, ansP_len]; omega
      -- what was told is changed
      refine ⟨fun σ' H' => (∃ w11 : Option V, σ' = [some (V.ref a), some (.ref d), some (.ref t0), some (.ref t1), some (.ref S), some (.ref x.o), some (.ref D), none, some (.int (0 + (j : Nat))), some (.ref hh), some (.ref p), w11, none, none, none, none, none, none, none, none]) ∧ Same H8 H' ∧ H' p = some (.lst ys), ?_, ?_⟩
      · refine ⟨_, rfl, p, rfl, ⟨_, SqL.of hp10⟩, for_list (K := K) (a := p) (xs := ys) (fun i σ H' => (∃ w11 : Option V, σ = [some (V.ref a), some (.ref d), some (.ref t0), some (.ref t1), some (.ref S), some (.ref x.o), some (.ref D), none, some (.int (0 + (j : Nat))), some (.ref hh), some (.ref p), w11, none, none, none, none, none, none, none, none]) ∧ Same H8 H' ∧ H' p = some (.lst ys) ∧ ∀ v ∈ ys, Spo H8 p i H' v)
          ⟨⟨_, rfl⟩, s810, hp10, fun v hv => ?_⟩ (fun i σ H' _ h => SqL.of h.2.2.1) ?_ (fun σ H' ⟨h1, h2, h3, _⟩ => ⟨h1, h2, h3⟩)⟩
        · obtain ⟨i, hi⟩ := List.getElem?_of_mem hv
          have il : i < (ansP (.new ca cb) sts).length := by rw [← told9.1]; exact (List.getElem?_eq_some_iff.mp hi).1
          rcases told10.2 i v _ hi (List.getElem?_eq_getElem il) with im | ⟨q, zs, _, rfl, _, h1, _, h3, h4⟩
          · exact .inl ⟨_, im⟩
          · exact .inr ⟨q, zs, rfl, h4.1, h4.2, h1, by omega⟩
        · rintro i v σ H11 hi ⟨⟨w11, rfl⟩, s11, hp11, spo⟩
          have il : i < ys.length := (List.getElem?_eq_some_iff.mp hi).1
          rcases spo v (List.mem_of_getElem? hi) with ⟨dd, im⟩ | ⟨q, zs, rfl, n1, n2, hq, hl⟩
          · exact ⟨_, rfl, _, _, _, _, _, rfl, .ty _, tyx_D (K := K) im.dp, kit_ty (kb_im2 im), _, rfl, iteF ⟨⟨_, rfl⟩, s11, hp11, fun u hu => (spo u hu).mono⟩⟩
          · refine ⟨_, rfl, _, _, _, _, _, rfl, .ty _, tyx_L (SqL.of hq), kit_ty kb_ll, _, rfl, iteT ?_⟩
            refine ⟨_, rfl, .inl ⟨rfl, _, SqL.of hq⟩, q, _, _, rfl, rfl, hq, (by show zs.length < 16777216; omega), ⟨_, rfl⟩, ((Frm.of_same (S := []) s11).own n2 (Frm.updL hq)).same, by rw [upd_ne (Ne.symm n1)]; exact hp11, fun u hu => (spo u hu).upd hq hl⟩
      rintro σ' H11 ⟨⟨w11, rfl⟩, s11, hp11⟩
      refine ⟨_, rfl, .inl ⟨rfl, _, SqL.of hp11⟩, p, _, _, rfl, rfl, hp11, small1000 (by omega), ⟨_, _, _, _, rfl⟩, ?_⟩
      exact ((Frm.of_same (S := []) ((s67.trans s8).trans s11)).own ((Frm.of_same (S := []) (s67.trans s8)).free hp) (Frm.updL hp11)).same
    rintro σ H7 ⟨⟨v8, v9, v10, v11, rfl⟩, s67⟩
    have I7 := I6.same s67
    -- its rows
    refine ⟨fun σ' H' => ∃ R : Addr, σ' = [some (V.ref a), some (.ref d), some (.ref t0), some (.ref t1), some (.ref S), some (.ref x.o), some (.ref D), none, v8, v9, v10, v11, some (.ref R), none, none, none, none, none, none, none] ∧ H' R = some (.lst ((sts.map stepText).map V.str)) ∧ Same H7 H', ?_, ?_⟩
    · refine ⟨_, rfl, S, rfl, ⟨_, SqL.of I7.L⟩, fun R hR => ?_⟩
      refine lc_list (K := K) (a := S) (xs := xs) (fun i H' => Same H7 H' ∧ H' R = some (.lst (((sts.take i).map stepText).map V.str))) ⟨Same.upd_new hR, upd_same⟩ (fun i H' _ h => SqL.of (h.1 _ _ I7.L)) ?_ ?_
      · rintro i v H8 hi ⟨s8, hR8⟩
        obtain ⟨b, st, hst, rfl, hb⟩ := (I7.A.same s8).get hi
        obtain ⟨ps, hb1, hps⟩ := hb.parts
        have ok := hok st (List.mem_of_getElem? hst)
        have il : i < sts.length := (List.getElem?_eq_some_iff.mp hst).1
        refine ⟨rfl, ⟨_, rfl⟩, _, rfl, b, rfl, ⟨_, SqT.of hb1⟩, fun D2 hD2 => ?_⟩
        refine lc_tup (K := K) (a := b) (xs := ps) (fun j H' => Same H8 H' ∧ H' D2 = some (.lst ((((stepParts st).take j).map partText).map V.str))) ⟨Same.upd_new hD2, upd_same⟩ (fun j H' _ h => SqT.of (h.1 _ _ hb1)) ?_ ?_
        · rintro j v H9 hj ⟨s9, hD9⟩
          obtain ⟨e, he, ime⟩ := (hps.same s9).get' hj
          have jl : j < (stepParts st).length := (List.getElem?_eq_some_iff.mp he).1
          have pf := parts_few st
          have pk := parts_ok ok e (List.mem_of_getElem? he)
          have htk := take_more he
          have fin : ∀ (H10 : Hp), Same H9 H10 → ∃ acc, H10 D2 = some (HO.lst acc) ∧ acc.length < sizeLine ∧ Same H8 (upd H10 D2 (.lst (acc ++ [.str (partText e)]))) ∧ (upd H10 D2 (.lst (acc ++ [.str (partText e)]))) D2 = some (.lst ((((stepParts st).take (j + 1)).map partText).map V.str)) := fun H10 s10 => by
            have hD10 := s10 _ _ hD9
            refine ⟨_, hD10, (by rw [List.length_map, List.length_map, List.length_take]; exact small1000 (by omega)), ((Frm.of_same (s9.trans s10)).own hD2 (Frm.updL hD10)).same, ?_⟩
            rw [upd_same, htk, List.map_append, List.map_append]
            rfl
          cases e with
          | str z =>
            cases ime
            exact ⟨rfl, _, rfl, _, _, _, _, _, rfl, .ty _, tyx_D (K := K) (.str _), kit_ty kb_st, _, rfl, iteF ⟨_, rfl, .inr ⟨_, rfl, fin _ (.refl _)⟩⟩⟩
          | int n =>
            cases ime
            exact ⟨rfl, _, rfl, _, _, _, _, _, rfl, .ty _, tyx_D (K := K) (.int _), kit_ty kb_it, _, rfl, iteF ⟨_, rfl, .inl ⟨_, rfl, log2_999 pk.1 pk.2, fin _ (.refl _)⟩⟩⟩
          | tuple ds =>
            obtain ⟨ms, rfl, hms⟩ := pk
            obtain ⟨t, rfl, ht⟩ := im_can_inv ime
            refine ⟨rfl, _, rfl, _, _, _, _, _, rfl, .ty _, tyx_T (SqT.of ht), kit_ty kb_tt, _, rfl, iteT ?_⟩
            refine ⟨⟨_, rfl⟩, _, rfl, t, rfl, ⟨_, SqT.of ht⟩, fun D3 hD3 => ?_⟩
            refine lc_tup (K := K) (a := t) (xs := ms.map V.int) (fun i H' => Same H9 H' ∧ H' D3 = some (.lst (((ms.take i).map fun m => Str.ofString (toString m)).map V.str))) ⟨Same.upd_new hD3, upd_same⟩ (fun i H' _ h => SqT.of (h.1 _ _ ht)) ?_ ?_
            · rintro i v H10 hi ⟨s10, hD10⟩
              obtain ⟨m, hm, rfl⟩ := getmap hi
              have hil : i < ms.length := (List.getElem?_eq_some_iff.mp hm).1
              obtain ⟨m0, m9⟩ := hms.1 m (List.mem_of_getElem? hm)
              have := can_len hms
              refine ⟨rfl, _, rfl, _, rfl, log2_999 m0 (by omega), _, hD10, (by rw [List.length_map, List.length_map, List.length_take]; exact small1000 (by omega)), ((Frm.of_same s10).own hD3 (Frm.updL hD10)).same, ?_⟩
              rw [upd_same, take_more hm, List.map_append, List.map_append]
              rfl
            · rintro H10 ⟨s10, hD10⟩
              rw [List.length_map, List.take_length] at hD10
              have := can_len hms
              have q := sum_le (m := 3) (l := ms.map fun m => Str.ofString (toString m)) (fun x hx => by
                obtain ⟨m, hm, rfl⟩ := List.mem_map.mp hx
                obtain ⟨m0, m9⟩ := hms.1 m hm
                exact int_len m0 (by omega))
              refine ⟨_, D3, _, rfl, rfl, .inl (SqL.of hD10), (by rw [comma_len, List.length_map] at *; omega), ?_⟩
              have e : Txt.join "," (ms.map fun m => Str.ofString (toString m)) = partText (.tuple (ms.map .int)) := by
                show _ = Txt.join "," ((ms.map PyData.int).map fun e => Str.ofString (toString (intOf e)))
                rw [List.map_map]
                rfl
              rw [e]
              exact fin _ s10
          | none => exact pk.elim
          | bool b => exact pk.elim
          | list ds => exact pk.elim
          | dict ds => exact pk.elim
        · rintro H9 ⟨s9, hD9⟩
          rw [hps.length, List.take_length] at hD9
          have q := sum_le (step_texts ok)
          have := parts_few st
          refine ⟨_, D2, _, rfl, rfl, .inl (SqL.of hD9), (by rw [blank_len]; rw [List.length_map] at *; omega), ?_⟩
          have hR9 := s9 _ _ hR8
          refine ⟨_, hR9, (by rw [List.length_map, List.length_map, List.length_take]; exact small1000 (by omega)), ((Frm.of_same (s8.trans s9)).own hR (Frm.updL hR9)).same, ?_⟩
          rw [upd_same, take_more hst, List.map_append, List.map_append]
          rfl
      · rintro H8 ⟨s8, hR8⟩
        rw [hxl, List.take_length] at hR8
        exact ⟨R, rfl, hR8, s8⟩
    rintro σ' H8 ⟨R, rfl, hR8, s8⟩
    have I8 := I7.same s8
    have q723 := sum_le (m := 723) (l := sts.map stepText) (fun x hx => by
      obtain ⟨st, hst, rfl⟩ := List.mem_map.mp hx
      exact step_len (hok st hst))
    refine ⟨_, rfl, S, xs, sts.map stepD, fun _ => true, rfl, SqL.of I8.L, I8.A.im, tg, .inr ⟨sts, gall, I8.A, hok, by omega, fun H9 s9 => ?_⟩⟩
    refine ⟨⟨_, rfl⟩, _, rfl, _, R, _, rfl, rfl, .inl (SqL.of (s9 _ _ hR8)), (by rw [line_len1]; rw [List.length_map] at *; omega), ?_⟩
    refine ⟨.str (playText sts), .str (playText sts), .str (playText sts), rfl, .str _, .str _, (play_okS hok).lay, fun H10 s10 => ⟨_, rfl, iteF ?_⟩⟩
    have I10 := (I8.same s9).same s10
    clear I4 I6 I7 I8 told6
    -- what is no step
    have raised : ∀ (n : Nat) (H' : Hp) (cls : Value) (d' : Option Addr), (cls = .ref T.C_BadStep ∧ ∃ dd, d' = some dd ∧ H' dd = some (.xd [("at", .int (n : Nat))])) →
        WordAt K [T.C_BadManners, T.C_BadCount, T.C_BadPart, T.C_BadItem, T.C_Full, T.C_BadLog, T.C_BadText, T.C_BadEnd, T.C_BadStep] T.C_LineError cls d' H' 8 n := by
      rintro n H' cls d' ⟨rfl, dd, rfl, hx⟩
      exact ⟨T.C_BadStep, rfl, by decide, T.wk_BadStep, .inr ⟨dd, _, rfl, hx, T.xf_BadStep, .inr ⟨rfl, T.nx_BadStep_at, look1⟩⟩⟩
    have wlv : ∀ k : Int, lv 1 (.tuple [.str "step", .int k]) := fun k => lv_word (by decide +kernel) k
    refine ⟨4, rfl, by decide, by decide, for_range (lo := 0) (n := 4) (fun j σ H' => (∃ v14 v15 v16 v17 : Option V, σ = [some (V.ref a), some (.ref d), some (.ref t0), some (.ref t1), some (.ref S), some (.ref x.o), some (.ref D), none, v8, v9, v10, v11, some (.ref R), none, v14, v15, v16, v17, none, none]) ∧ I17 T.lP d t0 t1 S ca cb xs sts H') ⟨⟨_, _, _, _, rfl⟩, I10⟩ ?_ ?_⟩
    · rintro j σ H1 hj ⟨⟨v14, v15, v16, v17, rfl⟩, I1⟩
      refine ⟨_, rfl, _, rfl, S, _, rfl, .inl (SqL.of I1.L), _, _, rfl, rfl, d, _, rfl, I1.D, by omega, by omega, fun at_ H2 a0 a1 D2 f2 => ?_⟩
      have I2 := I1.dice D2 f2
      obtain ⟨m, rfl⟩ : ∃ m : Nat, at_ = m := ⟨at_.toNat, by omega⟩
      have hm : m ≤ sts.length := by omega
      have tl1 := List.length_take_le m xs
      have dl1 : (xs.drop m).length ≤ xs.length := by rw [List.length_drop]; omega
      -- one that is none
      refine ⟨fun σ' H' => ∃ (B : Addr) (v : V), σ' = [some (V.ref a), some (.ref d), some (.ref t0), some (.ref t1), some (.ref S), some (.ref x.o), some (.ref D), none, v8, v9, v10, v11, some (.ref R), none, some (.int (0 + (j : Nat))), some (.int (m : Nat)), some (.ref B), v17, none, none] ∧ H' B = some (.lst (xs.take m ++ [v])) ∧ NS H' v ∧ B ≠ d ∧ I17 T.lP d t0 t1 S ca cb xs sts H', ?_, ?_⟩
      · refine ⟨_, rfl, _, rfl, _, rfl, S, xs, rfl, SqL.of I2.L, fun z1 hz1 => ?_⟩
        rw [cutG_to]
        have s3 := Same.upd_new (o := .lst (xs.take m)) hz1
        have q3 := upd_same (H := H2) (a := z1) (o := .lst (xs.take m))
        have n1 := I2.D.ne_new hz1
        generalize upd H2 z1 (.lst (xs.take m)) = H3 at s3 q3 ⊢
        have I3 := I2.same s3
        refine ⟨_, rfl, d, rfl, I3.D, fun v H4 hv D4 f4 => ⟨(by show 1 ≤ sizeLine; decide), fun z2 hz2 => ?_⟩⟩
        have I4 := I3.dice D4 f4
        have q3 := f4 _ _ q3 (by simp [n1])
        have s5 := Same.upd_new (o := .lst [v]) hz2
        have q5 := upd_same (H := H4) (a := z2) (o := .lst [v])
        generalize upd H4 z2 (.lst [v]) = H5 at s5 q5 ⊢
        refine ⟨z1, z2, _, _, rfl, rfl, s5 _ _ q3, q5, big (by show _ + 1 ≤ _; omega), fun z3 hz3 => ?_⟩
        have s6 := Same.upd_new (o := .lst (xs.take m ++ [v])) hz3
        exact ⟨z3, v, rfl, upd_same, (hv.same s5).same s6, (I4.same s5).D.ne_new hz3, (I4.same s5).same s6⟩
      rintro σ' H3 ⟨B0, v, rfl, hB0, hv, nB0, I3⟩
      obtain ⟨dv, imv, tv, _⟩ := hv
      -- and others behind it
      refine ⟨fun σ' H' => ∃ (B : Addr) (xb : List V) (ds : List PyData), σ' = [some (V.ref a), some (.ref d), some (.ref t0), some (.ref t1), some (.ref S), some (.ref x.o), some (.ref D), none, v8, v9, v10, v11, some (.ref R), none, some (.int (0 + (j : Nat))), some (.int (m : Nat)), some (.ref B), v17, none, none] ∧ H' B = some (.lst xb) ∧ ImAll H' xb ds ∧ TryAll ds (fun i => decide (i ≠ m ∧ i < sts.length + 1)) ∧ firstNo (fun i => decide (i ≠ m ∧ i < sts.length + 1)) ds.length m ∧ I17 T.lP d t0 t1 S ca cb xs sts H', ?_, ?_⟩
      · refine ⟨_, rfl, _, rfl, _, rfl, _, rfl, S, xs, rfl, SqL.of I3.L, fun z4 hz4 => ?_⟩
        rw [cutG_from]
        have s4 := Same.upd_new (o := .lst (xs.drop m)) hz4
        have q4 := upd_same (H := H3) (a := z4) (o := .lst (xs.drop m))
        generalize upd H3 z4 (.lst (xs.drop m)) = H4 at s4 q4 ⊢
        have dl2 : (xs.take m ++ [v]).length ≤ 41 := by rw [List.length_append]; show _ + 1 ≤ _; omega
        refine ⟨B0, z4, _, _, rfl, rfl, s4 _ _ hB0, q4, big (by omega), fun z5 hz5 => ?_⟩
        have s5 := Same.upd_new (o := .lst (xs.take m ++ [v] ++ xs.drop m)) hz5
        have q5 := upd_same (H := H4) (a := z5) (o := .lst (xs.take m ++ [v] ++ xs.drop m))
        have n5 := (I3.same s4).D.ne_new hz5
        generalize upd H4 z5 (.lst (xs.take m ++ [v] ++ xs.drop m)) = H5 at s5 q5 ⊢
        refine ⟨(by show 0 ≤ sizeLine; decide), fun e he => ?_⟩
        have s6 := Same.upd_new (o := .tup []) he
        have q6 := upd_same (H := H5) (a := e) (o := .tup [])
        generalize upd H5 e (.tup []) = H6 at s6 q6 ⊢
        refine ⟨(by show 1 ≤ sizeLine; decide), fun z6 hz6 => ?_⟩
        have s7 := Same.upd_new (o := .lst [.ref e]) hz6
        have q7 := upd_same (H := H6) (a := z6) (o := .lst [.ref e])
        have s36 := (s4.trans s5).trans s6
        have n6 := (I3.same s36).D.ne_new hz6
        generalize upd H6 z6 (.lst [.ref e]) = H7 at s7 q7 ⊢
        have s37 := s36.trans s7
        have I7 := I3.same s37
        refine ⟨_, rfl, d, 2, rfl, I7.D, by decide, by decide, fun r H8 r0 r2 D8 f8 => ?_⟩
        have I8 := I7.dice D8 f8
        have q8 := f8 _ _ q7 (by simp [n6])
        have z5q := f8 _ _ (s7 _ _ (s6 _ _ q5)) (by simp [n5])
        refine ⟨z6, r, _, rfl, rfl, q8, by omega, by omega, big (by show 1 * _ ≤ _; omega), fun z7 hz7 => ?_⟩
        rw [flat_rep]
        have s9 := Same.upd_new (o := .lst (List.replicate r.toNat (V.ref e))) hz7
        have q9 := upd_same (H := H8) (a := z7) (o := .lst (List.replicate r.toNat (V.ref e)))
        generalize upd H8 z7 (.lst (List.replicate r.toNat (V.ref e))) = H9 at s9 q9 ⊢
        have l5 : (xs.take m ++ [v] ++ xs.drop m).length ≤ 100 := by rw [List.length_append]; omega
        refine ⟨z5, z7, _, _, rfl, rfl, s9 _ _ z5q, q9, big (by rw [List.length_replicate]; omega), fun z8 hz8 => ?_⟩
        have s10 := Same.upd_new (o := .lst (xs.take m ++ [v] ++ xs.drop m ++ List.replicate r.toNat (V.ref e))) hz8
        have f310 : Frm [d] H3 (upd H9 z8 (.lst (xs.take m ++ [v] ++ xs.drop m ++ List.replicate r.toNat (V.ref e)))) := ((Frm.of_same s37).trans f8).trans (Frm.of_same (s9.trans s10))
        have f610 : Frm [d] H6 (upd H9 z8 (.lst (xs.take m ++ [v] ++ xs.drop m ++ List.replicate r.toNat (V.ref e)))) := ((Frm.of_same s7).trans f8).trans (Frm.of_same (s9.trans s10))
        have im6 : ImAll H6 [V.ref e] [.tuple []] := .cons (.tup q6 .nil) .nil
        have im6r := im6.rep r.toNat
        rw [flat_rep, flat_rep] at im6r
        refine ⟨z8, _, (sts.take m).map stepD ++ dv :: ((sts.drop m).map stepD ++ List.replicate r.toNat (PyData.tuple [])), rfl, upd_same, ?_, try_bad hok hm tv, first_bad hm hsl40, (I8.same s9).same s10⟩
        have e1 : (sts.take m).map stepD ++ dv :: ((sts.drop m).map stepD ++ List.replicate r.toNat (PyData.tuple [])) = (sts.map stepD).take m ++ [dv] ++ (sts.map stepD).drop m ++ List.replicate r.toNat (PyData.tuple []) := by simp [List.map_take, List.map_drop]
        rw [e1]
        exact ((((I3.A.im.take m).append (.cons imv .nil)).append (I3.A.im.drop m)).frm f310).append (im6r.frm f610)
      rintro σ' H4 ⟨B, xb, ds, rfl, hB, hAb, htry, hfn, I4⟩
      clear I1 I2 I3 hB0 imv
      -- two works
      refine ⟨I4.T, fun g1 c1 H15 e15 tb15 _ g1n g1H c1H => ⟨tb15, fun tz g2 c2 H16 e16 tb16 _ g2n tzH g2H c2H => ⟨(by show 2 ≤ sizeLine; decide), fun W hW => ?_⟩⟩⟩
      have I16 := (I4.ext e15 tb15).ext e16 tb16
      have s17 := Same.upd_new (o := .lst [.ref g1, .ref g2]) hW
      have q17 := upd_same (H := H16) (a := W) (o := .lst [.ref g1, .ref g2])
      generalize upd H16 W (.lst [.ref g1, .ref g2]) = H17 at s17 q17 ⊢
      have J17 := I16.same s17
      have e417 : LamX.ExtN H4 H17 := fun b o z n => s17 _ _ (e16 _ _ (e15 _ _ z n) n)
      have g1H := s17 _ _ (e16 _ _ g1H lamAt_ne)
      have c1H := s17 _ _ (e16 _ _ c1H LamX.codeO_ne)
      have g2H := s17 _ _ g2H
      have c2H := s17 _ _ c2H
      have tzH := s17 _ _ tzH
      have hB17 := e417 _ _ hB lst_ne
      have hA17 := hAb.ext e417
      refine ⟨fun σ' H' => σ' = [some (V.ref a), some (.ref d), some (.ref t0), some (.ref t1), some (.ref S), some (.ref x.o), some (.ref D), none, v8, v9, v10, v11, some (.ref R), none, some (.int (0 + (j : Nat))), some (.int (m : Nat)), some (.ref B), some (.ref W), none, none] ∧ Same H17 H', ?_, ?_⟩
      · refine ⟨_, rfl, W, rfl, ⟨_, SqL.of q17⟩, fun L hL => ?_⟩
        have sL := Same.upd_new (o := .lst []) hL
        refine lc_two (K := K) (a := W) (v0 := .ref g1) (v1 := .ref g2) (fun H' => Same H17 H' ∧ H' L = some (.lst [])) (fun H' => Same H17 H' ∧ ∃ u1, H' L = some (.lst [.ref u1]) ∧ H' u1 = some (.tup [.str "step", .int (m : Nat)]))
          (fun H' => Same H17 H' ∧ ∃ u1 u2, H' L = some (.lst [.ref u1, .ref u2]) ∧ H' u1 = some (.tup [.str "step", .int (m : Nat)]) ∧ H' u2 = some (.tup [.str "step", .int (m : Nat)])) ⟨sL, upd_same⟩ (fun H' h => SqL.of (h.1 _ _ q17)) (fun H' h => SqL.of (h.1 _ _ q17)) (fun H' h => SqL.of (h.1 _ _ q17)) ?_ ?_ ?_
        · rintro H18 ⟨s18, hL18⟩
          have I18 := J17.same s18
          refine ⟨rfl, _, rfl, g1, _, rfl, ready_of (js := [2, 3, 16]) (s18 _ _ g1H) (s18 _ _ c1H) (fun t z => by cases z) (lok_of (P := P) (w := w) (mg := mg) (base := base) (k := 11) (fr := ["_law_one", "_law_other", "_law_bad"]) (N := ["_law_one", "_law_other", "_law_bad"]) (ps := []) (vs := []) (tb := fun E => (tCall _ [] E (tCons (tVar 0) (tCons (tVar 1) (tCons (tVar 2) tNil))))) (NdefX.nscope_by (by dsimp only; decide +kernel)) rfl (fun s doc pm ctv _ => ⟨[], .nil, .of_eq rfl⟩) (fun A outer s H E hr => (pe_call G_played (hr.mono (by decide)) rfl T.g_played T.F_played.kp T.b_played .nil pass_ncx (pa_cons (pv 0) (pa_cons (pv 1) (pa_cons (pv 2) pa_nil)))))) ⟨rfl, NdefX.ndef_free (fr := []) (by show NdefX.ndefB (defScope s_law) _ [] = true; dsimp only; decide +kernel), NdefX.ndef_fr (sc := defScope s_law) (by dsimp only; decide +kernel), rfl⟩, fun cls d' H' => (cls = .ref T.C_BadStep ∧ ∃ dd, d' = some dd ∧ H' dd = some (.xd [("at", .int (m : Nat))])) ∧ Same H18 H', ?_, ?_⟩
          · exact ⟨s18 _ _ g1H, (fun t z => by cases z), _, rfl, _, rfl, _, rfl, t0, B, .ref t1, .tuple (cb.map .int), ca, xb, ds, _, rfl, I18.h0, .tup I18.h1 (im_ints _), mdat_ints hcb.2.2.2, hca, s18 _ _ hB17, hA17.same s18, htry, .inr (.inl ⟨isMan_ints hcb, m, hfn, fun dd H' s' hx => ⟨⟨rfl, dd, rfl, hx⟩, s'⟩⟩)⟩
          · rintro cls d' H' ⟨hc, s19⟩
            refine ⟨8, m, raised m H' cls d' hc, fun u H3 s3 hu => ?_⟩
            rw [word8] at hu
            have hL3 := s3 _ _ (s19 _ _ hL18)
            have nu : u ≠ L := by
              rintro rfl
              rw [hL3] at hu
              cases hu
            exact ⟨[], hL3, (by show 0 < sizeLine; decide), ((Frm.of_same ((s18.trans s19).trans s3)).own hL (Frm.updL hL3)).same, u, upd_same, by rw [upd_ne nu]; exact hu⟩
        · rintro H18 ⟨s18, u1, hL18, hu1⟩
          refine ⟨rfl, _, rfl, g2, _, rfl, ready_of (js := [16]) (s18 _ _ g2H) (s18 _ _ c2H) (fun t z => by cases z; exact s18 _ _ tzH) (lok_of (P := P) (w := w) (mg := mg) (base := base) (k := 11) (fr := ["_law_bad"]) (N := ["_law_a", "_law_bad"]) (ps := ["_law_a"]) (vs := [.int 0]) (tb := fun E => (tCall _ [] E (tCons (tVar 1) tNil))) (NdefX.nscope_by (by dsimp only; decide +kernel)) rfl (fun s doc pm ctv h => by obtain ⟨u, ⟨o, ho, _, n, hd⟩, ru⟩ := h _ rfl; exact ⟨[u], .cons ru .nil, BindsTo.of_defaults rfl ho hd rfl rfl⟩) (fun A outer s H E hr => (pe_call G_lines_of (hr.mono (by decide)) rfl T.g_lines_of T.F_lines_of.kp T.b_lines_of .nil pass_ncx (pa_cons (pv 1) pa_nil)))) ⟨rfl, NdefX.ndef_free (fr := []) (by show NdefX.ndefB (defScope s_law) _ [] = true; dsimp only; decide +kernel), NdefX.ndef_fr (sc := defScope s_law) (by dsimp only; decide +kernel), rfl⟩, fun cls d' H' => (cls = .ref T.C_BadStep ∧ ∃ dd, d' = some dd ∧ H' dd = some (.xd [("at", .int (m : Nat))])) ∧ Same H18 H', ?_, ?_⟩
          · exact ⟨s18 _ _ g2H, (fun t z => by cases z; exact s18 _ _ tzH), _, rfl, B, xb, ds, _, rfl, SqL.of (s18 _ _ hB17), hA17.same s18, htry, .inl ⟨m, hfn, fun dd H' s' hx => ⟨⟨rfl, dd, rfl, hx⟩, s'⟩⟩⟩
          · rintro cls d' H' ⟨hc, s19⟩
            refine ⟨8, m, raised m H' cls d' hc, fun u H3 s3 hu => ?_⟩
            rw [word8] at hu
            have hL3 := s3 _ _ (s19 _ _ hL18)
            have hu13 := s3 _ _ (s19 _ _ hu1)
            have nu : ∀ {x : Addr} {l : List V}, H3 x = some (.tup l) → x ≠ L := by
              rintro x l hx rfl
              rw [hL3] at hx
              cases hx
            exact ⟨[.ref u1], hL3, (by show 1 < sizeLine; decide), ((Frm.of_same ((s18.trans s19).trans s3)).own hL (Frm.updL hL3)).same, u1, u, upd_same, by rw [upd_ne (nu hu13)]; exact hu13, by rw [upd_ne (nu hu)]; exact hu⟩
        · rintro H18 ⟨s18, u1, u2, hL18, hu1, hu2⟩
          refine ⟨_, rfl, (by show 2 ≤ sizeLine; decide), fun t ht => ⟨(by show 1 ≤ sizeLine; decide), fun l hl => ?_⟩⟩
          have s19 := Same.upd_new (o := .tup [.str "step", .int (m : Nat)]) ht
          have q19 := upd_same (H := H18) (a := t) (o := .tup [.str "step", .int (m : Nat)])
          generalize upd H18 t (.tup [.str "step", .int (m : Nat)]) = H19 at s19 q19 hl ⊢
          have s20 := Same.upd_new (o := .lst [.ref t]) hl
          refine ⟨l, 2, _, rfl, rfl, upd_same, by decide, by decide, big (by show 1 * 2 ≤ _; decide), fun p2 hp2 => ?_⟩
          have q21 := upd_same (H := upd H19 l (.lst [.ref t])) (a := p2) (o := .lst (List.replicate (2 : Int).toNat [V.ref t]).flatten)
          have s21 := s20.trans (Same.upd_new (o := .lst (List.replicate (2 : Int).toNat [V.ref t]).flatten) hp2)
          generalize upd (upd H19 l (.lst [.ref t])) p2 (.lst (List.replicate (2 : Int).toNat [V.ref t]).flatten) = H20 at s21 q21 ⊢
          have s1820 := s19.trans s21
          have i1 := im_word (s1820 _ _ hu1)
          have i2 := im_word (s1820 _ _ hu2)
          have i3 := im_word (s21 _ _ q19)
          refine ⟨.ref L, .ref p2, .list [.tuple [.str "step", .int (m : Nat)], .tuple [.str "step", .int (m : Nat)]], rfl, .lst (SqL.of (s1820 _ _ hL18)) (.cons i1.dp (.cons i2.dp .nil)), .lst (SqL.of q21) (.cons i3.dp (.cons i3.dp .nil)), ?_, fun H' s' => ⟨_, rfl, iteF ⟨rfl, (s18.trans s1820).trans s'⟩⟩⟩
          refine ⟨(by show 2 ≤ 100000; decide), fun x hx => ?_⟩
          simp only [List.mem_cons, List.not_mem_nil, or_false] at hx
          have : x = .tuple [.str "step", .int (m : Nat)] := hx.elim id id
          rw [this]
          exact lv_mono (wlv _)
      rintro σ' H18 ⟨rfl, s18⟩
      have I18 := J17.same s18
      have hB18 := s18 _ _ hB17
      have hA18 := hA17.same s18
      clear J17 I16 I4
      -- no manners
      refine ⟨fun σ' H' => σ' = [some (V.ref a), some (.ref d), some (.ref t0), some (.ref t1), some (.ref S), some (.ref x.o), some (.ref D), none, v8, v9, v10, v11, some (.ref R), none, some (.int (0 + (j : Nat))), some (.int (m : Nat)), some (.ref B), some (.ref W), none, none] ∧ I17 T.lP d t0 t1 S ca cb xs sts H', ?_, ?_⟩
      · refine ⟨I18.T, fun tz3 g3 c3 H19 e19 tb19 _ g3n tz3H g3H c3H => ⟨g3, _, rfl, ready_of (js := [2, 16]) (g3H) (c3H) (fun t z => by cases z; exact tz3H) (lok_of (P := P) (w := w) (mg := mg) (base := base) (k := 11) (fr := ["_law_one", "_law_bad"]) (N := ["_law_b", "_law_one", "_law_bad"]) (ps := ["_law_b"]) (vs := [.int 0]) (tb := fun E => (tCall _ [] E (tCons (tVar 1) (tCons (tTup tNil) (tCons (tVar 2) tNil))))) (NdefX.nscope_by (by dsimp only; decide +kernel)) rfl (fun s doc pm ctv h => by obtain ⟨u, ⟨o, ho, _, n, hd⟩, ru⟩ := h _ rfl; exact ⟨[u], .cons ru .nil, BindsTo.of_defaults rfl ho hd rfl rfl⟩) (fun A outer s H E hr => (pe_call G_played (hr.mono (by decide)) rfl T.g_played T.F_played.kp T.b_played .nil pass_ncx (pa_cons (pv 1) (pa_cons (pe_tup pa_nil) (pa_cons (pv 2) pa_nil)))))) ⟨rfl, NdefX.ndef_free (fr := []) (by show NdefX.ndefB (defScope s_law) _ [] = true; dsimp only; decide +kernel), NdefX.ndef_fr (sc := defScope s_law) (by dsimp only; decide +kernel), rfl⟩, fun cls d' H' => cls = .ref T.C_BadManners ∧ d' = none ∧ Same H19 H', ?_, ?_⟩⟩
        · have I19 := I18.ext e19 tb19
          refine ⟨g3H, (fun t z => by cases z; exact tz3H), _, rfl, (by show 0 ≤ sizeLine; decide), fun e he => ?_⟩
          have s20 := Same.upd_new (o := .tup []) he
          have q20 := upd_same (H := H19) (a := e) (o := .tup [])
          generalize upd H19 e (.tup []) = H20 at s20 q20 ⊢
          exact ⟨_, rfl, t0, B, .ref e, .tuple [], ca, xb, ds, _, rfl, s20 _ _ I19.h0, .tup q20 .nil, mdat_ints (ms := []) (by decide), hca, s20 _ _ (e19 _ _ hB18 lst_ne), (hA18.ext e19).same s20, htry, .inl ⟨rfl, fun H' s' => ⟨rfl, rfl, s20.trans s'⟩⟩⟩
        · rintro cls d' H' ⟨rfl, rfl, s20⟩
          refine ⟨0, 0, word_plain T.wk_BadManners (by decide) (by decide) (by decide) (by decide), fun u H3 s3 hu => ?_⟩
          have hu : H3 u = some (.tup [.str "manners", .int 0]) := hu
          have I3 := ((I18.ext e19 tb19).same s20).same s3
          refine ⟨(by show 2 ≤ sizeLine; decide), fun t2 ht2 => ?_⟩
          have s4 := Same.upd_new (o := .tup [.str "manners", .int 0]) ht2
          have q4 := upd_same (H := H3) (a := t2) (o := .tup [.str "manners", .int 0])
          generalize upd H3 t2 (.tup [.str "manners", .int 0]) = H5 at s4 q4 ⊢
          have lvw : lv 1 (.tuple [.str "manners", .int 0]) := lv_word (by decide +kernel) 0
          exact ⟨_, _, (im_word (s4 _ _ hu)).dp, (im_word q4).dp, shaped_lv lvw (by decide), shaped_lv lvw (by decide), false, congrArg V.bl (by rw [eqv_refl lvw]; rfl), iteF ⟨rfl, I3.same s4⟩⟩
      rintro σ' H19 ⟨rfl, I19⟩
      exact ⟨⟨_, _, _, _, rfl⟩, I19⟩
    · rintro σ H1 ⟨⟨v14, v15, v16, v17, rfl⟩, I1⟩
      -- two hundred steps
      refine ⟨(by show 2 ≤ sizeLine; decide), fun t ht => ⟨(by show 1 ≤ sizeLine; decide), fun z1 hz1 => ?_⟩⟩
      have s2 := Same.upd_new (o := .tup [.str "left", .int 0]) ht
      have q2 := upd_same (H := H1) (a := t) (o := .tup [.str "left", .int 0])
      generalize upd H1 t (.tup [.str "left", .int 0]) = H2 at s2 q2 hz1 ⊢
      have s3 := Same.upd_new (o := .lst [.ref t]) hz1
      have q3 := upd_same (H := H2) (a := z1) (o := .lst [.ref t])
      generalize upd H2 z1 (.lst [.ref t]) = H3 at s3 q3 ⊢
      refine ⟨z1, 200, _, rfl, rfl, q3, by decide, by decide, big (by show 1 * 200 ≤ _; decide), fun L hL => ?_⟩
      have e200 : (List.replicate (200 : Int).toNat [V.ref t]).flatten = List.replicate 200 (V.ref t) := flat_rep _ 200
      rw [e200]
      have s4 := Same.upd_new (o := .lst (List.replicate 200 (V.ref t))) hL
      have q4 := upd_same (H := H3) (a := L) (o := .lst (List.replicate 200 (V.ref t)))
      generalize upd H3 L (.lst (List.replicate 200 (V.ref t))) = H4 at s4 q4 ⊢
      have s14 := (s2.trans s3).trans s4
      have I4 := I1.same s14
      have stL : StepAt H4 t (.left 0) := s4 _ _ (s3 _ _ q2)
      have okL : ∀ {n : Nat}, ∀ st ∈ List.replicate n (StepD.left 0), st.ok := fun st hs => by rw [List.eq_of_mem_replicate hs]; exact .inl rfl
      have AL : StepsAt H4 (List.replicate 200 (V.ref t)) (List.replicate 200 (StepD.left 0)) := by
        refine ⟨by rw [List.length_replicate, List.length_replicate], fun i v st h1 h2 => ?_⟩
        have e1 := List.eq_of_mem_replicate (List.mem_of_getElem? h1)
        have e2 := List.eq_of_mem_replicate (List.mem_of_getElem? h2)
        subst e1 e2
        exact ⟨t, rfl, stL⟩
      refine ⟨_, rfl, _, rfl, _, rfl, t0, L, .ref t1, .tuple (cb.map .int), ca, _, (List.replicate 200 (StepD.left 0)).map stepD, fun _ => true, rfl, I4.h0, .tup I4.h1 (im_ints _), mdat_ints hcb.2.2.2, hca, q4, AL.im, try_good okL, .inr (.inr ⟨cb, List.replicate 200 (StepD.left 0), rfl, hcb, (fun i hi => ⟨by rw [List.length_map, List.length_replicate] at hi; omega, rfl⟩), AL, okL, (by rw [List.length_replicate]; decide), fun p ys H5 hp hp5 told5 s5 => ?_⟩)⟩
      rw [ans_left _ rfl] at told5
      have lvz : lv 1 (.list ((List.replicate 200 (0 : Int)).map .int)) := lv_ints (by rw [List.length_replicate]; decide)
      have dp5 : Dp K H5 (.ref p) (.list ((List.replicate 200 (0 : Int)).map .int)) := by
        rw [List.map_replicate]
        exact .lst (SqL.of hp5) told5.dp
      refine ⟨(by show 1 ≤ sizeLine; decide), fun z2 hz2 => ?_⟩
      have s6 := Same.upd_new (o := .lst [.int 0]) hz2
      have q6 := upd_same (H := H5) (a := z2) (o := .lst [.int 0])
      generalize upd H5 z2 (.lst [.int 0]) = H6 at s6 q6 ⊢
      refine ⟨z2, 200, _, rfl, rfl, q6, by decide, by decide, big (by show 1 * 200 ≤ _; decide), fun z3 hz3 => ?_⟩
      have ez : (List.replicate (200 : Int).toNat [V.int 0]).flatten = (List.replicate 200 (0 : Int)).map V.int := by rw [List.map_replicate]; exact flat_rep _ 200
      rw [ez]
      have s7 := Same.upd_new (o := .lst ((List.replicate 200 (0 : Int)).map V.int)) hz3
      have q7 := upd_same (H := H6) (a := z3) (o := .lst ((List.replicate 200 (0 : Int)).map V.int))
      generalize upd H6 z3 (.lst ((List.replicate 200 (0 : Int)).map V.int)) = H7 at s7 q7 ⊢
      have s57 := s6.trans s7
      refine ⟨_, _, dp5.same s57, .lst (SqL.of q7) (dp_ints _), shaped_lv lvz (by decide), shaped_lv lvz (by decide), false, congrArg V.bl (by rw [eqv_refl lvz]; rfl), iteF ?_⟩
      have s47 := s5.trans s57
      have I7 := I4.same s47
      -- one more
      refine ⟨I7.T, fun g4 c4 H8 e8 tb8 _ g4n g4H c4H => ⟨g4, _, rfl, ready_of (js := [2, 3, 19]) (g4H) (c4H) (fun t z => by cases z) (lok_of (P := P) (w := w) (mg := mg) (base := base) (k := 11) (fr := ["_law_one", "_law_other", "_law_long"]) (N := ["_law_one", "_law_other", "_law_long"]) (ps := []) (vs := []) (tb := fun E => (tCall _ [] E (tCons (tVar 0) (tCons (tVar 1) (tCons (tOp rCat (tVar 2) (tLst (tCons (tTup (tCons (tC (.str "left")) (tCons (tC (.int 0)) tNil))) tNil))) tNil))))) (NdefX.nscope_by (by dsimp only; decide +kernel)) rfl (fun s doc pm ctv _ => ⟨[], .nil, .of_eq rfl⟩) (fun A outer s H E hr => (pe_call G_played (hr.mono (by decide)) rfl T.g_played T.F_played.kp T.b_played .nil pass_ncx (pa_cons (pv 0) (pa_cons (pv 1) (pa_cons (pe_op op_cat (pv 2) (pe_lst (pa_cons (pe_tup (pa_cons pe_str (pa_cons pe_int pa_nil))) pa_nil))) pa_nil)))))) ⟨rfl, NdefX.ndef_free (fr := []) (by show NdefX.ndefB (defScope s_law) _ [] = true; dsimp only; decide +kernel), NdefX.ndef_fr (sc := defScope s_law) (by dsimp only; decide +kernel), rfl⟩, fun cls d' H' => cls = .ref T.C_BadStep ∧ ∃ dd, d' = some dd ∧ H' dd = some (.xd [("at", .int (200 : Nat))]), ?_, ?_⟩⟩
      · have I8 := I7.ext e8 tb8
        have hL8 := e8 _ _ (s47 _ _ q4) lst_ne
        have AL8 := (AL.same s47).tups (ext_tups e8)
        refine ⟨g4H, (fun t z => by cases z), _, rfl, _, rfl, _, rfl, (by show 2 ≤ sizeLine; decide), fun t2 ht2 => ⟨(by show 1 ≤ sizeLine; decide), fun z4 hz4 => ?_⟩⟩
        have s9 := Same.upd_new (o := .tup [.str "left", .int 0]) ht2
        have q9 := upd_same (H := H8) (a := t2) (o := .tup [.str "left", .int 0])
        generalize upd H8 t2 (.tup [.str "left", .int 0]) = H9 at s9 q9 hz4 ⊢
        have s10 := Same.upd_new (o := .lst [.ref t2]) hz4
        have q10 := upd_same (H := H9) (a := z4) (o := .lst [.ref t2])
        generalize upd H9 z4 (.lst [.ref t2]) = H10 at s10 q10 ⊢
        have s810 := s9.trans s10
        refine ⟨L, z4, _, _, rfl, rfl, s810 _ _ hL8, q10, big (by rw [List.length_replicate]; show 200 + 1 ≤ _; decide), fun z5 hz5 => ?_⟩
        have s11 := Same.upd_new (o := .lst (List.replicate 200 (V.ref t) ++ [.ref t2])) hz5
        have q11 := upd_same (H := H10) (a := z5) (o := .lst (List.replicate 200 (V.ref t) ++ [.ref t2]))
        generalize upd H10 z5 (.lst (List.replicate 200 (V.ref t) ++ [.ref t2])) = H11 at s11 q11 ⊢
        have s811 := s810.trans s11
        have st2 : StepAt H11 t2 (.left 0) := s11 _ _ (s10 _ _ q9)
        have AL11 := (AL8.same s811).snoc st2
        refine ⟨t0, z5, .ref t1, .tuple (cb.map .int), ca, _, (List.replicate 200 (StepD.left 0) ++ [StepD.left 0]).map stepD, fun _ => true, rfl, s811 _ _ I8.h0, .tup (s811 _ _ I8.h1) (im_ints _), mdat_ints hcb.2.2.2, hca, q11, AL11.im, try_good (fun st hs => ?_), .inr (.inl ⟨isMan_ints hcb, 200, ⟨by rw [List.length_map, List.length_append, List.length_replicate]; decide, .inl (Nat.le_refl _), fun j hj => ⟨hj, rfl⟩⟩, fun dd H' s' hx => ⟨rfl, dd, rfl, hx⟩⟩)⟩
        rcases List.mem_append.mp hs with q | q
        · exact okL st q
        · rw [List.mem_singleton.mp q]
          exact .inl rfl
      · rintro cls d' H' hc
        refine ⟨8, (200 : Nat), raised 200 H' cls d' hc, fun u H3 s3 hu => ?_⟩
        rw [word8] at hu
        have hu : H3 u = some (.tup [.str "step", .int 200]) := hu
        refine ⟨(by show 2 ≤ sizeLine; decide), fun w1 hw1 => ?_⟩
        have s4 := Same.upd_new (o := .tup [.str "step", .int 200]) hw1
        have q4 := upd_same (H := H3) (a := w1) (o := .tup [.str "step", .int 200])
        generalize upd H3 w1 (.tup [.str "step", .int 200]) = H4' at s4 q4 ⊢
        exact ⟨.ref u, .ref w1, .tuple [.str "step", .int 200], rfl, (im_word (s4 _ _ hu)).dp, (im_word q4).dp, lv_mono (lv_mono (wlv 200)), fun H' _ => k H'⟩

end
end TL

namespace TL
open PySem L2
/-! ### what the top has written; the last theorem -/
theorem all_mk {l : PySem.W.OpenLaw} {w : World} {K : PySem.W.Frag} {h : Heap} {mg : Str → Option Value} {fa : Addr} (X : K.In h) (G : h.Ns mainGlobals mg) (hfa : mg "law" = some (.ref fa)) (own : LamX.OwnTab K fa h) {C_LineError C_BadManners C_BadItem C_Full C_BadPart C_BadCount C_BadEnd C_BadStep C_BadLog C_BadText C_Marks C_End C_Line a_is_between a_are_manners a_need_manners a_chosen a_need_manner a_need_end a_is_row a_need_log a_stretches a_is_field a_is_step a_need_steps a_done a_arrange a_played a_word_of a_lines_of a__law_dice a__law_off a__law_alike a__law_word a__law_can a__law_step a__law_steps a__law_no_step a__law_tells a_law a_BadStep_init a_Marks_init a_Marks_note a_Marks_bad a_End_init a_End_need_part a_End_refresh a_End_take a_End_say a_End_hear a_End_hear_slow a_End_hear_fast a_End_send a_End_got a_End_left a_End_stands a_Line_init a_Line_let_pass a_Line_lose a_Line_send a_Line_carry a_Line_frame a_Line_log a_Line_got a_Line_left lC lP a_FORMS a_BOUNDS at_BOUNDS_0 at_BOUNDS_1 at_BOUNDS_2 at_BOUNDS_3 : Addr}
    {od_is_between an_is_between od_are_manners an_are_manners od_need_manners an_need_manners od_chosen an_chosen od_need_manner an_need_manner od_need_end an_need_end od_is_row an_is_row od_need_log an_need_log od_stretches an_stretches od_is_field an_is_field od_is_step an_is_step od_need_steps an_need_steps od_done an_done od_arrange an_arrange od_played an_played od_word_of an_word_of od_lines_of an_lines_of od__law_dice an__law_dice od__law_off an__law_off od__law_alike an__law_alike od__law_word an__law_word od__law_can an__law_can od__law_step an__law_step od__law_steps an__law_steps od__law_no_step an__law_no_step od__law_tells an__law_tells od_law an_law od_BadStep_init an_BadStep_init od_Marks_init an_Marks_init od_Marks_note an_Marks_note od_Marks_bad an_Marks_bad od_End_init an_End_init od_End_need_part an_End_need_part od_End_refresh an_End_refresh od_End_take an_End_take od_End_say an_End_say od_End_hear an_End_hear od_End_hear_slow an_End_hear_slow od_End_hear_fast an_End_hear_fast od_End_send an_End_send od_End_got an_End_got od_End_left an_End_left od_End_stands an_End_stands od_Line_init an_Line_init od_Line_let_pass an_Line_let_pass od_Line_lose an_Line_lose od_Line_send an_Line_send od_Line_carry an_Line_carry od_Line_frame an_Line_frame od_Line_log an_Line_log od_Line_got an_Line_got od_Line_left an_Line_left : Option Addr} {sl_is_between sl_are_manners sl_need_manners sl_chosen sl_need_manner sl_need_end sl_is_row sl_need_log sl_stretches sl_is_field sl_is_step sl_need_steps sl_done sl_arrange sl_played sl_word_of sl_lines_of sl__law_dice sl__law_off sl__law_alike sl__law_word sl__law_can sl__law_step sl__law_steps sl__law_no_step sl__law_tells sl_law sl_BadStep_init sl_Marks_init sl_Marks_note sl_Marks_bad sl_End_init sl_End_need_part sl_End_refresh sl_End_take sl_End_say sl_End_hear sl_End_hear_slow sl_End_hear_fast sl_End_send sl_End_got sl_End_left sl_End_stands sl_Line_init sl_Line_let_pass sl_Line_lose sl_Line_send sl_Line_carry sl_Line_frame sl_Line_log sl_Line_got sl_Line_left : Array (Option Value)} {oc_is_between kV_is_between dc_is_between pm_is_between cd_is_between ct_is_between oc_are_manners kV_are_manners dc_are_manners pm_are_manners cd_are_manners ct_are_manners oc_need_manners kV_need_manners dc_need_manners pm_need_manners cd_need_manners ct_need_manners oc_chosen kV_chosen dc_chosen pm_chosen cd_chosen ct_chosen oc_need_manner kV_need_manner dc_need_manner pm_need_manner cd_need_manner ct_need_manner oc_need_end kV_need_end dc_need_end pm_need_end cd_need_end ct_need_end oc_is_row kV_is_row dc_is_row pm_is_row cd_is_row ct_is_row oc_need_log kV_need_log dc_need_log pm_need_log cd_need_log ct_need_log oc_stretches kV_stretches dc_stretches pm_stretches cd_stretches ct_stretches oc_is_field kV_is_field dc_is_field pm_is_field cd_is_field ct_is_field oc_is_step kV_is_step dc_is_step pm_is_step cd_is_step ct_is_step oc_need_steps kV_need_steps dc_need_steps pm_need_steps cd_need_steps ct_need_steps oc_done kV_done dc_done pm_done cd_done ct_done oc_arrange kV_arrange dc_arrange pm_arrange cd_arrange ct_arrange oc_played kV_played dc_played pm_played cd_played ct_played oc_word_of kV_word_of dc_word_of pm_word_of cd_word_of ct_word_of oc_lines_of kV_lines_of dc_lines_of pm_lines_of cd_lines_of ct_lines_of oc__law_dice kV__law_dice dc__law_dice pm__law_dice cd__law_dice ct__law_dice oc__law_off kV__law_off dc__law_off pm__law_off cd__law_off ct__law_off oc__law_alike kV__law_alike dc__law_alike pm__law_alike cd__law_alike ct__law_alike oc__law_word kV__law_word dc__law_word pm__law_word cd__law_word ct__law_word oc__law_can kV__law_can dc__law_can pm__law_can cd__law_can ct__law_can oc__law_step kV__law_step dc__law_step pm__law_step cd__law_step ct__law_step oc__law_steps kV__law_steps dc__law_steps pm__law_steps cd__law_steps ct__law_steps oc__law_no_step kV__law_no_step dc__law_no_step pm__law_no_step cd__law_no_step ct__law_no_step oc__law_tells kV__law_tells dc__law_tells pm__law_tells cd__law_tells ct__law_tells oc_law kV_law dc_law pm_law ct_law oc_BadStep_init kV_BadStep_init dc_BadStep_init pm_BadStep_init cd_BadStep_init ct_BadStep_init oc_Marks_init kV_Marks_init dc_Marks_init pm_Marks_init cd_Marks_init ct_Marks_init oc_Marks_note kV_Marks_note dc_Marks_note pm_Marks_note cd_Marks_note ct_Marks_note oc_Marks_bad kV_Marks_bad dc_Marks_bad pm_Marks_bad cd_Marks_bad ct_Marks_bad oc_End_init kV_End_init dc_End_init pm_End_init cd_End_init ct_End_init oc_End_need_part kV_End_need_part dc_End_need_part pm_End_need_part cd_End_need_part ct_End_need_part oc_End_refresh kV_End_refresh dc_End_refresh pm_End_refresh cd_End_refresh ct_End_refresh oc_End_take kV_End_take dc_End_take pm_End_take cd_End_take ct_End_take oc_End_say kV_End_say dc_End_say pm_End_say cd_End_say ct_End_say oc_End_hear kV_End_hear dc_End_hear pm_End_hear cd_End_hear ct_End_hear oc_End_hear_slow kV_End_hear_slow dc_End_hear_slow pm_End_hear_slow cd_End_hear_slow ct_End_hear_slow oc_End_hear_fast kV_End_hear_fast dc_End_hear_fast pm_End_hear_fast cd_End_hear_fast ct_End_hear_fast oc_End_send kV_End_send dc_End_send pm_End_send cd_End_send ct_End_send oc_End_got kV_End_got dc_End_got pm_End_got cd_End_got ct_End_got oc_End_left kV_End_left dc_End_left pm_End_left cd_End_left ct_End_left oc_End_stands kV_End_stands dc_End_stands pm_End_stands cd_End_stands ct_End_stands oc_Line_init kV_Line_init dc_Line_init pm_Line_init cd_Line_init ct_Line_init oc_Line_let_pass kV_Line_let_pass dc_Line_let_pass pm_Line_let_pass cd_Line_let_pass ct_Line_let_pass oc_Line_lose kV_Line_lose dc_Line_lose pm_Line_lose cd_Line_lose ct_Line_lose oc_Line_send kV_Line_send dc_Line_send pm_Line_send cd_Line_send ct_Line_send oc_Line_carry kV_Line_carry dc_Line_carry pm_Line_carry cd_Line_carry ct_Line_carry oc_Line_frame kV_Line_frame dc_Line_frame pm_Line_frame cd_Line_frame ct_Line_frame oc_Line_log kV_Line_log dc_Line_log pm_Line_log cd_Line_log ct_Line_log oc_Line_got kV_Line_got dc_Line_got pm_Line_got cd_Line_got ct_Line_got oc_Line_left kV_Line_left dc_Line_left pm_Line_left cd_Line_left ct_Line_left : Value} {tk_MOST tk_FIRST tk_LONGEST tk_STAYS tk_LOST tk_LAST tk_MOST_FRAME tk_SLOW tk_FAST tk_MOST_ITEMS tk_MOST_ITEM tk_MOST_ROWS tk_MOST_STEPS tk_MOST_FRAMES tu_FORMS_0 tu_FORMS_1 tu_FORMS_2 tu_FORMS_3 tu_FORMS_4 tu_FORMS_5 tu_FORMS_6 tu_BOUNDS_0_0 tu_BOUNDS_0_1 tu_BOUNDS_1_0 tu_BOUNDS_1_1 tu_BOUNDS_2_0 tu_BOUNDS_2_1 tu_BOUNDS_3_0 tu_BOUNDS_3_1 : Tok} {nm_BadStep qn_BadStep : Str} {N_BadStep : Addr} {bs_BadStep sb_BadStep : List Value} {sn_BadStep : List Str} {ab_BadStep : Bool} {cl_BadStep : Option Bool} {dd_BadStep : Option Addr} {m0_BadStep m1_BadStep m2_BadStep m3_BadStep m5_BadStep : Option Value} {te : Value} {td : Option Addr} {tv : Array Value} {tsl : Array (Option Value)} {od_BOUNDS_0 : Option Addr} {sl_BOUNDS_0 : Array (Option Value)} {nn_BOUNDS_0 : Nat} {od_BOUNDS_1 : Option Addr} {sl_BOUNDS_1 : Array (Option Value)} {nn_BOUNDS_1 : Nat} {od_BOUNDS_2 : Option Addr} {sl_BOUNDS_2 : Array (Option Value)} {nn_BOUNDS_2 : Nat} {od_BOUNDS_3 : Option Addr} {sl_BOUNDS_3 : Array (Option Value)} {nn_BOUNDS_3 : Nat}
    (hC_LineError : PySem.W.nsIn K mainGlobals "LineError" = some (some (.ref C_LineError)))
    (hC_BadManners : PySem.W.nsIn K mainGlobals "BadManners" = some (some (.ref C_BadManners)))
    (hC_BadItem : PySem.W.nsIn K mainGlobals "BadItem" = some (some (.ref C_BadItem)))
    (hC_Full : PySem.W.nsIn K mainGlobals "Full" = some (some (.ref C_Full)))
    (hC_BadPart : PySem.W.nsIn K mainGlobals "BadPart" = some (some (.ref C_BadPart)))
    (hC_BadCount : PySem.W.nsIn K mainGlobals "BadCount" = some (some (.ref C_BadCount)))
    (hC_BadEnd : PySem.W.nsIn K mainGlobals "BadEnd" = some (some (.ref C_BadEnd)))
    (hC_BadStep : PySem.W.nsIn K mainGlobals "BadStep" = some (some (.ref C_BadStep)))
    (hC_BadLog : PySem.W.nsIn K mainGlobals "BadLog" = some (some (.ref C_BadLog)))
    (hC_BadText : PySem.W.nsIn K mainGlobals "BadText" = some (some (.ref C_BadText)))
    (hC_Marks : PySem.W.nsIn K mainGlobals "Marks" = some (some (.ref C_Marks)))
    (hC_End : PySem.W.nsIn K mainGlobals "End" = some (some (.ref C_End)))
    (hC_Line : PySem.W.nsIn K mainGlobals "Line" = some (some (.ref C_Line)))
    (hg_is_between : PySem.W.nsIn K mainGlobals "is_between" = some (some (.ref a_is_between)))
    (hl_is_between : K.lookup a_is_between = some ⟨oc_is_between, od_is_between, .func (PySem.W.fnOf "is_between" "is_between" (defArgs s_is_between) (defBody s_is_between) (defScope s_is_between) .none kV_is_between dc_is_between pm_is_between an_is_between cd_is_between ct_is_between), sl_is_between⟩)
    (hc_is_between : PySem.W.codeIn K cd_is_between "is_between" = true)
    (hk_is_between : PySem.W.keepIn K (.ref a_is_between) = true)
    (hg_are_manners : PySem.W.nsIn K mainGlobals "are_manners" = some (some (.ref a_are_manners)))
    (hl_are_manners : K.lookup a_are_manners = some ⟨oc_are_manners, od_are_manners, .func (PySem.W.fnOf "are_manners" "are_manners" (defArgs s_are_manners) (defBody s_are_manners) (defScope s_are_manners) .none kV_are_manners dc_are_manners pm_are_manners an_are_manners cd_are_manners ct_are_manners), sl_are_manners⟩)
    (hc_are_manners : PySem.W.codeIn K cd_are_manners "are_manners" = true)
    (hk_are_manners : PySem.W.keepIn K (.ref a_are_manners) = true)
    (hg_need_manners : PySem.W.nsIn K mainGlobals "need_manners" = some (some (.ref a_need_manners)))
    (hl_need_manners : K.lookup a_need_manners = some ⟨oc_need_manners, od_need_manners, .func (PySem.W.fnOf "need_manners" "need_manners" (defArgs s_need_manners) (defBody s_need_manners) (defScope s_need_manners) .none kV_need_manners dc_need_manners pm_need_manners an_need_manners cd_need_manners ct_need_manners), sl_need_manners⟩)
    (hc_need_manners : PySem.W.codeIn K cd_need_manners "need_manners" = true)
    (hk_need_manners : PySem.W.keepIn K (.ref a_need_manners) = true)
    (hg_chosen : PySem.W.nsIn K mainGlobals "chosen" = some (some (.ref a_chosen)))
    (hl_chosen : K.lookup a_chosen = some ⟨oc_chosen, od_chosen, .func (PySem.W.fnOf "chosen" "chosen" (defArgs s_chosen) (defBody s_chosen) (defScope s_chosen) .none kV_chosen dc_chosen pm_chosen an_chosen cd_chosen ct_chosen), sl_chosen⟩)
    (hc_chosen : PySem.W.codeIn K cd_chosen "chosen" = true)
    (hk_chosen : PySem.W.keepIn K (.ref a_chosen) = true)
    (hg_need_manner : PySem.W.nsIn K mainGlobals "need_manner" = some (some (.ref a_need_manner)))
    (hl_need_manner : K.lookup a_need_manner = some ⟨oc_need_manner, od_need_manner, .func (PySem.W.fnOf "need_manner" "need_manner" (defArgs s_need_manner) (defBody s_need_manner) (defScope s_need_manner) .none kV_need_manner dc_need_manner pm_need_manner an_need_manner cd_need_manner ct_need_manner), sl_need_manner⟩)
    (hc_need_manner : PySem.W.codeIn K cd_need_manner "need_manner" = true)
    (hk_need_manner : PySem.W.keepIn K (.ref a_need_manner) = true)
    (hg_need_end : PySem.W.nsIn K mainGlobals "need_end" = some (some (.ref a_need_end)))
    (hl_need_end : K.lookup a_need_end = some ⟨oc_need_end, od_need_end, .func (PySem.W.fnOf "need_end" "need_end" (defArgs s_need_end) (defBody s_need_end) (defScope s_need_end) .none kV_need_end dc_need_end pm_need_end an_need_end cd_need_end ct_need_end), sl_need_end⟩)
    (hc_need_end : PySem.W.codeIn K cd_need_end "need_end" = true)
    (hk_need_end : PySem.W.keepIn K (.ref a_need_end) = true)
    (hg_is_row : PySem.W.nsIn K mainGlobals "is_row" = some (some (.ref a_is_row)))
    (hl_is_row : K.lookup a_is_row = some ⟨oc_is_row, od_is_row, .func (PySem.W.fnOf "is_row" "is_row" (defArgs s_is_row) (defBody s_is_row) (defScope s_is_row) .none kV_is_row dc_is_row pm_is_row an_is_row cd_is_row ct_is_row), sl_is_row⟩)
    (hc_is_row : PySem.W.codeIn K cd_is_row "is_row" = true)
    (hk_is_row : PySem.W.keepIn K (.ref a_is_row) = true)
    (hg_need_log : PySem.W.nsIn K mainGlobals "need_log" = some (some (.ref a_need_log)))
    (hl_need_log : K.lookup a_need_log = some ⟨oc_need_log, od_need_log, .func (PySem.W.fnOf "need_log" "need_log" (defArgs s_need_log) (defBody s_need_log) (defScope s_need_log) .none kV_need_log dc_need_log pm_need_log an_need_log cd_need_log ct_need_log), sl_need_log⟩)
    (hc_need_log : PySem.W.codeIn K cd_need_log "need_log" = true)
    (hk_need_log : PySem.W.keepIn K (.ref a_need_log) = true)
    (hg_stretches : PySem.W.nsIn K mainGlobals "stretches" = some (some (.ref a_stretches)))
    (hl_stretches : K.lookup a_stretches = some ⟨oc_stretches, od_stretches, .func (PySem.W.fnOf "stretches" "stretches" (defArgs s_stretches) (defBody s_stretches) (defScope s_stretches) .none kV_stretches dc_stretches pm_stretches an_stretches cd_stretches ct_stretches), sl_stretches⟩)
    (hc_stretches : PySem.W.codeIn K cd_stretches "stretches" = true)
    (hk_stretches : PySem.W.keepIn K (.ref a_stretches) = true)
    (hg_is_field : PySem.W.nsIn K mainGlobals "is_field" = some (some (.ref a_is_field)))
    (hl_is_field : K.lookup a_is_field = some ⟨oc_is_field, od_is_field, .func (PySem.W.fnOf "is_field" "is_field" (defArgs s_is_field) (defBody s_is_field) (defScope s_is_field) .none kV_is_field dc_is_field pm_is_field an_is_field cd_is_field ct_is_field), sl_is_field⟩)
    (hc_is_field : PySem.W.codeIn K cd_is_field "is_field" = true)
    (hk_is_field : PySem.W.keepIn K (.ref a_is_field) = true)
    (hg_is_step : PySem.W.nsIn K mainGlobals "is_step" = some (some (.ref a_is_step)))
    (hl_is_step : K.lookup a_is_step = some ⟨oc_is_step, od_is_step, .func (PySem.W.fnOf "is_step" "is_step" (defArgs s_is_step) (defBody s_is_step) (defScope s_is_step) .none kV_is_step dc_is_step pm_is_step an_is_step cd_is_step ct_is_step), sl_is_step⟩)
    (hc_is_step : PySem.W.codeIn K cd_is_step "is_step" = true)
    (hk_is_step : PySem.W.keepIn K (.ref a_is_step) = true)
    (hg_need_steps : PySem.W.nsIn K mainGlobals "need_steps" = some (some (.ref a_need_steps)))
    (hl_need_steps : K.lookup a_need_steps = some ⟨oc_need_steps, od_need_steps, .func (PySem.W.fnOf "need_steps" "need_steps" (defArgs s_need_steps) (defBody s_need_steps) (defScope s_need_steps) .none kV_need_steps dc_need_steps pm_need_steps an_need_steps cd_need_steps ct_need_steps), sl_need_steps⟩)
    (hc_need_steps : PySem.W.codeIn K cd_need_steps "need_steps" = true)
    (hk_need_steps : PySem.W.keepIn K (.ref a_need_steps) = true)
    (hg_done : PySem.W.nsIn K mainGlobals "done" = some (some (.ref a_done)))
    (hl_done : K.lookup a_done = some ⟨oc_done, od_done, .func (PySem.W.fnOf "done" "done" (defArgs s_done) (defBody s_done) (defScope s_done) .none kV_done dc_done pm_done an_done cd_done ct_done), sl_done⟩)
    (hc_done : PySem.W.codeIn K cd_done "done" = true)
    (hk_done : PySem.W.keepIn K (.ref a_done) = true)
    (hg_arrange : PySem.W.nsIn K mainGlobals "arrange" = some (some (.ref a_arrange)))
    (hl_arrange : K.lookup a_arrange = some ⟨oc_arrange, od_arrange, .func (PySem.W.fnOf "arrange" "arrange" (defArgs s_arrange) (defBody s_arrange) (defScope s_arrange) .none kV_arrange dc_arrange pm_arrange an_arrange cd_arrange ct_arrange), sl_arrange⟩)
    (hc_arrange : PySem.W.codeIn K cd_arrange "arrange" = true)
    (hk_arrange : PySem.W.keepIn K (.ref a_arrange) = true)
    (hg_played : PySem.W.nsIn K mainGlobals "played" = some (some (.ref a_played)))
    (hl_played : K.lookup a_played = some ⟨oc_played, od_played, .func (PySem.W.fnOf "played" "played" (defArgs s_played) (defBody s_played) (defScope s_played) .none kV_played dc_played pm_played an_played cd_played ct_played), sl_played⟩)
    (hc_played : PySem.W.codeIn K cd_played "played" = true)
    (hk_played : PySem.W.keepIn K (.ref a_played) = true)
    (hg_word_of : PySem.W.nsIn K mainGlobals "word_of" = some (some (.ref a_word_of)))
    (hl_word_of : K.lookup a_word_of = some ⟨oc_word_of, od_word_of, .func (PySem.W.fnOf "word_of" "word_of" (defArgs s_word_of) (defBody s_word_of) (defScope s_word_of) .none kV_word_of dc_word_of pm_word_of an_word_of cd_word_of ct_word_of), sl_word_of⟩)
    (hc_word_of : PySem.W.codeIn K cd_word_of "word_of" = true)
    (hk_word_of : PySem.W.keepIn K (.ref a_word_of) = true)
    (hg_lines_of : PySem.W.nsIn K mainGlobals "lines_of" = some (some (.ref a_lines_of)))
    (hl_lines_of : K.lookup a_lines_of = some ⟨oc_lines_of, od_lines_of, .func (PySem.W.fnOf "lines_of" "lines_of" (defArgs s_lines_of) (defBody s_lines_of) (defScope s_lines_of) .none kV_lines_of dc_lines_of pm_lines_of an_lines_of cd_lines_of ct_lines_of), sl_lines_of⟩)
    (hc_lines_of : PySem.W.codeIn K cd_lines_of "lines_of" = true)
    (hk_lines_of : PySem.W.keepIn K (.ref a_lines_of) = true)
    (hg__law_dice : PySem.W.nsIn K mainGlobals "_law_dice" = some (some (.ref a__law_dice)))
    (hl__law_dice : K.lookup a__law_dice = some ⟨oc__law_dice, od__law_dice, .func (PySem.W.fnOf "_law_dice" "_law_dice" (defArgs s__law_dice) (defBody s__law_dice) (defScope s__law_dice) .none kV__law_dice dc__law_dice pm__law_dice an__law_dice cd__law_dice ct__law_dice), sl__law_dice⟩)
    (hc__law_dice : PySem.W.codeIn K cd__law_dice "_law_dice" = true)
    (hk__law_dice : PySem.W.keepIn K (.ref a__law_dice) = true)
    (hg__law_off : PySem.W.nsIn K mainGlobals "_law_off" = some (some (.ref a__law_off)))
    (hl__law_off : K.lookup a__law_off = some ⟨oc__law_off, od__law_off, .func (PySem.W.fnOf "_law_off" "_law_off" (defArgs s__law_off) (defBody s__law_off) (defScope s__law_off) .none kV__law_off dc__law_off pm__law_off an__law_off cd__law_off ct__law_off), sl__law_off⟩)
    (hc__law_off : PySem.W.codeIn K cd__law_off "_law_off" = true)
    (hk__law_off : PySem.W.keepIn K (.ref a__law_off) = true)
    (hg__law_alike : PySem.W.nsIn K mainGlobals "_law_alike" = some (some (.ref a__law_alike)))
    (hl__law_alike : K.lookup a__law_alike = some ⟨oc__law_alike, od__law_alike, .func (PySem.W.fnOf "_law_alike" "_law_alike" (defArgs s__law_alike) (defBody s__law_alike) (defScope s__law_alike) .none kV__law_alike dc__law_alike pm__law_alike an__law_alike cd__law_alike ct__law_alike), sl__law_alike⟩)
    (hc__law_alike : PySem.W.codeIn K cd__law_alike "_law_alike" = true)
    (hk__law_alike : PySem.W.keepIn K (.ref a__law_alike) = true)
    (hg__law_word : PySem.W.nsIn K mainGlobals "_law_word" = some (some (.ref a__law_word)))
    (hl__law_word : K.lookup a__law_word = some ⟨oc__law_word, od__law_word, .func (PySem.W.fnOf "_law_word" "_law_word" (defArgs s__law_word) (defBody s__law_word) (defScope s__law_word) .none kV__law_word dc__law_word pm__law_word an__law_word cd__law_word ct__law_word), sl__law_word⟩)
    (hc__law_word : PySem.W.codeIn K cd__law_word "_law_word" = true)
    (hk__law_word : PySem.W.keepIn K (.ref a__law_word) = true)
    (hg__law_can : PySem.W.nsIn K mainGlobals "_law_can" = some (some (.ref a__law_can)))
    (hl__law_can : K.lookup a__law_can = some ⟨oc__law_can, od__law_can, .func (PySem.W.fnOf "_law_can" "_law_can" (defArgs s__law_can) (defBody s__law_can) (defScope s__law_can) .none kV__law_can dc__law_can pm__law_can an__law_can cd__law_can ct__law_can), sl__law_can⟩)
    (hc__law_can : PySem.W.codeIn K cd__law_can "_law_can" = true)
    (hk__law_can : PySem.W.keepIn K (.ref a__law_can) = true)
    (hg__law_step : PySem.W.nsIn K mainGlobals "_law_step" = some (some (.ref a__law_step)))
    (hl__law_step : K.lookup a__law_step = some ⟨oc__law_step, od__law_step, .func (PySem.W.fnOf "_law_step" "_law_step" (defArgs s__law_step) (defBody s__law_step) (defScope s__law_step) .none kV__law_step dc__law_step pm__law_step an__law_step cd__law_step ct__law_step), sl__law_step⟩)
    (hc__law_step : PySem.W.codeIn K cd__law_step "_law_step" = true)
    (hk__law_step : PySem.W.keepIn K (.ref a__law_step) = true)
    (hg__law_steps : PySem.W.nsIn K mainGlobals "_law_steps" = some (some (.ref a__law_steps)))
    (hl__law_steps : K.lookup a__law_steps = some ⟨oc__law_steps, od__law_steps, .func (PySem.W.fnOf "_law_steps" "_law_steps" (defArgs s__law_steps) (defBody s__law_steps) (defScope s__law_steps) .none kV__law_steps dc__law_steps pm__law_steps an__law_steps cd__law_steps ct__law_steps), sl__law_steps⟩)
    (hc__law_steps : PySem.W.codeIn K cd__law_steps "_law_steps" = true)
    (hk__law_steps : PySem.W.keepIn K (.ref a__law_steps) = true)
    (hg__law_no_step : PySem.W.nsIn K mainGlobals "_law_no_step" = some (some (.ref a__law_no_step)))
    (hl__law_no_step : K.lookup a__law_no_step = some ⟨oc__law_no_step, od__law_no_step, .func (PySem.W.fnOf "_law_no_step" "_law_no_step" (defArgs s__law_no_step) (defBody s__law_no_step) (defScope s__law_no_step) .none kV__law_no_step dc__law_no_step pm__law_no_step an__law_no_step cd__law_no_step ct__law_no_step), sl__law_no_step⟩)
    (hc__law_no_step : PySem.W.codeIn K cd__law_no_step "_law_no_step" = true)
    (hk__law_no_step : PySem.W.keepIn K (.ref a__law_no_step) = true)
    (hg__law_tells : PySem.W.nsIn K mainGlobals "_law_tells" = some (some (.ref a__law_tells)))
    (hl__law_tells : K.lookup a__law_tells = some ⟨oc__law_tells, od__law_tells, .func (PySem.W.fnOf "_law_tells" "_law_tells" (defArgs s__law_tells) (defBody s__law_tells) (defScope s__law_tells) .none kV__law_tells dc__law_tells pm__law_tells an__law_tells cd__law_tells ct__law_tells), sl__law_tells⟩)
    (hc__law_tells : PySem.W.codeIn K cd__law_tells "_law_tells" = true)
    (hk__law_tells : PySem.W.keepIn K (.ref a__law_tells) = true)
    (hg_law : PySem.W.nsIn K mainGlobals "law" = some (some (.ref a_law)))
    (hl_law : K.lookup a_law = some ⟨oc_law, od_law, .func (PySem.W.fnOf "law" "law" (defArgs s_law) (defBody s_law) (defScope s_law) .none kV_law dc_law pm_law an_law (.ref lC) ct_law), sl_law⟩)
    (hc_law : PySem.W.codeIn K (.ref lC) "law" = true)
    (hk_law : PySem.W.keepIn K (.ref a_law) = true)
    (hg_BadStep_init : PySem.W.findIn K (.ref C_BadStep) "__init__" = some (some (.ref a_BadStep_init)))
    (hi_BadStep_init : PySem.W.isFn K (.ref a_BadStep_init) = true)
    (hl_BadStep_init : K.lookup a_BadStep_init = some ⟨oc_BadStep_init, od_BadStep_init, .func (PySem.W.fnOf "__init__" "BadStep.__init__" (defArgs s_BadStep_init) (defBody s_BadStep_init) (defScope s_BadStep_init) .none kV_BadStep_init dc_BadStep_init pm_BadStep_init an_BadStep_init cd_BadStep_init ct_BadStep_init), sl_BadStep_init⟩)
    (hc_BadStep_init : PySem.W.codeIn K cd_BadStep_init "BadStep.__init__" = true)
    (hk_BadStep_init : PySem.W.keepIn K (.ref a_BadStep_init) = true)
    (hg_Marks_init : PySem.W.findIn K (.ref C_Marks) "__init__" = some (some (.ref a_Marks_init)))
    (hi_Marks_init : PySem.W.isFn K (.ref a_Marks_init) = true)
    (hl_Marks_init : K.lookup a_Marks_init = some ⟨oc_Marks_init, od_Marks_init, .func (PySem.W.fnOf "__init__" "Marks.__init__" (defArgs s_Marks_init) (defBody s_Marks_init) (defScope s_Marks_init) .none kV_Marks_init dc_Marks_init pm_Marks_init an_Marks_init cd_Marks_init ct_Marks_init), sl_Marks_init⟩)
    (hc_Marks_init : PySem.W.codeIn K cd_Marks_init "Marks.__init__" = true)
    (hk_Marks_init : PySem.W.keepIn K (.ref a_Marks_init) = true)
    (hg_Marks_note : PySem.W.findIn K (.ref C_Marks) "note" = some (some (.ref a_Marks_note)))
    (hi_Marks_note : PySem.W.isFn K (.ref a_Marks_note) = true)
    (hl_Marks_note : K.lookup a_Marks_note = some ⟨oc_Marks_note, od_Marks_note, .func (PySem.W.fnOf "note" "Marks.note" (defArgs s_Marks_note) (defBody s_Marks_note) (defScope s_Marks_note) .none kV_Marks_note dc_Marks_note pm_Marks_note an_Marks_note cd_Marks_note ct_Marks_note), sl_Marks_note⟩)
    (hc_Marks_note : PySem.W.codeIn K cd_Marks_note "Marks.note" = true)
    (hk_Marks_note : PySem.W.keepIn K (.ref a_Marks_note) = true)
    (hg_Marks_bad : PySem.W.findIn K (.ref C_Marks) "bad" = some (some (.ref a_Marks_bad)))
    (hi_Marks_bad : PySem.W.isFn K (.ref a_Marks_bad) = true)
    (hl_Marks_bad : K.lookup a_Marks_bad = some ⟨oc_Marks_bad, od_Marks_bad, .func (PySem.W.fnOf "bad" "Marks.bad" (defArgs s_Marks_bad) (defBody s_Marks_bad) (defScope s_Marks_bad) .none kV_Marks_bad dc_Marks_bad pm_Marks_bad an_Marks_bad cd_Marks_bad ct_Marks_bad), sl_Marks_bad⟩)
    (hc_Marks_bad : PySem.W.codeIn K cd_Marks_bad "Marks.bad" = true)
    (hk_Marks_bad : PySem.W.keepIn K (.ref a_Marks_bad) = true)
    (hg_End_init : PySem.W.findIn K (.ref C_End) "__init__" = some (some (.ref a_End_init)))
    (hi_End_init : PySem.W.isFn K (.ref a_End_init) = true)
    (hl_End_init : K.lookup a_End_init = some ⟨oc_End_init, od_End_init, .func (PySem.W.fnOf "__init__" "End.__init__" (defArgs s_End_init) (defBody s_End_init) (defScope s_End_init) .none kV_End_init dc_End_init pm_End_init an_End_init cd_End_init ct_End_init), sl_End_init⟩)
    (hc_End_init : PySem.W.codeIn K cd_End_init "End.__init__" = true)
    (hk_End_init : PySem.W.keepIn K (.ref a_End_init) = true)
    (hg_End_need_part : PySem.W.findIn K (.ref C_End) "need_part" = some (some (.ref a_End_need_part)))
    (hi_End_need_part : PySem.W.isFn K (.ref a_End_need_part) = true)
    (hl_End_need_part : K.lookup a_End_need_part = some ⟨oc_End_need_part, od_End_need_part, .func (PySem.W.fnOf "need_part" "End.need_part" (defArgs s_End_need_part) (defBody s_End_need_part) (defScope s_End_need_part) .none kV_End_need_part dc_End_need_part pm_End_need_part an_End_need_part cd_End_need_part ct_End_need_part), sl_End_need_part⟩)
    (hc_End_need_part : PySem.W.codeIn K cd_End_need_part "End.need_part" = true)
    (hk_End_need_part : PySem.W.keepIn K (.ref a_End_need_part) = true)
    (hg_End_refresh : PySem.W.findIn K (.ref C_End) "refresh" = some (some (.ref a_End_refresh)))
    (hi_End_refresh : PySem.W.isFn K (.ref a_End_refresh) = true)
    (hl_End_refresh : K.lookup a_End_refresh = some ⟨oc_End_refresh, od_End_refresh, .func (PySem.W.fnOf "refresh" "End.refresh" (defArgs s_End_refresh) (defBody s_End_refresh) (defScope s_End_refresh) .none kV_End_refresh dc_End_refresh pm_End_refresh an_End_refresh cd_End_refresh ct_End_refresh), sl_End_refresh⟩)
    (hc_End_refresh : PySem.W.codeIn K cd_End_refresh "End.refresh" = true)
    (hk_End_refresh : PySem.W.keepIn K (.ref a_End_refresh) = true)
    (hg_End_take : PySem.W.findIn K (.ref C_End) "take" = some (some (.ref a_End_take)))
    (hi_End_take : PySem.W.isFn K (.ref a_End_take) = true)
    (hl_End_take : K.lookup a_End_take = some ⟨oc_End_take, od_End_take, .func (PySem.W.fnOf "take" "End.take" (defArgs s_End_take) (defBody s_End_take) (defScope s_End_take) .none kV_End_take dc_End_take pm_End_take an_End_take cd_End_take ct_End_take), sl_End_take⟩)
    (hc_End_take : PySem.W.codeIn K cd_End_take "End.take" = true)
    (hk_End_take : PySem.W.keepIn K (.ref a_End_take) = true)
    (hg_End_say : PySem.W.findIn K (.ref C_End) "say" = some (some (.ref a_End_say)))
    (hi_End_say : PySem.W.isFn K (.ref a_End_say) = true)
    (hl_End_say : K.lookup a_End_say = some ⟨oc_End_say, od_End_say, .func (PySem.W.fnOf "say" "End.say" (defArgs s_End_say) (defBody s_End_say) (defScope s_End_say) .none kV_End_say dc_End_say pm_End_say an_End_say cd_End_say ct_End_say), sl_End_say⟩)
    (hc_End_say : PySem.W.codeIn K cd_End_say "End.say" = true)
    (hk_End_say : PySem.W.keepIn K (.ref a_End_say) = true)
    (hg_End_hear : PySem.W.findIn K (.ref C_End) "hear" = some (some (.ref a_End_hear)))
    (hi_End_hear : PySem.W.isFn K (.ref a_End_hear) = true)
    (hl_End_hear : K.lookup a_End_hear = some ⟨oc_End_hear, od_End_hear, .func (PySem.W.fnOf "hear" "End.hear" (defArgs s_End_hear) (defBody s_End_hear) (defScope s_End_hear) .none kV_End_hear dc_End_hear pm_End_hear an_End_hear cd_End_hear ct_End_hear), sl_End_hear⟩)
    (hc_End_hear : PySem.W.codeIn K cd_End_hear "End.hear" = true)
    (hk_End_hear : PySem.W.keepIn K (.ref a_End_hear) = true)
    (hg_End_hear_slow : PySem.W.findIn K (.ref C_End) "hear_slow" = some (some (.ref a_End_hear_slow)))
    (hi_End_hear_slow : PySem.W.isFn K (.ref a_End_hear_slow) = true)
    (hl_End_hear_slow : K.lookup a_End_hear_slow = some ⟨oc_End_hear_slow, od_End_hear_slow, .func (PySem.W.fnOf "hear_slow" "End.hear_slow" (defArgs s_End_hear_slow) (defBody s_End_hear_slow) (defScope s_End_hear_slow) .none kV_End_hear_slow dc_End_hear_slow pm_End_hear_slow an_End_hear_slow cd_End_hear_slow ct_End_hear_slow), sl_End_hear_slow⟩)
    (hc_End_hear_slow : PySem.W.codeIn K cd_End_hear_slow "End.hear_slow" = true)
    (hk_End_hear_slow : PySem.W.keepIn K (.ref a_End_hear_slow) = true)
    (hg_End_hear_fast : PySem.W.findIn K (.ref C_End) "hear_fast" = some (some (.ref a_End_hear_fast)))
    (hi_End_hear_fast : PySem.W.isFn K (.ref a_End_hear_fast) = true)
    (hl_End_hear_fast : K.lookup a_End_hear_fast = some ⟨oc_End_hear_fast, od_End_hear_fast, .func (PySem.W.fnOf "hear_fast" "End.hear_fast" (defArgs s_End_hear_fast) (defBody s_End_hear_fast) (defScope s_End_hear_fast) .none kV_End_hear_fast dc_End_hear_fast pm_End_hear_fast an_End_hear_fast cd_End_hear_fast ct_End_hear_fast), sl_End_hear_fast⟩)
    (hc_End_hear_fast : PySem.W.codeIn K cd_End_hear_fast "End.hear_fast" = true)
    (hk_End_hear_fast : PySem.W.keepIn K (.ref a_End_hear_fast) = true)
    (hg_End_send : PySem.W.findIn K (.ref C_End) "send" = some (some (.ref a_End_send)))
    (hi_End_send : PySem.W.isFn K (.ref a_End_send) = true)
    (hl_End_send : K.lookup a_End_send = some ⟨oc_End_send, od_End_send, .func (PySem.W.fnOf "send" "End.send" (defArgs s_End_send) (defBody s_End_send) (defScope s_End_send) .none kV_End_send dc_End_send pm_End_send an_End_send cd_End_send ct_End_send), sl_End_send⟩)
    (hc_End_send : PySem.W.codeIn K cd_End_send "End.send" = true)
    (hk_End_send : PySem.W.keepIn K (.ref a_End_send) = true)
    (hg_End_got : PySem.W.findIn K (.ref C_End) "got" = some (some (.ref a_End_got)))
    (hi_End_got : PySem.W.isFn K (.ref a_End_got) = true)
    (hl_End_got : K.lookup a_End_got = some ⟨oc_End_got, od_End_got, .func (PySem.W.fnOf "got" "End.got" (defArgs s_End_got) (defBody s_End_got) (defScope s_End_got) .none kV_End_got dc_End_got pm_End_got an_End_got cd_End_got ct_End_got), sl_End_got⟩)
    (hc_End_got : PySem.W.codeIn K cd_End_got "End.got" = true)
    (hk_End_got : PySem.W.keepIn K (.ref a_End_got) = true)
    (hg_End_left : PySem.W.findIn K (.ref C_End) "left" = some (some (.ref a_End_left)))
    (hi_End_left : PySem.W.isFn K (.ref a_End_left) = true)
    (hl_End_left : K.lookup a_End_left = some ⟨oc_End_left, od_End_left, .func (PySem.W.fnOf "left" "End.left" (defArgs s_End_left) (defBody s_End_left) (defScope s_End_left) .none kV_End_left dc_End_left pm_End_left an_End_left cd_End_left ct_End_left), sl_End_left⟩)
    (hc_End_left : PySem.W.codeIn K cd_End_left "End.left" = true)
    (hk_End_left : PySem.W.keepIn K (.ref a_End_left) = true)
    (hg_End_stands : PySem.W.findIn K (.ref C_End) "stands" = some (some (.ref a_End_stands)))
    (hi_End_stands : PySem.W.isFn K (.ref a_End_stands) = true)
    (hl_End_stands : K.lookup a_End_stands = some ⟨oc_End_stands, od_End_stands, .func (PySem.W.fnOf "stands" "End.stands" (defArgs s_End_stands) (defBody s_End_stands) (defScope s_End_stands) .none kV_End_stands dc_End_stands pm_End_stands an_End_stands cd_End_stands ct_End_stands), sl_End_stands⟩)
    (hc_End_stands : PySem.W.codeIn K cd_End_stands "End.stands" = true)
    (hk_End_stands : PySem.W.keepIn K (.ref a_End_stands) = true)
    (hg_Line_init : PySem.W.findIn K (.ref C_Line) "__init__" = some (some (.ref a_Line_init)))
    (hi_Line_init : PySem.W.isFn K (.ref a_Line_init) = true)
    (hl_Line_init : K.lookup a_Line_init = some ⟨oc_Line_init, od_Line_init, .func (PySem.W.fnOf "__init__" "Line.__init__" (defArgs s_Line_init) (defBody s_Line_init) (defScope s_Line_init) .none kV_Line_init dc_Line_init pm_Line_init an_Line_init cd_Line_init ct_Line_init), sl_Line_init⟩)
    (hc_Line_init : PySem.W.codeIn K cd_Line_init "Line.__init__" = true)
    (hk_Line_init : PySem.W.keepIn K (.ref a_Line_init) = true)
    (hg_Line_let_pass : PySem.W.findIn K (.ref C_Line) "let_pass" = some (some (.ref a_Line_let_pass)))
    (hi_Line_let_pass : PySem.W.isFn K (.ref a_Line_let_pass) = true)
    (hl_Line_let_pass : K.lookup a_Line_let_pass = some ⟨oc_Line_let_pass, od_Line_let_pass, .func (PySem.W.fnOf "let_pass" "Line.let_pass" (defArgs s_Line_let_pass) (defBody s_Line_let_pass) (defScope s_Line_let_pass) .none kV_Line_let_pass dc_Line_let_pass pm_Line_let_pass an_Line_let_pass cd_Line_let_pass ct_Line_let_pass), sl_Line_let_pass⟩)
    (hc_Line_let_pass : PySem.W.codeIn K cd_Line_let_pass "Line.let_pass" = true)
    (hk_Line_let_pass : PySem.W.keepIn K (.ref a_Line_let_pass) = true)
    (hg_Line_lose : PySem.W.findIn K (.ref C_Line) "lose" = some (some (.ref a_Line_lose)))
    (hi_Line_lose : PySem.W.isFn K (.ref a_Line_lose) = true)
    (hl_Line_lose : K.lookup a_Line_lose = some ⟨oc_Line_lose, od_Line_lose, .func (PySem.W.fnOf "lose" "Line.lose" (defArgs s_Line_lose) (defBody s_Line_lose) (defScope s_Line_lose) .none kV_Line_lose dc_Line_lose pm_Line_lose an_Line_lose cd_Line_lose ct_Line_lose), sl_Line_lose⟩)
    (hc_Line_lose : PySem.W.codeIn K cd_Line_lose "Line.lose" = true)
    (hk_Line_lose : PySem.W.keepIn K (.ref a_Line_lose) = true)
    (hg_Line_send : PySem.W.findIn K (.ref C_Line) "send" = some (some (.ref a_Line_send)))
    (hi_Line_send : PySem.W.isFn K (.ref a_Line_send) = true)
    (hl_Line_send : K.lookup a_Line_send = some ⟨oc_Line_send, od_Line_send, .func (PySem.W.fnOf "send" "Line.send" (defArgs s_Line_send) (defBody s_Line_send) (defScope s_Line_send) .none kV_Line_send dc_Line_send pm_Line_send an_Line_send cd_Line_send ct_Line_send), sl_Line_send⟩)
    (hc_Line_send : PySem.W.codeIn K cd_Line_send "Line.send" = true)
    (hk_Line_send : PySem.W.keepIn K (.ref a_Line_send) = true)
    (hg_Line_carry : PySem.W.findIn K (.ref C_Line) "carry" = some (some (.ref a_Line_carry)))
    (hi_Line_carry : PySem.W.isFn K (.ref a_Line_carry) = true)
    (hl_Line_carry : K.lookup a_Line_carry = some ⟨oc_Line_carry, od_Line_carry, .func (PySem.W.fnOf "carry" "Line.carry" (defArgs s_Line_carry) (defBody s_Line_carry) (defScope s_Line_carry) .none kV_Line_carry dc_Line_carry pm_Line_carry an_Line_carry cd_Line_carry ct_Line_carry), sl_Line_carry⟩)
    (hc_Line_carry : PySem.W.codeIn K cd_Line_carry "Line.carry" = true)
    (hk_Line_carry : PySem.W.keepIn K (.ref a_Line_carry) = true)
    (hg_Line_frame : PySem.W.findIn K (.ref C_Line) "frame" = some (some (.ref a_Line_frame)))
    (hi_Line_frame : PySem.W.isFn K (.ref a_Line_frame) = true)
    (hl_Line_frame : K.lookup a_Line_frame = some ⟨oc_Line_frame, od_Line_frame, .func (PySem.W.fnOf "frame" "Line.frame" (defArgs s_Line_frame) (defBody s_Line_frame) (defScope s_Line_frame) .none kV_Line_frame dc_Line_frame pm_Line_frame an_Line_frame cd_Line_frame ct_Line_frame), sl_Line_frame⟩)
    (hc_Line_frame : PySem.W.codeIn K cd_Line_frame "Line.frame" = true)
    (hk_Line_frame : PySem.W.keepIn K (.ref a_Line_frame) = true)
    (hg_Line_log : PySem.W.findIn K (.ref C_Line) "log" = some (some (.ref a_Line_log)))
    (hi_Line_log : PySem.W.isFn K (.ref a_Line_log) = true)
    (hl_Line_log : K.lookup a_Line_log = some ⟨oc_Line_log, od_Line_log, .func (PySem.W.fnOf "log" "Line.log" (defArgs s_Line_log) (defBody s_Line_log) (defScope s_Line_log) .none kV_Line_log dc_Line_log pm_Line_log an_Line_log cd_Line_log ct_Line_log), sl_Line_log⟩)
    (hc_Line_log : PySem.W.codeIn K cd_Line_log "Line.log" = true)
    (hk_Line_log : PySem.W.keepIn K (.ref a_Line_log) = true)
    (hg_Line_got : PySem.W.findIn K (.ref C_Line) "got" = some (some (.ref a_Line_got)))
    (hi_Line_got : PySem.W.isFn K (.ref a_Line_got) = true)
    (hl_Line_got : K.lookup a_Line_got = some ⟨oc_Line_got, od_Line_got, .func (PySem.W.fnOf "got" "Line.got" (defArgs s_Line_got) (defBody s_Line_got) (defScope s_Line_got) .none kV_Line_got dc_Line_got pm_Line_got an_Line_got cd_Line_got ct_Line_got), sl_Line_got⟩)
    (hc_Line_got : PySem.W.codeIn K cd_Line_got "Line.got" = true)
    (hk_Line_got : PySem.W.keepIn K (.ref a_Line_got) = true)
    (hg_Line_left : PySem.W.findIn K (.ref C_Line) "left" = some (some (.ref a_Line_left)))
    (hi_Line_left : PySem.W.isFn K (.ref a_Line_left) = true)
    (hl_Line_left : K.lookup a_Line_left = some ⟨oc_Line_left, od_Line_left, .func (PySem.W.fnOf "left" "Line.left" (defArgs s_Line_left) (defBody s_Line_left) (defScope s_Line_left) .none kV_Line_left dc_Line_left pm_Line_left an_Line_left cd_Line_left ct_Line_left), sl_Line_left⟩)
    (hc_Line_left : PySem.W.codeIn K cd_Line_left "Line.left" = true)
    (hk_Line_left : PySem.W.keepIn K (.ref a_Line_left) = true)
    (pg_Marks : PySem.W.plainGet K C_Marks Str.empty = true)
    (hd_Marks : PySem.W.hasDictIn K C_Marks = true)
    (po_Marks : PySem.W.plainOver K C_Marks = true)
    (mk_Marks : PySem.W.makesIn K C_Marks = true)
    (kc_Marks : PySem.W.keepIn K (.ref C_Marks) = true)
    (sa_Marks : PySem.W.findIn K (.ref C_Marks) "__setattr__" = some (some (.builtin "object.__setattr__")))
    (no_Marks_waits : PySem.W.findIn K (.ref C_Marks) "waits" = some none)
    (no_Marks_until : PySem.W.findIn K (.ref C_Marks) "until" = some none)
    (no_Marks_runs : PySem.W.findIn K (.ref C_Marks) "runs" = some none)
    (no_Marks_tries : PySem.W.findIn K (.ref C_Marks) "tries" = some none)
    (pg_End : PySem.W.plainGet K C_End Str.empty = true)
    (hd_End : PySem.W.hasDictIn K C_End = true)
    (po_End : PySem.W.plainOver K C_End = true)
    (mk_End : PySem.W.makesIn K C_End = true)
    (kc_End : PySem.W.keepIn K (.ref C_End) = true)
    (sa_End : PySem.W.findIn K (.ref C_End) "__setattr__" = some (some (.builtin "object.__setattr__")))
    (no_End_can : PySem.W.findIn K (.ref C_End) "can" = some none)
    (no_End_marks : PySem.W.findIn K (.ref C_End) "marks" = some none)
    (no_End_over : PySem.W.findIn K (.ref C_End) "over" = some none)
    (no_End_version : PySem.W.findIn K (.ref C_End) "version" = some none)
    (no_End_mind : PySem.W.findIn K (.ref C_End) "mind" = some none)
    (no_End_other : PySem.W.findIn K (.ref C_End) "other" = some none)
    (no_End_seen : PySem.W.findIn K (.ref C_End) "seen" = some none)
    (no_End_known : PySem.W.findIn K (.ref C_End) "known" = some none)
    (no_End_ready : PySem.W.findIn K (.ref C_End) "ready" = some none)
    (no_End_now : PySem.W.findIn K (.ref C_End) "now" = some none)
    (no_End_joined : PySem.W.findIn K (.ref C_End) "joined" = some none)
    (no_End_waiting : PySem.W.findIn K (.ref C_End) "waiting" = some none)
    (no_End_count : PySem.W.findIn K (.ref C_End) "count" = some none)
    (no_End_gathered : PySem.W.findIn K (.ref C_End) "gathered" = some none)
    (no_End_part : PySem.W.findIn K (.ref C_End) "part" = some none)
    (pg_Line : PySem.W.plainGet K C_Line Str.empty = true)
    (hd_Line : PySem.W.hasDictIn K C_Line = true)
    (po_Line : PySem.W.plainOver K C_Line = true)
    (mk_Line : PySem.W.makesIn K C_Line = true)
    (kc_Line : PySem.W.keepIn K (.ref C_Line) = true)
    (sa_Line : PySem.W.findIn K (.ref C_Line) "__setattr__" = some (some (.builtin "object.__setattr__")))
    (no_Line_ends : PySem.W.findIn K (.ref C_Line) "ends" = some none)
    (no_Line_passing : PySem.W.findIn K (.ref C_Line) "passing" = some none)
    (no_Line_lost : PySem.W.findIn K (.ref C_Line) "lost" = some none)
    (no_Line_rows : PySem.W.findIn K (.ref C_Line) "rows" = some none)
    (x_LineError : PySem.W.excIn K C_LineError [.type "ValueError", .type "Exception", .type "BaseException", .type "object"] "ValueError.__new__" = true)
    (k_LineError : PySem.W.keepIn K (.ref C_LineError) = true)
    (s_LineError : PySem.W.subIn K (.ref C_LineError) (.type "BaseException") = some true)
    (t_LineError : PySem.W.typeIn K (.ref C_LineError) = some (.type "type"))
    (x_BadManners : PySem.W.excIn K C_BadManners [.type "ValueError", .type "Exception", .type "BaseException", .type "object"] "ValueError.__new__" = true)
    (k_BadManners : PySem.W.keepIn K (.ref C_BadManners) = true)
    (s_BadManners : PySem.W.subIn K (.ref C_BadManners) (.type "BaseException") = some true)
    (t_BadManners : PySem.W.typeIn K (.ref C_BadManners) = some (.type "type"))
    (x_BadItem : PySem.W.excIn K C_BadItem [.type "ValueError", .type "Exception", .type "BaseException", .type "object"] "ValueError.__new__" = true)
    (k_BadItem : PySem.W.keepIn K (.ref C_BadItem) = true)
    (s_BadItem : PySem.W.subIn K (.ref C_BadItem) (.type "BaseException") = some true)
    (t_BadItem : PySem.W.typeIn K (.ref C_BadItem) = some (.type "type"))
    (x_Full : PySem.W.excIn K C_Full [.type "ValueError", .type "Exception", .type "BaseException", .type "object"] "ValueError.__new__" = true)
    (q_Full : PySem.W.exmOne K (.ref C_Full) (.ref C_Full) = some true)
    (k_Full : PySem.W.keepIn K (.ref C_Full) = true)
    (s_Full : PySem.W.subIn K (.ref C_Full) (.type "BaseException") = some true)
    (t_Full : PySem.W.typeIn K (.ref C_Full) = some (.type "type"))
    (x_BadPart : PySem.W.excIn K C_BadPart [.type "ValueError", .type "Exception", .type "BaseException", .type "object"] "ValueError.__new__" = true)
    (k_BadPart : PySem.W.keepIn K (.ref C_BadPart) = true)
    (s_BadPart : PySem.W.subIn K (.ref C_BadPart) (.type "BaseException") = some true)
    (t_BadPart : PySem.W.typeIn K (.ref C_BadPart) = some (.type "type"))
    (x_BadCount : PySem.W.excIn K C_BadCount [.type "ValueError", .type "Exception", .type "BaseException", .type "object"] "ValueError.__new__" = true)
    (k_BadCount : PySem.W.keepIn K (.ref C_BadCount) = true)
    (s_BadCount : PySem.W.subIn K (.ref C_BadCount) (.type "BaseException") = some true)
    (t_BadCount : PySem.W.typeIn K (.ref C_BadCount) = some (.type "type"))
    (x_BadEnd : PySem.W.excIn K C_BadEnd [.type "ValueError", .type "Exception", .type "BaseException", .type "object"] "ValueError.__new__" = true)
    (k_BadEnd : PySem.W.keepIn K (.ref C_BadEnd) = true)
    (s_BadEnd : PySem.W.subIn K (.ref C_BadEnd) (.type "BaseException") = some true)
    (t_BadEnd : PySem.W.typeIn K (.ref C_BadEnd) = some (.type "type"))
    (k_BadStep : PySem.W.keepIn K (.ref C_BadStep) = true)
    (s_BadStep : PySem.W.subIn K (.ref C_BadStep) (.type "BaseException") = some true)
    (t_BadStep : PySem.W.typeIn K (.ref C_BadStep) = some (.type "type"))
    (k_BadLog : PySem.W.keepIn K (.ref C_BadLog) = true)
    (s_BadLog : PySem.W.subIn K (.ref C_BadLog) (.type "BaseException") = some true)
    (t_BadLog : PySem.W.typeIn K (.ref C_BadLog) = some (.type "type"))
    (k_BadText : PySem.W.keepIn K (.ref C_BadText) = true)
    (s_BadText : PySem.W.subIn K (.ref C_BadText) (.type "BaseException") = some true)
    (t_BadText : PySem.W.typeIn K (.ref C_BadText) = some (.type "type"))
    (gs_LE : PySem.W.specialIn K (.ref C_LineError) "__getattribute__" = some (some (.builtin "type.__getattribute__")))
    (rd_LE : PySem.W.readsIn K C_LineError (.type "type") = true)
    (fi_LE : PySem.W.findCls K (.ref C_LineError) (.type "type") "__init__" = some (.val (.builtin "ValueError.__init__")))
    (gx_n : PySem.W.specialIn K (.builtin "object.__class__") "__get__" = some (some (.builtin "getset_descriptor.__get__")))
    (gx_t : PySem.W.takesIn K (.builtin "object.__class__") = some true)
    (ga_BadStep : PySem.W.findIn K (.ref C_BadStep) "__getattribute__" = some (some (.builtin "BaseException.__getattribute__")))
    (gg_BadStep : PySem.W.findIn K (.ref C_BadStep) "__getattr__" = some none)
    (hx_BadStep : PySem.W.hasDictIn K C_BadStep = true)
    (ga_BadManners : PySem.W.findIn K (.ref C_BadManners) "__getattribute__" = some (some (.builtin "BaseException.__getattribute__")))
    (gg_BadManners : PySem.W.findIn K (.ref C_BadManners) "__getattr__" = some none)
    (hx_BadManners : PySem.W.hasDictIn K C_BadManners = true)
    (xl_BadStep : K.lookup C_BadStep = some (excClassObj nm_BadStep qn_BadStep C_BadStep N_BadStep bs_BadStep [.ref C_LineError, .type "ValueError", .type "Exception", .type "BaseException", .type "object"] true sn_BadStep sb_BadStep ab_BadStep cl_BadStep dd_BadStep m0_BadStep m1_BadStep m2_BadStep m3_BadStep m5_BadStep "ValueError.__new__"))
    (sa_BadStep : PySem.W.findIn K (.ref C_BadStep) "__setattr__" = some (some (.builtin "object.__setattr__")))
    (nx_BadStep_at : PySem.W.findIn K (.ref C_BadStep) "at" = some none)
    (gc_BadManners : PySem.W.findIn K (.ref C_BadManners) "__class__" = some (some (.builtin "object.__class__")))
    (gm_BadManners : PySem.W.mroIn K C_BadManners (.type "object") = some true)
    (ik_BadManners_0 : PySem.W.kitOne K (.ref C_BadManners) (.ref C_BadManners) = some true)
    (ik_BadManners_1 : PySem.W.kitOne K (.ref C_BadManners) (.ref C_BadCount) = some false)
    (ik_BadManners_2 : PySem.W.kitOne K (.ref C_BadManners) (.ref C_BadPart) = some false)
    (ik_BadManners_3 : PySem.W.kitOne K (.ref C_BadManners) (.ref C_BadItem) = some false)
    (ik_BadManners_4 : PySem.W.kitOne K (.ref C_BadManners) (.ref C_Full) = some false)
    (ik_BadManners_5 : PySem.W.kitOne K (.ref C_BadManners) (.ref C_BadLog) = some false)
    (ik_BadManners_6 : PySem.W.kitOne K (.ref C_BadManners) (.ref C_BadText) = some false)
    (ik_BadManners_7 : PySem.W.kitOne K (.ref C_BadManners) (.ref C_BadEnd) = some false)
    (ik_BadManners_8 : PySem.W.kitOne K (.ref C_BadManners) (.ref C_BadStep) = some false)
    (iv_BadManners : PySem.W.kitOne K (.ref C_BadManners) (.type "ValueError") = some true)
    (xm_BadManners : PySem.W.exmOne K (.ref C_BadManners) (.ref C_LineError) = some true)
    (gc_BadStep : PySem.W.findIn K (.ref C_BadStep) "__class__" = some (some (.builtin "object.__class__")))
    (gm_BadStep : PySem.W.mroIn K C_BadStep (.type "object") = some true)
    (ik_BadStep_0 : PySem.W.kitOne K (.ref C_BadStep) (.ref C_BadManners) = some false)
    (ik_BadStep_1 : PySem.W.kitOne K (.ref C_BadStep) (.ref C_BadCount) = some false)
    (ik_BadStep_2 : PySem.W.kitOne K (.ref C_BadStep) (.ref C_BadPart) = some false)
    (ik_BadStep_3 : PySem.W.kitOne K (.ref C_BadStep) (.ref C_BadItem) = some false)
    (ik_BadStep_4 : PySem.W.kitOne K (.ref C_BadStep) (.ref C_Full) = some false)
    (ik_BadStep_5 : PySem.W.kitOne K (.ref C_BadStep) (.ref C_BadLog) = some false)
    (ik_BadStep_6 : PySem.W.kitOne K (.ref C_BadStep) (.ref C_BadText) = some false)
    (ik_BadStep_7 : PySem.W.kitOne K (.ref C_BadStep) (.ref C_BadEnd) = some false)
    (ik_BadStep_8 : PySem.W.kitOne K (.ref C_BadStep) (.ref C_BadStep) = some true)
    (iv_BadStep : PySem.W.kitOne K (.ref C_BadStep) (.type "ValueError") = some true)
    (xm_BadStep : PySem.W.exmOne K (.ref C_BadStep) (.ref C_LineError) = some true)
    (tb_1 : K.lookup lC = some ⟨te, td, .fields tv, tsl⟩)
    (tb_2 : tv[11]? = some (.ref lP))
    (tb_3 : K.lookup lP = none)
    (tb_4 : PySem.W.codeHdIn K lC lP = true)
    (hv_MOST : PySem.W.nsIn K mainGlobals "MOST" = some (some (.int 9 tk_MOST)))
    (hv_FIRST : PySem.W.nsIn K mainGlobals "FIRST" = some (some (.int 16 tk_FIRST)))
    (hv_LONGEST : PySem.W.nsIn K mainGlobals "LONGEST" = some (some (.int 256 tk_LONGEST)))
    (hv_STAYS : PySem.W.nsIn K mainGlobals "STAYS" = some (some (.int 32 tk_STAYS)))
    (hv_LOST : PySem.W.nsIn K mainGlobals "LOST" = some (some (.int 3 tk_LOST)))
    (hv_LAST : PySem.W.nsIn K mainGlobals "LAST" = some (some (.int 6 tk_LAST)))
    (hv_MOST_FRAME : PySem.W.nsIn K mainGlobals "MOST_FRAME" = some (some (.int 1000000 tk_MOST_FRAME)))
    (hv_SLOW : PySem.W.nsIn K mainGlobals "SLOW" = some (some (.int 0 tk_SLOW)))
    (hv_FAST : PySem.W.nsIn K mainGlobals "FAST" = some (some (.int 1 tk_FAST)))
    (hv_MOST_ITEMS : PySem.W.nsIn K mainGlobals "MOST_ITEMS" = some (some (.int 20 tk_MOST_ITEMS)))
    (hv_MOST_ITEM : PySem.W.nsIn K mainGlobals "MOST_ITEM" = some (some (.int 999 tk_MOST_ITEM)))
    (hv_MOST_ROWS : PySem.W.nsIn K mainGlobals "MOST_ROWS" = some (some (.int 300 tk_MOST_ROWS)))
    (hv_MOST_STEPS : PySem.W.nsIn K mainGlobals "MOST_STEPS" = some (some (.int 200 tk_MOST_STEPS)))
    (hv_MOST_FRAMES : PySem.W.nsIn K mainGlobals "MOST_FRAMES" = some (some (.int 100 tk_MOST_FRAMES)))
    (hd_FORMS : PySem.W.nsIn K mainGlobals "FORMS" = some (some (.ref a_FORMS)))
    (kd_FORMS : He.dicW K a_FORMS = some (He.keysIn w.params ["frames", "pass", "lose", "send", "got", "left", "joined"]))
    (hu_FORMS_0 : PySem.W.nsIn K a_FORMS "frames" = some (some (.str "c" tu_FORMS_0)))
    (hu_FORMS_1 : PySem.W.nsIn K a_FORMS "pass" = some (some (.str "em" tu_FORMS_1)))
    (hu_FORMS_2 : PySem.W.nsIn K a_FORMS "lose" = some (some (.str "pe" tu_FORMS_2)))
    (hu_FORMS_3 : PySem.W.nsIn K a_FORMS "send" = some (some (.str "ei" tu_FORMS_3)))
    (hu_FORMS_4 : PySem.W.nsIn K a_FORMS "got" = some (some (.str "e" tu_FORMS_4)))
    (hu_FORMS_5 : PySem.W.nsIn K a_FORMS "left" = some (some (.str "e" tu_FORMS_5)))
    (hu_FORMS_6 : PySem.W.nsIn K a_FORMS "joined" = some (some (.str "" tu_FORMS_6)))
    (nf_FORMS_0 : PySem.W.nsIn K a_FORMS "Frames" = some none)
    (nf_FORMS_1 : PySem.W.nsIn K a_FORMS "" = some none)
    (hd_BOUNDS : PySem.W.nsIn K mainGlobals "BOUNDS" = some (some (.ref a_BOUNDS)))
    (kd_BOUNDS : He.dicW K a_BOUNDS = some (He.keysIn w.params ["c", "e", "p", "i"]))
    (hu_BOUNDS_0 : PySem.W.nsIn K a_BOUNDS "c" = some (some (.ref at_BOUNDS_0)))
    (hw_BOUNDS_0 : K.lookup at_BOUNDS_0 = some ⟨.type "tuple", od_BOUNDS_0, .seq #[.int 1 tu_BOUNDS_0_0, .int 100 tu_BOUNDS_0_1] nn_BOUNDS_0, sl_BOUNDS_0⟩)
    (hu_BOUNDS_1 : PySem.W.nsIn K a_BOUNDS "e" = some (some (.ref at_BOUNDS_1)))
    (hw_BOUNDS_1 : K.lookup at_BOUNDS_1 = some ⟨.type "tuple", od_BOUNDS_1, .seq #[.int 0 tu_BOUNDS_1_0, .int 1 tu_BOUNDS_1_1] nn_BOUNDS_1, sl_BOUNDS_1⟩)
    (hu_BOUNDS_2 : PySem.W.nsIn K a_BOUNDS "p" = some (some (.ref at_BOUNDS_2)))
    (hw_BOUNDS_2 : K.lookup at_BOUNDS_2 = some ⟨.type "tuple", od_BOUNDS_2, .seq #[.int 0 tu_BOUNDS_2_0, .int 1 tu_BOUNDS_2_1] nn_BOUNDS_2, sl_BOUNDS_2⟩)
    (hu_BOUNDS_3 : PySem.W.nsIn K a_BOUNDS "i" = some (some (.ref at_BOUNDS_3)))
    (hw_BOUNDS_3 : K.lookup at_BOUNDS_3 = some ⟨.type "tuple", od_BOUNDS_3, .seq #[.int 0 tu_BOUNDS_3_0, .int 999 tu_BOUNDS_3_1] nn_BOUNDS_3, sl_BOUNDS_3⟩)
    (z_ValueError : PySem.W.nsIn K mainGlobals "ValueError" = some none)
    (z_abs : PySem.W.nsIn K mainGlobals "abs" = some none)
    (z_all : PySem.W.nsIn K mainGlobals "all" = some none)
    (z_bool : PySem.W.nsIn K mainGlobals "bool" = some none)
    (z_enumerate : PySem.W.nsIn K mainGlobals "enumerate" = some none)
    (z_int : PySem.W.nsIn K mainGlobals "int" = some none)
    (z_isinstance : PySem.W.nsIn K mainGlobals "isinstance" = some none)
    (z_len : PySem.W.nsIn K mainGlobals "len" = some none)
    (z_list : PySem.W.nsIn K mainGlobals "list" = some none)
    (z_max : PySem.W.nsIn K mainGlobals "max" = some none)
    (z_min : PySem.W.nsIn K mainGlobals "min" = some none)
    (z_range : PySem.W.nsIn K mainGlobals "range" = some none)
    (z_set : PySem.W.nsIn K mainGlobals "set" = some none)
    (z_sorted : PySem.W.nsIn K mainGlobals "sorted" = some none)
    (z_str : PySem.W.nsIn K mainGlobals "str" = some none)
    (z_tuple : PySem.W.nsIn K mainGlobals "tuple" = some none) :
    LamX.LawAtS l w K CX0 14 63 "_law_script" mg fa h := by
  have e := hfa.symm.trans (PySem.W.mg_of X G hg_law)
  cases e
  let T : Txt w K mg := {
    a_is_between := a_is_between
    fd_is_between := _
    F_is_between := fun_mk (st := s_is_between) hl_is_between hc_is_between hk_is_between
    g_is_between := PySem.W.mg_of X G hg_is_between
    b_is_between := (fun_mk (st := s_is_between) hl_is_between hc_is_between hk_is_between).binds (ps := P_is_between) (fun _ _ _ _ _ _ us hl => match us, hl with | [_, _, _], _ => rfl)
    a_are_manners := a_are_manners
    fd_are_manners := _
    F_are_manners := fun_mk (st := s_are_manners) hl_are_manners hc_are_manners hk_are_manners
    g_are_manners := PySem.W.mg_of X G hg_are_manners
    b_are_manners := (fun_mk (st := s_are_manners) hl_are_manners hc_are_manners hk_are_manners).binds (ps := P_are_manners) (fun _ _ _ _ _ _ us hl => match us, hl with | [_], _ => rfl)
    a_need_manners := a_need_manners
    fd_need_manners := _
    F_need_manners := fun_mk (st := s_need_manners) hl_need_manners hc_need_manners hk_need_manners
    g_need_manners := PySem.W.mg_of X G hg_need_manners
    b_need_manners := (fun_mk (st := s_need_manners) hl_need_manners hc_need_manners hk_need_manners).binds (ps := P_need_manners) (fun _ _ _ _ _ _ us hl => match us, hl with | [_], _ => rfl)
    a_chosen := a_chosen
    fd_chosen := _
    F_chosen := fun_mk (st := s_chosen) hl_chosen hc_chosen hk_chosen
    g_chosen := PySem.W.mg_of X G hg_chosen
    b_chosen := (fun_mk (st := s_chosen) hl_chosen hc_chosen hk_chosen).binds (ps := P_chosen) (fun _ _ _ _ _ _ us hl => match us, hl with | [_, _, _], _ => rfl)
    a_need_manner := a_need_manner
    fd_need_manner := _
    F_need_manner := fun_mk (st := s_need_manner) hl_need_manner hc_need_manner hk_need_manner
    g_need_manner := PySem.W.mg_of X G hg_need_manner
    b_need_manner := (fun_mk (st := s_need_manner) hl_need_manner hc_need_manner hk_need_manner).binds (ps := P_need_manner) (fun _ _ _ _ _ _ us hl => match us, hl with | [_], _ => rfl)
    a_need_end := a_need_end
    fd_need_end := _
    F_need_end := fun_mk (st := s_need_end) hl_need_end hc_need_end hk_need_end
    g_need_end := PySem.W.mg_of X G hg_need_end
    b_need_end := (fun_mk (st := s_need_end) hl_need_end hc_need_end hk_need_end).binds (ps := P_need_end) (fun _ _ _ _ _ _ us hl => match us, hl with | [_], _ => rfl)
    a_is_row := a_is_row
    fd_is_row := _
    F_is_row := fun_mk (st := s_is_row) hl_is_row hc_is_row hk_is_row
    g_is_row := PySem.W.mg_of X G hg_is_row
    b_is_row := (fun_mk (st := s_is_row) hl_is_row hc_is_row hk_is_row).binds (ps := P_is_row) (fun _ _ _ _ _ _ us hl => match us, hl with | [_], _ => rfl)
    a_need_log := a_need_log
    fd_need_log := _
    F_need_log := fun_mk (st := s_need_log) hl_need_log hc_need_log hk_need_log
    g_need_log := PySem.W.mg_of X G hg_need_log
    b_need_log := (fun_mk (st := s_need_log) hl_need_log hc_need_log hk_need_log).binds (ps := P_need_log) (fun _ _ _ _ _ _ us hl => match us, hl with | [_], _ => rfl)
    a_stretches := a_stretches
    fd_stretches := _
    F_stretches := fun_mk (st := s_stretches) hl_stretches hc_stretches hk_stretches
    g_stretches := PySem.W.mg_of X G hg_stretches
    b_stretches := (fun_mk (st := s_stretches) hl_stretches hc_stretches hk_stretches).binds (ps := P_stretches) (fun _ _ _ _ _ _ us hl => match us, hl with | [_], _ => rfl)
    a_is_field := a_is_field
    fd_is_field := _
    F_is_field := fun_mk (st := s_is_field) hl_is_field hc_is_field hk_is_field
    g_is_field := PySem.W.mg_of X G hg_is_field
    b_is_field := (fun_mk (st := s_is_field) hl_is_field hc_is_field hk_is_field).binds (ps := P_is_field) (fun _ _ _ _ _ _ us hl => match us, hl with | [_, _], _ => rfl)
    a_is_step := a_is_step
    fd_is_step := _
    F_is_step := fun_mk (st := s_is_step) hl_is_step hc_is_step hk_is_step
    g_is_step := PySem.W.mg_of X G hg_is_step
    b_is_step := (fun_mk (st := s_is_step) hl_is_step hc_is_step hk_is_step).binds (ps := P_is_step) (fun _ _ _ _ _ _ us hl => match us, hl with | [_], _ => rfl)
    a_need_steps := a_need_steps
    fd_need_steps := _
    F_need_steps := fun_mk (st := s_need_steps) hl_need_steps hc_need_steps hk_need_steps
    g_need_steps := PySem.W.mg_of X G hg_need_steps
    b_need_steps := (fun_mk (st := s_need_steps) hl_need_steps hc_need_steps hk_need_steps).binds (ps := P_need_steps) (fun _ _ _ _ _ _ us hl => match us, hl with | [_], _ => rfl)
    a_done := a_done
    fd_done := _
    F_done := fun_mk (st := s_done) hl_done hc_done hk_done
    g_done := PySem.W.mg_of X G hg_done
    b_done := (fun_mk (st := s_done) hl_done hc_done hk_done).binds (ps := P_done) (fun _ _ _ _ _ _ us hl => match us, hl with | [_, _], _ => rfl)
    a_arrange := a_arrange
    fd_arrange := _
    F_arrange := fun_mk (st := s_arrange) hl_arrange hc_arrange hk_arrange
    g_arrange := PySem.W.mg_of X G hg_arrange
    b_arrange := (fun_mk (st := s_arrange) hl_arrange hc_arrange hk_arrange).binds (ps := P_arrange) (fun _ _ _ _ _ _ us hl => match us, hl with | [_, _], _ => rfl)
    a_played := a_played
    fd_played := _
    F_played := fun_mk (st := s_played) hl_played hc_played hk_played
    g_played := PySem.W.mg_of X G hg_played
    b_played := (fun_mk (st := s_played) hl_played hc_played hk_played).binds (ps := P_played) (fun _ _ _ _ _ _ us hl => match us, hl with | [_, _, _], _ => rfl)
    a_word_of := a_word_of
    fd_word_of := _
    F_word_of := fun_mk (st := s_word_of) hl_word_of hc_word_of hk_word_of
    g_word_of := PySem.W.mg_of X G hg_word_of
    b_word_of := (fun_mk (st := s_word_of) hl_word_of hc_word_of hk_word_of).binds (ps := P_word_of) (fun _ _ _ _ _ _ us hl => match us, hl with | [_], _ => rfl)
    a_lines_of := a_lines_of
    fd_lines_of := _
    F_lines_of := fun_mk (st := s_lines_of) hl_lines_of hc_lines_of hk_lines_of
    g_lines_of := PySem.W.mg_of X G hg_lines_of
    b_lines_of := (fun_mk (st := s_lines_of) hl_lines_of hc_lines_of hk_lines_of).binds (ps := P_lines_of) (fun _ _ _ _ _ _ us hl => match us, hl with | [_], _ => rfl)
    a__law_dice := a__law_dice
    fd__law_dice := _
    F__law_dice := fun_mk (st := s__law_dice) hl__law_dice hc__law_dice hk__law_dice
    g__law_dice := PySem.W.mg_of X G hg__law_dice
    b__law_dice := (fun_mk (st := s__law_dice) hl__law_dice hc__law_dice hk__law_dice).binds (ps := P__law_dice) (fun _ _ _ _ _ _ us hl => match us, hl with | [_, _], _ => rfl)
    a__law_off := a__law_off
    fd__law_off := _
    F__law_off := fun_mk (st := s__law_off) hl__law_off hc__law_off hk__law_off
    g__law_off := PySem.W.mg_of X G hg__law_off
    b__law_off := (fun_mk (st := s__law_off) hl__law_off hc__law_off hk__law_off).binds (ps := P__law_off) (fun _ _ _ _ _ _ us hl => match us, hl with | [_, _], _ => rfl)
    a__law_alike := a__law_alike
    fd__law_alike := _
    F__law_alike := fun_mk (st := s__law_alike) hl__law_alike hc__law_alike hk__law_alike
    g__law_alike := PySem.W.mg_of X G hg__law_alike
    b__law_alike := (fun_mk (st := s__law_alike) hl__law_alike hc__law_alike hk__law_alike).binds (ps := P__law_alike) (fun _ _ _ _ _ _ us hl => match us, hl with | [_, _], _ => rfl)
    a__law_word := a__law_word
    fd__law_word := _
    F__law_word := fun_mk (st := s__law_word) hl__law_word hc__law_word hk__law_word
    g__law_word := PySem.W.mg_of X G hg__law_word
    b__law_word := (fun_mk (st := s__law_word) hl__law_word hc__law_word hk__law_word).binds (ps := P__law_word) (fun _ _ _ _ _ _ us hl => match us, hl with | [_], _ => rfl)
    a__law_can := a__law_can
    fd__law_can := _
    F__law_can := fun_mk (st := s__law_can) hl__law_can hc__law_can hk__law_can
    g__law_can := PySem.W.mg_of X G hg__law_can
    b__law_can := (fun_mk (st := s__law_can) hl__law_can hc__law_can hk__law_can).binds (ps := P__law_can) (fun _ _ _ _ _ _ us hl => match us, hl with | [_], _ => rfl)
    a__law_step := a__law_step
    fd__law_step := _
    F__law_step := fun_mk (st := s__law_step) hl__law_step hc__law_step hk__law_step
    g__law_step := PySem.W.mg_of X G hg__law_step
    b__law_step := (fun_mk (st := s__law_step) hl__law_step hc__law_step hk__law_step).binds (ps := P__law_step) (fun _ _ _ _ _ _ us hl => match us, hl with | [_], _ => rfl)
    a__law_steps := a__law_steps
    fd__law_steps := _
    F__law_steps := fun_mk (st := s__law_steps) hl__law_steps hc__law_steps hk__law_steps
    g__law_steps := PySem.W.mg_of X G hg__law_steps
    b__law_steps := (fun_mk (st := s__law_steps) hl__law_steps hc__law_steps hk__law_steps).binds (ps := P__law_steps) (fun _ _ _ _ _ _ us hl => match us, hl with | [_, _], _ => rfl)
    a__law_no_step := a__law_no_step
    fd__law_no_step := _
    F__law_no_step := fun_mk (st := s__law_no_step) hl__law_no_step hc__law_no_step hk__law_no_step
    g__law_no_step := PySem.W.mg_of X G hg__law_no_step
    b__law_no_step := (fun_mk (st := s__law_no_step) hl__law_no_step hc__law_no_step hk__law_no_step).binds (ps := P__law_no_step) (fun _ _ _ _ _ _ us hl => match us, hl with | [_], _ => rfl)
    a__law_tells := a__law_tells
    fd__law_tells := _
    F__law_tells := fun_mk (st := s__law_tells) hl__law_tells hc__law_tells hk__law_tells
    g__law_tells := PySem.W.mg_of X G hg__law_tells
    b__law_tells := (fun_mk (st := s__law_tells) hl__law_tells hc__law_tells hk__law_tells).binds (ps := P__law_tells) (fun _ _ _ _ _ _ us hl => match us, hl with | [_, _], _ => rfl)
    a_law := fa
    fd_law := _
    F_law := fun_mk (st := s_law) hl_law hc_law hk_law
    g_law := PySem.W.mg_of X G hg_law
    b_law := (fun_mk (st := s_law) hl_law hc_law hk_law).binds (ps := P_law) (fun _ _ _ _ _ _ us hl => match us, hl with | [_], _ => rfl)
    a_BadStep_init := a_BadStep_init
    fd_BadStep_init := _
    F_BadStep_init := fun_mk (st := s_BadStep_init) hl_BadStep_init hc_BadStep_init hk_BadStep_init
    b_BadStep_init := (fun_mk (st := s_BadStep_init) hl_BadStep_init hc_BadStep_init hk_BadStep_init).binds (ps := P_BadStep_init) (fun _ _ _ _ _ _ us hl => match us, hl with | [_, _], _ => rfl)
    a_Marks_init := a_Marks_init
    fd_Marks_init := _
    F_Marks_init := fun_mk (st := s_Marks_init) hl_Marks_init hc_Marks_init hk_Marks_init
    b_Marks_init := (fun_mk (st := s_Marks_init) hl_Marks_init hc_Marks_init hk_Marks_init).binds (ps := P_Marks_init) (fun _ _ _ _ _ _ us hl => match us, hl with | [_], _ => rfl)
    a_Marks_note := a_Marks_note
    fd_Marks_note := _
    F_Marks_note := fun_mk (st := s_Marks_note) hl_Marks_note hc_Marks_note hk_Marks_note
    b_Marks_note := (fun_mk (st := s_Marks_note) hl_Marks_note hc_Marks_note hk_Marks_note).binds (ps := P_Marks_note) (fun _ _ _ _ _ _ us hl => match us, hl with | [_, _, _, _], _ => rfl)
    a_Marks_bad := a_Marks_bad
    fd_Marks_bad := _
    F_Marks_bad := fun_mk (st := s_Marks_bad) hl_Marks_bad hc_Marks_bad hk_Marks_bad
    b_Marks_bad := (fun_mk (st := s_Marks_bad) hl_Marks_bad hc_Marks_bad hk_Marks_bad).binds (ps := P_Marks_bad) (fun _ _ _ _ _ _ us hl => match us, hl with | [_, _], _ => rfl)
    a_End_init := a_End_init
    fd_End_init := _
    F_End_init := fun_mk (st := s_End_init) hl_End_init hc_End_init hk_End_init
    b_End_init := (fun_mk (st := s_End_init) hl_End_init hc_End_init hk_End_init).binds (ps := P_End_init) (fun _ _ _ _ _ _ us hl => match us, hl with | [_, _], _ => rfl)
    a_End_need_part := a_End_need_part
    fd_End_need_part := _
    F_End_need_part := fun_mk (st := s_End_need_part) hl_End_need_part hc_End_need_part hk_End_need_part
    b_End_need_part := (fun_mk (st := s_End_need_part) hl_End_need_part hc_End_need_part hk_End_need_part).binds (ps := P_End_need_part) (fun _ _ _ _ _ _ us hl => match us, hl with | [_, _], _ => rfl)
    a_End_refresh := a_End_refresh
    fd_End_refresh := _
    F_End_refresh := fun_mk (st := s_End_refresh) hl_End_refresh hc_End_refresh hk_End_refresh
    b_End_refresh := (fun_mk (st := s_End_refresh) hl_End_refresh hc_End_refresh hk_End_refresh).binds (ps := P_End_refresh) (fun _ _ _ _ _ _ us hl => match us, hl with | [_], _ => rfl)
    a_End_take := a_End_take
    fd_End_take := _
    F_End_take := fun_mk (st := s_End_take) hl_End_take hc_End_take hk_End_take
    b_End_take := (fun_mk (st := s_End_take) hl_End_take hc_End_take hk_End_take).binds (ps := P_End_take) (fun _ _ _ _ _ _ us hl => match us, hl with | [_], _ => rfl)
    a_End_say := a_End_say
    fd_End_say := _
    F_End_say := fun_mk (st := s_End_say) hl_End_say hc_End_say hk_End_say
    b_End_say := (fun_mk (st := s_End_say) hl_End_say hc_End_say hk_End_say).binds (ps := P_End_say) (fun _ _ _ _ _ _ us hl => match us, hl with | [_, _], _ => rfl)
    a_End_hear := a_End_hear
    fd_End_hear := _
    F_End_hear := fun_mk (st := s_End_hear) hl_End_hear hc_End_hear hk_End_hear
    b_End_hear := (fun_mk (st := s_End_hear) hl_End_hear hc_End_hear hk_End_hear).binds (ps := P_End_hear) (fun _ _ _ _ _ _ us hl => match us, hl with | [_, _, _], _ => rfl)
    a_End_hear_slow := a_End_hear_slow
    fd_End_hear_slow := _
    F_End_hear_slow := fun_mk (st := s_End_hear_slow) hl_End_hear_slow hc_End_hear_slow hk_End_hear_slow
    b_End_hear_slow := (fun_mk (st := s_End_hear_slow) hl_End_hear_slow hc_End_hear_slow hk_End_hear_slow).binds (ps := P_End_hear_slow) (fun _ _ _ _ _ _ us hl => match us, hl with | [_, _], _ => rfl)
    a_End_hear_fast := a_End_hear_fast
    fd_End_hear_fast := _
    F_End_hear_fast := fun_mk (st := s_End_hear_fast) hl_End_hear_fast hc_End_hear_fast hk_End_hear_fast
    b_End_hear_fast := (fun_mk (st := s_End_hear_fast) hl_End_hear_fast hc_End_hear_fast hk_End_hear_fast).binds (ps := P_End_hear_fast) (fun _ _ _ _ _ _ us hl => match us, hl with | [_, _], _ => rfl)
    a_End_send := a_End_send
    fd_End_send := _
    F_End_send := fun_mk (st := s_End_send) hl_End_send hc_End_send hk_End_send
    b_End_send := (fun_mk (st := s_End_send) hl_End_send hc_End_send hk_End_send).binds (ps := P_End_send) (fun _ _ _ _ _ _ us hl => match us, hl with | [_, _], _ => rfl)
    a_End_got := a_End_got
    fd_End_got := _
    F_End_got := fun_mk (st := s_End_got) hl_End_got hc_End_got hk_End_got
    b_End_got := (fun_mk (st := s_End_got) hl_End_got hc_End_got hk_End_got).binds (ps := P_End_got) (fun _ _ _ _ _ _ us hl => match us, hl with | [_], _ => rfl)
    a_End_left := a_End_left
    fd_End_left := _
    F_End_left := fun_mk (st := s_End_left) hl_End_left hc_End_left hk_End_left
    b_End_left := (fun_mk (st := s_End_left) hl_End_left hc_End_left hk_End_left).binds (ps := P_End_left) (fun _ _ _ _ _ _ us hl => match us, hl with | [_], _ => rfl)
    a_End_stands := a_End_stands
    fd_End_stands := _
    F_End_stands := fun_mk (st := s_End_stands) hl_End_stands hc_End_stands hk_End_stands
    b_End_stands := (fun_mk (st := s_End_stands) hl_End_stands hc_End_stands hk_End_stands).binds (ps := P_End_stands) (fun _ _ _ _ _ _ us hl => match us, hl with | [_], _ => rfl)
    a_Line_init := a_Line_init
    fd_Line_init := _
    F_Line_init := fun_mk (st := s_Line_init) hl_Line_init hc_Line_init hk_Line_init
    b_Line_init := (fun_mk (st := s_Line_init) hl_Line_init hc_Line_init hk_Line_init).binds (ps := P_Line_init) (fun _ _ _ _ _ _ us hl => match us, hl with | [_, _, _], _ => rfl)
    a_Line_let_pass := a_Line_let_pass
    fd_Line_let_pass := _
    F_Line_let_pass := fun_mk (st := s_Line_let_pass) hl_Line_let_pass hc_Line_let_pass hk_Line_let_pass
    b_Line_let_pass := (fun_mk (st := s_Line_let_pass) hl_Line_let_pass hc_Line_let_pass hk_Line_let_pass).binds (ps := P_Line_let_pass) (fun _ _ _ _ _ _ us hl => match us, hl with | [_, _, _], _ => rfl)
    a_Line_lose := a_Line_lose
    fd_Line_lose := _
    F_Line_lose := fun_mk (st := s_Line_lose) hl_Line_lose hc_Line_lose hk_Line_lose
    b_Line_lose := (fun_mk (st := s_Line_lose) hl_Line_lose hc_Line_lose hk_Line_lose).binds (ps := P_Line_lose) (fun _ _ _ _ _ _ us hl => match us, hl with | [_, _, _], _ => rfl)
    a_Line_send := a_Line_send
    fd_Line_send := _
    F_Line_send := fun_mk (st := s_Line_send) hl_Line_send hc_Line_send hk_Line_send
    b_Line_send := (fun_mk (st := s_Line_send) hl_Line_send hc_Line_send hk_Line_send).binds (ps := P_Line_send) (fun _ _ _ _ _ _ us hl => match us, hl with | [_, _, _], _ => rfl)
    a_Line_carry := a_Line_carry
    fd_Line_carry := _
    F_Line_carry := fun_mk (st := s_Line_carry) hl_Line_carry hc_Line_carry hk_Line_carry
    b_Line_carry := (fun_mk (st := s_Line_carry) hl_Line_carry hc_Line_carry hk_Line_carry).binds (ps := P_Line_carry) (fun _ _ _ _ _ _ us hl => match us, hl with | [_, _], _ => rfl)
    a_Line_frame := a_Line_frame
    fd_Line_frame := _
    F_Line_frame := fun_mk (st := s_Line_frame) hl_Line_frame hc_Line_frame hk_Line_frame
    b_Line_frame := (fun_mk (st := s_Line_frame) hl_Line_frame hc_Line_frame hk_Line_frame).binds (ps := P_Line_frame) (fun _ _ _ _ _ _ us hl => match us, hl with | [_], _ => rfl)
    a_Line_log := a_Line_log
    fd_Line_log := _
    F_Line_log := fun_mk (st := s_Line_log) hl_Line_log hc_Line_log hk_Line_log
    b_Line_log := (fun_mk (st := s_Line_log) hl_Line_log hc_Line_log hk_Line_log).binds (ps := P_Line_log) (fun _ _ _ _ _ _ us hl => match us, hl with | [_], _ => rfl)
    a_Line_got := a_Line_got
    fd_Line_got := _
    F_Line_got := fun_mk (st := s_Line_got) hl_Line_got hc_Line_got hk_Line_got
    b_Line_got := (fun_mk (st := s_Line_got) hl_Line_got hc_Line_got hk_Line_got).binds (ps := P_Line_got) (fun _ _ _ _ _ _ us hl => match us, hl with | [_, _], _ => rfl)
    a_Line_left := a_Line_left
    fd_Line_left := _
    F_Line_left := fun_mk (st := s_Line_left) hl_Line_left hc_Line_left hk_Line_left
    b_Line_left := (fun_mk (st := s_Line_left) hl_Line_left hc_Line_left hk_Line_left).binds (ps := P_Line_left) (fun _ _ _ _ _ _ us hl => match us, hl with | [_, _], _ => rfl)
    C_Marks := C_Marks
    c_Marks := PySem.W.mg_of X G hC_Marks
    cl_Marks := ⟨pg_Marks, hd_Marks, po_Marks, sa_Marks⟩
    no_Marks_waits := no_Marks_waits
    no_Marks_until := no_Marks_until
    no_Marks_runs := no_Marks_runs
    no_Marks_tries := no_Marks_tries
    M_Marks := ⟨mk_Marks, hg_Marks_init, hi_Marks_init, kc_Marks⟩
    m_Marks_note := ⟨hg_Marks_note, hi_Marks_note, hk_Marks_note⟩
    m_Marks_bad := ⟨hg_Marks_bad, hi_Marks_bad, hk_Marks_bad⟩
    C_End := C_End
    c_End := PySem.W.mg_of X G hC_End
    cl_End := ⟨pg_End, hd_End, po_End, sa_End⟩
    no_End_can := no_End_can
    no_End_marks := no_End_marks
    no_End_over := no_End_over
    no_End_version := no_End_version
    no_End_mind := no_End_mind
    no_End_other := no_End_other
    no_End_seen := no_End_seen
    no_End_known := no_End_known
    no_End_ready := no_End_ready
    no_End_now := no_End_now
    no_End_joined := no_End_joined
    no_End_waiting := no_End_waiting
    no_End_count := no_End_count
    no_End_gathered := no_End_gathered
    no_End_part := no_End_part
    M_End := ⟨mk_End, hg_End_init, hi_End_init, kc_End⟩
    m_End_need_part := ⟨hg_End_need_part, hi_End_need_part, hk_End_need_part⟩
    m_End_refresh := ⟨hg_End_refresh, hi_End_refresh, hk_End_refresh⟩
    m_End_take := ⟨hg_End_take, hi_End_take, hk_End_take⟩
    m_End_say := ⟨hg_End_say, hi_End_say, hk_End_say⟩
    m_End_hear := ⟨hg_End_hear, hi_End_hear, hk_End_hear⟩
    m_End_hear_slow := ⟨hg_End_hear_slow, hi_End_hear_slow, hk_End_hear_slow⟩
    m_End_hear_fast := ⟨hg_End_hear_fast, hi_End_hear_fast, hk_End_hear_fast⟩
    m_End_send := ⟨hg_End_send, hi_End_send, hk_End_send⟩
    m_End_got := ⟨hg_End_got, hi_End_got, hk_End_got⟩
    m_End_left := ⟨hg_End_left, hi_End_left, hk_End_left⟩
    m_End_stands := ⟨hg_End_stands, hi_End_stands, hk_End_stands⟩
    C_Line := C_Line
    c_Line := PySem.W.mg_of X G hC_Line
    cl_Line := ⟨pg_Line, hd_Line, po_Line, sa_Line⟩
    no_Line_ends := no_Line_ends
    no_Line_passing := no_Line_passing
    no_Line_lost := no_Line_lost
    no_Line_rows := no_Line_rows
    M_Line := ⟨mk_Line, hg_Line_init, hi_Line_init, kc_Line⟩
    m_Line_let_pass := ⟨hg_Line_let_pass, hi_Line_let_pass, hk_Line_let_pass⟩
    m_Line_lose := ⟨hg_Line_lose, hi_Line_lose, hk_Line_lose⟩
    m_Line_send := ⟨hg_Line_send, hi_Line_send, hk_Line_send⟩
    m_Line_carry := ⟨hg_Line_carry, hi_Line_carry, hk_Line_carry⟩
    m_Line_frame := ⟨hg_Line_frame, hi_Line_frame, hk_Line_frame⟩
    m_Line_log := ⟨hg_Line_log, hi_Line_log, hk_Line_log⟩
    m_Line_got := ⟨hg_Line_got, hi_Line_got, hk_Line_got⟩
    m_Line_left := ⟨hg_Line_left, hi_Line_left, hk_Line_left⟩
    C_LineError := C_LineError
    c_LineError := PySem.W.mg_of X G hC_LineError
    k_LineError := k_LineError
    s_LineError := s_LineError
    t_LineError := t_LineError
    x_LineError := x_LineError
    C_BadManners := C_BadManners
    c_BadManners := PySem.W.mg_of X G hC_BadManners
    k_BadManners := k_BadManners
    s_BadManners := s_BadManners
    t_BadManners := t_BadManners
    x_BadManners := x_BadManners
    C_BadItem := C_BadItem
    c_BadItem := PySem.W.mg_of X G hC_BadItem
    k_BadItem := k_BadItem
    s_BadItem := s_BadItem
    t_BadItem := t_BadItem
    x_BadItem := x_BadItem
    C_Full := C_Full
    c_Full := PySem.W.mg_of X G hC_Full
    k_Full := k_Full
    s_Full := s_Full
    t_Full := t_Full
    x_Full := x_Full
    q_Full := q_Full
    C_BadPart := C_BadPart
    c_BadPart := PySem.W.mg_of X G hC_BadPart
    k_BadPart := k_BadPart
    s_BadPart := s_BadPart
    t_BadPart := t_BadPart
    x_BadPart := x_BadPart
    C_BadCount := C_BadCount
    c_BadCount := PySem.W.mg_of X G hC_BadCount
    k_BadCount := k_BadCount
    s_BadCount := s_BadCount
    t_BadCount := t_BadCount
    x_BadCount := x_BadCount
    C_BadEnd := C_BadEnd
    c_BadEnd := PySem.W.mg_of X G hC_BadEnd
    k_BadEnd := k_BadEnd
    s_BadEnd := s_BadEnd
    t_BadEnd := t_BadEnd
    x_BadEnd := x_BadEnd
    C_BadStep := C_BadStep
    c_BadStep := PySem.W.mg_of X G hC_BadStep
    k_BadStep := k_BadStep
    s_BadStep := s_BadStep
    t_BadStep := t_BadStep
    C_BadLog := C_BadLog
    c_BadLog := PySem.W.mg_of X G hC_BadLog
    k_BadLog := k_BadLog
    s_BadLog := s_BadLog
    t_BadLog := t_BadLog
    C_BadText := C_BadText
    c_BadText := PySem.W.mg_of X G hC_BadText
    k_BadText := k_BadText
    s_BadText := s_BadText
    t_BadText := t_BadText
    bc_LineError := ⟨gs_LE, rd_LE, fi_LE, k_LineError⟩
    ox_BadStep := ⟨⟨nm_BadStep, qn_BadStep, N_BadStep, bs_BadStep, _, sn_BadStep, sb_BadStep, ab_BadStep, cl_BadStep, dd_BadStep, m0_BadStep, m1_BadStep, m2_BadStep, m3_BadStep, m5_BadStep, xl_BadStep, rfl⟩, sa_BadStep, s_BadStep, t_BadStep, k_BadStep⟩
    iC_BadStep := hg_BadStep_init
    tI_BadStep := beq_iff_eq.mp hi_BadStep_init
    nx_BadStep_at := nx_BadStep_at
    xf_BadStep := ⟨ga_BadStep, gg_BadStep, s_BadStep, hx_BadStep⟩
    wk_BadManners := ⟨⟨ga_BadManners, gg_BadManners, s_BadManners, hx_BadManners, gc_BadManners, gx_n, gx_t, gm_BadManners⟩, kinds9 ik_BadManners_0 ik_BadManners_1 ik_BadManners_2 ik_BadManners_3 ik_BadManners_4 ik_BadManners_5 ik_BadManners_6 ik_BadManners_7 ik_BadManners_8 (by decide), iv_BadManners, xm_BadManners⟩
    wk_BadStep := ⟨⟨ga_BadStep, gg_BadStep, s_BadStep, hx_BadStep, gc_BadStep, gx_n, gx_t, gm_BadStep⟩, kinds9 ik_BadStep_0 ik_BadStep_1 ik_BadStep_2 ik_BadStep_3 ik_BadStep_4 ik_BadStep_5 ik_BadStep_6 ik_BadStep_7 ik_BadStep_8 (by decide), iv_BadStep, xm_BadStep⟩
    lC := lC
    lP := lP
    fl := ⟨_, _, _, _, _, _, _, _, rfl, hl_law, hc_law⟩
    tk_MOST := tk_MOST
    v_MOST := PySem.W.mg_of X G hv_MOST
    tk_FIRST := tk_FIRST
    v_FIRST := PySem.W.mg_of X G hv_FIRST
    tk_LONGEST := tk_LONGEST
    v_LONGEST := PySem.W.mg_of X G hv_LONGEST
    tk_STAYS := tk_STAYS
    v_STAYS := PySem.W.mg_of X G hv_STAYS
    tk_LOST := tk_LOST
    v_LOST := PySem.W.mg_of X G hv_LOST
    tk_LAST := tk_LAST
    v_LAST := PySem.W.mg_of X G hv_LAST
    tk_MOST_FRAME := tk_MOST_FRAME
    v_MOST_FRAME := PySem.W.mg_of X G hv_MOST_FRAME
    tk_SLOW := tk_SLOW
    v_SLOW := PySem.W.mg_of X G hv_SLOW
    tk_FAST := tk_FAST
    v_FAST := PySem.W.mg_of X G hv_FAST
    tk_MOST_ITEMS := tk_MOST_ITEMS
    v_MOST_ITEMS := PySem.W.mg_of X G hv_MOST_ITEMS
    tk_MOST_ITEM := tk_MOST_ITEM
    v_MOST_ITEM := PySem.W.mg_of X G hv_MOST_ITEM
    tk_MOST_ROWS := tk_MOST_ROWS
    v_MOST_ROWS := PySem.W.mg_of X G hv_MOST_ROWS
    tk_MOST_STEPS := tk_MOST_STEPS
    v_MOST_STEPS := PySem.W.mg_of X G hv_MOST_STEPS
    tk_MOST_FRAMES := tk_MOST_FRAMES
    v_MOST_FRAMES := PySem.W.mg_of X G hv_MOST_FRAMES
    a_FORMS := a_FORMS
    v_FORMS := PySem.W.mg_of X G hd_FORMS
    kd_FORMS := He.dicW_ok kd_FORMS
    u_FORMS_0 := ⟨_, hu_FORMS_0, ⟨_, rfl⟩⟩
    u_FORMS_1 := ⟨_, hu_FORMS_1, ⟨_, rfl⟩⟩
    u_FORMS_2 := ⟨_, hu_FORMS_2, ⟨_, rfl⟩⟩
    u_FORMS_3 := ⟨_, hu_FORMS_3, ⟨_, rfl⟩⟩
    u_FORMS_4 := ⟨_, hu_FORMS_4, ⟨_, rfl⟩⟩
    u_FORMS_5 := ⟨_, hu_FORMS_5, ⟨_, rfl⟩⟩
    u_FORMS_6 := ⟨_, hu_FORMS_6, ⟨_, rfl⟩⟩, nf_FORMS_0 := nf_FORMS_0, nf_FORMS_1 := nf_FORMS_1
    a_BOUNDS := a_BOUNDS
    v_BOUNDS := PySem.W.mg_of X G hd_BOUNDS
    kd_BOUNDS := He.dicW_ok kd_BOUNDS
    u_BOUNDS_0 := ⟨_, _, _, _, hu_BOUNDS_0, hw_BOUNDS_0, rfl, rfl, by show 2 ≤ sizeLine; decide, .cons ⟨_, rfl⟩ (.cons ⟨_, rfl⟩ (.nil))⟩
    u_BOUNDS_1 := ⟨_, _, _, _, hu_BOUNDS_1, hw_BOUNDS_1, rfl, rfl, by show 2 ≤ sizeLine; decide, .cons ⟨_, rfl⟩ (.cons ⟨_, rfl⟩ (.nil))⟩
    u_BOUNDS_2 := ⟨_, _, _, _, hu_BOUNDS_2, hw_BOUNDS_2, rfl, rfl, by show 2 ≤ sizeLine; decide, .cons ⟨_, rfl⟩ (.cons ⟨_, rfl⟩ (.nil))⟩
    u_BOUNDS_3 := ⟨_, _, _, _, hu_BOUNDS_3, hw_BOUNDS_3, rfl, rfl, by show 2 ≤ sizeLine; decide, .cons ⟨_, rfl⟩ (.cons ⟨_, rfl⟩ (.nil))⟩
    n_ValueError := PySem.W.mg_none_of X G z_ValueError
    n_abs := PySem.W.mg_none_of X G z_abs
    n_all := PySem.W.mg_none_of X G z_all
    n_bool := PySem.W.mg_none_of X G z_bool
    n_enumerate := PySem.W.mg_none_of X G z_enumerate
    n_int := PySem.W.mg_none_of X G z_int
    n_isinstance := PySem.W.mg_none_of X G z_isinstance
    n_len := PySem.W.mg_none_of X G z_len
    n_list := PySem.W.mg_none_of X G z_list
    n_max := PySem.W.mg_none_of X G z_max
    n_min := PySem.W.mg_none_of X G z_min
    n_range := PySem.W.mg_none_of X G z_range
    n_set := PySem.W.mg_none_of X G z_set
    n_sorted := PySem.W.mg_none_of X G z_sorted
    n_str := PySem.W.mg_none_of X G z_str
    n_tuple := PySem.W.mg_none_of X G z_tuple }
  exact ⟨_, [(lC, lP)], spLaw K lP, fun p hp => by rw [List.mem_singleton.mp hp]; exact own lC lP _ _ _ _ _ _ hl_law rfl rfl tb_1 tb_2, fun p hp => by rw [List.mem_singleton.mp hp]; exact tb_3, fun p hp => by rw [List.mem_singleton.mp hp]; exact PySem.W.codeHd_of_K X tb_4,
    fun s v => .of_eq rfl, fun H a ns hn _ hT hS => ⟨a, ns, rfl, hS, hn, fun p hp => by rw [List.mem_singleton.mp hp]; exact LamX.TabS.nil (hT _ (.head _)), fun _ => rfl⟩, fun base _ _ hB => ok_law T (hB _ (.head _))⟩
theorem walk {l : PySem.W.OpenLaw} {q : Program} {loose : List Str} {XP : (Str → Option Value) → Heap → Prop} {YP : World → Heap → Prop} {d : DefRec} {K : Params → PySem.W.Frag} (hn : l.most = some 63) (hdf : d.params.defaults = []) (hrec : ((PyProof.Rows.recsOf q).any fun e => e.name == d.name) = true)
    (hY : ∀ (w : World) (h : Heap), YP w h → (K w.params).In h)
    (F : ∀ (w : World) (mg : Str → Option Value) (fa : Addr) (h : Heap), YP w h → (K w.params).In h → h.Ns mainGlobals mg → mg d.name = some (.ref fa) → LamX.OwnTab (K w.params) fa h → LamX.LawAtS l w (K w.params) CX0 14 63 "_law_script" mg fa h) :
    PySem.W.WalkO q loose XP YP l.row.toRowW d [] (fun f vs => PySem.call f vs) :=
  LamX.walk_ofOwn (n := 63) (k := 14) (x := "_law_script") (CX := fun _ => CX0) hn (by decide) hdf ⟨rfl, by decide, by decide⟩ hrec hY F fun _ _ _ _ _ z => z
end TL
open PySem PySem.W PyProof.Rows
set_option maxRecDepth 100000 in
set_option maxHeartbeats 0 in
theorem PySem.Challenge.cw_trainline_k17_plays_holds : PySem.Challenge.rw_trainline_k17_plays.Holds := by
  w_on; o_law; k_head; (case hw => w_witness2)
  k_fill
  refine TL.walk (l := PySem.Challenge.rw_trainline_k17_plays) rfl rfl (rfl) (fun w h Y => PySem.W.km_in_of Y) ?F
  case F =>
    intro w mg fa h Y KX G hmg own
    refine' TL.all_mk KX G hmg own ?hC_LineError ?hC_BadManners ?hC_BadItem ?hC_Full ?hC_BadPart ?hC_BadCount ?hC_BadEnd ?hC_BadStep ?hC_BadLog ?hC_BadText ?hC_Marks ?hC_End ?hC_Line ?hg_is_between ?hl_is_between ?hc_is_between ?hk_is_between ?hg_are_manners ?hl_are_manners ?hc_are_manners ?hk_are_manners ?hg_need_manners ?hl_need_manners ?hc_need_manners ?hk_need_manners ?hg_chosen ?hl_chosen ?hc_chosen ?hk_chosen ?hg_need_manner ?hl_need_manner ?hc_need_manner ?hk_need_manner ?hg_need_end ?hl_need_end ?hc_need_end ?hk_need_end ?hg_is_row ?hl_is_row ?hc_is_row ?hk_is_row ?hg_need_log ?hl_need_log ?hc_need_log ?hk_need_log ?hg_stretches ?hl_stretches ?hc_stretches ?hk_stretches ?hg_is_field ?hl_is_field ?hc_is_field ?hk_is_field ?hg_is_step ?hl_is_step ?hc_is_step ?hk_is_step ?hg_need_steps ?hl_need_steps ?hc_need_steps ?hk_need_steps ?hg_done ?hl_done ?hc_done ?hk_done ?hg_arrange ?hl_arrange ?hc_arrange ?hk_arrange ?hg_played ?hl_played ?hc_played ?hk_played ?hg_word_of ?hl_word_of ?hc_word_of ?hk_word_of ?hg_lines_of ?hl_lines_of ?hc_lines_of ?hk_lines_of ?hg__law_dice ?hl__law_dice ?hc__law_dice ?hk__law_dice ?hg__law_off ?hl__law_off ?hc__law_off ?hk__law_off ?hg__law_alike ?hl__law_alike ?hc__law_alike ?hk__law_alike ?hg__law_word ?hl__law_word ?hc__law_word ?hk__law_word ?hg__law_can ?hl__law_can ?hc__law_can ?hk__law_can ?hg__law_step ?hl__law_step ?hc__law_step ?hk__law_step ?hg__law_steps ?hl__law_steps ?hc__law_steps ?hk__law_steps ?hg__law_no_step ?hl__law_no_step ?hc__law_no_step ?hk__law_no_step ?hg__law_tells ?hl__law_tells ?hc__law_tells ?hk__law_tells ?hg_law ?hl_law ?hc_law ?hk_law ?hg_BadStep_init ?hi_BadStep_init ?hl_BadStep_init ?hc_BadStep_init ?hk_BadStep_init ?hg_Marks_init ?hi_Marks_init ?hl_Marks_init ?hc_Marks_init ?hk_Marks_init ?hg_Marks_note ?hi_Marks_note ?hl_Marks_note ?hc_Marks_note ?hk_Marks_note ?hg_Marks_bad ?hi_Marks_bad ?hl_Marks_bad ?hc_Marks_bad ?hk_Marks_bad ?hg_End_init ?hi_End_init ?hl_End_init ?hc_End_init ?hk_End_init ?hg_End_need_part ?hi_End_need_part ?hl_End_need_part ?hc_End_need_part ?hk_End_need_part ?hg_End_refresh ?hi_End_refresh ?hl_End_refresh ?hc_End_refresh ?hk_End_refresh ?hg_End_take ?hi_End_take ?hl_End_take ?hc_End_take ?hk_End_take ?hg_End_say ?hi_End_say ?hl_End_say ?hc_End_say ?hk_End_say ?hg_End_hear ?hi_End_hear ?hl_End_hear ?hc_End_hear ?hk_End_hear ?hg_End_hear_slow ?hi_End_hear_slow ?hl_End_hear_slow ?hc_End_hear_slow ?hk_End_hear_slow ?hg_End_hear_fast ?hi_End_hear_fast ?hl_End_hear_fast ?hc_End_hear_fast ?hk_End_hear_fast ?hg_End_send ?hi_End_send ?hl_End_send ?hc_End_send ?hk_End_send ?hg_End_got ?hi_End_got ?hl_End_got ?hc_End_got ?hk_End_got ?hg_End_left ?hi_End_left ?hl_End_left ?hc_End_left ?hk_End_left ?hg_End_stands ?hi_End_stands ?hl_End_stands ?hc_End_stands ?hk_End_stands ?hg_Line_init ?hi_Line_init ?hl_Line_init ?hc_Line_init ?hk_Line_init ?hg_Line_let_pass ?hi_Line_let_pass ?hl_Line_let_pass ?hc_Line_let_pass ?hk_Line_let_pass ?hg_Line_lose ?hi_Line_lose ?hl_Line_lose ?hc_Line_lose ?hk_Line_lose ?hg_Line_send ?hi_Line_send ?hl_Line_send ?hc_Line_send ?hk_Line_send ?hg_Line_carry ?hi_Line_carry ?hl_Line_carry ?hc_Line_carry ?hk_Line_carry ?hg_Line_frame ?hi_Line_frame ?hl_Line_frame ?hc_Line_frame ?hk_Line_frame ?hg_Line_log ?hi_Line_log ?hl_Line_log ?hc_Line_log ?hk_Line_log ?hg_Line_got ?hi_Line_got ?hl_Line_got ?hc_Line_got ?hk_Line_got ?hg_Line_left ?hi_Line_left ?hl_Line_left ?hc_Line_left ?hk_Line_left ?pg_Marks ?hd_Marks ?po_Marks ?mk_Marks ?kc_Marks ?sa_Marks ?no_Marks_waits ?no_Marks_until ?no_Marks_runs ?no_Marks_tries ?pg_End ?hd_End ?po_End ?mk_End ?kc_End ?sa_End ?no_End_can ?no_End_marks ?no_End_over ?no_End_version ?no_End_mind ?no_End_other ?no_End_seen ?no_End_known ?no_End_ready ?no_End_now ?no_End_joined ?no_End_waiting ?no_End_count ?no_End_gathered ?no_End_part ?pg_Line ?hd_Line ?po_Line ?mk_Line ?kc_Line ?sa_Line ?no_Line_ends ?no_Line_passing ?no_Line_lost ?no_Line_rows ?x_LineError ?k_LineError ?s_LineError ?t_LineError ?x_BadManners ?k_BadManners ?s_BadManners ?t_BadManners ?x_BadItem ?k_BadItem ?s_BadItem ?t_BadItem ?x_Full ?q_Full ?k_Full ?s_Full ?t_Full ?x_BadPart ?k_BadPart ?s_BadPart ?t_BadPart ?x_BadCount ?k_BadCount ?s_BadCount ?t_BadCount ?x_BadEnd ?k_BadEnd ?s_BadEnd ?t_BadEnd ?k_BadStep ?s_BadStep ?t_BadStep ?k_BadLog ?s_BadLog ?t_BadLog ?k_BadText ?s_BadText ?t_BadText ?gs_LE ?rd_LE ?fi_LE ?gx_n ?gx_t ?ga_BadStep ?gg_BadStep ?hx_BadStep ?ga_BadManners ?gg_BadManners ?hx_BadManners ?xl_BadStep ?sa_BadStep ?nx_BadStep_at ?gc_BadManners ?gm_BadManners ?ik_BadManners_0 ?ik_BadManners_1 ?ik_BadManners_2 ?ik_BadManners_3 ?ik_BadManners_4 ?ik_BadManners_5 ?ik_BadManners_6 ?ik_BadManners_7 ?ik_BadManners_8 ?iv_BadManners ?xm_BadManners ?gc_BadStep ?gm_BadStep ?ik_BadStep_0 ?ik_BadStep_1 ?ik_BadStep_2 ?ik_BadStep_3 ?ik_BadStep_4 ?ik_BadStep_5 ?ik_BadStep_6 ?ik_BadStep_7 ?ik_BadStep_8 ?iv_BadStep ?xm_BadStep ?tb_1 ?tb_2 ?tb_3 ?tb_4 ?hv_MOST ?hv_FIRST ?hv_LONGEST ?hv_STAYS ?hv_LOST ?hv_LAST ?hv_MOST_FRAME ?hv_SLOW ?hv_FAST ?hv_MOST_ITEMS ?hv_MOST_ITEM ?hv_MOST_ROWS ?hv_MOST_STEPS ?hv_MOST_FRAMES ?hd_FORMS ?kd_FORMS ?hu_FORMS_0 ?hu_FORMS_1 ?hu_FORMS_2 ?hu_FORMS_3 ?hu_FORMS_4 ?hu_FORMS_5 ?hu_FORMS_6 ?nf_FORMS_0 ?nf_FORMS_1 ?hd_BOUNDS ?kd_BOUNDS ?hu_BOUNDS_0 ?hw_BOUNDS_0 ?hu_BOUNDS_1 ?hw_BOUNDS_1 ?hu_BOUNDS_2 ?hw_BOUNDS_2 ?hu_BOUNDS_3 ?hw_BOUNDS_3 ?z_ValueError ?z_abs ?z_all ?z_bool ?z_enumerate ?z_int ?z_isinstance ?z_len ?z_list ?z_max ?z_min ?z_range ?z_set ?z_sorted ?z_str ?z_tuple
    (case hC_LineError => first | k_is | rfl)
    (case hC_BadManners => first | k_is | rfl)
    (case hC_BadItem => first | k_is | rfl)
    (case hC_Full => first | k_is | rfl)
    (case hC_BadPart => first | k_is | rfl)
    (case hC_BadCount => first | k_is | rfl)
    (case hC_BadEnd => first | k_is | rfl)
    (case hC_BadStep => first | k_is | rfl)
    (case hC_BadLog => first | k_is | rfl)
    (case hC_BadText => first | k_is | rfl)
    (case hC_Marks => first | k_is | rfl)
    (case hC_End => first | k_is | rfl)
    (case hC_Line => first | k_is | rfl)
    (case hg_is_between => first | k_is | rfl)
    (case hl_is_between => first | k_is | rfl)
    (case hc_is_between => first | k_is | rfl)
    (case hk_is_between => first | k_is | rfl)
    (case hg_are_manners => first | k_is | rfl)
    (case hl_are_manners => first | k_is | rfl)
    (case hc_are_manners => first | k_is | rfl)
    (case hk_are_manners => first | k_is | rfl)
    (case hg_need_manners => first | k_is | rfl)
    (case hl_need_manners => first | k_is | rfl)
    (case hc_need_manners => first | k_is | rfl)
    (case hk_need_manners => first | k_is | rfl)
    (case hg_chosen => first | k_is | rfl)
    (case hl_chosen => first | k_is | rfl)
    (case hc_chosen => first | k_is | rfl)
    (case hk_chosen => first | k_is | rfl)
    (case hg_need_manner => first | k_is | rfl)
    (case hl_need_manner => first | k_is | rfl)
    (case hc_need_manner => first | k_is | rfl)
    (case hk_need_manner => first | k_is | rfl)
    (case hg_need_end => first | k_is | rfl)
    (case hl_need_end => first | k_is | rfl)
    (case hc_need_end => first | k_is | rfl)
    (case hk_need_end => first | k_is | rfl)
    (case hg_is_row => first | k_is | rfl)
    (case hl_is_row => first | k_is | rfl)
    (case hc_is_row => first | k_is | rfl)
    (case hk_is_row => first | k_is | rfl)
    (case hg_need_log => first | k_is | rfl)
    (case hl_need_log => first | k_is | rfl)
    (case hc_need_log => first | k_is | rfl)
    (case hk_need_log => first | k_is | rfl)
    (case hg_stretches => first | k_is | rfl)
    (case hl_stretches => first | k_is | rfl)
    (case hc_stretches => first | k_is | rfl)
    (case hk_stretches => first | k_is | rfl)
    (case hg_is_field => first | k_is | rfl)
    (case hl_is_field => first | k_is | rfl)
    (case hc_is_field => first | k_is | rfl)
    (case hk_is_field => first | k_is | rfl)
    (case hg_is_step => first | k_is | rfl)
    (case hl_is_step => first | k_is | rfl)
    (case hc_is_step => first | k_is | rfl)
    (case hk_is_step => first | k_is | rfl)
    (case hg_need_steps => first | k_is | rfl)
    (case hl_need_steps => first | k_is | rfl)
    (case hc_need_steps => first | k_is | rfl)
    (case hk_need_steps => first | k_is | rfl)
    (case hg_done => first | k_is | rfl)
    (case hl_done => first | k_is | rfl)
    (case hc_done => first | k_is | rfl)
    (case hk_done => first | k_is | rfl)
    (case hg_arrange => first | k_is | rfl)
    (case hl_arrange => first | k_is | rfl)
    (case hc_arrange => first | k_is | rfl)
    (case hk_arrange => first | k_is | rfl)
    (case hg_played => first | k_is | rfl)
    (case hl_played => first | k_is | rfl)
    (case hc_played => first | k_is | rfl)
    (case hk_played => first | k_is | rfl)
    (case hg_word_of => first | k_is | rfl)
    (case hl_word_of => first | k_is | rfl)
    (case hc_word_of => first | k_is | rfl)
    (case hk_word_of => first | k_is | rfl)
    (case hg_lines_of => first | k_is | rfl)
    (case hl_lines_of => first | k_is | rfl)
    (case hc_lines_of => first | k_is | rfl)
    (case hk_lines_of => first | k_is | rfl)
    (case hg__law_dice => first | k_is | rfl)
    (case hl__law_dice => first | k_is | rfl)
    (case hc__law_dice => first | k_is | rfl)
    (case hk__law_dice => first | k_is | rfl)
    (case hg__law_off => first | k_is | rfl)
    (case hl__law_off => first | k_is | rfl)
    (case hc__law_off => first | k_is | rfl)
    (case hk__law_off => first | k_is | rfl)
    (case hg__law_alike => first | k_is | rfl)
    (case hl__law_alike => first | k_is | rfl)
    (case hc__law_alike => first | k_is | rfl)
    (case hk__law_alike => first | k_is | rfl)
    (case hg__law_word => first | k_is | rfl)
    (case hl__law_word => first | k_is | rfl)
    (case hc__law_word => first | k_is | rfl)
    (case hk__law_word => first | k_is | rfl)
    (case hg__law_can => first | k_is | rfl)
    (case hl__law_can => first | k_is | rfl)
    (case hc__law_can => first | k_is | rfl)
    (case hk__law_can => first | k_is | rfl)
    (case hg__law_step => first | k_is | rfl)
    (case hl__law_step => first | k_is | rfl)
    (case hc__law_step => first | k_is | rfl)
    (case hk__law_step => first | k_is | rfl)
    (case hg__law_steps => first | k_is | rfl)
    (case hl__law_steps => first | k_is | rfl)
    (case hc__law_steps => first | k_is | rfl)
    (case hk__law_steps => first | k_is | rfl)
    (case hg__law_no_step => first | k_is | rfl)
    (case hl__law_no_step => first | k_is | rfl)
    (case hc__law_no_step => first | k_is | rfl)
    (case hk__law_no_step => first | k_is | rfl)
    (case hg__law_tells => first | k_is | rfl)
    (case hl__law_tells => first | k_is | rfl)
    (case hc__law_tells => first | k_is | rfl)
    (case hk__law_tells => first | k_is | rfl)
    (case hg_law => first | k_is | rfl)
    (case hl_law => first | k_is | rfl)
    (case hc_law => first | k_is | rfl)
    (case hk_law => first | k_is | rfl)
    (case hg_BadStep_init => first | k_is | rfl)
    (case hi_BadStep_init => first | k_is | rfl)
    (case hl_BadStep_init => first | k_is | rfl)
    (case hc_BadStep_init => first | k_is | rfl)
    (case hk_BadStep_init => first | k_is | rfl)
    (case hg_Marks_init => first | k_is | rfl)
    (case hi_Marks_init => first | k_is | rfl)
    (case hl_Marks_init => first | k_is | rfl)
    (case hc_Marks_init => first | k_is | rfl)
    (case hk_Marks_init => first | k_is | rfl)
    (case hg_Marks_note => first | k_is | rfl)
    (case hi_Marks_note => first | k_is | rfl)
    (case hl_Marks_note => first | k_is | rfl)
    (case hc_Marks_note => first | k_is | rfl)
    (case hk_Marks_note => first | k_is | rfl)
    (case hg_Marks_bad => first | k_is | rfl)
    (case hi_Marks_bad => first | k_is | rfl)
    (case hl_Marks_bad => first | k_is | rfl)
    (case hc_Marks_bad => first | k_is | rfl)
    (case hk_Marks_bad => first | k_is | rfl)
    (case hg_End_init => first | k_is | rfl)
    (case hi_End_init => first | k_is | rfl)
    (case hl_End_init => first | k_is | rfl)
    (case hc_End_init => first | k_is | rfl)
    (case hk_End_init => first | k_is | rfl)
    (case hg_End_need_part => first | k_is | rfl)
    (case hi_End_need_part => first | k_is | rfl)
    (case hl_End_need_part => first | k_is | rfl)
    (case hc_End_need_part => first | k_is | rfl)
    (case hk_End_need_part => first | k_is | rfl)
    (case hg_End_refresh => first | k_is | rfl)
    (case hi_End_refresh => first | k_is | rfl)
    (case hl_End_refresh => first | k_is | rfl)
    (case hc_End_refresh => first | k_is | rfl)
    (case hk_End_refresh => first | k_is | rfl)
    (case hg_End_take => first | k_is | rfl)
    (case hi_End_take => first | k_is | rfl)
    (case hl_End_take => first | k_is | rfl)
    (case hc_End_take => first | k_is | rfl)
    (case hk_End_take => first | k_is | rfl)
    (case hg_End_say => first | k_is | rfl)
    (case hi_End_say => first | k_is | rfl)
    (case hl_End_say => first | k_is | rfl)
    (case hc_End_say => first | k_is | rfl)
    (case hk_End_say => first | k_is | rfl)
    (case hg_End_hear => first | k_is | rfl)
    (case hi_End_hear => first | k_is | rfl)
    (case hl_End_hear => first | k_is | rfl)
    (case hc_End_hear => first | k_is | rfl)
    (case hk_End_hear => first | k_is | rfl)
    (case hg_End_hear_slow => first | k_is | rfl)
    (case hi_End_hear_slow => first | k_is | rfl)
    (case hl_End_hear_slow => first | k_is | rfl)
    (case hc_End_hear_slow => first | k_is | rfl)
    (case hk_End_hear_slow => first | k_is | rfl)
    (case hg_End_hear_fast => first | k_is | rfl)
    (case hi_End_hear_fast => first | k_is | rfl)
    (case hl_End_hear_fast => first | k_is | rfl)
    (case hc_End_hear_fast => first | k_is | rfl)
    (case hk_End_hear_fast => first | k_is | rfl)
    (case hg_End_send => first | k_is | rfl)
    (case hi_End_send => first | k_is | rfl)
    (case hl_End_send => first | k_is | rfl)
    (case hc_End_send => first | k_is | rfl)
    (case hk_End_send => first | k_is | rfl)
    (case hg_End_got => first | k_is | rfl)
    (case hi_End_got => first | k_is | rfl)
    (case hl_End_got => first | k_is | rfl)
    (case hc_End_got => first | k_is | rfl)
    (case hk_End_got => first | k_is | rfl)
    (case hg_End_left => first | k_is | rfl)
    (case hi_End_left => first | k_is | rfl)
    (case hl_End_left => first | k_is | rfl)
    (case hc_End_left => first | k_is | rfl)
    (case hk_End_left => first | k_is | rfl)
    (case hg_End_stands => first | k_is | rfl)
    (case hi_End_stands => first | k_is | rfl)
    (case hl_End_stands => first | k_is | rfl)
    (case hc_End_stands => first | k_is | rfl)
    (case hk_End_stands => first | k_is | rfl)
    (case hg_Line_init => first | k_is | rfl)
    (case hi_Line_init => first | k_is | rfl)
    (case hl_Line_init => first | k_is | rfl)
    (case hc_Line_init => first | k_is | rfl)
    (case hk_Line_init => first | k_is | rfl)
    (case hg_Line_let_pass => first | k_is | rfl)
    (case hi_Line_let_pass => first | k_is | rfl)
    (case hl_Line_let_pass => first | k_is | rfl)
    (case hc_Line_let_pass => first | k_is | rfl)
    (case hk_Line_let_pass => first | k_is | rfl)
    (case hg_Line_lose => first | k_is | rfl)
    (case hi_Line_lose => first | k_is | rfl)
    (case hl_Line_lose => first | k_is | rfl)
    (case hc_Line_lose => first | k_is | rfl)
    (case hk_Line_lose => first | k_is | rfl)
    (case hg_Line_send => first | k_is | rfl)
    (case hi_Line_send => first | k_is | rfl)
    (case hl_Line_send => first | k_is | rfl)
    (case hc_Line_send => first | k_is | rfl)
    (case hk_Line_send => first | k_is | rfl)
    (case hg_Line_carry => first | k_is | rfl)
    (case hi_Line_carry => first | k_is | rfl)
    (case hl_Line_carry => first | k_is | rfl)
    (case hc_Line_carry => first | k_is | rfl)
    (case hk_Line_carry => first | k_is | rfl)
    (case hg_Line_frame => first | k_is | rfl)
    (case hi_Line_frame => first | k_is | rfl)
    (case hl_Line_frame => first | k_is | rfl)
    (case hc_Line_frame => first | k_is | rfl)
    (case hk_Line_frame => first | k_is | rfl)
    (case hg_Line_log => first | k_is | rfl)
    (case hi_Line_log => first | k_is | rfl)
    (case hl_Line_log => first | k_is | rfl)
    (case hc_Line_log => first | k_is | rfl)
    (case hk_Line_log => first | k_is | rfl)
    (case hg_Line_got => first | k_is | rfl)
    (case hi_Line_got => first | k_is | rfl)
    (case hl_Line_got => first | k_is | rfl)
    (case hc_Line_got => first | k_is | rfl)
    (case hk_Line_got => first | k_is | rfl)
    (case hg_Line_left => first | k_is | rfl)
    (case hi_Line_left => first | k_is | rfl)
    (case hl_Line_left => first | k_is | rfl)
    (case hc_Line_left => first | k_is | rfl)
    (case hk_Line_left => first | k_is | rfl)
    (case pg_Marks => first | k_is | rfl)
    (case hd_Marks => first | k_is | rfl)
    (case po_Marks => first | k_is | rfl)
    (case mk_Marks => first | k_is | rfl)
    (case kc_Marks => first | k_is | rfl)
    (case sa_Marks => first | k_is | rfl)
    (case no_Marks_waits => first | k_is | rfl)
    (case no_Marks_until => first | k_is | rfl)
    (case no_Marks_runs => first | k_is | rfl)
    (case no_Marks_tries => first | k_is | rfl)
    (case pg_End => first | k_is | rfl)
    (case hd_End => first | k_is | rfl)
    (case po_End => first | k_is | rfl)
    (case mk_End => first | k_is | rfl)
    (case kc_End => first | k_is | rfl)
    (case sa_End => first | k_is | rfl)
    (case no_End_can => first | k_is | rfl)
    (case no_End_marks => first | k_is | rfl)
    (case no_End_over => first | k_is | rfl)
    (case no_End_version => first | k_is | rfl)
    (case no_End_mind => first | k_is | rfl)
    (case no_End_other => first | k_is | rfl)
    (case no_End_seen => first | k_is | rfl)
    (case no_End_known => first | k_is | rfl)
    (case no_End_ready => first | k_is | rfl)
    (case no_End_now => first | k_is | rfl)
    (case no_End_joined => first | k_is | rfl)
    (case no_End_waiting => first | k_is | rfl)
    (case no_End_count => first | k_is | rfl)
    (case no_End_gathered => first | k_is | rfl)
    (case no_End_part => first | k_is | rfl)
    (case pg_Line => first | k_is | rfl)
    (case hd_Line => first | k_is | rfl)
    (case po_Line => first | k_is | rfl)
    (case mk_Line => first | k_is | rfl)
    (case kc_Line => first | k_is | rfl)
    (case sa_Line => first | k_is | rfl)
    (case no_Line_ends => first | k_is | rfl)
    (case no_Line_passing => first | k_is | rfl)
    (case no_Line_lost => first | k_is | rfl)
    (case no_Line_rows => first | k_is | rfl)
    (case x_LineError => k_exc)
    (case k_LineError => first | k_is | rfl)
    (case s_LineError => first | k_is | rfl)
    (case t_LineError => first | k_is | rfl)
    (case x_BadManners => k_exc)
    (case k_BadManners => first | k_is | rfl)
    (case s_BadManners => first | k_is | rfl)
    (case t_BadManners => first | k_is | rfl)
    (case x_BadItem => k_exc)
    (case k_BadItem => first | k_is | rfl)
    (case s_BadItem => first | k_is | rfl)
    (case t_BadItem => first | k_is | rfl)
    (case x_Full => k_exc)
    (case q_Full => first | k_is | rfl)
    (case k_Full => first | k_is | rfl)
    (case s_Full => first | k_is | rfl)
    (case t_Full => first | k_is | rfl)
    (case x_BadPart => k_exc)
    (case k_BadPart => first | k_is | rfl)
    (case s_BadPart => first | k_is | rfl)
    (case t_BadPart => first | k_is | rfl)
    (case x_BadCount => k_exc)
    (case k_BadCount => first | k_is | rfl)
    (case s_BadCount => first | k_is | rfl)
    (case t_BadCount => first | k_is | rfl)
    (case x_BadEnd => k_exc)
    (case k_BadEnd => first | k_is | rfl)
    (case s_BadEnd => first | k_is | rfl)
    (case t_BadEnd => first | k_is | rfl)
    (case k_BadStep => first | k_is | rfl)
    (case s_BadStep => first | k_is | rfl)
    (case t_BadStep => first | k_is | rfl)
    (case k_BadLog => first | k_is | rfl)
    (case s_BadLog => first | k_is | rfl)
    (case t_BadLog => first | k_is | rfl)
    (case k_BadText => first | k_is | rfl)
    (case s_BadText => first | k_is | rfl)
    (case t_BadText => first | k_is | rfl)
    (case gs_LE => first | k_is | rfl)
    (case rd_LE => first | k_is | rfl)
    (case fi_LE => first | k_is | rfl)
    (case gx_n => first | k_is | rfl)
    (case gx_t => first | k_is | rfl)
    (case ga_BadStep => first | k_is | rfl)
    (case gg_BadStep => first | k_is | rfl)
    (case hx_BadStep => first | k_is | rfl)
    (case ga_BadManners => first | k_is | rfl)
    (case gg_BadManners => first | k_is | rfl)
    (case hx_BadManners => first | k_is | rfl)
    (case xl_BadStep => first | k_is | rfl)
    (case sa_BadStep => first | k_is | rfl)
    (case nx_BadStep_at => first | k_is | rfl)
    (case gc_BadManners => first | k_is | rfl)
    (case gm_BadManners => first | k_is | rfl)
    (case ik_BadManners_0 => first | k_is | rfl)
    (case ik_BadManners_1 => first | k_is | rfl)
    (case ik_BadManners_2 => first | k_is | rfl)
    (case ik_BadManners_3 => first | k_is | rfl)
    (case ik_BadManners_4 => first | k_is | rfl)
    (case ik_BadManners_5 => first | k_is | rfl)
    (case ik_BadManners_6 => first | k_is | rfl)
    (case ik_BadManners_7 => first | k_is | rfl)
    (case ik_BadManners_8 => first | k_is | rfl)
    (case iv_BadManners => first | k_is | rfl)
    (case xm_BadManners => first | k_is | rfl)
    (case gc_BadStep => first | k_is | rfl)
    (case gm_BadStep => first | k_is | rfl)
    (case ik_BadStep_0 => first | k_is | rfl)
    (case ik_BadStep_1 => first | k_is | rfl)
    (case ik_BadStep_2 => first | k_is | rfl)
    (case ik_BadStep_3 => first | k_is | rfl)
    (case ik_BadStep_4 => first | k_is | rfl)
    (case ik_BadStep_5 => first | k_is | rfl)
    (case ik_BadStep_6 => first | k_is | rfl)
    (case ik_BadStep_7 => first | k_is | rfl)
    (case ik_BadStep_8 => first | k_is | rfl)
    (case iv_BadStep => first | k_is | rfl)
    (case xm_BadStep => first | k_is | rfl)
    (case tb_1 => first | k_is | rfl)
    (case tb_2 => first | k_is | rfl)
    (case tb_3 => first | k_is | rfl)
    (case tb_4 => first | k_is | rfl)
    (case hv_MOST => first | k_is | rfl)
    (case hv_FIRST => first | k_is | rfl)
    (case hv_LONGEST => first | k_is | rfl)
    (case hv_STAYS => first | k_is | rfl)
    (case hv_LOST => first | k_is | rfl)
    (case hv_LAST => first | k_is | rfl)
    (case hv_MOST_FRAME => first | k_is | rfl)
    (case hv_SLOW => first | k_is | rfl)
    (case hv_FAST => first | k_is | rfl)
    (case hv_MOST_ITEMS => first | k_is | rfl)
    (case hv_MOST_ITEM => first | k_is | rfl)
    (case hv_MOST_ROWS => first | k_is | rfl)
    (case hv_MOST_STEPS => first | k_is | rfl)
    (case hv_MOST_FRAMES => first | k_is | rfl)
    (case hd_FORMS => first | k_is | rfl)
    (case kd_FORMS => first | k_is | rfl)
    (case hu_FORMS_0 => first | k_is | rfl)
    (case hu_FORMS_1 => first | k_is | rfl)
    (case hu_FORMS_2 => first | k_is | rfl)
    (case hu_FORMS_3 => first | k_is | rfl)
    (case hu_FORMS_4 => first | k_is | rfl)
    (case hu_FORMS_5 => first | k_is | rfl)
    (case hu_FORMS_6 => first | k_is | rfl)
    (case nf_FORMS_0 => first | k_is | rfl)
    (case nf_FORMS_1 => first | k_is | rfl)
    (case hd_BOUNDS => first | k_is | rfl)
    (case kd_BOUNDS => first | k_is | rfl)
    (case hu_BOUNDS_0 => first | k_is | rfl)
    (case hw_BOUNDS_0 => first | k_is | rfl)
    (case hu_BOUNDS_1 => first | k_is | rfl)
    (case hw_BOUNDS_1 => first | k_is | rfl)
    (case hu_BOUNDS_2 => first | k_is | rfl)
    (case hw_BOUNDS_2 => first | k_is | rfl)
    (case hu_BOUNDS_3 => first | k_is | rfl)
    (case hw_BOUNDS_3 => first | k_is | rfl)
    (case z_ValueError => first | k_is | rfl)
    (case z_abs => first | k_is | rfl)
    (case z_all => first | k_is | rfl)
    (case z_bool => first | k_is | rfl)
    (case z_enumerate => first | k_is | rfl)
    (case z_int => first | k_is | rfl)
    (case z_isinstance => first | k_is | rfl)
    (case z_len => first | k_is | rfl)
    (case z_list => first | k_is | rfl)
    (case z_max => first | k_is | rfl)
    (case z_min => first | k_is | rfl)
    (case z_range => first | k_is | rfl)
    (case z_set => first | k_is | rfl)
    (case z_sorted => first | k_is | rfl)
    (case z_str => first | k_is | rfl)
    (case z_tuple => first | k_is | rfl)
