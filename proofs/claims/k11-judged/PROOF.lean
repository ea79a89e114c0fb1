import PyProof.Rows.All
import Wide.All
import OpenK.AllK
import Wide.FinOn
import HandS.ForMost
import HandS.Exc
import HandS.TryOnly
import HandS.ExcOwn
import HandS.WordsExc
import HandS.IsInst
import HandS.TupAny
import HandS.SetFor
import HandS.Strs
import HandS.Steps
import HandS.Style
import HandS.Deep
import HandS.Conv
import HandS.More
import HandS.HeadHook3
import KE.GoesNew
import KE.KExcIs
import HandS.ExcIs
import HandS.ExcField
import HandS.ExcInit
import HandS.Lambda
import HandS.EndOwn
import HandS.Nested
import KE.KDflt
import PySem.Challenge.RW_trainline_k11_logs_judged
set_option Elab.async false
set_option linter.all false
set_option maxRecDepth 100000
set_option maxHeartbeats 4000000
namespace TL
open PySem PySem.Spec PyProof.Rows L2
/-! ### heaps -/
/-- what was tracked and isn't in S stays; tuples stay; nothing goes -/
structure Frm (S : List Addr) (H H' : Hp) : Prop where
  keep : ∀ b o, H b = some o → b ∉ S → H' b = some o
  tups : ∀ b ys, H b = some (.tup ys) → H' b = some (.tup ys)
  there : ∀ b o, H b = some o → ∃ o', H' b = some o'
instance {S : List Addr} {H H' : Hp} : CoeFun (Frm S H H') (fun _ => ∀ b o, H b = some o → b ∉ S → H' b = some o) := ⟨Frm.keep⟩
theorem Frm.refl (S : List Addr) (H : Hp) : Frm S H H := ⟨fun _ _ e _ => e, fun _ _ e => e, fun _ o e => ⟨o, e⟩⟩
theorem Frm.trans {S : List Addr} {H H1 H2 : Hp} (a : Frm S H H1) (b : Frm S H1 H2) : Frm S H H2 := ⟨fun c o e h => b.keep c o (a.keep c o e h) h, fun c o e => b.tups c o (a.tups c o e), fun c o e => let ⟨o', e'⟩ := a.there c o e; b.there c o' e'⟩
theorem Frm.mono {S S' : List Addr} {H H1 : Hp} (a : Frm S H H1) (h : ∀ x ∈ S, x ∈ S') : Frm S' H H1 := ⟨fun c o e hn => a.keep c o e fun z => hn (h _ z), a.tups, a.there⟩
theorem Frm.of_same {S : List Addr} {H H1 : Hp} (a : Same H H1) : Frm S H H1 := ⟨fun c o e _ => a c o e, fun c o e => a c _ e, fun c o e => ⟨o, a c o e⟩⟩
theorem Frm.same {H H1 : Hp} (a : Frm [] H H1) : Same H H1 := fun c o e => a.keep c o e (by simp)
theorem upd_there {H : Hp} {d b : Addr} {o u : HO} (e : H b = some u) : ∃ o', L2.upd H d o b = some o' := by
  by_cases h : b = d
  · subst h; exact ⟨o, upd_same⟩
  · exact ⟨u, by rw [upd_ne h]; exact e⟩
/-- something that is no tuple is written -/
theorem Frm.updN {H : Hp} {d : Addr} {o : HO} (n : ∀ ys, H d ≠ some (.tup ys)) : Frm [d] H (L2.upd H d o) := ⟨fun b u e h => by
  rw [upd_ne (fun z => h (by simp [z]))]
  exact e, fun b ys e => by
  rw [upd_ne (fun z => by rw [z] at e; exact n ys e)]
  exact e, fun b u e => upd_there e⟩
theorem Frm.updL {H : Hp} {d : Addr} {o : HO} {xs : List V} (h : H d = some (.lst xs)) : Frm [d] H (L2.upd H d o) := Frm.updN fun ys z => by rw [h] at z; cases z
theorem Frm.updI {H : Hp} {d C dx : Addr} {o : HO} {fs : List (Str × V)} (h : H d = some (.ins C dx fs)) : Frm [d] H (L2.upd H d o) := Frm.updN fun ys z => by rw [h] at z; cases z
theorem Frm.updK {H : Hp} {d : Addr} {o : HO} {kvs : List (Key × V)} (h : H d = some (.dK kvs)) : Frm [d] H (L2.upd H d o) := Frm.updN fun ys z => by rw [h] at z; cases z
theorem Frm.new {S : List Addr} {H : Hp} {p : Addr} {o : HO} (n : H p = none) : Frm S H (L2.upd H p o) := ⟨fun b u e _ => by
  rw [upd_ne (ne_of_none e n)]
  exact e, fun b u e => by
  rw [upd_ne (ne_of_none e n)]
  exact e, fun b u e => upd_there e⟩
/-- what is written was made since: all that stood ahead stands -/
theorem Frm.own {S : List Addr} {H H1 H2 : Hp} (a : Frm S H H1) {l : Addr} (hl : H l = none) (b : Frm [l] H1 H2) : Frm S H H2 := ⟨fun c o e h => b.keep c o (a.keep c o e h) (by
  simp only [List.mem_singleton]
  exact ne_of_none e hl), fun c o e => b.tups c o (a.tups c o e), fun c o e => let ⟨o', e'⟩ := a.there c o e; b.there c o' e'⟩
theorem Frm.free {S : List Addr} {H H1 : Hp} (a : Frm S H H1) {l : Addr} (h : H1 l = none) : H l = none := by
  cases q : H l with
  | none => rfl
  | some o =>
    obtain ⟨o', e⟩ := a.there l o q
    rw [e] at h
    cases h
/-- all that S names stands -/
def Alloc (S : List Addr) (H : Hp) : Prop := ∀ z ∈ S, ∃ o, H z = some o
theorem Alloc.frm {S Z : List Addr} {H H' : Hp} (a : Alloc Z H) (f : Frm S H H') : Alloc Z H' := fun z hz => let ⟨o, e⟩ := a z hz; f.there z o e
theorem Alloc.not {Z : List Addr} {H : Hp} (a : Alloc Z H) {l : Addr} (h : H l = none) : l ∉ Z := fun z => by
  obtain ⟨o, e⟩ := a l z
  rw [h] at e
  cases e
/-! ### attributes by their places -/
theorem zip_lookup : ∀ {N : List Str} {vs : List V} {i : Nat} {f : Str} {v : V}, N.Nodup → N[i]? = some f → vs[i]? = some v → (N.zip vs).lookup f = some v
  | [], _, _, _, _, _, h, _ => by simp at h
  | _ :: _, [], _, _, _, _, _, h => by simp at h
  | n :: N, x :: vs, 0, f, v, nd, h, g => by
    simp at h g
    subst h g
    simp [List.lookup]
  | n :: N, x :: vs, i + 1, f, v, nd, h, g => by
    rw [List.nodup_cons] at nd
    simp at h g
    have hne : (f == n) = false := by
      rw [beq_eq_false_iff_ne]
      rintro rfl
      exact nd.1 (List.mem_of_getElem? h)
    rw [List.zip_cons_cons, List.lookup, hne]
    exact zip_lookup nd.2 h g
theorem zip_no : ∀ {N : List Str} {vs : List V} {f : Str}, f ∉ N → (N.zip vs).lookup f = none
  | [], _, _, _ => rfl
  | _ :: _, [], _, _ => rfl
  | n :: N, x :: vs, f, h => by
    simp at h
    have hne : (f == n) = false := by rw [beq_eq_false_iff_ne]; exact h.1
    rw [List.zip_cons_cons, List.lookup, hne]
    exact zip_no h.2
/-- an attribute is stored again -/
theorem zip_put : ∀ {N : List Str} {vs : List V} {i : Nat} {f : Str} {v : V}, N.Nodup → N[i]? = some f → i < vs.length → putF f v (N.zip vs) = N.zip (vs.set i v)
  | [], _, _, _, _, _, h, _ => by simp at h
  | _ :: _, [], _, _, _, _, _, h => by simp at h
  | n :: N, x :: vs, 0, f, v, nd, h, g => by
    simp at h
    subst h
    simp [putF]
  | n :: N, x :: vs, i + 1, f, v, nd, h, g => by
    rw [List.nodup_cons] at nd
    simp at h g
    have hne : ¬ n = f := by
      rintro rfl
      exact nd.1 (List.mem_of_getElem? h)
    rw [List.zip_cons_cons]
    show (if n = f then _ else _) = _
    rw [if_neg hne, zip_put nd.2 h g]
    rfl
/-- an attribute is stored for the first time, the next by its place -/
theorem zip_add : ∀ {N : List Str} {vs : List V} {f : Str} {v : V}, N.Nodup → N[vs.length]? = some f → putF f v (N.zip vs) = N.zip (vs ++ [v])
  | [], _, _, _, _, h => by simp at h
  | n :: N, [], f, v, nd, h => by
    simp at h
    subst h
    simp [putF]
  | n :: N, x :: vs, f, v, nd, h => by
    rw [List.nodup_cons] at nd
    simp at h
    have hne : ¬ n = f := by
      rintro rfl
      exact nd.1 (List.mem_of_getElem? h)
    rw [List.zip_cons_cons]
    show (if n = f then _ else _) = _
    rw [if_neg hne, zip_add nd.2 h]
    rfl
theorem zip_small {N : List Str} {vs : List V} (h : N.length < 1000) : (N.zip vs).length < 1000 := by
  rw [List.length_zip]
  omega
theorem Same.upd_new {H : Hp} {p : Addr} {o : HO} (n : H p = none) : Same H (L2.upd H p o) := fun b u e => by
  rw [upd_ne (ne_of_none e n)]
  exact e
/-- a tuple isn't among what may be written -/
theorem iteD {p A B : Prop} [Decidable p] (h1 : p → A) (h2 : ¬ p → B) : if decide p = true then A else B := by
  by_cases h : p
  · rw [if_pos (decide_eq_true h)]
    exact h1 h
  · rw [if_neg (by simp [h])]
    exact h2 h
theorem iteN {p A B : Prop} [Decidable p] (h1 : ¬ p → A) (h2 : p → B) : if (!decide p) = true then A else B := by
  by_cases h : p
  · rw [if_neg (by simp [h])]
    exact h2 h
  · rw [if_pos (by simp [h])]
    exact h1 h
theorem iteB {b : Bool} {A B : Prop} (h1 : b = true → A) (h2 : b = false → B) : if b = true then A else B := by
  cases b
  · rw [if_neg (by simp)]; exact h2 rfl
  · rw [if_pos rfl]; exact h1 rfl
theorem vint_inj {i j : Int} : (V.int i = V.int j) ↔ i = j := ⟨fun h => by cases h; rfl, fun h => by rw [h]⟩
theorem getmap {α : Type} {f : α → V} {ns : List α} {i : Nat} {y : V} (h : (ns.map f)[i]? = some y) : ∃ z, ns[i]? = some z ∧ y = f z := by
  rw [List.getElem?_map] at h
  cases e : ns[i]? with
  | none => rw [e] at h; cases h
  | some z => rw [e] at h; exact ⟨z, rfl, (Option.some.inj h).symm⟩
theorem take_more {α : Type} : ∀ {l : List α} {i : Nat} {x : α}, l[i]? = some x → l.take (i + 1) = l.take i ++ [x]
  | [], i, x, h => by simp at h
  | a :: l, 0, x, h => by
    have e : a = x := Option.some.inj h
    subst e
    rfl
  | a :: l, i + 1, x, h => by
    have ih := take_more (l := l) (i := i) (x := x) h
    show a :: l.take (i + 1) = a :: l.take i ++ [x]
    rw [ih]
    rfl
/-! ### loops over enumerate(..) -/
/-- the invariant of a for over J -/
abbrev ForW (J : It) (g : TG) (tb : TS) (D : Ends) (σ : L2.St) (H : Hp) : Prop :=
  ∃ W : Nat → Nat → L2.St → Hp → Prop, (∃ m, W 0 m σ H) ∧ ∀ i m σ H, W i m σ H → (J.stop i H ∧ D.nx σ H) ∨
    (J.go i H ∧ ∃ N : L2.St → Hp → Prop, (∀ σ' H', N σ' H' → ∃ m', m' < m ∧ W (i + 1) m' σ' H') ∧ ∀ x H', J.yld i H x H' → g x σ H' fun σ2 H2 => tb { D with nx := N, ct := N, bk := D.nx } σ2 H2)
abbrev LcW (J : It) (g : TG) (tt : TT) (te : TE) (vs : List Nat) (σ : L2.St) (H1 : Hp) (D : Addr) (Qd : Hp → Prop) : Prop :=
  ∃ W : Nat → Nat → Hp → Prop, (∃ m, W 0 m (upd H1 D (.lst []))) ∧ ∀ i m H, W i m H → (J.stop i H ∧ Qd H) ∨
    (J.go i H ∧ ∃ Nx : Hp → Prop, (∀ H', Nx H' → ∃ m', m' < m ∧ W (i + 1) m' H') ∧ ∀ x H', J.yld i H x H' → g x (wipe σ vs) H' fun σ2 H2 => wipe σ2 vs = wipe σ vs ∧ tt σ2 H2 fun b H3 =>
      if b = true then te σ2 H3 fun y H4 => ∃ acc, H4 D = some (.lst acc) ∧ acc.length < sizeLine ∧ Nx (upd H4 D (.lst (acc ++ [y]))) else Nx H3)
theorem for_enum {K : PySem.W.Frag} {a : Addr} {xs : List V} {g : TG} {tb : TS} {D : Ends} {σ : L2.St} {H : Hp} (Pv : Nat → L2.St → Hp → Prop) (h0 : Pv 0 σ H) (hl : ∀ i σ H, i ≤ xs.length → Pv i σ H → SqL K H a xs)
    (hs : ∀ (i : Nat) (x : V) (T : Addr) (σ : L2.St) (H : Hp), xs[i]? = some x → Pv i σ H → H T = none → g (.ref T) σ (upd H T (.tup [.int (i : Nat), x])) fun σ2 H2 => tb { D with nx := Pv (i + 1), ct := Pv (i + 1), bk := D.nx } σ2 H2)
    (hd : ∀ σ H, Pv xs.length σ H → D.nx σ H) : ForW (Ite K a) g tb D σ H := by
  refine ⟨fun i m σ H => m = xs.length - i ∧ i ≤ xs.length ∧ Pv i σ H, ⟨_, rfl, Nat.zero_le _, h0⟩, fun i m σ H hw => ?_⟩
  obtain ⟨rfl, hi, p⟩ := hw
  have q := hl i σ H hi p
  rcases Nat.lt_or_ge i xs.length with hlt | hge
  · refine .inr ⟨⟨xs, xs[i], q, by simp [hlt]⟩, Pv (i + 1), fun σ' H' p' => ⟨xs.length - (i + 1), by omega, rfl, hlt, p'⟩, fun v H' y => ?_⟩
    obtain ⟨T, x, rfl, hT, rfl, hx⟩ := y
    exact hs i x T σ H (hx xs q) p hT
  · have e : i = xs.length := by omega
    subst e
    exact .inl ⟨⟨xs, q, Nat.le_refl _⟩, hd σ H p⟩
theorem lc_enum {K : PySem.W.Frag} {a : Addr} {xs : List V} {g : TG} {tt : TT} {te : TE} {vs : List Nat} {σ : L2.St} {H1 : Hp} {D : Addr} {Qd : Hp → Prop} (Pv : Nat → Hp → Prop) (h0 : Pv 0 (upd H1 D (.lst []))) (hl : ∀ i H, i ≤ xs.length → Pv i H → SqL K H a xs)
    (hs : ∀ (i : Nat) (x : V) (T : Addr) (H : Hp), xs[i]? = some x → Pv i H → H T = none → g (.ref T) (wipe σ vs) (upd H T (.tup [.int (i : Nat), x])) fun σ2 H2 => wipe σ2 vs = wipe σ vs ∧ tt σ2 H2 fun b H3 =>
      if b = true then te σ2 H3 fun y H4 => ∃ acc, H4 D = some (.lst acc) ∧ acc.length < sizeLine ∧ Pv (i + 1) (upd H4 D (.lst (acc ++ [y]))) else Pv (i + 1) H3)
    (hd : ∀ H, Pv xs.length H → Qd H) : LcW (Ite K a) g tt te vs σ H1 D Qd := by
  refine ⟨fun i m H => m = xs.length - i ∧ i ≤ xs.length ∧ Pv i H, ⟨_, rfl, Nat.zero_le _, h0⟩, fun i m H hw => ?_⟩
  obtain ⟨rfl, hi, p⟩ := hw
  have q := hl i H hi p
  rcases Nat.lt_or_ge i xs.length with hlt | hge
  · refine .inr ⟨⟨xs, xs[i], q, by simp [hlt]⟩, Pv (i + 1), fun H' p' => ⟨xs.length - (i + 1), by omega, rfl, hlt, p'⟩, fun v H' y => ?_⟩
    obtain ⟨T, x, rfl, hT, rfl, hx⟩ := y
    exact hs i x T H (hx xs q) p hT
  · have e : i = xs.length := by omega
    subst e
    exact .inl ⟨⟨xs, q, Nat.le_refl _⟩, hd H p⟩
/-! ### o.f as one of several targets -/
def gFld (K : PySem.W.Frag) (to : TE) (f : Str) : TG := fun v σ H Q => to σ H fun x H1 => ∃ a C dx fs, x = .ref a ∧ H1 a = some (.ins C dx fs) ∧ Cls K C ∧ NoAttr K C f ∧ fs.length < 1000 ∧ Q σ (upd H1 a (.ins C dx (putF f v fs)))
theorem pg_fld {X : Cx} {o : Expr} {f : Str} {pos : Pos} {to : TE} (ho : PE X o to) : PG X (.Attribute o f pos) (gFld X.K to f) := by
  refine ⟨fun pins s σ H v u Q I r h => ?_⟩
  rw [assign_Attribute]
  refine wpAny_bind (wpAny_holding (thn (ho.run pins s σ H _ I h) fun ov s1 ⟨x, H1, I1, rx, a, C, dx, fs, ex, ea, c, n, l, q⟩ => ?_))
  subst ex
  obtain rfl : ov = Value.ref a := rx
  refine wpAny_bind (wpAny_standAt (wpAny_bind (wpAny_holding (setattr_ok I1 ea c n l r fun s2 I2 => ?_))))
  exact wpAny_release ⟨σ, _, I2, q⟩
/-! ### a comprehension within a comprehension -/
def FrIn (sc : Scope) : List Str → Prop
  | [] => True
  | n :: r => (sc.names.lookup n = some .cell ∨ sc.names.lookup n = some .free) ∧ FrIn sc r
def frees (scope : Scope) : List Str := (scope.names.filter fun y => y.2 == .free).map (·.1)
def blkD (N : List Str) (scope : Scope) (own : List (Str × Nat)) : Bool :=
  (match scope.kind with | .function => true | _ => false) && (scope.names.all fun y => decide (scope.names.lookup y.1 = some y.2)) && (own.all fun p => decide (N[p.2]? = some p.1)) &&
    (scope.names.all fun y => match y.2 with
      | .local => decide (y.1 ∈ own.map (·.1)) || decide (y.1 ∉ N)
      | .cell => decide (y.1 ∈ own.map (·.1)) || decide (y.1 ∉ N)
      | _ => true)
theorem FrIn.of {sc : Scope} : ∀ {l : List Str} {n : Str}, FrIn sc l → n ∈ l → sc.names.lookup n = some .cell ∨ sc.names.lookup n = some .free
  | [], _, _, h => by simp at h
  | a :: r, n, f, h => by
    rcases List.mem_cons.mp h with rfl | h
    · exact f.1
    · exact FrIn.of f.2 h
theorem blkOk_in {N : List Str} {sc scope : Scope} {own : List (Str × Nat)} (h : blkD N scope own = true) (hf : FrIn sc (frees scope)) : BlkOk N sc scope own := by
  unfold blkD at h
  simp only [Bool.and_eq_true, List.all_eq_true, decide_eq_true_eq] at h
  obtain ⟨⟨⟨h1, h2⟩, h3⟩, h4⟩ := h
  refine ⟨?_, h2, h3, fun y hy e => ?_, fun y hy e => ?_⟩
  · split at h1
    · assumption
    · cases h1
  · refine hf.of ?_
    unfold frees
    rw [List.mem_map]
    exact ⟨y, by rw [List.mem_filter]; exact ⟨hy, by rw [e]; rfl⟩, rfl⟩
  · have q := h4 y hy
    rcases e with e | e
    · rw [e] at q
      simpa using q
    · rw [e] at q
      simpa using q
/-- a comprehension over a list of two -/
theorem lc_two {K : PySem.W.Frag} {a : Addr} {v0 v1 : V} {g : TG} {tt : TT} {te : TE} {vs : List Nat} {σ : L2.St} {H1 : Hp} {D : Addr} {Qd : Hp → Prop} (P0 P1 P2 : Hp → Prop) (h0 : P0 (upd H1 D (.lst []))) (l0 : ∀ H, P0 H → SqL K H a [v0, v1]) (l1 : ∀ H, P1 H → SqL K H a [v0, v1]) (l2 : ∀ H, P2 H → SqL K H a [v0, v1])
    (s0 : ∀ H, P0 H → g v0 (wipe σ vs) H fun σ2 H2 => wipe σ2 vs = wipe σ vs ∧ tt σ2 H2 fun b H3 => if b = true then te σ2 H3 fun y H4 => ∃ acc, H4 D = some (.lst acc) ∧ acc.length < sizeLine ∧ P1 (upd H4 D (.lst (acc ++ [y]))) else P1 H3)
    (s1 : ∀ H, P1 H → g v1 (wipe σ vs) H fun σ2 H2 => wipe σ2 vs = wipe σ vs ∧ tt σ2 H2 fun b H3 => if b = true then te σ2 H3 fun y H4 => ∃ acc, H4 D = some (.lst acc) ∧ acc.length < sizeLine ∧ P2 (upd H4 D (.lst (acc ++ [y]))) else P2 H3)
    (hd : ∀ H, P2 H → Qd H) : LcW (Itl K a) g tt te vs σ H1 D Qd := by
  refine lc_list (K := K) (a := a) (xs := [v0, v1]) (fun i H => match i with | 0 => P0 H | 1 => P1 H | _ => P2 H) h0 ?_ ?_ hd
  · intro i H hi p
    match i, p with
    | 0, p => exact l0 H p
    | 1, p => exact l1 H p
    | _ + 2, p => exact l2 H p
  · intro i x H hx p
    match i, hx, p with
    | 0, hx, p =>
      have e : v0 = x := Option.some.inj hx
      subst e
      exact s0 H p
    | 1, hx, p =>
      have e : v1 = x := Option.some.inj hx
      subst e
      exact s1 H p
    | n + 2, hx, p => simp at hx
/-- a loop over 0, 1 -/
theorem for_two {g : TG} {tb : TS} {D : Ends} {σ : L2.St} {H : Hp} (P0 P1 P2 : L2.St → Hp → Prop) (h0 : P0 σ H)
    (s0 : ∀ σ H, P0 σ H → g (.int 0) σ H fun σ2 H2 => tb { D with nx := P1, ct := P1, bk := D.nx } σ2 H2)
    (s1 : ∀ σ H, P1 σ H → g (.int 1) σ H fun σ2 H2 => tb { D with nx := P2, ct := P2, bk := D.nx } σ2 H2)
    (hd : ∀ σ H, P2 σ H → D.nx σ H) : ForW (Itr 0 2) g tb D σ H := by
  refine for_range (lo := 0) (n := 2) (fun i σ H => match i with | 0 => P0 σ H | 1 => P1 σ H | _ => P2 σ H) h0 ?_ hd
  intro i σ H hi p
  match i, hi, p with
  | 0, _, p => exact s0 σ H p
  | 1, _, p => exact s1 σ H p
/-! ### where ways come together -/
/-- behind t N holds, and from N on the rest goes -/
def tCut (t : TS) : TS := fun D σ H => ∃ N : L2.St → Hp → Prop, t { D with nx := N } σ H ∧ ∀ σ' H', N σ' H' → D.nx σ' H'
theorem ps_cut {X : Cx} {st : Stmt} {t : TS} (h : PS X st t) : PS X st (tCut t) := ⟨fun pins s σ H D I ⟨N, h1, h2⟩ => thn (h.run pins s σ H { D with nx := N } I h1) fun f s' q => by
  cases f with
  | next =>
    obtain ⟨σ', H', I', n⟩ := q
    exact ⟨σ', H', I', h2 _ _ n⟩
  | brk => exact q
  | cont => exact q
  | ret u => exact q⟩
/-- the same of an expression: its value, and of a test -/
def tCutE (t : TE) : TE := fun σ H Q => ∃ N : VK, t σ H N ∧ ∀ v H', N v H' → Q v H'
theorem pe_cut {X : Cx} {e : Expr} {t : TE} (h : PE X e t) : PE X e (tCutE t) := ⟨fun pins s σ H Q I ⟨N, h1, h2⟩ => thn (h.run pins s σ H N I h1) fun u s' ⟨x, H', I', r, n⟩ => ⟨x, H', I', r, h2 _ _ n⟩⟩
def tCutT (t : TT) : TT := fun σ H Q => ∃ N : Bool → Hp → Prop, t σ H N ∧ ∀ b H', N b H' → Q b H'
theorem pt_cut {X : Cx} {e : Expr} {t : TT} (h : PT X e t) : PT X e (tCutT t) := ⟨fun pins s σ H Q I ⟨N, h1, h2⟩ => thn (h.run pins s σ H N I h1) fun c s' ⟨H', I', n⟩ => ⟨H', I', h2 _ _ n⟩⟩
/-! ### set(t), t a tuple of whole numbers -/
section
variable {X : Cx}
def rSetT (K : PySem.W.Frag) (w : World) : List V → Hp → VK → Prop := fun xs H Q => ∃ (p : Addr) (ns : List Int), xs = [.ref p] ∧ SqT K H p (ns.map V.int) ∧ ns.length ≤ 1000 ∧
  ∀ (q : Addr) (c : Nat), H q = none → c ≤ ns.length → Q (.ref q) (upd H q (SetO w q (fun j => decide (j ∈ ns)) c))
theorem cr_setT (hc : X.calm = true) : CallR X (.type "set") (rSetT X.K X.w) := by
  intro pins s σ H xs us Q I rv h
  obtain ⟨p0, ns, rfl, hq, hl, q⟩ := h
  cases rv with
  | cons r rr =>
    cases rr
    cases r
    obtain ⟨its, rv, pt, hz⟩ := I.tuple hq
    have hi : IntsAre its.toArray.toList ns := ints_of_vals rv
    refine call_set_tupI ns (I.ok.hd hc) (show s.heap.IsTuple p0 its.toArray from pt) hi (by unfold scanBound; omega) fun h' tk c R1 hcn k => ?_
    exact ⟨.ref _, upd H s.heap.objs.size (SetO X.w s.heap.objs.size (fun j => decide (j ∈ ns)) c), I.laid (t' := tk) k (Nat.le_refl _) (setO_new R1), rfl, q _ _ (I.hok.fresh (Nat.le_refl _)) hcn⟩
/-! ### xs.count(y), flat items -/
def rCountF (K : PySem.W.Frag) : V → List V → Hp → VK → Prop := fun x xs H Q => ∃ (p : Addr) (ys : List V) (y : V), x = .ref p ∧ xs = [y] ∧ SqL K H p ys ∧ flatV y = true ∧ ys.all flatV = true ∧ Q (.int (ys.countP (fun z => eqV z y) : Nat)) H
theorem countP_eqU {y : V} : ∀ {ys : List V} {us : List Value}, Vals ys us → ys.all flatV = true → us.countP (eqU y) = ys.countP (fun z => eqV z y)
  | _, _, .nil, _ => rfl
  | _, _, .cons r t, f => by
    simp only [List.all_cons, Bool.and_eq_true] at f
    rw [List.countP_cons, List.countP_cons, countP_eqU t f.2, eqU_of r f.1]
theorem mt_countF : MtR X "list.count" (rCountF X.K) := by
  intro pins s σ H x xs v us Q I rx rxs h
  obtain ⟨p, ys, y, rfl, rfl, hs, fy, fys, q⟩ := h
  cases rx
  obtain ⟨u, rfl, ru⟩ := rxs.one
  obtain ⟨its, rv, ⟨⟨cls, dd, data, sl⟩, n, ho, hc, hdn, hd⟩, hlen⟩ := I.list hs
  simp only at hc hd
  subst hc hd
  refine call_meets PySem.F.slot_list_count ⟨_, ho, rfl⟩ PySem.F.entry_list_count (PySem.F.args_list_count_2 _ _)
    (SeqAt.list_countAt p its.toArray n dd sl u (eqU y)) ⟨ho, fun z hz => mem_eqAt ru fy rv fys z (by simpa using hz), ?_⟩
  have ec : its.toArray.toList.countP (eqU y) = ys.countP (fun z => eqV z y) := countP_eqU rv fys
  refine ⟨.int (ys.countP (fun z => eqV z y) : Nat), H, I.tok _, ⟨s.toks, ?_⟩, q⟩
  show Value.int ((its.toArray.toList.countP (eqU y) : Nat) : Int) s.toks = Value.int ((ys.countP (fun z => eqV z y) : Nat) : Int) s.toks
  rw [ec]
end
theorem count_int (ns : List Int) (k : Int) : (ns.map V.int).countP (fun z => eqV z (.int k)) = ns.count k := by
  induction ns with
  | nil => rfl
  | cons a r ih =>
    rw [List.map_cons, List.countP_cons, ih, List.count_cons]
    rfl
/-! ### data and ints -/
theorem flat_ints (ns : List Int) : (ns.map V.int).all flatV = true := by
  rw [List.all_map, List.all_eq_true]
  intro _ _
  rfl
theorem inV_int (k : Int) (ns : List Int) : inV (.int k) (ns.map V.int) = decide (k ∈ ns) := by
  unfold inV
  rw [List.any_map]
  induction ns with
  | nil => rfl
  | cons a r ih =>
    rw [List.any_cons, ih]
    show (a == k || decide (k ∈ r)) = _
    by_cases e : a = k
    · subst e; simp
    · have e' : ¬ k = a := fun z => e z.symm
      simp [e, e']
end TL

namespace L2
open PySem PySem.Spec PyProof.Rows
mutual
theorem Dp.same {K : PySem.W.Frag} {H H' : Hp} (e : Same H H') : ∀ {x : V} {d : PyData}, Dp K H x d → Dp K H' x d
  | _, _, .non => .non
  | _, _, .bl b => .bl b
  | _, _, .int i => .int i
  | _, _, .str z => .str z
  | _, _, .lst h a => .lst (e.seq h) (DpAll.same e a)
  | _, _, .tup h a => .tup (by
      rcases h with (h | ⟨o, h⟩) | h
      · exact .inl (.inl (e _ _ h))
      · exact .inl (.inr ⟨o, e _ _ h⟩)
      · exact .inr h) (DpAll.same e a)
theorem DpAll.same {K : PySem.W.Frag} {H H' : Hp} (e : Same H H') : ∀ {xs : List V} {ds : List PyData}, DpAll K H xs ds → DpAll K H' xs ds
  | _, _, .nil => .nil
  | _, _, .cons h t => .cons (Dp.same e h) (DpAll.same e t)
end
theorem SqT_same {K : PySem.W.Frag} {H H' : Hp} {a : Addr} {xs : List V} (e : Same H H') (h : SqT K H a xs) : SqT K H' a xs := by
  rcases h with (h | ⟨o, h⟩) | h
  · exact .inl (.inl (e _ _ h))
  · exact .inl (.inr ⟨o, e _ _ h⟩)
  · exact .inr h
theorem DpAll.length {K : PySem.W.Frag} {H : Hp} : ∀ {xs : List V} {ds : List PyData}, DpAll K H xs ds → xs.length = ds.length
  | _, _, .nil => rfl
  | _, _, .cons _ t => by rw [List.length_cons, List.length_cons, DpAll.length t]
theorem DpAll.get {K : PySem.W.Frag} {H : Hp} : ∀ {xs : List V} {ds : List PyData} {i : Nat} {d : PyData}, DpAll K H xs ds → ds[i]? = some d → ∃ x, xs[i]? = some x ∧ Dp K H x d
  | _, _, i, d, .nil, e => by simp at e
  | _, _, 0, d, .cons h t, e => by simp at e; subst e; exact ⟨_, rfl, h⟩
  | _, _, i + 1, d, .cons h t, e => by
    obtain ⟨x, h1, h2⟩ := DpAll.get (i := i) (d := d) t (by simpa using e)
    exact ⟨x, by simpa using h1, h2⟩
theorem dp_ints {K : PySem.W.Frag} {H : Hp} : ∀ ns : List Int, DpAll K H (ns.map V.int) (ns.map PyData.int)
  | [] => .nil
  | n :: r => .cons (.int n) (dp_ints r)
theorem DpAll.append {K : PySem.W.Frag} {H : Hp} : ∀ {xs ys : List V} {ds es : List PyData}, DpAll K H xs ds → DpAll K H ys es → DpAll K H (xs ++ ys) (ds ++ es)
  | _, _, _, _, .nil, b => b
  | _, _, _, _, .cons h t, b => .cons h (DpAll.append t b)
theorem DpAll.get' {K : PySem.W.Frag} {H : Hp} : ∀ {xs : List V} {ds : List PyData} {i : Nat} {x : V}, DpAll K H xs ds → xs[i]? = some x → ∃ d, ds[i]? = some d ∧ Dp K H x d
  | _, _, i, d, .nil, e => by simp at e
  | _, _, 0, d, .cons h t, e => by simp at e; subst e; exact ⟨_, rfl, h⟩
  | _, _, i + 1, d, .cons h t, e => by
    obtain ⟨x, h1, h2⟩ := DpAll.get' (i := i) (x := d) t (by simpa using e)
    exact ⟨x, by simpa using h1, h2⟩
theorem DpAll.ints_inv {K : PySem.W.Frag} {H : Hp} : ∀ {xs : List V} {ns : List Int}, DpAll K H xs (ns.map .int) → xs = ns.map V.int
  | _, [], .nil => rfl
  | _, n :: r, .cons h t => by
    cases h
    rw [List.map_cons, DpAll.ints_inv t]
end L2
namespace TL
open PySem PySem.Spec PyProof.Rows L2
/-! ### isinstance, by the kinds -/
theorem kb_ii : kitB "int" "int" = some true := by decide +kernel
theorem kb_ib : kitB "int" "bool" = some false := by decide +kernel
theorem kb_is : kitB "int" "str" = some false := by decide +kernel
theorem kb_it : kitB "int" "tuple" = some false := by decide +kernel
theorem kb_il : kitB "int" "list" = some false := by decide +kernel
theorem kb_bi : kitB "bool" "int" = some true := by decide +kernel
theorem kb_bb : kitB "bool" "bool" = some true := by decide +kernel
theorem kb_bt : kitB "bool" "tuple" = some false := by decide +kernel
theorem kb_bs : kitB "bool" "str" = some false := by decide +kernel
theorem kb_si : kitB "str" "int" = some false := by decide +kernel
theorem kb_sb : kitB "str" "bool" = some false := by decide +kernel
theorem kb_ss : kitB "str" "str" = some true := by decide +kernel
theorem kb_st : kitB "str" "tuple" = some false := by decide +kernel
theorem kb_ni : kitB "NoneType" "int" = some false := by decide +kernel
theorem kb_nb : kitB "NoneType" "bool" = some false := by decide +kernel
theorem kb_nt : kitB "NoneType" "tuple" = some false := by decide +kernel
theorem kb_ns : kitB "NoneType" "str" = some false := by decide +kernel
theorem kb_ti : kitB "tuple" "int" = some false := by decide +kernel
theorem kb_tb : kitB "tuple" "bool" = some false := by decide +kernel
theorem kb_ts : kitB "tuple" "str" = some false := by decide +kernel
theorem kb_tt : kitB "tuple" "tuple" = some true := by decide +kernel
theorem kb_tl : kitB "tuple" "list" = some false := by decide +kernel
theorem kb_li : kitB "list" "int" = some false := by decide +kernel
theorem kb_lb : kitB "list" "bool" = some false := by decide +kernel
theorem kb_ls : kitB "list" "str" = some false := by decide +kernel
theorem kb_lt : kitB "list" "tuple" = some false := by decide +kernel
theorem kb_ll : kitB "list" "list" = some true := by decide +kernel
theorem tyx_L {K : PySem.W.Frag} {H : Hp} {a : Addr} {xs : List V} (h : SqL K H a xs) : TyX K H (.ref a) (.type "list") := by
  rcases h with (h | ⟨o, h⟩) | ⟨o, its, n, hk, hc, _⟩
  · exact .base (.lst h)
  · exact .base (.frz h)
  · exact .kList hk hc
theorem tyx_T {K : PySem.W.Frag} {H : Hp} {a : Addr} {xs : List V} (h : SqT K H a xs) : TyX K H (.ref a) (.type "tuple") := by
  rcases h with (h | ⟨o, h⟩) | ⟨o, its, n, hk, hc, _⟩
  · exact .base (.tup h)
  · exact .fTuple h
  · exact .kTuple hk hc
/-- what is, by its kind: the type that isinstance asks -/
def kty : PyData → String
  | .none => "NoneType" | .bool _ => "bool" | .int _ => "int" | .str _ => "str" | .list _ => "list" | .tuple _ => "tuple" | .dict _ => "dict"
theorem tyx_D {K : PySem.W.Frag} {H : Hp} {x : V} {d : PyData} (h : Dp K H x d) : TyX K H x (.type (kty d)) := by
  cases h with
  | non => exact .base .non
  | bl b => exact .base (.bl b)
  | int i => exact .base (.int i)
  | str z => exact .base (.str z)
  | lst h _ => exact tyx_L h
  | tup h _ => exact tyx_T h
/-- isinstance(x, c) of data -/
theorem isi_D {K : PySem.W.Frag} {H : Hp} {x : V} {d : PyData} {c : String} {b : Bool} {Q : VK} (h : Dp K H x d) (k : kitB (kty d) c = some b) (q : Q (.bl b) H) : rIsi K [x, .ty c] H Q :=
  ⟨x, .ty c, _, _, b, rfl, .ty c, tyx_D h, kit_ty k, q⟩
/-- numbers, texts, truths, None, lists and tuples of these, nested no more than n deep -/
def lv : Nat → PyData → Prop
  | _, .none => True | _, .bool _ => True | _, .int _ => True | _, .str x => (PyData.str x).canLay0 = true
  | n + 1, .list ds => ds.length ≤ 100000 ∧ ∀ d ∈ ds, lv n d
  | n + 1, .tuple ds => ds.length ≤ 100000 ∧ ∀ d ∈ ds, lv n d
  | _, _ => False
/-- such data are laid out and compared -/
theorem lv_ok : ∀ (n : Nat) (d : PyData), lv n d → d.canLay0 = true ∧ d.depth ≤ n
  | _, .none, _ => ⟨rfl, by simp [PyData.depth]⟩
  | _, .bool _, _ => ⟨rfl, by simp [PyData.depth]⟩
  | _, .int _, _ => ⟨rfl, by simp [PyData.depth]⟩
  | _, .str _, h => ⟨by simpa [lv] using h, by simp [PyData.depth]⟩
  | 0, .list _, h => by simp [lv] at h
  | 0, .tuple _, h => by simp [lv] at h
  | n + 1, .list ds, h => by
    simp only [lv] at h
    have q : ∀ es : List PyData, (∀ d ∈ es, lv n d) → PyData.canLayAll0 es = true ∧ PyData.depthAll es ≤ n := by
      intro es
      induction es with
      | nil => intro _; exact ⟨rfl, by simp [PyData.depthAll]⟩
      | cons e r ih =>
        intro z
        obtain ⟨a1, a2⟩ := lv_ok n e (z e (by simp))
        obtain ⟨b1, b2⟩ := ih fun d hd => z d (by simp [hd])
        exact ⟨by simp [PyData.canLayAll0, a1, b1], by simp only [PyData.depthAll]; omega⟩
    obtain ⟨q1, q2⟩ := q ds h.2
    exact ⟨by simpa [PyData.canLay0] using q1, by simp only [PyData.depth]; omega⟩
  | n + 1, .tuple ds, h => by
    simp only [lv] at h
    have q : ∀ es : List PyData, (∀ d ∈ es, lv n d) → PyData.canLayAll0 es = true ∧ PyData.depthAll es ≤ n := by
      intro es
      induction es with
      | nil => intro _; exact ⟨rfl, by simp [PyData.depthAll]⟩
      | cons e r ih =>
        intro z
        obtain ⟨a1, a2⟩ := lv_ok n e (z e (by simp))
        obtain ⟨b1, b2⟩ := ih fun d hd => z d (by simp [hd])
        exact ⟨by simp [PyData.canLayAll0, a1, b1], by simp only [PyData.depthAll]; omega⟩
    obtain ⟨q1, q2⟩ := q ds h.2
    exact ⟨by simpa [PyData.canLay0] using q1, by simp only [PyData.depth]; omega⟩
  | 0, .dict _, h => by simp [lv] at h
  | _ + 1, .dict _, h => by simp [lv] at h
theorem shaped_lv {n : Nat} {d : PyData} (h : lv n d) (hn : n ≤ 64) : SeqAt.shaped d = true := by
  obtain ⟨a, b⟩ := lv_ok n d h
  unfold SeqAt.shaped
  rw [a, decide_eq_true (Nat.le_trans b hn)]
  rfl
theorem eqvAll_ints : ∀ ns ms : List Int, PyData.eqvAll (ns.map .int) (ms.map .int) = decide (ns = ms)
  | [], [] => rfl
  | [], _ :: _ => rfl
  | _ :: _, [] => rfl
  | a :: r, b :: s => by
    rw [List.map_cons, List.map_cons]
    show (PyData.eqv (.int a) (.int b) && PyData.eqvAll _ _) = _
    rw [eqvAll_ints r s]
    show ((a == b) && decide (r = s)) = _
    by_cases h : a = b
    · subst h; simp
    · simp [h]
theorem canLay_ints (ns : List Int) : (PyData.list (ns.map .int)).canLay0 = true := by
  induction ns with
  | nil => rfl
  | cons a r ih => exact ih
theorem depth_ints (ns : List Int) : (PyData.list (ns.map .int)).depth ≤ 2 := by
  induction ns with
  | nil => decide
  | cons a r ih =>
    revert ih
    simp only [PyData.depth, PyData.depthAll, List.map_cons]
    omega
theorem shaped_ints (ns : List Int) : SeqAt.shaped (.list (ns.map .int)) = true := by
  unfold SeqAt.shaped
  rw [canLay_ints, decide_eq_true (Nat.le_trans (depth_ints ns) (by decide))]
  rfl
/-! ### what can't be changed: numbers, texts, truths, None, tuples of these -/
mutual
inductive Im (H : Hp) : V → PyData → Prop
  | non : Im H .non .none
  | bl (b : Bool) : Im H (.bl b) (.bool b)
  | int (i : Int) : Im H (.int i) (.int i)
  | str (x : Str) : Im H (.str x) (.str x)
  | tup {a : Addr} {xs : List V} {ds : List PyData} : H a = some (.tup xs) → ImAll H xs ds → Im H (.ref a) (.tuple ds)
inductive ImAll (H : Hp) : List V → List PyData → Prop
  | nil : ImAll H [] []
  | cons {v : V} {vs : List V} {d : PyData} {ds : List PyData} : Im H v d → ImAll H vs ds → ImAll H (v :: vs) (d :: ds)
end
mutual
theorem Im.dp {K : PySem.W.Frag} {H : Hp} : ∀ {x : V} {d : PyData}, Im H x d → Dp K H x d
  | _, _, .non => .non
  | _, _, .bl b => .bl b
  | _, _, .int i => .int i
  | _, _, .str z => .str z
  | _, _, .tup h a => .tup (SqT.of h) (ImAll.dp a)
theorem ImAll.dp {K : PySem.W.Frag} {H : Hp} : ∀ {xs : List V} {ds : List PyData}, ImAll H xs ds → DpAll K H xs ds
  | _, _, .nil => .nil
  | _, _, .cons h t => .cons (Im.dp h) (ImAll.dp t)
end
mutual
theorem Im.frm {S : List Addr} {H H' : Hp} (e : Frm S H H') : ∀ {x : V} {d : PyData}, Im H x d → Im H' x d
  | _, _, .non => .non
  | _, _, .bl b => .bl b
  | _, _, .int i => .int i
  | _, _, .str z => .str z
  | _, _, .tup h a => .tup (e.tups _ _ h) (ImAll.frm e a)
theorem ImAll.frm {S : List Addr} {H H' : Hp} (e : Frm S H H') : ∀ {xs : List V} {ds : List PyData}, ImAll H xs ds → ImAll H' xs ds
  | _, _, .nil => .nil
  | _, _, .cons h t => .cons (Im.frm e h) (ImAll.frm e t)
end
theorem ImAll.same {H H' : Hp} {xs : List V} {ds : List PyData} (h : ImAll H xs ds) (e : Same H H') : ImAll H' xs ds := h.frm (S := []) (.of_same e)
theorem Im.same {H H' : Hp} {x : V} {d : PyData} (h : Im H x d) (e : Same H H') : Im H' x d := h.frm (S := []) (.of_same e)
theorem ImAll.new {H : Hp} {xs : List V} {ds : List PyData} {p : Addr} {o : HO} (h : ImAll H xs ds) (n : H p = none) : ImAll (upd H p o) xs ds := h.same (Same.upd_new n)
theorem Im.new {H : Hp} {x : V} {d : PyData} {p : Addr} {o : HO} (h : Im H x d) (n : H p = none) : Im (upd H p o) x d := h.same (Same.upd_new n)
theorem ImAll.updL {H : Hp} {xs : List V} {ds : List PyData} {p : Addr} {o : HO} {ys : List V} (h : ImAll H xs ds) (n : H p = some (.lst ys)) : ImAll (upd H p o) xs ds := h.frm (Frm.updL n)
theorem Im.updL {H : Hp} {x : V} {d : PyData} {p : Addr} {o : HO} {ys : List V} (h : Im H x d) (n : H p = some (.lst ys)) : Im (upd H p o) x d := h.frm (Frm.updL n)
theorem ImAll.length {H : Hp} : ∀ {xs : List V} {ds : List PyData}, ImAll H xs ds → xs.length = ds.length
  | _, _, .nil => rfl
  | _, _, .cons _ t => by rw [List.length_cons, List.length_cons, ImAll.length t]
theorem ImAll.append {H : Hp} : ∀ {xs ys : List V} {ds es : List PyData}, ImAll H xs ds → ImAll H ys es → ImAll H (xs ++ ys) (ds ++ es)
  | _, _, _, _, .nil, b => b
  | _, _, _, _, .cons h t, b => .cons h (ImAll.append t b)
theorem ImAll.get {H : Hp} : ∀ {xs : List V} {ds : List PyData} {i : Nat} {d : PyData}, ImAll H xs ds → ds[i]? = some d → ∃ x, xs[i]? = some x ∧ Im H x d
  | _, _, i, d, .nil, e => by simp at e
  | _, _, 0, d, .cons h t, e => by simp at e; subst e; exact ⟨_, rfl, h⟩
  | _, _, i + 1, d, .cons h t, e => by
    obtain ⟨x, h1, h2⟩ := ImAll.get (i := i) (d := d) t (by simpa using e)
    exact ⟨x, by simpa using h1, h2⟩
theorem ImAll.get' {H : Hp} : ∀ {xs : List V} {ds : List PyData} {i : Nat} {x : V}, ImAll H xs ds → xs[i]? = some x → ∃ d, ds[i]? = some d ∧ Im H x d
  | _, _, i, d, .nil, e => by simp at e
  | _, _, 0, d, .cons h t, e => by simp at e; subst e; exact ⟨_, rfl, h⟩
  | _, _, i + 1, d, .cons h t, e => by
    obtain ⟨x, h1, h2⟩ := ImAll.get' (i := i) (x := d) t (by simpa using e)
    exact ⟨x, by simpa using h1, h2⟩
theorem ImAll.take {H : Hp} : ∀ {xs : List V} {ds : List PyData} (n : Nat), ImAll H xs ds → ImAll H (xs.take n) (ds.take n)
  | _, _, 0, _ => .nil
  | _, _, n + 1, .nil => .nil
  | _, _, n + 1, .cons h t => .cons h (ImAll.take n t)
theorem ImAll.drop {H : Hp} : ∀ {xs : List V} {ds : List PyData} (n : Nat), ImAll H xs ds → ImAll H (xs.drop n) (ds.drop n)
  | _, _, 0, h => h
  | _, _, n + 1, .nil => .nil
  | _, _, n + 1, .cons h t => ImAll.drop n t
theorem ImAll.set {H : Hp} {x : V} {d : PyData} (h : Im H x d) : ∀ {xs : List V} {ds : List PyData} (n : Nat), ImAll H xs ds → ImAll H (xs.set n x) (ds.set n d)
  | _, _, _, .nil => .nil
  | _, _, 0, .cons _ t => .cons h t
  | _, _, n + 1, .cons g t => .cons g (ImAll.set h n t)
theorem ImAll.rep {H : Hp} {xs : List V} {ds : List PyData} (h : ImAll H xs ds) : ∀ n : Nat, ImAll H (List.replicate n xs).flatten (List.replicate n ds).flatten
  | 0 => .nil
  | n + 1 => by
    rw [List.replicate_succ, List.replicate_succ, List.flatten_cons, List.flatten_cons]
    exact h.append (ImAll.rep h n)
theorem im_ints {H : Hp} : ∀ ns : List Int, ImAll H (ns.map V.int) (ns.map PyData.int)
  | [] => .nil
  | n :: r => .cons (.int n) (im_ints r)
mutual
theorem eqv_refl : ∀ {n : Nat} {d : PyData}, lv n d → PyData.eqv d d = true
  | _, .none, _ => rfl
  | _, .bool b, _ => by simp [PyData.eqv]
  | _, .int i, _ => by simp [PyData.eqv]
  | _, .str z, _ => by simp [PyData.eqv]
  | 0, .list _, h => by simp [lv] at h
  | 0, .tuple _, h => by simp [lv] at h
  | n + 1, .list ds, h => by
    simp only [lv] at h
    simp only [PyData.eqv]
    exact eqvAll_refl h.2
  | n + 1, .tuple ds, h => by
    simp only [lv] at h
    simp only [PyData.eqv]
    exact eqvAll_refl h.2
  | 0, .dict _, h => by simp [lv] at h
  | _ + 1, .dict _, h => by simp [lv] at h
theorem eqvAll_refl : ∀ {n : Nat} {ds : List PyData}, (∀ d ∈ ds, lv n d) → PyData.eqvAll ds ds = true
  | _, [], _ => rfl
  | n, d :: r, h => by
    simp only [PyData.eqvAll, Bool.and_eq_true]
    exact ⟨eqv_refl (h d (by simp)), eqvAll_refl (n := n) fun x hx => h x (by simp [hx])⟩
end
theorem lv_mono : ∀ {n : Nat} {d : PyData}, lv n d → lv (n + 1) d
  | _, .none, _ => by simp [lv]
  | _, .bool b, _ => by simp [lv]
  | _, .int i, _ => by simp [lv]
  | _, .str z, h => by simpa [lv] using h
  | 0, .list _, h => by simp [lv] at h
  | 0, .tuple _, h => by simp [lv] at h
  | n + 1, .list ds, h => by
    simp only [lv] at h ⊢
    exact ⟨h.1, fun d hd => lv_mono (h.2 d hd)⟩
  | n + 1, .tuple ds, h => by
    simp only [lv] at h ⊢
    exact ⟨h.1, fun d hd => lv_mono (h.2 d hd)⟩
  | 0, .dict _, h => by simp [lv] at h
  | _ + 1, .dict _, h => by simp [lv] at h
end TL

namespace TL
open PySem PySem.Spec PyProof.Rows L2
/-- the dice: a list of whole numbers, two at least -/
def DiceAt (H : Hp) (d : Addr) : Prop := ∃ ns : List Int, H d = some (.lst (ns.map V.int)) ∧ 2 ≤ ns.length ∧ ns.length ≤ 65
theorem DiceAt.frm {S : List Addr} {H H' : Hp} {d : Addr} (h : DiceAt H d) (e : Frm S H H') (n : d ∉ S) : DiceAt H' d := by
  obtain ⟨ns, h1, h2⟩ := h
  exact ⟨ns, e _ _ h1 n, h2⟩
theorem DiceAt.upd_ne {H : Hp} {d l : Addr} {o : HO} (h : DiceAt H d) (n : d ≠ l) : DiceAt (upd H l o) d := by
  obtain ⟨ns, h1, h2⟩ := h
  exact ⟨ns, by rw [L2.upd_ne n]; exact h1, h2⟩
theorem DiceAt.same {H H' : Hp} {d : Addr} (h : DiceAt H d) (e : Same H H') : DiceAt H' d := by
  obtain ⟨ns, h1, h2⟩ := h
  exact ⟨ns, e _ _ h1, h2⟩
theorem DiceAt.new {H : Hp} {d l : Addr} {o : HO} (h : DiceAt H d) (n : H l = none) : DiceAt (upd H l o) d := h.same (Same.upd_new n)
theorem DiceAt.ne_new {H : Hp} {d l : Addr} (h : DiceAt H d) (n : H l = none) : l ≠ d := by
  obtain ⟨ns, h1, h2⟩ := h
  exact fun e => by rw [e, h1] at n; cases n
theorem DiceAt.ne_tup {H : Hp} {d t : Addr} {xs : List V} (h : DiceAt H d) (e : H t = some (.tup xs)) : t ≠ d := by
  obtain ⟨ns, h1, h2⟩ := h
  exact ne_of e h1 (by intro q; cases q)
/-! ### manners -/
def intOf : PyData → Int
  | .int i => i
  | _ => 0
/-- a number within bounds -/
def between : PyData → Int → Int → Bool
  | .int i, lo, hi => decide (lo ≤ i) && decide (i ≤ hi)
  | _, _, _ => false
def isMan : PyData → Bool
  | .tuple ds => ds.all (fun e => between e 0 9) && (decide ((ds.map intOf).Pairwise (· < ·)) && decide (0 ∈ ds.map intOf))
  | _ => false
/-- what may be handed in in the place of manners -/
def mdat : PyData → Prop
  | .list _ => False
  | .dict _ => False
  | .str x => (PyData.str x).canLay0 = true
  | .tuple ds => ds.length ≤ 60 ∧ ∀ e ∈ ds, (∀ l, e ≠ .list l) ∧ lv 1 e
  | _ => True
theorem mdat.nolist {d : PyData} (h : mdat d) : ∀ ds, d ≠ .list ds := fun ds e => by subst e; exact h
theorem ints_of_between : ∀ {ds : List PyData}, ds.all (fun e => between e 0 9) = true → ds = (ds.map intOf).map .int
  | [], _ => rfl
  | d :: r, h => by
    rw [List.all_cons, Bool.and_eq_true] at h
    rw [List.map_cons, List.map_cons, ← ints_of_between h.2]
    cases d with
    | int i => rfl
    | _ => exact absurd h.1 (by simp [between])
theorem between_of {ds : List PyData} (h : ds.all (fun e => between e 0 9) = true) : ∀ i ∈ ds.map intOf, 0 ≤ i ∧ i ≤ 9 := fun i hi => by
  obtain ⟨d, hd, rfl⟩ := List.mem_map.mp hi
  have q := List.all_eq_true.mp h d hd
  cases d with
  | int j => simpa [between, intOf] using q
  | _ => exact absurd q (by simp [between])
/-- manners as numbers -/
def Can (ms : List Int) : Prop := (∀ i ∈ ms, 0 ≤ i ∧ i ≤ 9) ∧ ms.Pairwise (· < ·) ∧ 0 ∈ ms ∧ ms.length ≤ 60
theorem isMan_ints {ms : List Int} (h : Can ms) : isMan (.tuple (ms.map .int)) = true := by
  have e : (ms.map PyData.int).map intOf = ms := by
    rw [List.map_map]
    have : (intOf ∘ PyData.int) = id := rfl
    rw [this, List.map_id]
  simp only [isMan]
  rw [e, decide_eq_true h.2.1, decide_eq_true h.2.2.1]
  simp only [Bool.and_true, List.all_map, List.all_eq_true]
  intro i hi
  have := h.1 i hi
  simp [between, this]
theorem mdat_ints {ms : List Int} (h : ms.length ≤ 60) : mdat (.tuple (ms.map .int)) := by
  refine ⟨by rw [List.length_map]; exact h, fun e he => ?_⟩
  obtain ⟨i, _, rfl⟩ := List.mem_map.mp he
  exact ⟨fun l z => PyData.noConfusion z, trivial⟩
theorem sorted_ext : ∀ {a b : List Int}, a.Pairwise (· < ·) → b.Pairwise (· < ·) → (∀ k, k ∈ a ↔ k ∈ b) → a = b
  | [], [], _, _, _ => rfl
  | [], y :: s, _, _, h => absurd ((h y).mpr (by simp)) (by simp)
  | x :: r, [], _, _, h => absurd ((h x).mp (by simp)) (by simp)
  | x :: r, y :: s, ha, hb, h => by
    rw [List.pairwise_cons] at ha hb
    have hxy : x = y := by
      rcases List.mem_cons.mp ((h x).mp (by simp)) with e | e
      · exact e
      · rcases List.mem_cons.mp ((h y).mpr (by simp)) with e' | e'
        · exact e'.symm
        · have := ha.1 y e'
          have := hb.1 x e
          omega
    subst hxy
    rw [sorted_ext ha.2 hb.2 fun k => ?_]
    constructor
    · intro hk
      rcases List.mem_cons.mp ((h k).mp (by simp [hk])) with e | e
      · have := ha.1 k hk
        omega
      · exact e
    · intro hk
      rcases List.mem_cons.mp ((h k).mpr (by simp [hk])) with e | e
      · have := hb.1 k hk
        omega
      · exact e
/-- the greatest that both can and that isn't bad -/
def chosenF (one other bad : List Int) : Int := (one.filter fun m => decide (m ∈ other) && !decide (m ∈ bad)).foldl max 0
def IsChosen (one other bad : List Int) (m : Int) : Prop := (m = 0 ∨ (m ∈ one ∧ m ∈ other ∧ m ∉ bad)) ∧ 0 ≤ m ∧ ∀ y ∈ one, y ∈ other → y ∉ bad → y ≤ m
theorem foldl_max : ∀ (l : List Int) (a : Int), a ≤ l.foldl max a ∧ (∀ y ∈ l, y ≤ l.foldl max a) ∧ (l.foldl max a = a ∨ l.foldl max a ∈ l)
  | [], a => ⟨Int.le_refl _, by simp, .inl rfl⟩
  | x :: r, a => by
    obtain ⟨h1, h2, h3⟩ := foldl_max r (max a x)
    rw [List.foldl_cons]
    refine ⟨by omega, fun y hy => ?_, ?_⟩
    · rcases List.mem_cons.mp hy with rfl | hy
      · omega
      · exact h2 y hy
    · rcases h3 with h3 | h3
      · rw [h3]
        by_cases hax : a ≤ x
        · right
          rw [Int.max_eq_right hax]
          simp
        · left
          exact Int.max_eq_left (by omega)
      · right
        exact List.mem_cons_of_mem _ h3
theorem isChosen_F (one other bad : List Int) : IsChosen one other bad (chosenF one other bad) := by
  obtain ⟨h1, h2, h3⟩ := foldl_max (one.filter fun m => decide (m ∈ other) && !decide (m ∈ bad)) 0
  refine ⟨?_, h1, fun y h4 h5 h6 => h2 y ?_⟩
  · rcases h3 with h3 | h3
    · exact .inl h3
    · right
      have := List.mem_filter.mp h3
      simp only [Bool.and_eq_true, decide_eq_true_eq, Bool.not_eq_true', decide_eq_false_iff_not] at this
      exact this
  · rw [List.mem_filter]
    simp [h4, h5, h6]
theorem IsChosen.unique {one other bad : List Int} {m k : Int} (a : IsChosen one other bad m) (b : IsChosen one other bad k) : m = k := by
  have h1 : m ≤ k := by
    rcases a.1 with e | ⟨e1, e2, e3⟩
    · rw [e]; exact b.2.1
    · exact b.2.2 m e1 e2 e3
  have h2 : k ≤ m := by
    rcases b.1 with e | ⟨e1, e2, e3⟩
    · rw [e]; exact a.2.1
    · exact a.2.2 k e1 e2 e3
  omega
theorem IsChosen.eq {one other bad : List Int} {m : Int} (a : IsChosen one other bad m) : m = chosenF one other bad := a.unique (isChosen_F _ _ _)
theorem IsChosen.symm {one other bad : List Int} {m : Int} (a : IsChosen one other bad m) : IsChosen other one bad m :=
  ⟨a.1.imp id fun h => ⟨h.2.1, h.1, h.2.2⟩, a.2.1, fun y h1 h2 h3 => a.2.2 y h2 h1 h3⟩
theorem IsChosen.congr {one other bad bad' : List Int} {m : Int} (a : IsChosen one other bad m) (h : ∀ x, x ∈ bad ↔ x ∈ bad') : IsChosen one other bad' m :=
  ⟨a.1.imp id fun z => ⟨z.1, z.2.1, fun q => z.2.2 ((h _).mpr q)⟩, a.2.1, fun y h1 h2 h3 => a.2.2 y h1 h2 fun q => h3 ((h _).mp q)⟩
theorem man_tuple {d : PyData} (h : isMan d = true) : ∃ ns : List Int, d = .tuple (ns.map .int) ∧ (∀ i ∈ ns, 0 ≤ i ∧ i ≤ 9) := by
  cases d with
  | tuple ds =>
    simp only [isMan, Bool.and_eq_true] at h
    exact ⟨ds.map intOf, by rw [← ints_of_between h.1], between_of h.1⟩
  | _ => exact absurd h (by simp [isMan])
end TL

namespace TL
open PySem PySem.Spec PyProof.Rows L2
/-! ### rows of a log -/
abbrev Row := Int × Bool × Int × Bool
def rowV (r : Row) : List V := [.int r.1, .bl r.2.1, .int r.2.2.1, .bl r.2.2.2]
def rowD (r : Row) : PyData := .tuple [.int r.1, .bool r.2.1, .int r.2.2.1, .bool r.2.2.2]
def okRow (r : Row) : Prop := (0 ≤ r.1 ∧ r.1 ≤ 9) ∧ 0 ≤ r.2.2.1 ∧ r.2.2.1 ≤ 9
theorem im_row {H : Hp} {t : Addr} {r : Row} (h : H t = some (.tup (rowV r))) : Im H (.ref t) (rowD r) :=
  .tup h (.cons (.int _) (.cons (.bl _) (.cons (.int _) (.cons (.bl _) .nil))))
theorem im_row_inv {H : Hp} {x : V} {r : Row} (h : Im H x (rowD r)) : ∃ t, x = .ref t ∧ H t = some (.tup (rowV r)) := by
  obtain ⟨a, b, c, d⟩ := r
  generalize e : rowD (a, b, c, d) = dd at h
  cases h with
  | tup ht ha =>
    rename_i t xs ds
    injection e with e
    subst e
    cases ha with
    | cons h1 ha => cases h1; cases ha with
      | cons h1 ha => cases h1; cases ha with
        | cons h1 ha => cases h1; cases ha with
          | cons h1 ha => cases h1; cases ha; exact ⟨t, rfl, ht⟩
  | _ => exact PyData.noConfusion e
theorem rows_get {H : Hp} {xs : List V} {rs : List Row} {i : Nat} {r : Row} (h : ImAll H xs (rs.map rowD)) (e : rs[i]? = some r) : ∃ t, xs[i]? = some (.ref t) ∧ H t = some (.tup (rowV r)) := by
  obtain ⟨x, h1, h2⟩ := h.get (i := i) (d := rowD r) (by rw [List.getElem?_map, e]; rfl)
  obtain ⟨t, rfl, h3⟩ := im_row_inv h2
  exact ⟨t, h1, h3⟩
theorem rows_get' {H : Hp} {xs : List V} {rs : List Row} {i : Nat} {x : V} (h : ImAll H xs (rs.map rowD)) (e : xs[i]? = some x) : ∃ t r, rs[i]? = some r ∧ x = .ref t ∧ H t = some (.tup (rowV r)) := by
  obtain ⟨d, h1, h2⟩ := h.get' e
  rw [List.getElem?_map] at h1
  cases q : rs[i]? with
  | none => rw [q] at h1; cases h1
  | some r =>
    rw [q] at h1
    have h1' : rowD r = d := Option.some.inj h1
    subst h1'
    obtain ⟨t, h3, h4⟩ := im_row_inv h2
    exact ⟨t, r, rfl, h3, h4⟩
theorem rows_len {H : Hp} {xs : List V} {rs : List Row} (h : ImAll H xs (rs.map rowD)) : xs.length = rs.length := by
  rw [h.length, List.length_map]
theorem lv_row (r : Row) : lv 1 (rowD r) := by
  refine ⟨by show 4 ≤ 100000; decide, fun d hd => ?_⟩
  simp at hd
  rcases hd with rfl | rfl | rfl | rfl <;> exact trivial
theorem lv_rows {rs : List Row} (h : rs.length ≤ 100000) : lv 2 (.list (rs.map rowD)) := by
  refine ⟨by rw [List.length_map]; exact h, fun d hd => ?_⟩
  obtain ⟨r, _, rfl⟩ := List.mem_map.mp hd
  exact lv_row r
theorem eqv_rows_nil (rs : List Row) : PyData.eqv (.list (rs.map rowD)) (.list []) = decide (rs = []) := by
  cases rs with
  | nil => rfl
  | cons a r => rfl
/-! ### what is a row -/
def isB : PyData → Bool
  | .bool _ => true
  | _ => false
def isRowD : PyData → Bool
  | .tuple [a, b, c, d] => between a 0 9 && (between c 0 9 && (isB b && isB d))
  | _ => false
theorem isRow_row {r : Row} (h : okRow r) : isRowD (rowD r) = true := by
  obtain ⟨⟨h1, h2⟩, h3, h4⟩ := h
  simp [isRowD, rowD, between, isB, h1, h2, h3, h4]
/-- what may be handed in as a row -/
def rdat : PyData → Prop
  | .list _ => False
  | .dict _ => False
  | .tuple ds => ∀ e ∈ ds, ∀ l, e ≠ .list l
  | _ => True
theorem rdat_row (r : Row) : rdat (rowD r) := by
  intro e he l
  simp at he
  rcases he with rfl | rfl | rfl | rfl <;> exact fun z => PyData.noConfusion z
theorem rdat.nolist {d : PyData} (h : rdat d) : ∀ ds, d ≠ .list ds := fun ds e => by subst e; exact h
/-! ### stretches -/
/-- the manner by which both were joined -/
def mark (r : Row) : Option Int := if r.2.1 = true ∧ r.2.2.2 = true ∧ r.1 = r.2.2.1 then some r.1 else none
abbrev Str3 := Int × Int × Int
def strV (s : Str3) : List V := [.int s.1, .int s.2.1, .int s.2.2]
def strD (s : Str3) : PyData := .tuple [.int s.1, .int s.2.1, .int s.2.2]
theorem im_str {H : Hp} {t : Addr} {s : Str3} (h : H t = some (.tup (strV s))) : Im H (.ref t) (strD s) := .tup h (.cons (.int _) (.cons (.int _) (.cons (.int _) .nil)))
theorem im_str_inv {H : Hp} {x : V} {s : Str3} (h : Im H x (strD s)) : ∃ t, x = .ref t ∧ H t = some (.tup (strV s)) := by
  obtain ⟨a, b, c⟩ := s
  generalize e : strD (a, b, c) = dd at h
  cases h with
  | tup ht ha =>
    rename_i t xs ds
    injection e with e
    subst e
    cases ha with
    | cons h1 ha => cases h1; cases ha with
      | cons h1 ha => cases h1; cases ha with
        | cons h1 ha => cases h1; cases ha; exact ⟨t, rfl, ht⟩
  | _ => exact PyData.noConfusion e
/-- one row more: the last stretch grows, or a new one begins -/
def stStep (acc : List Str3) (i : Nat) (m : Option Int) : List Str3 :=
  match m with
  | none => acc
  | some m => match acc.getLast? with
    | some (k, s, e) => if k = m ∧ e = (i : Int) then acc.dropLast ++ [(m, s, (i : Int) + 1)] else acc ++ [(m, (i : Int), (i : Int) + 1)]
    | none => acc ++ [(m, (i : Int), (i : Int) + 1)]
/-- the stretches of the first i rows -/
def stTo (ms : List (Option Int)) : Nat → List Str3
  | 0 => []
  | i + 1 => stStep (stTo ms i) i (ms.getD i none)
theorem stTo_len (ms : List (Option Int)) : ∀ i, (stTo ms i).length ≤ i
  | 0 => Nat.le_refl _
  | i + 1 => by
    have ih := stTo_len ms i
    unfold stTo stStep
    cases ms.getD i none with
    | none => exact Nat.le_succ_of_le ih
    | some m =>
      cases h : (stTo ms i).getLast? with
      | none => simp; omega
      | some k =>
        obtain ⟨k, s, e⟩ := k
        simp only
        split
        · simp; omega
        · simp; omega
/-- no stretch ends behind what was gone through -/
theorem stTo_end (ms : List (Option Int)) : ∀ i (x : Str3), (stTo ms i).getLast? = some x → x.2.2 ≤ i
  | 0, x, h => by simp [stTo] at h
  | i + 1, x, h => by
    have ih := stTo_end ms i
    unfold stTo stStep at h
    cases hm : ms.getD i none with
    | none =>
      rw [hm] at h
      have := ih x h
      omega
    | some m =>
      rw [hm] at h
      cases hl : (stTo ms i).getLast? with
      | none =>
        rw [hl] at h
        simp at h
        subst h
        simp
      | some k =>
        obtain ⟨k, s, e⟩ := k
        rw [hl] at h
        simp only at h
        split at h
        · simp at h
          subst h
          simp
        · simp at h
          subst h
          simp
/-- at i a new stretch begins, if one does -/
def Fresh (ms : List (Option Int)) (i : Nat) : Prop := ∀ k s e, (stTo ms i).getLast? = some (k, s, e) → e = (i : Int) → ms.getD i none ≠ some k
theorem stTo_none {ms : List (Option Int)} {i : Nat} (h : ms.getD i none = none) : stTo ms (i + 1) = stTo ms i := by
  show stStep _ _ _ = _
  rw [h]
  rfl
theorem stTo_first {ms : List (Option Int)} {i : Nat} {m : Int} (h : ms.getD i none = some m) (f : Fresh ms i) : stTo ms (i + 1) = stTo ms i ++ [(m, (i : Int), (i : Int) + 1)] := by
  show stStep _ _ _ = _
  rw [h]
  unfold stStep
  cases hl : (stTo ms i).getLast? with
  | none => rfl
  | some k =>
    obtain ⟨k, s, e⟩ := k
    simp only
    rw [if_neg]
    rintro ⟨rfl, h2⟩
    exact f _ _ _ hl h2 h
theorem stTo_more {ms : List (Option Int)} {a j : Nat} {m : Int} (h : ms.getD j none = some m) (e : stTo ms j = stTo ms a ++ [(m, (a : Int), (j : Int))]) : stTo ms (j + 1) = stTo ms a ++ [(m, (a : Int), (j : Int) + 1)] := by
  show stStep _ _ _ = _
  rw [h, e]
  unfold stStep
  simp
def markV : Option Int → V
  | none => .non
  | some m => .int m
theorem lv_strs (l : List Str3) (h : l.length ≤ 100000) : lv 3 (.list (l.map strD)) := by
  refine lv_mono ⟨by rw [List.length_map]; exact h, fun d hd => ?_⟩
  obtain ⟨s, _, rfl⟩ := List.mem_map.mp hd
  refine ⟨by show 3 ≤ 100000; decide, fun d hd => ?_⟩
  simp at hd
  rcases hd with rfl | rfl | rfl <;> exact trivial
/-- what stands within a turn: the dice, the rows at p -/
structure Got (H : Hp) (d p : Addr) (xs : List V) (rs : List Row) : Prop where
  D : DiceAt H d
  L : H p = some (.lst xs)
  A : ImAll H xs (rs.map rowD)
  ok : ∀ r ∈ rs, okRow r
  len : rs.length ≤ 300
  np : p ≠ d
theorem Got.same {H H' : Hp} {d p : Addr} {xs : List V} {rs : List Row} (g : Got H d p xs rs) (e : Same H H') : Got H' d p xs rs := ⟨g.D.same e, e _ _ g.L, g.A.same e, g.ok, g.len, g.np⟩
/-- another list is written -/
theorem Got.updL {H : Hp} {d p : Addr} {xs : List V} {rs : List Row} (g : Got H d p xs rs) {l : Addr} {ys : List V} {o : HO} (h : H l = some (.lst ys)) (n1 : l ≠ d) (n2 : l ≠ p) : Got (upd H l o) d p xs rs :=
  ⟨g.D.upd_ne (Ne.symm n1), by rw [upd_ne (Ne.symm n2)]; exact g.L, g.A.updL h, g.ok, g.len, g.np⟩
/-- whether a row can be -/
def unl (ca cb : List Int) (m : Int) : Bool := !decide (m ∈ ca) || !decide (m ∈ cb)
def goodRow (ca cb : List Int) (r : Row) : Bool := !(unl ca cb r.1) && (!(unl ca cb r.2.2.1) && !((r.2.1 || r.2.2.2) && !decide (r.1 = r.2.2.1)))
end TL

namespace TL
open PySem PySem.Spec PyProof.Rows L2
/-! ### the base class's __init__, called by its name -/
/-- what the written part says of the class at C, whose __init__ is ValueError's -/
structure BaseC (K : PySem.W.Frag) (C : Addr) : Prop where
  ga : PySem.W.specialIn K (.ref C) "__getattribute__" = some (some (.builtin "type.__getattribute__"))
  rd : PySem.W.readsIn K C (.type "type") = true
  fi : PySem.W.findCls K (.ref C) (.type "type") "__init__" = some (.val (.builtin "ValueError.__init__"))
  kp : PySem.W.keepIn K (.ref C) = true
theorem pe_basei {X : Cx} {x : Str} {C : Addr} {e : Expr} {es : List Expr} {ta : TA} {p1 p2 pos : Pos} {pl : Sem Bool} (hg : Gl X x) (hm : X.mg x = some (.ref C)) (B : BaseC X.K C) (ha : PA X (e :: es) ta) (hdb : (x == ("__debug__" : Str)) = false := by decide)
    (hc : eval (.Call (.Attribute (.Name x p1) "__init__" p2) (e :: es) [] pos) X.env = (do
      let ov ← eval (.Name x p1) X.env
      standAt p2.atName
      let (f, one) ← holding [ov] (getMethod ov "__init__" pl)
      callWith pos f one (backTo pos (starEach (e :: es) X.env)) (backToKw pos (keywordEach [] X.env))) := by rfl)
    (hst : starEach (e :: es) X.env = (false, eval e X.env) :: starEach es X.env := by rfl) (hno : (backTo pos (starEach es X.env)).any (·.1) = false := by rfl) :
    PE X (.Call (.Attribute (.Name x p1) "__init__" p2) (e :: es) [] pos) (tVeI X.K ta) := by
  constructor
  intro pins s σ H Q I h
  refine PySem.W.methodCall_KW (ld_glob I hg hm ?_ hdb) hc
  refine PySem.W.method_cls I.kIn B.ga (PySem.W.cls_value I.kIn B.rd B.fi rfl ?_)
  show wpAny _ _ (callWith pos (.builtin "ValueError.__init__") [] (backTo pos (starEach (e :: es) X.env)) []) _ _ _
  refine PyProof.Rows.callWith_method1 (thn (ha.run pos pins _ σ H _ (I.tok _) h) fun us s2 hh => ?_) hst hno
  obtain ⟨vs, H2, I2, rs, a, D, ws, rfl, hln, T, ea, q⟩ := hh
  cases rs with
  | cons ra rr =>
    rename_i u0 ur
    have e0 : u0 = Value.ref a := ra
    subst e0
    refine oinit_ok T I2 ea ?_ fun s' J => ⟨.non, H2, J, rfl, q⟩
    have := Paired.length rr
    rw [sizeLine_eq]
    omega
/-! ### what a suite asks of the exception that it holds -/
/-- isinstance(e, c), e the exception at a of the class cls, with the dict d -/
def rIsX (K : PySem.W.Frag) (cls : Value) (d : Option Addr) (a : Addr) : List V → Hp → VK → Prop := fun xs H Q =>
  ∃ (D : Addr) (c : V) (cv : Value) (b : Bool), xs = [.ref a, c] ∧ cls = .ref D ∧ (∀ u, RelV c u → u = cv) ∧ ExcC K D ∧ PySem.W.kitOne K (.ref D) cv = some b ∧ (d = none ∨ ∃ dd fs, d = some dd ∧ H dd = some (.xd fs)) ∧ Q (.bl b) H
theorem inst_xd {X : Cx} {pins : List (Addr × Obj)} {σ : L2.St} {H : Hp} {s : Shared} {a D : Addr} {oe : Obj} {cls : Value} {d : Option Addr} {vs : Array Value} (I : Inv X pins σ H s) (ha : s.heap.get? a = some oe) (hz : Zc cls d oe) (hv : oe.data = .fields vs) (hc : cls = .ref D)
    (hd : d = none ∨ ∃ dd fs, d = some dd ∧ H dd = some (.xd fs)) : ∃ od, PySem.W.InstAt s.heap a oe D od := by
  have no : PySem.W.notCls oe = true := by
    unfold PySem.W.notCls
    rw [hv] <;> rfl
  have hcl : oe.cls = .ref D := hz.1.trans hc
  have hdd : oe.dict = d := hz.2
  rcases hd with hd | ⟨dd, fs, hd, hx⟩
  · exact ⟨none, ha, hcl, no, by rw [hdd, hd]; trivial⟩
  · have hx' : ObjOk X.prog X.w H s.heap dd (.xd fs) := I.hok dd _ hx
    obtain ⟨mA, hns, _⟩ := hx'
    obtain ⟨od, ho, _⟩ := lookIn_ns hns
    exact ⟨some od, ha, hcl, no, by rw [hdd, hd]; exact ho⟩
theorem call_isX {X : Cx} {a : Addr} {oe : Obj} {cls : Value} {d : Option Addr} {pn : List (Addr × Obj)} (hz : Zc cls d oe) (hf : ∃ vs, oe.data = .fields vs) : CallR (X.suite a ((a, oe) :: pn)) (.builtin "isinstance") (rIsX X.K cls d a) := by
  intro pins s σ H xs us Q I rr h
  obtain ⟨D, c, cv, b, rfl, hcl, hcv, C, e, hd, q⟩ := h
  cases rr with
  | cons r0 rr =>
  cases rr with
  | cons r1 rr =>
  cases rr
  cases r0
  obtain rfl := hcv _ r1
  obtain ⟨hat, _⟩ := I.pin (a, oe) (List.mem_append_left _ (.head _))
  obtain ⟨vs, hv⟩ := hf
  obtain ⟨od, J⟩ := inst_xd I hat hz hv hcl hd
  have hcs : (PySem.W.clsIn X.K D).isSome = true := by
    obtain ⟨cd, hc, _⟩ := PySem.W.any_some C.hd
    rw [hc] <;> rfl
  exact PySem.W.kia_one (PySem.W.kitx_exc hcs C.hg C.hk C.hs C.ha C.hn C.ht C.hm) I.kIn J e (fun z => by cases z) fun tk => ⟨.bl b, H, I.kept (t' := tk) fun _ _ z => z, rfl, q⟩
/-- e.n -/
def tXg (K : PySem.W.Frag) (a : Addr) (cls : Value) (d : Option Addr) (n : Str) (te : TE) : TE := fun σ H Q => te σ H fun x H1 => x = .ref a ∧
  ∃ (C dd : Addr) (fs : List (Str × V)) (v : V), cls = .ref C ∧ XfC K C ∧ PySem.W.findIn K (.ref C) n = some none ∧ d = some dd ∧ H1 dd = some (.xd fs) ∧ fs.lookup n = some v ∧ Q v H1
theorem pe_xg {X : Cx} {a : Addr} {oe : Obj} {cls : Value} {d : Option Addr} {pn : List (Addr × Obj)} {e : Expr} {te : TE} {pos : Pos} {n : Str} (hz : Zc cls d oe) (hf : ∃ vs, oe.data = .fields vs) (he : PE (X.suite a ((a, oe) :: pn)) e te)
    (hb : attributeBase e n X.env (eval e X.env) = eval e X.env := by rfl) : PE (X.suite a ((a, oe) :: pn)) (.Attribute e n pos) (tXg X.K a cls d n te) := by
  constructor
  intro pins s σ H Q I h
  refine attr_of hb (thn (he.run pins s σ H _ I h) fun u s2 hh => ?_)
  obtain ⟨x, H2, I2, rx, rfl, C, dd, fs, v, hc, T, hno, rfl, hx, hl, q⟩ := hh
  have eu : u = Value.ref a := rx
  subst eu
  obtain ⟨hat, _⟩ := I2.pin (a, oe) (List.mem_append_left _ (.head _))
  obtain ⟨vs, hv⟩ := hf
  have hx' : ObjOk X.prog X.w H2 s2.heap dd (.xd fs) := I2.hok dd _ hx
  obtain ⟨mA, hns, hr⟩ := hx'
  obtain ⟨od, ho, hlk⟩ := lookIn_ns hns
  obtain ⟨w', hw, rw'⟩ := RelO.some_of (v := v) (o := mA n) (hl ▸ hr n)
  have no : PySem.W.notCls oe = true := by
    unfold PySem.W.notCls
    rw [hv] <;> rfl
  have J : PySem.W.InstAt s2.heap a oe C (some od) := ⟨hat, hz.1.trans hc, no, by rw [show oe.dict = some dd from hz.2]; exact ho⟩
  exact HandSPX.exc_get I2.kIn J T.ga T.gg T.exC (PySem.W.findObj_own T.hdC hno rfl (by rw [hlk, hw])) (handed_of rw') ⟨v, H2, I2.tok _, rw', q⟩
/-! ### a def whose code object is known -/
section
variable {P : Program} {w : World} {K : PySem.W.Frag} {mg : Str → Option Value} {base : Heap}
/-- the def at f: its code object stands at c -/
def FunC (K : PySem.W.Frag) (x qual : Str) (st : Stmt) (f : Addr) (fd : FuncData) (c : Addr) : Prop :=
  ∃ (oc : Value) (od : Option Addr) (kV doc pm : Value) (an : Option Addr) (ct : Value) (osl : Array (Option Value)), fd = PySem.W.fnOf x qual (defArgs st) (defBody st) (defScope st) .none kV doc pm an (.ref c) ct ∧ K.lookup f = some ⟨oc, od, .func fd, osl⟩ ∧ PySem.W.codeIn K (.ref c) qual = true
theorem FunC.ok {x qual : Str} {st : Stmt} {f c : Addr} {fd : FuncData} {N ps : List Str} {k : Nat} {sp : Sp} (F : FunC K x qual st f fd c) (S : FnScope N ps (defScope st)) (len : ∀ vs H Q E, sp vs H Q E → vs.length = ps.length)
    (body : ∀ (A : Around) (outer : List Env) (s : Shared) (H : Hp) (vs : List V) (Q : VK) (E : XK), Room k (A.deeper (envOfC qual (defScope st) s.heap.objs.size f (.ref c))) → sp vs H Q E →
      ∃ t, PSs (cxOf CX0 P w K mg base N qual (defScope st) f (.ref c) A outer s H E).nox (defBody st) t ∧ t { nx := fun _ H' => Q .non H', rt := Q } (start N vs) H) : FnOk P w K mg base CX0 (k + 1) f fd ps sp := by
  obtain ⟨oc, od, kV, doc, pm, an, ct, osl, rfl, lk, hcd⟩ := F
  exact fn_of lk hcd S len fun A outer s H vs Q E hr hsp => let ⟨t, h, q⟩ := body A outer s H vs Q E hr hsp; ⟨t, h.nox, q⟩
end
/-! ### a call within a lambda's body -/
theorem takes_lam {X : Cx} {A : Around} {outer : List Env} {s : Shared} {H : Hp} {E : XK} {scope : Scope} {f c' : Addr} : Takes (LamX.lamCx X A outer s H E scope f c') (fun cls d _ H => E cls d H) := takes_of rfl rfl rfl rfl
theorem pass_lam {X : Cx} {A : Around} {outer : List Env} {s : Shared} {H : Hp} {E : XK} {scope : Scope} {f c' : Addr} : Passes (L2.CX X.prog X.w) (LamX.lamCx X A outer s H E scope f c') E := passes_call takes_lam fun _ _ _ _ h => h
end TL
namespace TL
open PySem PySem.Spec PyProof.Rows L2
/-! ### a text, not at all or once -/
def rRepS : R2 := fun x y H Q => ∃ (z : Str) (k : Int), x = .str z ∧ y = .int k ∧ ((k = 0 ∧ Q (.str "") H) ∨ (k = 1 ∧ Q (.str z) H))
theorem op_repS {X : Cx} : OpR X (binaryOp .Mult) rRepS := by
  intro pins s σ H x y v u Q I rx ry h
  obtain ⟨z, k, rfl, rfl, h⟩ := h
  obtain ⟨t, rfl⟩ := rx
  obtain ⟨t2, rfl⟩ := ry
  rcases h with ⟨rfl, q⟩ | ⟨rfl, q⟩
  · exact PySem.P.mul_str_none (by decide) (by decide) ⟨.str "", H, I.tok _, ⟨_, rfl⟩, q⟩
  · refine PySem.P.mul_str (by decide) (fun _ z => absurd z (by simp)) (fun _ z => absurd z (by simp)) ?_
    rw [if_neg (by decide), if_pos (by simp)]
    exact ⟨.str z, H, I, ⟨_, rfl⟩, q⟩
/-! ### which of the kinds an exception is -/
/-- D: the class of the j-th kind -/
structure Kind (K : PySem.W.Frag) (CS : List Addr) (CL D : Addr) (j : Nat) : Prop where
  ec : ExcC K D
  ks : ∀ (i : Nat) (c : Addr), CS[i]? = some c → PySem.W.kitOne K (.ref D) (.ref c) = some (decide (i = j))
  iv : PySem.W.kitOne K (.ref D) (.type "ValueError") = some true
  xm : PySem.W.exmOne K (.ref D) (.ref CL) = some true
theorem kinds9 {K : PySem.W.Frag} {D : Addr} {j : Nat} {c0 c1 c2 c3 c4 c5 c6 c7 c8 : Addr} {b0 b1 b2 b3 b4 b5 b6 b7 b8 : Bool} (h0 : PySem.W.kitOne K (.ref D) (.ref c0) = some b0) (h1 : PySem.W.kitOne K (.ref D) (.ref c1) = some b1) (h2 : PySem.W.kitOne K (.ref D) (.ref c2) = some b2)
    (h3 : PySem.W.kitOne K (.ref D) (.ref c3) = some b3) (h4 : PySem.W.kitOne K (.ref D) (.ref c4) = some b4) (h5 : PySem.W.kitOne K (.ref D) (.ref c5) = some b5) (h6 : PySem.W.kitOne K (.ref D) (.ref c6) = some b6) (h7 : PySem.W.kitOne K (.ref D) (.ref c7) = some b7) (h8 : PySem.W.kitOne K (.ref D) (.ref c8) = some b8)
    (e : [b0, b1, b2, b3, b4, b5, b6, b7, b8] = (List.range 9).map fun i => decide (i = j)) : ∀ (i : Nat) (c : Addr), [c0, c1, c2, c3, c4, c5, c6, c7, c8][i]? = some c → PySem.W.kitOne K (.ref D) (.ref c) = some (decide (i = j)) := by
  intro i c hc
  have hl := (List.getElem?_eq_some_iff.mp hc).1
  have hl : i < 9 := hl
  have e' := congrArg (fun l : List Bool => l[i]?) e
  have er : (List.range 9)[i]? = some i := by rw [List.getElem?_eq_getElem (by simpa using hl), List.getElem_range]
  simp only [List.getElem?_map, er, Option.map_some] at e'
  have : i = 0 ∨ i = 1 ∨ i = 2 ∨ i = 3 ∨ i = 4 ∨ i = 5 ∨ i = 6 ∨ i = 7 ∨ i = 8 := by omega
  rcases this with rfl | rfl | rfl | rfl | rfl | rfl | rfl | rfl | rfl
  · cases hc; rw [h0]; exact e'
  · cases hc; rw [h1]; exact e'
  · cases hc; rw [h2]; exact e'
  · cases hc; rw [h3]; exact e'
  · cases hc; rw [h4]; exact e'
  · cases hc; rw [h5]; exact e'
  · cases hc; rw [h6]; exact e'
  · cases hc; rw [h7]; exact e'
  · cases hc; rw [h8]; exact e'
def wordN (j : Nat) : Str := (["manners", "count", "part", "item", "full", "log", "text", "end", "step"] : List Str).getD j ""
/-- what an exception's word and number are -/
def WordAt (K : PySem.W.Frag) (CS : List Addr) (CL : Addr) (cls : Value) (d : Option Addr) (H : Hp) (j : Nat) (num : Int) : Prop :=
  ∃ D, cls = .ref D ∧ j < 9 ∧ Kind K CS CL D j ∧ ((j ≠ 5 ∧ j ≠ 6 ∧ j ≠ 8 ∧ num = 0 ∧ d = none) ∨
    ∃ dd fs, d = some dd ∧ H dd = some (.xd fs) ∧ XfC K D ∧ (((j = 5 ∨ j = 6) ∧ PySem.W.findIn K (.ref D) "row" = some none ∧ fs.lookup ("row" : Str) = some (V.int num)) ∨ (j = 8 ∧ PySem.W.findIn K (.ref D) "at" = some none ∧ fs.lookup ("at" : Str) = some (V.int num))))
/-- of a work handed to _law_word: None, or the word and the number of what it raises -/
def TTw (K : PySem.W.Frag) (CS : List Addr) (CL : Addr) : (XK → Hp → VK → Prop) → Hp → VK → Prop := fun tl H Q => ∃ Ew : XK, tl Ew H (fun _ H' => Q .non H') ∧
  ∀ cls d H', Ew cls d H' → ∃ j num, WordAt K CS CL cls d H' j num ∧ ∀ t H2, Same H' H2 → H2 t = some (.tup [.str (wordN j), .int num]) → Q (.ref t) H2
end TL
namespace TL
open PySem PySem.Spec PyProof.Rows L2
/-- behind a made exception all else is as it was -/
theorem raised_same {H : Hp} {a dx : Addr} {fs : List (Str × V)} {o1 o2 o3 : HO} (ha : H a = none) (hd : H dx = none) : Same H (upd (del (upd (upd (upd H a o1) dx o2) a o3) a) dx (.xd fs)) := fun b o e => by
  have n1 : b ≠ dx := ne_of_none e hd
  have n2 : b ≠ a := ne_of_none e ha
  rw [upd_ne n1, del_ne n2, upd_ne n2, upd_ne n1, upd_ne n2]
  exact e
/-- a loop over a list of two -/
theorem for_pair {K : PySem.W.Frag} {a : Addr} {v0 v1 : V} {g : TG} {tb : TS} {D : Ends} {σ : L2.St} {H : Hp} (P0 P1 P2 : L2.St → Hp → Prop) (h0 : P0 σ H) (l0 : ∀ σ H, P0 σ H → SqL K H a [v0, v1]) (l1 : ∀ σ H, P1 σ H → SqL K H a [v0, v1]) (l2 : ∀ σ H, P2 σ H → SqL K H a [v0, v1])
    (s0 : ∀ σ H, P0 σ H → g v0 σ H fun σ2 H2 => tb { D with nx := P1, ct := P1, bk := D.nx } σ2 H2)
    (s1 : ∀ σ H, P1 σ H → g v1 σ H fun σ2 H2 => tb { D with nx := P2, ct := P2, bk := D.nx } σ2 H2)
    (hd : ∀ σ H, P2 σ H → D.nx σ H) : ForW (Itl K a) g tb D σ H := by
  refine for_list (K := K) (a := a) (xs := [v0, v1]) (fun i σ H => match i with | 0 => P0 σ H | 1 => P1 σ H | _ => P2 σ H) h0 ?_ ?_ hd
  · intro i σ H hi p
    match i, p with
    | 0, p => exact l0 σ H p
    | 1, p => exact l1 σ H p
    | _ + 2, p => exact l2 σ H p
  · intro i x σ H hx p
    match i, hx, p with
    | 0, hx, p =>
      have e : v0 = x := Option.some.inj hx
      subst e
      exact s0 σ H p
    | 1, hx, p =>
      have e : v1 = x := Option.some.inj hx
      subst e
      exact s1 σ H p
    | n + 2, hx, p => simp at hx
theorem log_small {i : Int} (h0 : 0 ≤ i) (h9 : i ≤ 9) : i.natAbs.log2 < 1920 := by
  have : i = 0 ∨ i = 1 ∨ i = 2 ∨ i = 3 ∨ i = 4 ∨ i = 5 ∨ i = 6 ∨ i = 7 ∨ i = 8 ∨ i = 9 := by omega
  rcases this with rfl | rfl | rfl | rfl | rfl | rfl | rfl | rfl | rfl | rfl <;> decide
end TL
namespace TL
open PySem PySem.Spec PyProof.Rows L2
/-! ### the table of the law's lambdas -/
def lamQ : Str := ("law" : Str) ++ ".<locals>." ++ "<lambda>"
theorem tab_frm {P R : Addr} {q : Str} {H H' : Hp} {xs : List V} (h : LamX.TabS H P q) (hR : H R = some (.lst xs)) (f : Frm [R] H H') : LamX.TabS H' P q := by
  obtain ⟨ps, h1, h2, h3⟩ := h
  have n1 : P ≠ R := fun e => by
    rw [e, hR] at h1
    cases h1
  refine ⟨ps, f _ _ h1 (by simp [n1]), h2, fun pos cv hc => ?_⟩
  obtain ⟨c, e1, e2⟩ := h3 pos cv hc
  have n2 : c ≠ R := fun e => by
    rw [e, hR] at e2
    unfold LamX.CodeO at e2
    cases e2
  exact ⟨c, e1, f _ _ e2 (by simp [n2])⟩
theorem tabs_frm {T : List (Addr × Str)} {R : Addr} {H H' : Hp} {xs : List V} (h : LamX.Tabs T H) (hR : H R = some (.lst xs)) (f : Frm [R] H H') : LamX.Tabs T H' := fun p hp => tab_frm (h p hp) hR f
theorem tabs_same {T : List (Addr × Str)} {H H' : Hp} (h : LamX.Tabs T H) (s : Same H H') : LamX.Tabs T H' := h.ext s
theorem tabs_dice {T : List (Addr × Str)} {d : Addr} {H H' : Hp} (h : LamX.Tabs T H) (D : DiceAt H d) (f : Frm [d] H H') : LamX.Tabs T H' := by
  obtain ⟨ns, h1, _⟩ := D
  exact tabs_frm h h1 f
theorem dice_ext {d : Addr} {H H' : Hp} (D : DiceAt H d) (e : LamX.ExtN H H') : DiceAt H' d := by
  obtain ⟨ns, h1, h2⟩ := D
  exact ⟨ns, e _ _ h1 (fun ps z => by cases z), h2⟩
theorem look1 {n : Str} {v : V} : List.lookup n [(n, v)] = some v := by simp [List.lookup]
theorem word6 : wordN 6 = "text" := rfl
theorem word5 : wordN 5 = "log" := rfl
theorem word8 : wordN 8 = "step" := rfl
theorem lv_word {z : Str} (hz : (PyData.str z).canLay0 = true) (n : Int) : lv 1 (.tuple [.str z, .int n]) := by
  refine ⟨(by show 2 ≤ 100000; decide), fun x hx => ?_⟩
  rcases List.mem_cons.mp hx with rfl | hx
  · simpa [lv] using hz
  · rcases List.mem_cons.mp hx with rfl | hx
    · simp [lv]
    · cases hx
theorem im_word {H : Hp} {u : Addr} {z : Str} {n : Int} (h : H u = some (.tup [.str z, .int n])) : Im H (.ref u) (.tuple [.str z, .int n]) := .tup h (.cons (.str _) (.cons (.int _) .nil))
end TL

namespace TL
open PySem PySem.Spec PyProof.Rows L2 LamX NdefX
/-! ### lambdas that are kept: what is known of a function object -/
/-- a lambda: its words, the cells that it captured, its code object, where its defaults stand -/
structure LF where
  qual : Str
  params : Arguments
  body : Expr
  scope : Scope
  cl : List (Str × Addr)
  c : Addr
  dv : Option Addr
def dvV : Option Addr → Value
  | none => .none
  | some t => .ref t
abbrev LF.fd (F : LF) (doc pm ctv : Value) : FuncData := PySem.W.kdv_fn "<lambda>" F.qual F.params (.expr F.body) F.scope F.cl (dvV F.dv) doc pm (.ref F.c) ctv
/-- its names, as a nested def's -/
abbrev LF.nf (F : LF) : NF := ⟨"<lambda>", F.qual, F.params, [], F.scope, F.cl, F.c⟩
/-- the object at f is the lambda F -/
def LamAt (f : Addr) (F : LF) : HO := .ext fun h => ∃ doc pm ctv : Value, h.get? f = some ({ cls := .type "function", data := .func (F.fd doc pm ctv) } : Obj)
theorem lamAt_ne {f : Addr} {F : LF} (ps : Array Value) : LamAt f F ≠ .tbl ps := fun z => by unfold LamAt at z; cases z
theorem lamAt_get {P : Program} {w : World} {H : Hp} {h : Heap} {f : Addr} {F : LF} (hok : HOk P w H h) (e : H f = some (LamAt f F)) : ∃ doc pm ctv : Value, h.get? f = some ({ cls := .type "function", data := .func (F.fd doc pm ctv) } : Obj) := (hok f _ e).1
section
variable {X : Cx} {pins : List (Addr × Obj)} {σ : L2.St} {H : Hp} {s : Shared}
theorem inv_lam {F : LF} {o : Obj} {tk : Nat} {doc pm ctv : Value} (J : Inv X pins σ H s) (ho : o = { cls := .type "function", data := .func (F.fd doc pm ctv) }) : Inv X pins σ (upd H s.heap.objs.size (LamAt s.heap.objs.size F)) { s with heap := s.heap.push o, toks := tk } := by
  subst ho
  have e := Heap.get?_push_size s.heap (o := { cls := .type "function", data := .func (F.fd doc pm ctv) }) rfl
  exact J.laid (fun b u z => Heap.get?_push_of_some _ z) (Nat.le_refl _) ⟨⟨doc, pm, ctv, e⟩, ⟨_, e⟩, fun h1 h2 ⟨x, y, z, q⟩ st => ⟨x, y, z, st _ q⟩⟩
/-- a lambda's object is made -/
theorem lam_new {T : List (Addr × Str)} {c P : Addr} {params : Arguments} {body : Expr} {scope : Scope} {pos : Pos} {dv : Option Addr} {q : Str} {E : Value → Shared → Prop} {Q : Value → Shared → Prop} (J : Inv X pins σ H s) (TB : TabB X.base X.mg c P) (hcode : X.env.code = .ref c)
    (hm : (P, q) ∈ T) (hu : ∀ p ∈ T, p.1 = P → p.2 = q) (hT : Tabs T H) (hfree : ∀ y ∈ scope.names, y.2 = .free → ∃ a, X.env.cells.lookup y.1 = some a)
    (go : ∀ (f c' : Addr) (H1 : Hp) (s1 : Shared), Inv X pins σ H1 s1 → ExtN H H1 → Tabs T H1 → H f = none → H1 f = some (LamAt f ⟨q, params, body, scope, cloFrom X.env.cells scope.names [], c', dv⟩) → H1 c' = some (CodeO c' q) → Q (.ref f) s1) :
    wpAny (model X.prog X.w) X.A (makeTail "<lambda>" q params (.expr body) scope X.env (dvV dv) .none none pos pos.line) Q E s := by
  obtain ⟨ps, hP, trip, all⟩ := hT _ hm
  have bm := TB.bm.keeps J.bk
  have tab : s.heap.get? P = some { cls := .none, data := .fields ps } := J.hok P _ hP
  cases among : codeAmong pos ps.toList with
  | some cv =>
    obtain ⟨c', rfl, hco⟩ := all pos cv among
    refine PySem.W.kdv_makeTailHit (mg := X.mg) (c := c) (P := P) (ps := ps) (closure_ok hfree) J.ok.glob (J.mod.glob.keeps J.bk) hcode (TB.code.keeps J.bk) tab trip among bm fun ctv doc g tk keep big => ?_
    have J1 : Inv X pins σ H { s with heap := g, toks := tk } := J.kept keep
    have new : H g.objs.size = none := J1.hok.fresh (Nat.le_refl _)
    refine go g.objs.size c' _ _ (inv_lam (F := ⟨q, params, body, scope, cloFrom X.env.cells scope.names [], c', dv⟩) (tk := tk) J1 rfl) (fun b o z _ => ?_) (hT.ext fun b o z => ?_) new upd_same ?_
    · rw [upd_ne (ne_of_none z new)]; exact z
    · rw [upd_ne (ne_of_none z new)]; exact z
    · rw [upd_ne (ne_of_none hco new)]; exact hco
  | none =>
    refine PySem.W.kdv_makeTail (mg := X.mg) (c := c) (P := P) (ps := ps) (closure_ok hfree) J.ok.glob (J.mod.glob.keeps J.bk) hcode (TB.code.keeps J.bk) tab trip among TB.gP bm fun c' ctv doc g tk but ge lt rec_ tab' => ?_
    obtain ⟨c2, oc, vs, t, e2, h1, h2, h3⟩ := rec_
    cases e2
    have newC : H c' = none := J.hok.fresh ge
    have J1 := inv_table (t' := tk) (more := #[rawInt pos.line, rawInt pos.col, .ref c']) (h' := g) J hP (fun b o hb z => but b o hb z) tab' ge ⟨oc, vs, t, h1, h2, h3⟩
    have stay : ExtN H (upd (upd H P (.tbl (ps ++ #[rawInt pos.line, rawInt pos.col, .ref c']))) c' (CodeO c' q)) := fun b o z n => by
      have nP : b ≠ P := fun e => n ps (Option.some.inj (z.symm.trans (e ▸ hP)))
      rw [upd_ne (ne_of_none z newC), upd_ne nP]
      exact z
    have grown : Tabs T (upd (upd H P (.tbl (ps ++ #[rawInt pos.line, rawInt pos.col, .ref c']))) c' (CodeO c' q)) := fun p hp => by
      by_cases e : p.1 = P
      · rw [hu p hp e, e]
        have el : (ps ++ #[rawInt pos.line, rawInt pos.col, .ref c']).toList = ps.toList ++ [rawInt pos.line, rawInt pos.col, .ref c'] := by simp
        refine ⟨_, (upd_ne (ne_of_none hP newC)).trans upd_same, el ▸ PySem.TriplesOk_snoc _ _ _ _ trip, fun p2 cv hcv => ?_⟩
        rw [el] at hcv
        rcases among_app _ trip hcv with z | z
        · obtain ⟨c0, z1, z2⟩ := all p2 cv z
          exact ⟨c0, z1, stay _ _ z2 codeO_ne⟩
        · exact ⟨c', z, upd_same⟩
      · obtain ⟨ps2, z1, z2, z3⟩ := hT p hp
        refine ⟨ps2, by rw [upd_ne (ne_of_none z1 newC), upd_ne e]; exact z1, z2, fun p2 cv hcv => ?_⟩
        obtain ⟨c0, y1, y2⟩ := z3 p2 cv hcv
        exact ⟨c0, y1, stay _ _ y2 codeO_ne⟩
    have newF := J1.hok.fresh (Nat.le_refl _)
    refine go g.objs.size c' _ _ (inv_lam (F := ⟨q, params, body, scope, cloFrom X.env.cells scope.names [], c', dv⟩) (tk := tk) J1 rfl) (fun b o z n => ?_) (grown.ext fun b o z => ?_) (J.hok.fresh (Nat.le_trans ge (Nat.le_of_lt lt))) upd_same ?_
    · have z1 := stay b o z n
      rw [upd_ne (ne_of_none z1 newF)]; exact z1
    · rw [upd_ne (ne_of_none z newF)]; exact z
    · rw [upd_ne (Nat.ne_of_lt lt)]; exact upd_same
end
/-- the reading of a lambda: f the new function -/
def tLamF (T : List (Addr × Str)) (mk : Addr → LF) : TE := fun _ H Q => Tabs T H ∧ ∀ (f c' : Addr) (H1 : Hp), ExtN H H1 → Tabs T H1 → H f = none → H1 f = some (LamAt f (mk c')) → H1 c' = some (CodeO c' (mk c').qual) → Q (.ref f) H1
/-- of one with a default of 0, at t -/
def tLamD (T : List (Addr × Str)) (mk : Addr → Addr → LF) : TE := fun _ H Q => Tabs T H ∧ ∀ (t f c' : Addr) (H1 : Hp), ExtN H H1 → Tabs T H1 → H f = none → H1 t = some (.tup [.int 0]) → H1 f = some (LamAt f (mk t c')) → H1 c' = some (CodeO c' (mk t c').qual) → Q (.ref f) H1
section
variable {X : Cx} {T : List (Addr × Str)} {c P : Addr} {params : Arguments} {body : Expr} {scope : Scope} {pos : Pos}
theorem pe_lamF (TB : TabB X.base X.mg c P) (hcode : X.env.code = .ref c) (hm : (P, X.env.qual ++ "<lambda>") ∈ T) (hu : ∀ p ∈ T, p.1 = P → p.2 = X.env.qual ++ "<lambda>") (L : ∀ y ∈ scope.names, y.2 = .free → X.env.scope.names.lookup y.1 = some .cell ∨ X.env.scope.names.lookup y.1 = some .free)
    (hdef : defaultsOf params X.env = ([], [])) : PE X (.Lambda params body scope pos) (tLamF T fun c' => ⟨X.env.qual ++ "<lambda>", params, body, scope, cloFrom X.env.cells scope.names [], c', none⟩) := by
  constructor
  intro pins s σ H Q J h
  obtain ⟨hT, h⟩ := h
  refine PySem.W.kla_eval hdef ?_
  rw [makeFunction_eq]
  simp only [List.zip_nil_right, List.filterMap_nil, List.isEmpty_nil, if_true, pure_bind]
  exact lam_new (dv := none) J TB hcode hm hu hT (fun y hy e => (L y hy e).elim (fun z => J.ok.has _ (.inl z)) fun z => J.ok.has _ (.inr z)) fun f c' H1 s1 J1 eN T1 f0 f1 c1 => ⟨.ref f, H1, J1, rfl, h f c' H1 eN T1 f0 f1 c1⟩
theorem pe_lamD {k : Nat} {p0 : Pos} (TB : TabB X.base X.mg c P) (hcode : X.env.code = .ref c) (hm : (P, X.env.qual ++ "<lambda>") ∈ T) (hu : ∀ p ∈ T, p.1 = P → p.2 = X.env.qual ++ "<lambda>") (L : ∀ y ∈ scope.names, y.2 = .free → X.env.scope.names.lookup y.1 = some .cell ∨ X.env.scope.names.lookup y.1 = some .free)
    (hdf : params.defaults = [.Constant (.int 0) k p0]) (hkd : params.kw_defaults = []) : PE X (.Lambda params body scope pos) (tLamD T fun t c' => ⟨X.env.qual ++ "<lambda>", params, body, scope, cloFrom X.env.cells scope.names [], c', some t⟩) := by
  constructor
  intro pins s σ H Q J h
  obtain ⟨hT, h⟩ := h
  refine PySem.W.kdv_lam (by rw [hdf]; rfl) hkd ?_
  rw [hdf]
  refine PySem.W.kdv_all1 (thn (pe_int.run pins s σ H (fun v H1 => v = .int 0 ∧ H1 = H) J ⟨rfl, rfl⟩) fun u s1 ⟨v, H1, J1, rv, e1, e2⟩ => PySem.W.kdv_all0 ?_)
  subst e1 e2
  rw [makeFunction_eq]
  simp only [List.zip_nil_right, List.filterMap_nil, List.isEmpty_nil, List.isEmpty_cons, if_true, if_false, pure_bind, Bool.false_eq_true]
  refine wpAny_bind (wpAny_newTextTuple ?_)
  have e := Heap.get?_push_size s1.heap (o := PySem.W.kdv_tup [u]) rfl
  have J2 : Inv X pins σ (upd H1 s1.heap.objs.size (.tup [.int 0])) { s1 with heap := s1.heap.push (PySem.W.kdv_tup [u]) } :=
    J1.laid (t' := s1.toks) (fun b o z => Heap.get?_push_of_some _ z) (Nat.le_refl _) ⟨by show 1 ≤ sizeLine; decide, [u], .cons rv .nil, _, e, rfl, 0, rfl⟩
  have n0 := J1.hok.fresh (Nat.le_refl s1.heap.objs.size)
  have keep : ∀ b o, H1 b = some o → upd H1 s1.heap.objs.size (.tup [.int 0]) b = some o := fun b o z => by
    rw [upd_ne (ne_of_none z n0)]; exact z
  refine lam_new (dv := some s1.heap.objs.size) J2 TB hcode hm hu (hT.ext keep) (fun y hy e => (L y hy e).elim (fun z => J2.ok.has _ (.inl z)) fun z => J2.ok.has _ (.inr z)) fun f c' H2 s2 J3 eN T1 f0 f1 c1 => ?_
  have ft : H1 f = none := by
    cases q : H1 f with
    | none => rfl
    | some o => rw [keep _ _ q] at f0; cases f0
  exact ⟨.ref f, H2, J3, rfl, h s1.heap.objs.size f c' H2 (fun b o z n => eN b o (keep b o z) n) T1 ft (eN _ _ upd_same fun ps z => by cases z) f1 c1⟩
end
/-! ### a lambda is called -/
/-- what its captured cells hold stays, from frame to frame -/
theorem cells_stay {fs ex : List Addr} {H H' : Hp} {h h' : Heap} {cl : List (Str × Addr)} {fr : List Str} {ws : List (Option V)} (C : CellsAt cl fr ws h H) (u : Un fs ex H H' h h') (out : ∀ y c, cl.lookup y = some c → c ∉ ex) : CellsAt cl fr ws h' H' := by
  have same : ∀ y c, cl.lookup y = some c → ∀ v, h.IsCell c v → h'.IsCell c v := fun y c e v ⟨o, z, d⟩ => by
    obtain ⟨sl, q⟩ := u.any z (C.all y c e).1 (out y c e)
    exact ⟨_, q, d⟩
  refine ⟨C.len, fun y c e => ?_, C.inj, fun i y e => ?_⟩
  · obtain ⟨n, v, z⟩ := C.all y c e
    obtain ⟨o, z1, _⟩ := id z
    exact ⟨u.free c o z1 n (out y c e), v, same y c e v z⟩
  · obtain ⟨c, hc, hv⟩ := C.has i y e
    exact ⟨c, hc, fun v ev => let ⟨a, r, z⟩ := hv v ev; ⟨a, r, same y c hc _ z⟩⟩
section
variable {P : Program} {w : World} {K : PySem.W.Frag} {mg : Str → Option Value} {base : Heap}
/-- what a lambda does: fr the names that it captured, ws what they hold -/
def LOk (P : Program) (w : World) (K : PySem.W.Frag) (mg : Str → Option Value) (base : Heap) (k : Nat) (f : Addr) (F : LF) (fr : List Str) (tl : List (Option V) → XK → Hp → VK → Prop) : Prop :=
  ∀ (A : Around) (outer : List Env) (s : Shared) (H : Hp) (ws : List (Option V)) (Q : VK) (E : XK), Room k A → Env0 P w K mg base A outer s H → H f = some (LamAt f F) → H F.c = some (CodeO F.c F.qual) → (∀ t, F.dv = some t → H t = some (.tup [.int 0])) → CellsAt F.cl fr ws s.heap H → tl ws E H Q →
    codeAny (model P w) A (.call (.ref f) ⟨[], []⟩) (CR (L2.CX P w) outer P w H s Q E) s
theorem LOk.mono {j k : Nat} {f : Addr} {F : LF} {fr : List Str} {tl : List (Option V) → XK → Hp → VK → Prop} (o : LOk P w K mg base j f F fr tl) (h : j ≤ k) : LOk P w K mg base k f F fr tl := fun A outer s H ws Q E hr => o A outer s H ws Q E (hr.mono h)
/-- by its body; vs: its default's value, if it has one -/
theorem lok_of {k : Nat} {f : Addr} {F : LF} {N ps fr : List Str} {vs : List V} {tb : XK → TE} (S : NScope N ps fr F.scope) (hl : vs.length = ps.length) (bind : ∀ (s : Shared) (doc pm ctv : Value), (∀ t, F.dv = some t → ∃ u, IsTup s.heap t #[u] ∧ RelV (.int 0) u) → ∃ us, Vals vs us ∧ BindsTo s (F.fd doc pm ctv) ⟨[], []⟩ (ps.zip us))
    (body : ∀ (A : Around) (outer : List Env) (s : Shared) (H : Hp) (E : XK), Room k (A.deeper (envF F.nf f s.heap.objs.size)) → PE (ncx (L2.CX P w) P w K mg base N F.nf f A outer s H E) F.body (tb E)) : LOk P w K mg base (k + 1) f F fr fun ws E H Q => tb E (startF N vs ws) H Q := by
  intro A outer s H ws Q E hr e0 hf hc hd C hq
  have lim : s.heap.NoLimit := e0.mod.nolimit.keeps fun b o e => (e0.bs b o e).1
  obtain ⟨doc, pm, ctv, ho⟩ := lamAt_get e0.hok hf
  obtain ⟨us, rv, bt⟩ := bind s doc pm ctv fun t ht => by
    have z : ObjOk P w H s.heap t (.tup [.int 0]) := e0.hok t _ (hd t ht)
    obtain ⟨_, its, r, z⟩ := z
    cases r with
    | cons r0 rr =>
      cases rr
      exact ⟨_, z, r0⟩
  refine PySem.W.kla_callFunE hr.depth ho rfl S.co S.gen rfl (codeO_at e0.hok hc) ?_
  refine bt _ _ _ _ (wpAny_newFunctionEnv S.nocell (fun ⟨n, _⟩ hy => S.par n (List.of_mem_zip hy).1) (fun g ns sb => ⟨lim.fresh _ sb, ?_⟩) S.kind)
  have kp : ∀ b o, s.heap.get? b = some o → g.get? b = some o := fun b o e => sb.extBut b o (Nat.ne_of_lt (Heap.lt_size e)) (Heap.get?_push_of_some _ e)
  have J : Inv (ncx (L2.CX P w) P w K mg base N F.nf f A outer s H E) [] (startF N vs ws) H { s with heap := g, toks := s.toks + (ps.zip us).length } := inv_startN S hr.hd e0 hl rv C ns kp
  refine PySem.W.kla_codeExpr (wpAny_mono ((body A outer s H E (hr.deeper _)).run [] _ _ H Q J hq) (fun v s2 hv => ?_) fun _ _ z => z)
  obtain ⟨x, H2, J2, r, q⟩ := hv
  exact ⟨x, H2, J2.os, J2.bare, J2.base, J2.hok, r, q⟩
end
theorem takes_ncx {P : Program} {w : World} {K : PySem.W.Frag} {mg : Str → Option Value} {base : Heap} {N : List Str} {F : NF} {f : Addr} {A : Around} {outer : List Env} {s : Shared} {H : Hp} {E : XK} : Takes (ncx (L2.CX P w) P w K mg base N F f A outer s H E) (fun cls d _ H => E cls d H) := takes_of rfl rfl rfl rfl
theorem pass_ncx {P : Program} {w : World} {K : PySem.W.Frag} {mg : Str → Option Value} {base : Heap} {N : List Str} {F : NF} {f : Addr} {A : Around} {outer : List Env} {s : Shared} {H : Hp} {E : XK} : Passes (L2.CX P w) (ncx (L2.CX P w) P w K mg base N F f A outer s H E) E := passes_call takes_ncx fun _ _ _ _ h => h
/-- the reading of what a lambda at f does, its object at hand -/
def tlF (f : Addr) (F : LF) (tl : XK → Hp → VK → Prop) : XK → Hp → VK → Prop := fun E H Q => H f = some (LamAt f F) ∧ (∀ t, F.dv = some t → H t = some (.tup [.int 0])) ∧ tl E H Q
/-- x(), in the def that got the lambda at f, entered at s from the frames of X -/
theorem pe_actL {X : Cx} {H : Hp} {s : Shared} {k : Nat} {f : Addr} {F : LF} {fr : List Str} {ws : List (Option V)} {tl : List (Option V) → XK → Hp → VK → Prop} {CXg : CXT} {Eg : XK} {Ng : List Str} {qg : Str} {sg : Scope} {g : Addr} {cdg : Value} {a : Str} {pn : List (Addr × Obj)} {xe : Value → Shared → Prop}
    {W : WX} {E : XK} {p1 p2 : Pos} (L : LOk X.prog X.w X.K X.mg X.base k f F fr tl) (C : CellsAt F.cl fr ws s.heap H) (tk : Takes ((cxOf CXg X.prog X.w X.K X.mg X.base Ng qg sg g cdg X.A X.stack s H Eg).tr pn xe) W) (hW : ∀ cls d σ' H', E cls d H' → W cls d σ' H')
    (hr : Room k (X.A.deeper (envOfC qg sg s.heap.objs.size g cdg))) (hN : Ng[0]? = some a) (hv : Vis sg a) (hd : (a == ("__debug__" : Str)) = false := by decide) (hcd : (a == ("__classdict__" : Str)) = false := by decide) :
    PE ((cxOf CXg X.prog X.w X.K X.mg X.base Ng qg sg g cdg X.A X.stack s H Eg).tr pn xe) (.Call (.Name a p1) [] [] p2) (fun σZ HZ Q => σZ[0]? = some (some (.ref f)) ∧ HZ F.c = some (CodeO F.c F.qual) ∧ tlF f F (tl ws) E HZ Q) := by
  constructor
  intro pinsZ sZ σZ HZ Q JZ h
  obtain ⟨hs, hc, hf, hdv, ht⟩ := h
  refine wpAny_Call_Name_kw (thn ((pe_var (pos := p1) (i := 0) hN hv hd hcd).run pinsZ sZ σZ HZ (fun v H1 => v = .ref f ∧ H1 = HZ) JZ ⟨.ref f, hs, rfl, rfl⟩) fun u s1 ⟨v, H1, J1, r1, e1, e2⟩ => ?_)
  subst e1 e2
  cases r1
  obtain ⟨doc, pm, ctv, ho⟩ := lamAt_get J1.hok hf
  refine PySem.W.callWith_F0 ⟨_, _, _, _, ho⟩ ?_
  have un : Un (frs X.stack) [] H H1 s.heap s1.heap := J1.base
  have C1 := cells_stay C un fun _ _ _ => by simp
  refine wpAny_call (codeAny_mono (L _ _ s1 H1 ws Q E hr J1.env0 hf hc hdv C1 ht) fun r s2 hq => ?_)
  cases r with
  | error e => exact passes_call tk hW pinsZ σZ H1 s1 e s2 J1 hq
  | ok fl =>
    cases fl with
    | ret v => exact J1.after hq
    | next => exact hq.elim
    | brk => exact hq.elim
    | cont => exact hq.elim
/-- how a lambda lies to the names of the def that made it -/
structure CapF (N : List Str) (sc : Scope) (cells : List (Str × Addr)) (F : LF) (fr : List Str) (js : List Nat) : Prop where
  cl : F.cl = cloFrom cells F.scope.names []
  free : ∀ y ∈ F.scope.names, y.2 = .free → sc.names.lookup y.1 = some .cell ∨ sc.names.lookup y.1 = some .free
  inn : ∀ y ∈ fr, (y, NameKind.free) ∈ F.scope.names
  at_ : js.map (fun j => N[j]?) = fr.map some
theorem cells_cap {X : Cx} {pins : List (Addr × Obj)} {σ : L2.St} {H : Hp} {s : Shared} {F : LF} {fr : List Str} {js : List Nat} (J : Inv X pins σ H s) (c : CapF X.N X.env.scope X.env.cells F fr js) : CellsAt F.cl fr (js.map (slotAt σ)) s.heap H := by
  rw [c.cl]
  exact cells_of J (Caps.made J.ok c.free c.inn c.at_)
/-- a lambda, ready to be called; ws: what the names hold that it captured -/
def Ready (P : Program) (w : World) (K : PySem.W.Frag) (mg : Str → Option Value) (base : Heap) (k : Nat) (N : List Str) (sc : Scope) (cells : List (Str × Addr)) (σL : L2.St) (f : Addr) (H : Hp) (tl : XK → Hp → VK → Prop) : Prop :=
  ∃ (F : LF) (fr : List Str) (js : List Nat) (tc : List (Option V) → XK → Hp → VK → Prop), LOk P w K mg base k f F fr tc ∧ CapF N sc cells F fr js ∧ H f = some (LamAt f F) ∧ H F.c = some (CodeO F.c F.qual) ∧ (∀ t, F.dv = some t → H t = some (.tup [.int 0])) ∧ tl = tlF f F (tc (js.map (slotAt σL)))
/-- the reading of x(e), x a def that calls what it gets -/
def tWord (P : Program) (w : World) (K : PySem.W.Frag) (mg : Str → Option Value) (base : Heap) (k : Nat) (N : List Str) (sc : Scope) (cells : List (Str × Addr)) (sel : L2.St → L2.St) (TT : (XK → Hp → VK → Prop) → Hp → VK → Prop) (te : TE) : TE := fun σ H Q =>
  te σ H fun v H1 => ∃ (f : Addr) (tl : XK → Hp → VK → Prop), v = .ref f ∧ Ready P w K mg base k N sc cells (sel σ) f H1 tl ∧ TT tl H1 Q
theorem pe_word {X : Cx} {TT : (XK → Hp → VK → Prop) → Hp → VK → Prop} {N0 : List Str} {sc0 : Scope} {cells0 : List (Str × Addr)} {sel : L2.St → L2.St} {x a : Str} {g : Addr} {k : Nat} {pg : Arguments} {bg : List Stmt} {sg : Scope} {dV kV doc pm cdv ct oc : Value} {an od : Option Addr} {osl : Array (Option Value)} {Ng : List Str}
    {e : Expr} {te : TE} {p pos : Pos} (known : ∀ (pins : List (Addr × Obj)) (s : Shared) (σ : L2.St) (H : Hp), Inv X pins σ H s → ∀ (F : LF) (fr : List Str) (js : List Nat), CapF N0 sc0 cells0 F fr js → CellsAt F.cl fr (js.map (slotAt (sel σ))) s.heap H)
    (hg : Gl X x) (hm : X.mg x = some (.ref g)) (hk : PySem.W.keepIn X.K (.ref g) = true) (lk : X.K.lookup g = some ⟨oc, od, .func (PySem.W.fnOf x x pg bg sg dV kV doc pm an cdv ct), osl⟩) (hcg : PySem.W.codeIn X.K cdv x = true) (hb : L2.Binds X.K (PySem.W.fnOf x x pg bg sg dV kV doc pm an cdv ct) [a] []) (Sg : FnScope Ng [a] sg)
    (hNg : Ng[0]? = some a) (hva : Vis sg a) (hG : ∀ q, GivesTo X Ng x sg g cdv bg a q TT) (hr : Room (k + 1) X.A) (he : PE X e te) (hdb : (x == ("__debug__" : Str)) = false := by decide) (hd : (a == ("__debug__" : Str)) = false := by decide) (hcd : (a == ("__classdict__" : Str)) = false := by decide)
    (hst : starEach (e :: []) X.env = (false, eval e X.env) :: starEach [] X.env := by rfl) (hpl : (backTo pos (starEach [] X.env)).any (·.1) = false := by rfl) :
    PE X (.Call (.Name x p) [e] [] pos) (tWord X.prog X.w X.K X.mg X.base k N0 sc0 cells0 sel TT te) := by
  constructor
  intro pins s σ H Q J h
  refine wpAny_Call_Name_kw (ld_glob J hg hm ?_ hdb)
  refine PySem.W.callWith_K (h₀ := X.base) J.ok.mod.kin hk (thn ((pa_cons he pa_nil (hs := hst)).run pos pins s σ H (fun vs H1 => ∃ v, vs = [v] ∧ ∃ (f : Addr) (tl : XK → Hp → VK → Prop), v = .ref f ∧ Ready X.prog X.w X.K X.mg X.base k N0 sc0 cells0 (sel σ) f H1 tl ∧ TT tl H1 Q) J (by
      have h' : te σ H fun v H1 => ∃ (f : Addr) (tl : XK → Hp → VK → Prop), v = .ref f ∧ Ready X.prog X.w X.K X.mg X.base k N0 sc0 cells0 (sel σ) f H1 tl ∧ TT tl H1 Q := h
      show te σ H fun v H1 => tNil σ H1 fun vs H2 => ∃ w0, v :: vs = [w0] ∧ _
      exact cast (by congr 1; funext v H1; exact propext ⟨fun z => ⟨v, rfl, z⟩, fun ⟨w0, z1, z2⟩ => by cases z1; exact z2⟩) h')) fun us s1 hh => ?_) hst hpl
  obtain ⟨vs, H1, J1, rs, v, rfl, f, tl, rfl, ⟨F, fr, js, tc, L, cap, hf, hc, hdv, rfl⟩, ht⟩ := hh
  refine ⟨J1.kIn, ?_⟩
  cases rs with
  | cons r0 rr =>
  cases rr
  cases r0
  have C := known _ _ _ _ J1 F fr js cap
  have rc : codeAny (model X.prog X.w) X.A (.call (.ref g) ⟨[.ref f], []⟩) (CR C8.CX0 X.stack X.prog X.w H1 s1 Q C8.E0) s1 := by
    refine run_ofS (N := Ng) (ps := [a]) (us := [.ref f]) (vs := [.ref f]) lk hcg Sg hr J1.env0 (hb s1 [.ref f] J1.kIn rfl) (.cons rfl .nil) rfl fun hr2 => ?_
    obtain ⟨t2, d2, q2⟩ := hG F.qual f F.c s1 H1 Q _ (fun W pn xe E p1 p2 tk hW => pe_actL L C tk hW hr2 hNg hva hd hcd) hc ht
    exact ⟨t2, d2.nox, q2⟩
  refine wpAny_call (codeAny_mono rc fun r s2 hq => ?_)
  cases r with
  | error e => exact (show False from hq).elim
  | ok fl =>
    cases fl with
    | ret u => exact J1.after hq
    | next => exact hq.elim
    | brk => exact hq.elim
    | cont => exact hq.elim
end TL

namespace TL
open PySem PySem.Spec PyProof.Rows L2 LamX NdefX
/-! ### a list comprehension whose element (or test) wants to know what holds in the def around it -/
section
variable {X : Cx}
theorem lc_known {pins : List (Addr × Obj)} {s : Shared} {σ : L2.St} {H : Hp} {Q : VK} {elt tg iter : Expr} {ifs : List Expr} {scope : Scope} {own : List (Str × Nat)} {pos fpos : Pos} {wi : TI} {g : TG} {tt : TT} {te : TE} {use : Option (Value → Sem Unit)} {Qf : Value → Shared → Prop}
    (calm : X.calm = true) (nd : X.N.Nodup) (J : Inv X pins σ H s) (it_ : PI X tg iter wi) (bk : BlkOk X.N X.env.scope scope own)
    (gg : ∀ (s0 : Shared) (H0 : Hp) (C : Addr) (cl : List (Str × Addr)) (ob : List Addr), PG (X.blk s0 H0 scope (compEnvC scope cl C X.env) ob) tg g)
    (tests : ∀ (s0 : Shared) (H0 : Hp) (C : Addr) (cl : List (Str × Addr)) (ob : List Addr), Inv X pins σ H0 s0 → (∀ b ∈ ob, FpOk X pins H0 b) → PTs (X.blk s0 H0 scope (compEnvC scope cl C X.env) ob) ifs tt)
    (elem : ∀ (s0 : Shared) (H0 : Hp) (C : Addr) (cl : List (Str × Addr)) (ob : List Addr), Inv X pins σ H0 s0 → (∀ b ∈ ob, FpOk X pins H0 b) → PE (X.blk s0 H0 scope (compEnvC scope cl C X.env) ob) elt te)
    (fold : ∀ x, foldedSetIterable iter X.env x = pure x) (h : tLc wi g tt te (own.map (·.2)) σ H Q)
    (out : ∀ L C s2 m H2, Inv X pins σ H2 s2 → Q (.ref L) H2 → s2.heap.Ns C m → FpOk X pins H2 C → compPost (model X.prog X.w) X.A X.xe use Qf (.ref L) C (.ok .next) s2) :
    wpAny (model X.prog X.w) X.A (comprehension (.ListComp elt [⟨tg, iter, ifs, 0⟩] scope pos) scope X.env fpos (newList []) false (eval iter X.env) use) Qf X.xe s := by
  have caught : ∀ y ∈ scope.names, y.2 = .free → ∃ c, X.env.cells.lookup y.1 = some c := fun y hy e => (bk.free y hy e).elim (fun z => J.ok.has _ (.inl z)) fun z => J.ok.has _ (.inr z)
  refine wpAny_comprehension_free (use := use) rfl fold (closure_ok caught) bk.kind (fun y hy e => (bk.uniq y hy).trans (congrArg some e)) (thn (it_.run pins s σ H _ J h) fun xv sA hA => thn hA fun iv sB hB => ?_)
  obtain ⟨i0, ob, tn, It, HB, rfl, JB, Tn, hst, free, q⟩ := hB
  refine wpAny_newObj_type (newEnv_comp ?_) (by show 0 ≤ sizeLine; decide)
  -- the new list
  obtain ⟨L, eL⟩ : ∃ L, sB.heap.objs.size = L := ⟨_, rfl⟩
  have noL : HB L = none := JB.hok.fresh (Nat.le_of_eq eL)
  obtain ⟨Inn, ⟨m0, start⟩, turn⟩ := q L noL
  obtain ⟨sC, eC⟩ : ∃ sC : Shared, sC = { sB with heap := sB.heap.push { cls := .type "list", data := .seq ([] : List Value).toArray } } := ⟨_, rfl⟩
  have heapC : sC.heap = sB.heap.push { cls := .type "list", data := .seq ([] : List Value).toArray } := by rw [eC]
  have JC : Inv X pins σ (upd HB L (.lst [])) sC := by
    rw [eC]
    exact JB.laid (t' := sB.toks) (fun b o z => Heap.get?_push_of_some _ z) (Nat.le_of_eq eL) ⟨Nat.zero_le _, [], 0, .nil, by rw [← eL]; exact Heap.get?_push_size _ rfl⟩
  have size : ∀ b ∈ ob, b < sB.heap.objs.size := fun b hb => let ⟨_, z, _⟩ := Tn.obj _ _ hst b hb; Heap.lt_size z
  have clear : ∀ b ∈ ob, FpOk X pins (upd HB L (.lst [])) b ∧ b < sC.heap.objs.size := fun b hb =>
    ⟨⟨by rw [upd_ne (by rw [← eL]; exact Nat.ne_of_lt (size b hb))]; exact (free b hb).1, (free b hb).2⟩, by rw [heapC, Heap.size_push]; exact Nat.lt_succ_of_lt (size b hb)⟩
  have hstC : tn 0 sC.heap := Tn.keep _ _ _ hst fun b _ o z => by rw [heapC]; exact Heap.get?_push_of_some _ z
  have JD := block_start JC bk nd clear
  obtain ⟨cl, ecl⟩ : ∃ cl, cellsFrom (sC.heap.objs.size + 1) scope.names (cloFrom X.env.cells scope.names []) = cl := ⟨_, rfl⟩
  have gD := gg sC (upd HB L (.lst [])) sC.heap.objs.size cl ob
  have tD := tests sC (upd HB L (.lst [])) sC.heap.objs.size cl ob JC fun b hb => (clear b hb).1
  have eD := elem sC (upd HB L (.lst [])) sC.heap.objs.size cl ob JC fun b hb => (clear b hb).1
  rw [ecl] at JD
  have gone : ∀ b ∈ ob, (upd HB L (.lst [])) b = none := fun b hb => (clear b hb).1.1
  obtain ⟨ce, ece⟩ : ∃ ce, compEnvC scope cl sC.heap.objs.size X.env = ce := ⟨_, rfl⟩
  have loc : ce.locals = sC.heap.objs.size := by rw [← ece]; rfl
  rw [ece] at JD gD tD eD
  obtain ⟨HC, eHC⟩ : ∃ HC, upd HB L (.lst []) = HC := ⟨_, rfl⟩
  rw [eHC] at JC JD gD tD eD start gone clear
  obtain ⟨sD, esD⟩ : ∃ sD : Shared, sD = { sC with heap := pushCells (sC.heap.push { cls := .type "dict", data := .dict #[] }) scope.names } := ⟨_, rfl⟩
  rw [← esD] at JD
  have hstD : tn 0 sD.heap := Tn.keep _ _ _ hstC fun b _ o z => by rw [esD]; exact pushCells_keeps _ _ _ _ (Heap.get?_push_of_some _ z)
  have within : ∀ {σ1 : L2.St} {H1 : Hp} {s1 : Shared}, Inv (X.blk sC HC scope ce ob) [] σ1 H1 s1 → (∀ b ∈ ob, H1 b = none) → ∀ b ∈ ob, FpOk (X.blk sC HC scope ce ob) [] H1 b := fun {σ1 H1 s1} K1 z b hb =>
    ⟨z b hb, (K1.ok.exf b hb).1, K1.ok.exfs b hb, .inl hb, fun x c e => (K1.ok.exf b hb).2 x c e, fun p hp => by simp at hp⟩
  have all : codeAny (model X.prog X.w) X.A (.compLoop (.ListComp elt [⟨tg, iter, ifs, 0⟩] scope pos) 0 (.ref i0) (.ref L) ce) (compPost (model X.prog X.w) X.A X.xe use Qf (.ref L) sC.heap.objs.size) sD := by
    refine compLoop_any (fun n s1 => ∃ i H1, Inv (X.blk sC HC scope ce ob) [] (wipe σ (own.map (·.2))) H1 s1 ∧ tn i s1.heap ∧ (∀ b ∈ ob, H1 b = none) ∧ Inn i n H1) (fun n s1 hs1 => ?_) m0 ⟨0, HC, JD, hstD, gone, start⟩
    obtain ⟨i, H1, J1, t1, z1, in1⟩ := hs1
    rcases turn i n H1 in1 with ⟨fin, qq⟩ | ⟨going, Next, toNext, step⟩
    · refine thnF (Tn.done (X.blk sC HC scope ce ob) rfl rfl rfl calm i [] s1 _ H1 (fun _ _ => False) J1 (within J1 z1) t1 fin) fun r s2 ⟨er, J2⟩ => ?_
      cases er
      have home : Inv X pins σ H1 s2 := JC.call' (ch := ob) J2.os J2.base J2.hok J2.bare fun b hb => let z := (clear b hb).1.2; ⟨z.2.2.1, z.1, z.2.2.2.1, z.2.2.2.2⟩
      have noC : H1 sC.heap.objs.size = none := by
        rw [← loc]
        exact J2.free
      obtain ⟨m, ns, _⟩ := J2.loc
      refine out L sC.heap.objs.size s2 m H1 home qq ?_ (JC.fpOk (Nat.le_refl _) noC)
      rw [← loc]
      exact ns
    · refine thnF (Tn.item (X.blk sC HC scope ce ob) rfl rfl rfl calm i [] s1 _ H1 (fun _ _ => False) J1 (within J1 z1) t1 going) fun r s2 ⟨u, er, h2⟩ => ?_
      cases er
      refine thnF h2 fun _ s3 ⟨x, H3, J3, r3, y3, t3, z3⟩ => ?_
      have J3p := J3.pinned (within J3 z3) (Tn.obj _ _ t3)
      refine thnF (gD.run _ s3 _ H3 x u _ J3p r3 (step x H3 y3)) fun _ s4 ⟨σ4, H4, J4, w4, q4⟩ => ?_
      refine thnF (tD.run _ s4 σ4 H4 _ J4 q4) fun b s5 ⟨H5, J5, q5⟩ => ?_
      have again : ∀ {s6 : Shared} {H6 : Hp}, Inv (X.blk sC HC scope ce ob) ([] ++ pinsAt ob s3.heap) σ4 H6 s6 → Next H6 → ∃ m, m < n ∧ ∃ i H1, Inv (X.blk sC HC scope ce ob) [] (wipe σ (own.map (·.2))) H1 s6 ∧ tn i s6.heap ∧ (∀ b ∈ ob, H1 b = none) ∧ Inn i m H1 := fun {s6 H6} J6 nx => by
        obtain ⟨m, lt, in6⟩ := toNext H6 nx
        have stay : ∀ b ∈ ob, ∀ o, s3.heap.get? b = some o → s6.heap.get? b = some o ∧ H6 b = none := fun b hb o z =>
          let w := J6.pin (b, o) (List.mem_append_right _ (List.mem_append_right _ (mem_pinsAt hb z))); ⟨w.1, w.2.1⟩
        refine ⟨m, lt, i + 1, H6, (J6.unpinned (pins := [])).weak (by rw [← w4, wipe_length]) (fun j v z => ?_), Tn.keep _ _ _ t3 fun b hb o z => (stay b hb o z).1, fun b hb => ?_, in6⟩
        · rw [← w4] at z
          exact (wipe_some z).1
        · obtain ⟨o, z, _⟩ := Tn.obj _ _ t3 b hb
          exact (stay b hb o z).2
      cases b with
      | true =>
        rw [if_pos rfl] at q5 ⊢
        refine thnF (eD.run _ s5 σ4 H5 _ J5 q5) fun z s6 ⟨y, H6, J6, r6, acc, hL, hz, nx⟩ => ?_
        exact app_ok (X := X.blk sC HC scope ce ob) J6 hL hz r6 fun s7 J7 => again J7 nx
      | false =>
        rw [if_neg Bool.false_ne_true] at q5 ⊢
        exact again J5 q5
  have go := codeAny_compStart_list all (Tn.self X.A 0 _ _ _ hstD all)
  subst esD ece ecl eL eC
  exact go
/-- as a value -/
theorem pe_lcK {elt tg iter : Expr} {ifs : List Expr} {scope : Scope} {own : List (Str × Nat)} {pos : Pos} {wi : TI} {g : TG} {tt : L2.St → TT} {te : L2.St → TE} (calm : X.calm = true) (nd : X.N.Nodup) (it_ : PI X tg iter wi) (bk : BlkOk X.N X.env.scope scope own)
    (gg : ∀ (s0 : Shared) (H0 : Hp) (C : Addr) (cl : List (Str × Addr)) (ob : List Addr), PG (X.blk s0 H0 scope (compEnvC scope cl C X.env) ob) tg g)
    (tests : ∀ (pins : List (Addr × Obj)) (σ : L2.St) (s0 : Shared) (H0 : Hp) (C : Addr) (cl : List (Str × Addr)) (ob : List Addr), Inv X pins σ H0 s0 → (∀ b ∈ ob, FpOk X pins H0 b) → PTs (X.blk s0 H0 scope (compEnvC scope cl C X.env) ob) ifs (tt σ))
    (elem : ∀ (pins : List (Addr × Obj)) (σ : L2.St) (s0 : Shared) (H0 : Hp) (C : Addr) (cl : List (Str × Addr)) (ob : List Addr), Inv X pins σ H0 s0 → (∀ b ∈ ob, FpOk X pins H0 b) → PE (X.blk s0 H0 scope (compEnvC scope cl C X.env) ob) elt (te σ))
    (fold : ∀ x, foldedSetIterable iter X.env x = pure x := by intro _; rfl) : PE X (.ListComp elt [⟨tg, iter, ifs, 0⟩] scope pos) (fun σ H Q => tLc wi g (tt σ) (te σ) (own.map (·.2)) σ H Q) := by
  constructor
  intro pins s σ H Q J h
  rw [eval_ListComp]
  refine lc_known calm nd J it_ bk gg (tests pins σ) (elem pins σ) fold h fun L C s2 m H2 J2 q ns z => ⟨m, ns, fun h2 but => ?_⟩
  exact ⟨.ref L, H2, J2.turned (t' := s2.toks) (fun b o hb e => (but.2 b hb).trans e) z.1 z.2.1 z.2.2.2.1 z.2.2.2.2.1 z.2.2.2.2.2, rfl, q⟩
/-- in the def that made the lambdas -/
theorem known_def : ∀ (pins : List (Addr × Obj)) (s : Shared) (σ : L2.St) (H : Hp), Inv X pins σ H s → ∀ (F : LF) (fr : List Str) (js : List Nat), CapF X.N X.env.scope X.env.cells F fr js → CellsAt F.cl fr (js.map (slotAt (id σ))) s.heap H := fun _ _ _ _ J _ _ _ c => cells_cap J c
/-- in a comprehension there -/
theorem known_blk {pins : List (Addr × Obj)} {σ : L2.St} {s0 : Shared} {H0 : Hp} {scope : Scope} {cenv : Env} {ob : List Addr} (J : Inv X pins σ H0 s0) (z : ∀ b ∈ ob, FpOk X pins H0 b) :
    ∀ (pins2 : List (Addr × Obj)) (s : Shared) (σ2 : L2.St) (H : Hp), Inv (X.blk s0 H0 scope cenv ob) pins2 σ2 H s → ∀ (F : LF) (fr : List Str) (js : List Nat), CapF X.N X.env.scope X.env.cells F fr js → CellsAt F.cl fr (js.map (slotAt ((fun _ => σ) σ2))) s.heap H := by
  intro pins2 s σ2 H J2 F fr js c
  have u : Un (X.blk s0 H0 scope cenv ob).fs ob H0 H s0.heap s.heap := J2.base
  refine cells_stay (cells_cap J c) u fun y a e hb => ?_
  rw [c.cl] at e
  have e2 : X.env.cells.lookup y = some a := clo_cm (fun y hy k => (c.free y hy k).elim (fun q => J.ok.has _ (.inl q)) fun q => J.ok.has _ (.inr q)) e
  exact (z a hb).2.2.2.2.1 y a e2 rfl
/-- the reading of x(e) in such a comprehension -/
abbrev tWordX (X : Cx) (k : Nat) (sel : L2.St → L2.St) (TT : (XK → Hp → VK → Prop) → Hp → VK → Prop) (te : TE) : TE := tWord X.prog X.w X.K X.mg X.base k X.N X.env.scope X.env.cells sel TT te
theorem ready_of {P : Program} {w : World} {K : PySem.W.Frag} {mg : Str → Option Value} {base : Heap} {k : Nat} {N : List Str} {sc : Scope} {cells : List (Str × Addr)} {σL : L2.St} {f : Addr} {H : Hp} {F : LF} {fr : List Str} {js : List Nat} {tc : List (Option V) → XK → Hp → VK → Prop}
    (hf : H f = some (LamAt f F)) (hc : H F.c = some (CodeO F.c F.qual)) (hd : ∀ t, F.dv = some t → H t = some (.tup [.int 0])) (L : LOk P w K mg base k f F fr tc) (c : CapF N sc cells F fr js) : Ready P w K mg base k N sc cells σL f H (tlF f F (tc (js.map (slotAt σL)))) := ⟨F, fr, js, tc, L, c, hf, hc, hd, rfl⟩
end
end TL

namespace TL
open PySem PySem.Spec PyProof.Rows L2
/-! ### tuples cut and put together: what comes out, be it new or not -/
theorem slA {K : PySem.W.Frag} {H : Hp} {a : Addr} {xs : List V} {lo hi : Option Int} {Q : VK} (ha : H a = some (.tup xs)) (k : ∀ p H', Same H H' → H' p = some (.tup (cutV xs lo hi)) → Q (.ref p) H') : rSlA K (.ref a) lo hi H Q :=
  ⟨a, xs, rfl, SqT.of ha, fun z => k a H (.refl _) (by
    have e : cutV xs lo hi = xs := by
      unfold cutV
      rw [z.1, z.2, List.drop_zero, Nat.sub_zero, List.take_length]
    rw [e]
    exact ha), fun _ p hp => k p _ (Same.upd_new hp) upd_same⟩
theorem catA {K : PySem.W.Frag} {H : Hp} {a b : Addr} {xs ys : List V} {Q : VK} (ha : H a = some (.tup xs)) (hb : H b = some (.tup ys)) (hl : xs.length + ys.length ≤ 1000) (k : ∀ p H', Same H H' → H' p = some (.tup (xs ++ ys)) → Q (.ref p) H') : rCatA K (.ref a) (.ref b) H Q :=
  ⟨a, b, xs, ys, rfl, rfl, SqT.of ha, SqT.of hb, Nat.le_of_lt (small1000 hl), fun z => k b H (.refl _) (by rw [z]; exact hb), fun _ z => k a H (.refl _) (by rw [z, List.append_nil]; exact ha), fun _ _ p hp => k p _ (Same.upd_new hp) upd_same⟩
abbrev rAddI : R2 := rI0 fun i j => .int (i + j)
section
variable {K : PySem.W.Frag} {σ : L2.St} {H : Hp} {t : Addr} {xs : List V} {n : Nat}
theorem cutT_to (hl : n ≤ xs.length) : cutV xs none (some (n : Int)) = xs.take n := by
  unfold cutV
  have e1 : HT.sIx xs.length xs.length (some (n : Int)) = n := by
    show (if (n : Int) < 0 then ((n : Int) + (xs.length : Nat)).toNat else min (n : Int).toNat xs.length) = _
    rw [if_neg (by omega)]
    omega
  have e2 : HT.sIx xs.length 0 none = 0 := rfl
  rw [e1, e2]
  rfl
theorem cutT_from (hl : n + 1 ≤ xs.length) : cutV xs (some ((n : Int) + 1)) none = xs.drop (n + 1) := by
  unfold cutV
  have e1 : HT.sIx xs.length 0 (some ((n : Int) + 1)) = n + 1 := by
    show (if (n : Int) + 1 < 0 then ((n : Int) + 1 + (xs.length : Nat)).toNat else min ((n : Int) + 1).toNat xs.length) = _
    rw [if_neg (by omega)]
    omega
  have e2 : HT.sIx xs.length xs.length none = xs.length := rfl
  rw [e1, e2, List.take_of_length_le (by rw [List.length_drop]; exact Nat.le_refl _)]
theorem cutG_to (n : Nat) : cutV xs none (some (n : Int)) = xs.take n := by
  unfold cutV
  rw [HT.sIx_none, List.drop_zero, Nat.sub_zero, HT.sIx_nat]
  apply List.take_eq_take_iff.mpr
  omega
theorem cutG_from (n : Nat) : cutV xs (some (n : Int)) none = xs.drop n := by
  unfold cutV
  rw [HT.sIx_none, HT.sIx_nat, List.take_of_length_le (by rw [List.length_drop]; exact Nat.le_refl _)]
  rcases Nat.le_total n xs.length with q | q
  · rw [Nat.min_eq_left q]
  · rw [Nat.min_eq_right q, List.drop_eq_nil_of_le (Nat.le_refl _), List.drop_eq_nil_of_le q]
theorem cutG_from1 (n : Nat) : cutV xs (some ((n : Int) + 1)) none = xs.drop (n + 1) := cutG_from (n + 1)
/-- a tuple without its n-th -/
theorem cut_out {i j : Nat} (hi : σ[i]? = some (some (.ref t))) (hj : σ[j]? = some (some (.int (n : Int)))) (ht : H t = some (.tup xs)) (hl : n + 1 ≤ xs.length) (hx : xs.length ≤ 100) :
    tOp (rCatA K) (tSl (rSlA K) (tVar i) tNoPart (tPart (tVar j))) (tSl (rSlA K) (tVar i) (tPart (tOp rAddI (tVar j) (tC (.int 1)))) tNoPart) σ H (fun v H' => ∃ p, v = .ref p ∧ H' p = some (.tup (xs.take n ++ xs.drop (n + 1))) ∧ Same H H') := by
  refine ⟨_, hi, _, hj, _, rfl, slA ht fun p H1 s1 hp => ?_⟩
  rw [cutT_to (by omega)] at hp
  have fin : ∀ q H2, Same H1 H2 → H2 q = some (.tup (xs.drop (n + 1))) → rCatA K (.ref p) (.ref q) H2 (fun v H' => ∃ p, v = .ref p ∧ H' p = some (.tup (xs.take n ++ xs.drop (n + 1))) ∧ Same H H') := fun q H2 s2 hq =>
    catA (s2 _ _ hp) hq (by rw [List.length_take, List.length_drop]; omega) fun u H3 s3 hu => ⟨u, rfl, hu, (s1.trans s2).trans s3⟩
  refine ⟨_, hi, _, hj, _, _, rfl, rfl, _, rfl, t, xs, rfl, SqT.of (s1 _ _ ht), fun z => ?_, fun _ q hq => ?_⟩
  · have e0 : cutV xs (some ((n : Int) + 1)) none = xs := by
      unfold cutV
      rw [z.1, z.2, List.drop_zero, Nat.sub_zero, List.take_length]
    refine fin t H1 (.refl _) ?_
    rw [← cutT_from hl, e0]
    exact s1 _ _ ht
  · refine fin q _ (Same.upd_new hq) ?_
    rw [← cutT_from hl]
    exact upd_same
/-- a tuple, another thing in its n-th's place -/
theorem cut_put {i j k : Nat} {x : V} (hi : σ[i]? = some (some (.ref t))) (hj : σ[j]? = some (some (.int (n : Int)))) (hk : σ[k]? = some (some x)) (ht : H t = some (.tup xs)) (hl : n + 1 ≤ xs.length) (hx : xs.length ≤ 100) :
    tOp (rCatA K) (tOp (rCatA K) (tSl (rSlA K) (tVar i) tNoPart (tPart (tVar j))) (tTup (tCons (tVar k) tNil))) (tSl (rSlA K) (tVar i) (tPart (tOp rAddI (tVar j) (tC (.int 1)))) tNoPart) σ H (fun v H' => ∃ p, v = .ref p ∧ H' p = some (.tup (xs.take n ++ [x] ++ xs.drop (n + 1))) ∧ Same H H') := by
  refine ⟨_, hi, _, hj, _, rfl, slA ht fun p H1 s1 hp => ?_⟩
  rw [cutT_to (by omega)] at hp
  refine ⟨_, hk, (by show 1 ≤ sizeLine; decide), fun o ho => ?_⟩
  have s2 := Same.upd_new (o := .tup [x]) ho
  refine catA (s2 _ _ hp) upd_same (by rw [List.length_take]; show _ + 1 ≤ _; omega) fun c H3 s3 hc => ?_
  have s13 := (s1.trans s2).trans s3
  have fin : ∀ q H4, Same H3 H4 → H4 q = some (.tup (xs.drop (n + 1))) → rCatA K (.ref c) (.ref q) H4 (fun v H' => ∃ p, v = .ref p ∧ H' p = some (.tup (xs.take n ++ [x] ++ xs.drop (n + 1))) ∧ Same H H') := fun q H4 s4 hq =>
    catA (s4 _ _ hc) hq (by rw [List.length_append, List.length_take, List.length_drop]; show _ + 1 + _ ≤ _; omega) fun u H5 s5 hu => ⟨u, rfl, hu, (s13.trans s4).trans s5⟩
  refine ⟨_, hi, _, hj, _, _, rfl, rfl, _, rfl, t, xs, rfl, SqT.of (s13 _ _ ht), fun z => ?_, fun _ q hq => ?_⟩
  · have e0 : cutV xs (some ((n : Int) + 1)) none = xs := by
      unfold cutV
      rw [z.1, z.2, List.drop_zero, Nat.sub_zero, List.take_length]
    refine fin t H3 (.refl _) ?_
    rw [← cutT_from hl, e0]
    exact s13 _ _ ht
  · refine fin q _ (Same.upd_new hq) ?_
    rw [← cutT_from hl]
    exact upd_same
end
/-- an item at a place that is drawn -/
theorem at_get {α : Type} {l : List α} {r : Int} (h0 : 0 ≤ r) (h1 : r < l.length) : ∃ x, x ∈ l ∧ atI l r = some x := by
  obtain ⟨n, rfl⟩ : ∃ n : Nat, r = n := ⟨r.toNat, by omega⟩
  have hn : n < l.length := by omega
  exact ⟨l[n], List.getElem_mem hn, atI_nat (List.getElem?_eq_getElem hn)⟩
/-! ### data that stay where tuples stay -/
mutual
theorem Im.tups {H H' : Hp} (e : ∀ b ys, H b = some (.tup ys) → H' b = some (.tup ys)) : ∀ {x : V} {d : PyData}, Im H x d → Im H' x d
  | _, _, .non => .non
  | _, _, .bl b => .bl b
  | _, _, .int i => .int i
  | _, _, .str z => .str z
  | _, _, .tup h a => .tup (e _ _ h) (ImAll.tups e a)
theorem ImAll.tups {H H' : Hp} (e : ∀ b ys, H b = some (.tup ys) → H' b = some (.tup ys)) : ∀ {xs : List V} {ds : List PyData}, ImAll H xs ds → ImAll H' xs ds
  | _, _, .nil => .nil
  | _, _, .cons h t => .cons (Im.tups e h) (ImAll.tups e t)
end
theorem ext_tups {H H' : Hp} (e : LamX.ExtN H H') : ∀ b ys, H b = some (.tup ys) → H' b = some (.tup ys) := fun b _ z => e b _ z fun _ z => by cases z
theorem Im.ext {H H' : Hp} {x : V} {d : PyData} (h : Im H x d) (e : LamX.ExtN H H') : Im H' x d := h.tups (ext_tups e)
theorem ImAll.ext {H H' : Hp} {xs : List V} {ds : List PyData} (h : ImAll H xs ds) (e : LamX.ExtN H H') : ImAll H' xs ds := h.tups (ext_tups e)
theorem flat_rep {α : Type} (x : α) : ∀ n : Nat, (List.replicate n [x]).flatten = List.replicate n x
  | 0 => rfl
  | n + 1 => by rw [List.replicate_succ, List.flatten_cons, flat_rep x n]; rfl
theorem lst_ne {xs : List V} (ps : Array Value) : HO.lst xs ≠ .tbl ps := fun z => by cases z
theorem tup_ne {xs : List V} (ps : Array Value) : HO.tup xs ≠ .tbl ps := fun z => by cases z
end TL

namespace TL
open PySem PySem.Spec PyProof.Rows L2
def top (i : Nat) : Stmt := PySem.Challenge.pw_trainline_k11_logs_judged.main.body.getD i (.Pass ⟨0, 0, 0, 0⟩)
abbrev s_is_between : Stmt := top 13
abbrev N_is_between : List Str := ["part", "low", "high"]
abbrev P_is_between : List Str := ["part", "low", "high"]
theorem sc_is_between : FnScope N_is_between P_is_between (defScope s_is_between) := ⟨rfl, rfl, rfl, by decide +kernel, rfl, by decide +kernel, by decide +kernel⟩
abbrev s_are_manners : Stmt := top 14
abbrev N_are_manners : List Str := ["some", "one"]
abbrev P_are_manners : List Str := ["some"]
theorem sc_are_manners : FnScope N_are_manners P_are_manners (defScope s_are_manners) := ⟨rfl, rfl, rfl, by decide +kernel, rfl, by decide +kernel, by decide +kernel⟩
abbrev s_need_manners : Stmt := top 15
abbrev N_need_manners : List Str := ["some"]
abbrev P_need_manners : List Str := ["some"]
theorem sc_need_manners : FnScope N_need_manners P_need_manners (defScope s_need_manners) := ⟨rfl, rfl, rfl, by decide +kernel, rfl, by decide +kernel, by decide +kernel⟩
abbrev s_is_row : Stmt := top 18
abbrev N_is_row : List Str := ["row"]
abbrev P_is_row : List Str := ["row"]
theorem sc_is_row : FnScope N_is_row P_is_row (defScope s_is_row) := ⟨rfl, rfl, rfl, by decide +kernel, rfl, by decide +kernel, by decide +kernel⟩
abbrev s_need_log : Stmt := top 19
abbrev N_need_log : List Str := ["rows", "number", "row"]
abbrev P_need_log : List Str := ["rows"]
theorem sc_need_log : FnScope N_need_log P_need_log (defScope s_need_log) := ⟨rfl, rfl, rfl, by decide +kernel, rfl, by decide +kernel, by decide +kernel⟩
abbrev s_judged : Stmt := top 20
abbrev N_judged : List Str := ["one", "other", "rows", "number", "mine", "joined", "yours", "likewise", "unlike", "manner"]
abbrev P_judged : List Str := ["one", "other", "rows"]
theorem sc_judged : FnScope N_judged P_judged (defScope s_judged) := ⟨rfl, rfl, rfl, by decide +kernel, rfl, by decide +kernel, by decide +kernel⟩
abbrev s_stretches : Stmt := top 21
abbrev N_stretches : List Str := ["rows", "found", "number", "mine", "joined", "yours", "likewise"]
abbrev P_stretches : List Str := ["rows"]
theorem sc_stretches : FnScope N_stretches P_stretches (defScope s_stretches) := ⟨rfl, rfl, rfl, by decide +kernel, rfl, by decide +kernel, by decide +kernel⟩
abbrev s__law_dice : Stmt := top 23
abbrev N__law_dice : List Str := ["_law_script", "_law_k", "_law_found", "_law_cell"]
abbrev P__law_dice : List Str := ["_law_script", "_law_k"]
theorem sc__law_dice : FnScope N__law_dice P__law_dice (defScope s__law_dice) := ⟨rfl, rfl, rfl, by decide +kernel, rfl, by decide +kernel, by decide +kernel⟩
abbrev s__law_off : Stmt := top 24
abbrev N__law_off : List Str := ["_law_d", "_law_most", "_law_found"]
abbrev P__law_off : List Str := ["_law_d", "_law_most"]
theorem sc__law_off : FnScope N__law_off P__law_off (defScope s__law_off) := ⟨rfl, rfl, rfl, by decide +kernel, rfl, by decide +kernel, by decide +kernel⟩
abbrev s__law_alike : Stmt := top 25
abbrev N__law_alike : List Str := ["_law_found", "_law_due", "_law_k"]
abbrev P__law_alike : List Str := ["_law_found", "_law_due"]
theorem sc__law_alike : FnScope N__law_alike P__law_alike (defScope s__law_alike) := ⟨rfl, rfl, rfl, by decide +kernel, rfl, by decide +kernel, by decide +kernel⟩
abbrev s__law_word : Stmt := top 26
abbrev N__law_word : List Str := ["_law_work", "e", "_law_kinds", "_law_word_here"]
abbrev P__law_word : List Str := ["_law_work"]
theorem sc__law_word : FnScope N__law_word P__law_word (defScope s__law_word) := ⟨rfl, rfl, rfl, by decide +kernel, rfl, by decide +kernel, by decide +kernel⟩
abbrev s__law_can : Stmt := top 27
abbrev N__law_can : List Str := ["_law_d", "_law_often", "_law_manner"]
abbrev P__law_can : List Str := ["_law_d"]
theorem sc__law_can : FnScope N__law_can P__law_can (defScope s__law_can) := ⟨rfl, rfl, rfl, by decide +kernel, rfl, by decide +kernel, by decide +kernel⟩
abbrev s__law_row : Stmt := top 28
abbrev N__law_row : List Str := ["_law_d", "_law_mine", "_law_yours"]
abbrev P__law_row : List Str := ["_law_d"]
theorem sc__law_row : FnScope N__law_row P__law_row (defScope s__law_row) := ⟨rfl, rfl, rfl, by decide +kernel, rfl, by decide +kernel, by decide +kernel⟩
abbrev s__law_log : Stmt := top 29
abbrev N__law_log : List Str := ["_law_d", "_law_found", "_law_turn"]
abbrev P__law_log : List Str := ["_law_d"]
theorem sc__law_log : FnScope N__law_log P__law_log (defScope s__law_log) := ⟨rfl, rfl, rfl, by decide +kernel, rfl, by decide +kernel, by decide +kernel⟩
abbrev s__law_first : Stmt := top 30
abbrev N__law_first : List Str := ["_law_one", "_law_other", "_law_rows", "_law_at", "_law_mine", "_law_joined", "_law_yours", "_law_likewise", "_law_both", "_law_manner"]
abbrev P__law_first : List Str := ["_law_one", "_law_other", "_law_rows"]
theorem sc__law_first : FnScope N__law_first P__law_first (defScope s__law_first) := ⟨rfl, rfl, rfl, by decide +kernel, rfl, by decide +kernel, by decide +kernel⟩
abbrev s__law_no_row : Stmt := top 31
abbrev N__law_no_row : List Str := ["_law_d", "_law_far", "_law_good", "_law_at", "_law_odd", "_law_kinds", "_law_mixed"]
abbrev P__law_no_row : List Str := ["_law_d"]
theorem sc__law_no_row : FnScope N__law_no_row P__law_no_row (defScope s__law_no_row) := ⟨rfl, rfl, rfl, by decide +kernel, rfl, by decide +kernel, by decide +kernel⟩
abbrev s_law : Stmt := top 32
abbrev N_law : List Str := ["_law_script", "_law_d", "_law_turn", "_law_one", "_law_other", "_law_both", "_law_manner", "_law_rows", "_law_row_here", "_law_change", "_law_at", "_law_handed", "_law_bad", "_law_works", "_law_work", "_law_long"]
abbrev P_law : List Str := ["_law_script"]
theorem sc_law : FnScope N_law P_law (defScope s_law) := ⟨rfl, rfl, rfl, by decide +kernel, rfl, by decide +kernel, by decide +kernel⟩
abbrev s_BadLog_init : Stmt := inClass (top 9) 0
abbrev N_BadLog_init : List Str := ["self", "row"]
abbrev P_BadLog_init : List Str := ["self", "row"]
theorem sc_BadLog_init : FnScope N_BadLog_init P_BadLog_init (defScope s_BadLog_init) := ⟨rfl, rfl, rfl, by decide +kernel, rfl, by decide +kernel, by decide +kernel⟩
/-- what the top has written -/
structure Txt (K : PySem.W.Frag) (mg : Str → Option Value) where
  a_is_between : Addr
  fd_is_between : FuncData
  F_is_between : Fun K "is_between" "is_between" s_is_between a_is_between fd_is_between
  g_is_between : mg "is_between" = some (.ref a_is_between)
  b_is_between : Binds K fd_is_between P_is_between []
  a_are_manners : Addr
  fd_are_manners : FuncData
  F_are_manners : Fun K "are_manners" "are_manners" s_are_manners a_are_manners fd_are_manners
  g_are_manners : mg "are_manners" = some (.ref a_are_manners)
  b_are_manners : Binds K fd_are_manners P_are_manners []
  a_need_manners : Addr
  fd_need_manners : FuncData
  F_need_manners : Fun K "need_manners" "need_manners" s_need_manners a_need_manners fd_need_manners
  g_need_manners : mg "need_manners" = some (.ref a_need_manners)
  b_need_manners : Binds K fd_need_manners P_need_manners []
  a_is_row : Addr
  fd_is_row : FuncData
  F_is_row : Fun K "is_row" "is_row" s_is_row a_is_row fd_is_row
  g_is_row : mg "is_row" = some (.ref a_is_row)
  b_is_row : Binds K fd_is_row P_is_row []
  a_need_log : Addr
  fd_need_log : FuncData
  F_need_log : Fun K "need_log" "need_log" s_need_log a_need_log fd_need_log
  g_need_log : mg "need_log" = some (.ref a_need_log)
  b_need_log : Binds K fd_need_log P_need_log []
  a_judged : Addr
  fd_judged : FuncData
  F_judged : Fun K "judged" "judged" s_judged a_judged fd_judged
  g_judged : mg "judged" = some (.ref a_judged)
  b_judged : Binds K fd_judged P_judged []
  a_stretches : Addr
  fd_stretches : FuncData
  F_stretches : Fun K "stretches" "stretches" s_stretches a_stretches fd_stretches
  g_stretches : mg "stretches" = some (.ref a_stretches)
  b_stretches : Binds K fd_stretches P_stretches []
  a__law_dice : Addr
  fd__law_dice : FuncData
  F__law_dice : Fun K "_law_dice" "_law_dice" s__law_dice a__law_dice fd__law_dice
  g__law_dice : mg "_law_dice" = some (.ref a__law_dice)
  b__law_dice : Binds K fd__law_dice P__law_dice []
  a__law_off : Addr
  fd__law_off : FuncData
  F__law_off : Fun K "_law_off" "_law_off" s__law_off a__law_off fd__law_off
  g__law_off : mg "_law_off" = some (.ref a__law_off)
  b__law_off : Binds K fd__law_off P__law_off []
  a__law_alike : Addr
  fd__law_alike : FuncData
  F__law_alike : Fun K "_law_alike" "_law_alike" s__law_alike a__law_alike fd__law_alike
  g__law_alike : mg "_law_alike" = some (.ref a__law_alike)
  b__law_alike : Binds K fd__law_alike P__law_alike []
  a__law_word : Addr
  fd__law_word : FuncData
  F__law_word : Fun K "_law_word" "_law_word" s__law_word a__law_word fd__law_word
  g__law_word : mg "_law_word" = some (.ref a__law_word)
  b__law_word : Binds K fd__law_word P__law_word []
  a__law_can : Addr
  fd__law_can : FuncData
  F__law_can : Fun K "_law_can" "_law_can" s__law_can a__law_can fd__law_can
  g__law_can : mg "_law_can" = some (.ref a__law_can)
  b__law_can : Binds K fd__law_can P__law_can []
  a__law_row : Addr
  fd__law_row : FuncData
  F__law_row : Fun K "_law_row" "_law_row" s__law_row a__law_row fd__law_row
  g__law_row : mg "_law_row" = some (.ref a__law_row)
  b__law_row : Binds K fd__law_row P__law_row []
  a__law_log : Addr
  fd__law_log : FuncData
  F__law_log : Fun K "_law_log" "_law_log" s__law_log a__law_log fd__law_log
  g__law_log : mg "_law_log" = some (.ref a__law_log)
  b__law_log : Binds K fd__law_log P__law_log []
  a__law_first : Addr
  fd__law_first : FuncData
  F__law_first : Fun K "_law_first" "_law_first" s__law_first a__law_first fd__law_first
  g__law_first : mg "_law_first" = some (.ref a__law_first)
  b__law_first : Binds K fd__law_first P__law_first []
  a__law_no_row : Addr
  fd__law_no_row : FuncData
  F__law_no_row : Fun K "_law_no_row" "_law_no_row" s__law_no_row a__law_no_row fd__law_no_row
  g__law_no_row : mg "_law_no_row" = some (.ref a__law_no_row)
  b__law_no_row : Binds K fd__law_no_row P__law_no_row []
  a_law : Addr
  fd_law : FuncData
  F_law : Fun K "law" "law" s_law a_law fd_law
  g_law : mg "law" = some (.ref a_law)
  b_law : Binds K fd_law P_law []
  a_BadLog_init : Addr
  fd_BadLog_init : FuncData
  F_BadLog_init : Fun K "__init__" "BadLog.__init__" s_BadLog_init a_BadLog_init fd_BadLog_init
  b_BadLog_init : Binds K fd_BadLog_init P_BadLog_init []
  C_LineError : Addr
  c_LineError : mg "LineError" = some (.ref C_LineError)
  x_LineError : PySem.W.excIn K C_LineError [.type "ValueError", .type "Exception", .type "BaseException", .type "object"] "ValueError.__new__" = true
  k_LineError : PySem.W.keepIn K (.ref C_LineError) = true
  s_LineError : PySem.W.subIn K (.ref C_LineError) (.type "BaseException") = some true
  t_LineError : PySem.W.typeIn K (.ref C_LineError) = some (.type "type")
  C_BadManners : Addr
  c_BadManners : mg "BadManners" = some (.ref C_BadManners)
  x_BadManners : PySem.W.excIn K C_BadManners [.type "ValueError", .type "Exception", .type "BaseException", .type "object"] "ValueError.__new__" = true
  k_BadManners : PySem.W.keepIn K (.ref C_BadManners) = true
  s_BadManners : PySem.W.subIn K (.ref C_BadManners) (.type "BaseException") = some true
  t_BadManners : PySem.W.typeIn K (.ref C_BadManners) = some (.type "type")
  C_BadItem : Addr
  c_BadItem : mg "BadItem" = some (.ref C_BadItem)
  x_BadItem : PySem.W.excIn K C_BadItem [.type "ValueError", .type "Exception", .type "BaseException", .type "object"] "ValueError.__new__" = true
  k_BadItem : PySem.W.keepIn K (.ref C_BadItem) = true
  s_BadItem : PySem.W.subIn K (.ref C_BadItem) (.type "BaseException") = some true
  t_BadItem : PySem.W.typeIn K (.ref C_BadItem) = some (.type "type")
  C_Full : Addr
  c_Full : mg "Full" = some (.ref C_Full)
  x_Full : PySem.W.excIn K C_Full [.type "ValueError", .type "Exception", .type "BaseException", .type "object"] "ValueError.__new__" = true
  k_Full : PySem.W.keepIn K (.ref C_Full) = true
  s_Full : PySem.W.subIn K (.ref C_Full) (.type "BaseException") = some true
  t_Full : PySem.W.typeIn K (.ref C_Full) = some (.type "type")
  C_BadPart : Addr
  c_BadPart : mg "BadPart" = some (.ref C_BadPart)
  x_BadPart : PySem.W.excIn K C_BadPart [.type "ValueError", .type "Exception", .type "BaseException", .type "object"] "ValueError.__new__" = true
  k_BadPart : PySem.W.keepIn K (.ref C_BadPart) = true
  s_BadPart : PySem.W.subIn K (.ref C_BadPart) (.type "BaseException") = some true
  t_BadPart : PySem.W.typeIn K (.ref C_BadPart) = some (.type "type")
  C_BadCount : Addr
  c_BadCount : mg "BadCount" = some (.ref C_BadCount)
  x_BadCount : PySem.W.excIn K C_BadCount [.type "ValueError", .type "Exception", .type "BaseException", .type "object"] "ValueError.__new__" = true
  k_BadCount : PySem.W.keepIn K (.ref C_BadCount) = true
  s_BadCount : PySem.W.subIn K (.ref C_BadCount) (.type "BaseException") = some true
  t_BadCount : PySem.W.typeIn K (.ref C_BadCount) = some (.type "type")
  C_BadEnd : Addr
  c_BadEnd : mg "BadEnd" = some (.ref C_BadEnd)
  x_BadEnd : PySem.W.excIn K C_BadEnd [.type "ValueError", .type "Exception", .type "BaseException", .type "object"] "ValueError.__new__" = true
  k_BadEnd : PySem.W.keepIn K (.ref C_BadEnd) = true
  s_BadEnd : PySem.W.subIn K (.ref C_BadEnd) (.type "BaseException") = some true
  t_BadEnd : PySem.W.typeIn K (.ref C_BadEnd) = some (.type "type")
  C_BadStep : Addr
  c_BadStep : mg "BadStep" = some (.ref C_BadStep)
  k_BadStep : PySem.W.keepIn K (.ref C_BadStep) = true
  s_BadStep : PySem.W.subIn K (.ref C_BadStep) (.type "BaseException") = some true
  t_BadStep : PySem.W.typeIn K (.ref C_BadStep) = some (.type "type")
  C_BadLog : Addr
  c_BadLog : mg "BadLog" = some (.ref C_BadLog)
  k_BadLog : PySem.W.keepIn K (.ref C_BadLog) = true
  s_BadLog : PySem.W.subIn K (.ref C_BadLog) (.type "BaseException") = some true
  t_BadLog : PySem.W.typeIn K (.ref C_BadLog) = some (.type "type")
  C_BadText : Addr
  c_BadText : mg "BadText" = some (.ref C_BadText)
  k_BadText : PySem.W.keepIn K (.ref C_BadText) = true
  s_BadText : PySem.W.subIn K (.ref C_BadText) (.type "BaseException") = some true
  t_BadText : PySem.W.typeIn K (.ref C_BadText) = some (.type "type")
  bc_LineError : BaseC K C_LineError
  ox_BadLog : OexC K C_BadLog
  iC_BadLog : PySem.W.findIn K (.ref C_BadLog) "__init__" = some (some (.ref a_BadLog_init))
  tI_BadLog : PySem.W.typeIn K (.ref a_BadLog_init) = some (.type "function")
  nx_BadLog_row : PySem.W.findIn K (.ref C_BadLog) "row" = some none
  xf_BadLog : XfC K C_BadLog
  wk_BadLog : Kind K [C_BadManners, C_BadCount, C_BadPart, C_BadItem, C_Full, C_BadLog, C_BadText, C_BadEnd, C_BadStep] C_LineError C_BadLog 5
  lC : Addr
  lP : Addr
  fl : FunC K "law" "law" s_law a_law fd_law lC
  tk_MOST : Tok
  v_MOST : mg "MOST" = some (.int 9 tk_MOST)
  tk_MOST_ROWS : Tok
  v_MOST_ROWS : mg "MOST_ROWS" = some (.int 300 tk_MOST_ROWS)
  n_ValueError : mg "ValueError" = none
  n_abs : mg "abs" = none
  n_all : mg "all" = none
  n_bool : mg "bool" = none
  n_enumerate : mg "enumerate" = none
  n_int : mg "int" = none
  n_isinstance : mg "isinstance" = none
  n_len : mg "len" = none
  n_list : mg "list" = none
  n_max : mg "max" = none
  n_range : mg "range" = none
  n_set : mg "set" = none
  n_sorted : mg "sorted" = none
  n_str : mg "str" = none
  n_tuple : mg "tuple" = none
end TL

namespace TL
open PySem PySem.Spec PyProof.Rows L2
section
variable {P : Program} {w : World} {K : PySem.W.Frag} {mg : Str → Option Value} {base : Heap}
def sp_is_between (T : Txt K mg) : Sp := fun vs H Q _ => ∃ (x : V) (d : PyData) (lo hi : Int), vs = [x, .int lo, .int hi] ∧ Dp K H x d ∧ (∀ ds, d ≠ .list ds) ∧ Q (.bl (between d lo hi)) H
theorem ok_is_between (T : Txt K mg) : FnOk P w K mg base CX0 1 T.a_is_between T.fd_is_between P_is_between (sp_is_between T) := by
  skip
  refine T.F_is_between.ok sc_is_between (fun vs H Q E h => ?_) (fun cdv A outer s H vs Q E hr h => ?_)
  · obtain ⟨x, d, lo, hi, rfl, _⟩ := h
    rfl
  · obtain ⟨x, d, lo, hi, rfl, hd, nl, k⟩ := h
    refine ⟨_, (pss_one (ps_ret (pe_and (pe_callB call_isi (by rfl) T.n_isinstance (by decide +kernel) (pa_cons (pv 0) (pa_cons (pe_bltn (v := .ty "int") (u := .type "int") (by rfl) T.n_int (by decide +kernel) rfl) pa_nil))) (pe_and (pe_not (pe_callB call_isi (by rfl) T.n_isinstance (by decide +kernel) (pa_cons (pv 0) (pa_cons (pe_bltn (v := .ty "bool") (u := .type "bool") (by rfl) T.n_bool (by decide +kernel) rfl) pa_nil)))) (pe_one (pe_chain op_le op_le (pv 1) (pv 0) (pv 2))))))), ?_⟩
    have k0 : ∀ {b : Bool}, between d lo hi = b → Q (.bl b) H := fun e => by rw [← e]; exact k
    cases d with
    | int i =>
      cases hd
      refine ⟨_, rfl, _, _, _, _, _, rfl, .ty _, tyx_D (.int i), kit_ty kb_ii, _, rfl, iteT ?_⟩
      refine ⟨_, rfl, _, _, _, _, _, rfl, .ty _, tyx_D (.int i), kit_ty kb_ib, _, rfl, _, rfl, iteT ?_⟩
      refine ⟨_, rfl, _, rfl, _, _, rfl, rfl, _, rfl, ?_⟩
      refine iteD (fun h1 => ⟨_, rfl, _, _, rfl, rfl, k0 ?_⟩) (fun h1 => k0 ?_)
      · simp [between, h1]
      · simp [between, h1]
    | bool b =>
      cases hd
      refine ⟨_, rfl, _, _, _, _, _, rfl, .ty _, tyx_D (.bl b), kit_ty kb_bi, _, rfl, iteT ?_⟩
      refine ⟨_, rfl, _, _, _, _, _, rfl, .ty _, tyx_D (.bl b), kit_ty kb_bb, _, rfl, _, rfl, iteF ?_⟩
      exact k0 rfl
    | none =>
      cases hd
      refine ⟨_, rfl, _, _, _, _, _, rfl, .ty _, tyx_D .non, kit_ty kb_ni, _, rfl, iteF ?_⟩
      exact k0 rfl
    | str z =>
      cases hd
      refine ⟨_, rfl, _, _, _, _, _, rfl, .ty _, tyx_D (.str z), kit_ty kb_si, _, rfl, iteF ?_⟩
      exact k0 rfl
    | tuple ds =>
      refine ⟨_, rfl, _, _, _, _, _, rfl, .ty _, tyx_D hd, kit_ty kb_ti, _, rfl, iteF ?_⟩
      exact k0 rfl
    | list ds => exact (nl ds rfl).elim
    | dict _ => cases hd

end
end TL

namespace TL
open PySem PySem.Spec PyProof.Rows L2
section
variable {P : Program} {w : World} {K : PySem.W.Frag} {mg : Str → Option Value} {base : Heap}
def sp_are_manners (T : Txt K mg) : Sp := fun vs H Q _ => ∃ (x : V) (d : PyData), vs = [x] ∧ Dp K H x d ∧ mdat d ∧ ∀ H', Same H H' → Q (.bl (isMan d)) H'
theorem ok_are_manners (T : Txt K mg) : FnOk P w K mg base CX0 2 T.a_are_manners T.fd_are_manners P_are_manners (sp_are_manners T) := by
  have G_is_between := ok_is_between (P := P) (w := w) (base := base) T
  refine T.F_are_manners.ok sc_are_manners (fun vs H Q E h => ?_) (fun cdv A outer s H vs Q E hr h => ?_)
  · obtain ⟨x, d, rfl, _⟩ := h
    rfl
  · obtain ⟨x, d, rfl, hd, hm, k⟩ := h
    have hu64 := hr.units
    refine ⟨_, (pss_cons (ps_if (PW.pt (pw_or (pt_not (pt_val (pe_callB call_isi (by rfl) T.n_isinstance (by decide +kernel) (pa_cons (pv 0) (pa_cons (pe_bltn (v := .ty "tuple") (u := .type "tuple") (by rfl) T.n_tuple (by decide +kernel) rfl) pa_nil))))) (pw_or1 (pt_cmpR (op_neD hu64) (pe_lc (own := [("one", 1)]) (g := (gName 1)) (tt := (tNot (tB (tCall _ [] E0 (tCons (tVar 1) (tCons (tC (.int 0)) (tCons (tC (.int 9)) tNil))))))) (te := (tVar 1)) rfl sc_are_manners.nd (pi_tup (pv 0)) (blkOk_by (own := [("one", 1)]) (N := N_are_manners) (sc := defScope s_are_manners) (by decide +kernel)) (fun _ _ _ _ _ => (pg_name (i := 1) sc_are_manners.nd rfl (by first | exact Or.inl rfl | exact Or.inr rfl))) (fun _ _ _ _ _ => (pts_one (pt_not (pt_val (pe_call G_is_between (hr.mono (by decide)) rfl T.g_is_between T.F_is_between.kp T.b_is_between .nil pass0 (pa_cons (pv 1) (pa_cons pe_int (pa_cons (pe_glob (v := .int 9) rfl T.v_MOST ⟨_, rfl⟩) pa_nil)))))))) (fun _ _ _ _ _ => (pv 1))) (pe_lst pa_nil) (nomark _)))))
      (pss_one (ps_ret pe_bl))
      pss_nil)
    (pss_one (ps_ret (pe_and (pe_cmpR (op_eqD hu64) (pe_callTy call_list_of (by rfl) T.n_list (by decide +kernel) (pa_cons (pv 0) pa_nil)) (pe_callB (cr_sortedSet rfl) (by rfl) T.n_sorted (by decide +kernel) (pa_cons (pe_callTy (cr_setT rfl) (by rfl) T.n_set (by decide +kernel) (pa_cons (pv 0) pa_nil)) pa_nil)) (nomark _)) (pe_one (pe_cmpR op_in_seq pe_int (pv 0) (by rfl))))))), ?_⟩
    have no : ∀ {c : String} {b : Bool}, kty d = c → kitB c "tuple" = some b → rIsi K [x, .ty "tuple"] H (fun v _ => v = .bl b) := fun e z => ⟨_, _, _, _, _, rfl, .ty _, tyx_D hd, kit_ty (by rw [e]; exact z), rfl⟩
    have k0 : ∀ {b : Bool} {H'}, isMan d = b → Same H H' → Q (.bl b) H' := fun e s => by rw [← e]; exact k _ s
    cases d with
    | none => cases hd; exact ⟨_, rfl, _, _, _, _, _, rfl, .ty _, tyx_D .non, kit_ty kb_nt, _, rfl, iteT (iteT (k0 rfl (.refl _)))⟩
    | bool b => cases hd; exact ⟨_, rfl, _, _, _, _, _, rfl, .ty _, tyx_D (.bl b), kit_ty kb_bt, _, rfl, iteT (iteT (k0 rfl (.refl _)))⟩
    | int i => cases hd; exact ⟨_, rfl, _, _, _, _, _, rfl, .ty _, tyx_D (.int i), kit_ty kb_it, _, rfl, iteT (iteT (k0 rfl (.refl _)))⟩
    | str z => cases hd; exact ⟨_, rfl, _, _, _, _, _, rfl, .ty _, tyx_D (.str z), kit_ty kb_st, _, rfl, iteT (iteT (k0 rfl (.refl _)))⟩
    | list ds => exact hm.elim
    | dict _ => cases hd
    | tuple ds =>
      obtain ⟨hlen, hel⟩ := hm
      have hd' := hd
      cases hd' with
      | tup hT hA =>
        rename_i a xs
        have hxl := hA.length
        refine ⟨_, rfl, _, _, _, _, _, rfl, .ty _, tyx_D hd, kit_ty kb_tt, _, rfl, iteF ?_⟩
        -- the ones that are no manners
        refine ⟨_, rfl, a, rfl, ⟨_, hT⟩, fun D hD => ?_⟩
        refine lc_tup (K := K) (a := a) (xs := xs) (fun i H2 => Same H H2 ∧ ∃ ys : List V, H2 D = some (.lst ys) ∧ DpAll K H ys ((ds.take i).filter fun e => !between e 0 9) ∧ ys.length ≤ i)
          ⟨Same.upd_new hD, [], upd_same, .nil, Nat.le_refl _⟩ (fun i H2 _ ⟨s2, _⟩ => SqT_same s2 hT) ?_ ?_
        · rintro i y H2 hi ⟨s2, ys, hys, hyd, hyl⟩
          obtain ⟨e, he, hde⟩ := hA.get' hi
          have hem : e ∈ ds := List.mem_of_getElem? he
          have htk : ds.take (i + 1) = ds.take i ++ [e] := take_more he
          have hil : i < ds.length := (List.getElem?_eq_some_iff.mp he).1
          refine ⟨rfl, _, rfl, y, e, 0, 9, rfl, hde.same s2, (hel e hem).1, _, rfl, ?_⟩
          refine iteB (fun hb => ?_) (fun hb => ?_)
          · refine ⟨_, rfl, ys, hys, small1000 (by omega), ?_⟩
            have nD : ∀ b o, H b = some o → b ≠ D := fun b o z q => by rw [q, hD] at z; cases z
            have s3 : Same H (upd H2 D (.lst (ys ++ [y]))) := fun b o z => by rw [upd_ne (nD b o z)]; exact s2 b o z
            refine ⟨s3, ys ++ [y], upd_same, ?_, by rw [List.length_append]; simp; omega⟩
            rw [htk, List.filter_append]
            have hf : [e].filter (fun e => !between e 0 9) = [e] := by simp [List.filter, hb]
            rw [hf]
            exact DpAll.append hyd (.cons hde .nil)
          · refine ⟨s2, ys, hys, ?_, by omega⟩
            rw [htk, List.filter_append]
            have hf : [e].filter (fun e => !between e 0 9) = [] := by simp [List.filter, hb]
            rw [hf, List.append_nil]
            exact hyd
        · rintro H2 ⟨s2, ys, hys, hyd, hyl⟩
          rw [hxl, List.take_length] at hyd
          refine ⟨(by show 0 ≤ sizeLine; decide), fun p hp => ?_⟩
          have s3 : Same H2 (upd H2 p (.lst [])) := Same.upd_new hp
          have hlv : lv 2 (.list (ds.filter fun e => !between e 0 9)) := ⟨by have := List.length_filter_le (fun e => !between e 0 9) ds; omega, fun e he => (hel e (List.mem_filter.mp he).1).2⟩
          refine ⟨.list (ds.filter fun e => !between e 0 9), .list [], .lst (SqL.of (s3 _ _ hys)) (hyd.same (s2.trans s3)), .lst (SqL.of upd_same) .nil, shaped_lv hlv (by decide), rfl, _, rfl, ?_⟩
          by_cases hall : ds.all (fun e => between e 0 9) = true
          · have hf0 : (ds.filter fun e => !between e 0 9) = [] := by
              rw [List.filter_eq_nil_iff]
              intro e he
              simp [List.all_eq_true.mp hall e he]
            rw [hf0]
            refine iteF ?_
            -- list(some) == sorted(set(some)) and 0 in some
            have hds := ints_of_between hall
            have hbt := between_of hall
            generalize hns : ds.map intOf = ns at hds hbt
            subst hds
            have hxs := hA.ints_inv
            subst hxs
            have hnl : ns.length ≤ 60 := by rw [List.length_map] at hlen; exact hlen
            have s13 : Same H (upd H2 p (.lst [])) := s2.trans s3
            refine ⟨_, rfl, a, _, rfl, .inr (SqT_same s13 hT), fun l hl => ?_⟩
            have s4 : Same (upd H2 p (.lst [])) (upd (upd H2 p (.lst [])) l (.lst (ns.map V.int))) := Same.upd_new hl
            refine ⟨_, rfl, a, ns, rfl, SqT_same (s13.trans s4) hT, by omega, fun q c hq hc => ?_⟩
            refine ⟨q, _, c, rfl, upd_same, by omega, fun ns' r hs' hm' hl' hr' => ?_⟩
            have s5 := Same.upd_new (o := SetO w q (fun j => decide (j ∈ ns)) c) hq
            have s6 := Same.upd_new (o := .lst (ns'.map V.int)) hr'
            refine ⟨.list (ns.map .int), .list (ns'.map .int), .lst (SqL.of (s6 _ _ (s5 _ _ upd_same))) (dp_ints ns), .lst (SqL.of upd_same) (dp_ints ns'), shaped_ints _, shaped_ints _, _, rfl, ?_⟩
            have s17 := ((s13.trans s4).trans s5).trans s6
            have e1 : PyData.eqv (.list (ns.map .int)) (.list (ns'.map .int)) = decide (ns.Pairwise (· < ·)) := by
              show PyData.eqvAll _ _ = _
              rw [eqvAll_ints]
              by_cases hp : ns.Pairwise (· < ·)
              · rw [decide_eq_true hp, decide_eq_true (sorted_ext hp hs' fun j => by rw [hm']; simp)]
              · rw [decide_eq_false hp, decide_eq_false fun z => hp (by rw [z]; exact hs')]
            have e2 : isMan (.tuple (ns.map .int)) = (decide (ns.Pairwise (· < ·)) && decide (0 ∈ ns)) := by
              have e3 : (ns.map PyData.int).map intOf = ns := hns
              simp only [isMan]
              rw [hall, e3]
              simp
            rw [e1]
            refine iteB (fun hb => ?_) (fun hb => k0 (by rw [e2, hb]; rfl) s17)
            refine ⟨_, rfl, a, _, rfl, .inr (SqT_same s17 hT), rfl, flat_ints ns, ?_⟩
            refine k0 ?_ s17
            rw [e2, hb]
            show (true && decide (0 ∈ ns)) = inV (.int 0) (ns.map V.int)
            rw [inV_int, Bool.true_and]
          · have hne : (ds.filter fun e => !between e 0 9) ≠ [] := by
              intro z
              apply hall
              rw [List.all_eq_true]
              intro e he
              have := List.filter_eq_nil_iff.mp z e he
              simpa using this
            obtain ⟨e, r, her⟩ := List.exists_cons_of_ne_nil hne
            rw [her]
            refine iteT ?_
            have hf : ds.all (fun e => between e 0 9) = false := by simpa using hall
            exact k0 (by simp only [isMan]; rw [hf]; rfl) (s2.trans s3)

end
end TL

namespace TL
open PySem PySem.Spec PyProof.Rows L2
section
variable {P : Program} {w : World} {K : PySem.W.Frag} {mg : Str → Option Value} {base : Heap}
def sp_need_manners (T : Txt K mg) : Sp := fun vs H Q E => ∃ (x : V) (d : PyData), vs = [x] ∧ Dp K H x d ∧ mdat d ∧ (isMan d = true → ∀ H', Same H H' → Q .non H') ∧ (isMan d = false → ∀ H', Same H H' → E (.ref T.C_BadManners) none H')
theorem ok_need_manners (T : Txt K mg) : FnOk P w K mg base (L2.CX P w) 3 T.a_need_manners T.fd_need_manners P_need_manners (sp_need_manners T) := by
  have G_are_manners := ok_are_manners (P := P) (w := w) (base := base) T
  refine T.F_need_manners.okX sc_need_manners (fun vs H Q E h => ?_) (fun cdv A outer s H vs Q E hr h => ?_)
  · obtain ⟨x, d, rfl, _⟩ := h
    rfl
  · obtain ⟨x, d, rfl, hd, hm, k1, k2⟩ := h
    refine ⟨_, (pss_one (ps_if (pt_not (pt_val (pe_call G_are_manners (hr.mono (by decide)) rfl T.g_are_manners T.F_are_manners.kp T.b_are_manners .nil pass0 (pa_cons (pv 0) pa_nil))))
      (pss_one (ps_raise rfl (takes_of rfl rfl rfl rfl) (pmk_own PySem.F.excBase_ValueError T.x_BadManners T.c_BadManners T.k_BadManners (raises_own T.s_BadManners T.t_BadManners) rfl)))
      pss_nil)), ?_⟩
    refine ⟨_, rfl, x, d, rfl, hd, hm, fun H' s' => ⟨_, rfl, ?_⟩⟩
    refine iteB (fun hb => ?_) (fun hb => ?_)
    · exact k2 (by simpa using hb) H' s'
    · exact k1 (by simpa using hb) H' s'

end
end TL

namespace TL
open PySem PySem.Spec PyProof.Rows L2
section
variable {P : Program} {w : World} {K : PySem.W.Frag} {mg : Str → Option Value} {base : Heap}
def sp_is_row (T : Txt K mg) : Sp := fun vs H Q _ => ∃ (x : V) (d : PyData), vs = [x] ∧ Dp K H x d ∧ rdat d ∧ Q (.bl (isRowD d)) H
theorem ok_is_row (T : Txt K mg) : FnOk P w K mg base CX0 2 T.a_is_row T.fd_is_row P_is_row (sp_is_row T) := by
  have G_is_between := ok_is_between (P := P) (w := w) (base := base) T
  refine T.F_is_row.ok sc_is_row (fun vs H Q E h => ?_) (fun cdv A outer s H vs Q E hr h => ?_)
  · obtain ⟨x, d, rfl, _⟩ := h
    rfl
  · obtain ⟨x, d, rfl, hd, hm, k⟩ := h
    refine ⟨_, (pss_cons (ps_if (PW.pt (pw_or (pt_not (pt_val (pe_callB call_isi (by rfl) T.n_isinstance (by decide +kernel) (pa_cons (pv 0) (pa_cons (pe_bltn (v := .ty "tuple") (u := .type "tuple") (by rfl) T.n_tuple (by decide +kernel) rfl) pa_nil))))) (pw_or1 (pt_cmpR op_ne (pe_callB call_len_seq (by rfl) T.n_len (by decide +kernel) (pa_cons (pv 0) pa_nil)) pe_int (nomark _)))))
      (pss_one (ps_ret pe_bl))
      pss_nil)
    (pss_cons (ps_if (PW.pt (pw_or (pt_not (pt_val (pe_call G_is_between (hr.mono (by decide)) rfl T.g_is_between T.F_is_between.kp T.b_is_between .nil pass0 (pa_cons (pe_ix ix_tup (pv 0) pe_int (fun _ _ => rfl)) (pa_cons pe_int (pa_cons (pe_glob (v := .int 9) rfl T.v_MOST ⟨_, rfl⟩) pa_nil)))))) (pw_or1 (pt_not (pt_val (pe_call G_is_between (hr.mono (by decide)) rfl T.g_is_between T.F_is_between.kp T.b_is_between .nil pass0 (pa_cons (pe_ix ix_tup (pv 0) pe_int (fun _ _ => rfl)) (pa_cons pe_int (pa_cons (pe_glob (v := .int 9) rfl T.v_MOST ⟨_, rfl⟩) pa_nil)))))))))
      (pss_one (ps_ret pe_bl))
      pss_nil)
    (pss_one (ps_ret (pe_and (pe_callB call_isi (by rfl) T.n_isinstance (by decide +kernel) (pa_cons (pe_ix ix_tup (pv 0) pe_int (fun _ _ => rfl)) (pa_cons (pe_bltn (v := .ty "bool") (u := .type "bool") (by rfl) T.n_bool (by decide +kernel) rfl) pa_nil))) (pe_one (pe_callB call_isi (by rfl) T.n_isinstance (by decide +kernel) (pa_cons (pe_ix ix_tup (pv 0) pe_int (fun _ _ => rfl)) (pa_cons (pe_bltn (v := .ty "bool") (u := .type "bool") (by rfl) T.n_bool (by decide +kernel) rfl) pa_nil))))))))), ?_⟩
    have k0 : ∀ {b : Bool}, isRowD d = b → Q (.bl b) H := fun e => by rw [← e]; exact k
    cases d with
    | none => cases hd; exact ⟨_, rfl, _, _, _, _, _, rfl, .ty _, tyx_D .non, kit_ty kb_nt, _, rfl, iteT (iteT (k0 rfl))⟩
    | bool b => cases hd; exact ⟨_, rfl, _, _, _, _, _, rfl, .ty _, tyx_D (.bl b), kit_ty kb_bt, _, rfl, iteT (iteT (k0 rfl))⟩
    | int i => cases hd; exact ⟨_, rfl, _, _, _, _, _, rfl, .ty _, tyx_D (.int i), kit_ty kb_it, _, rfl, iteT (iteT (k0 rfl))⟩
    | str z => cases hd; exact ⟨_, rfl, _, _, _, _, _, rfl, .ty _, tyx_D (.str z), kit_ty kb_st, _, rfl, iteT (iteT (k0 rfl))⟩
    | list ds => exact hm.elim
    | dict _ => cases hd
    | tuple ds =>
      have hd' := hd
      cases hd' with
      | tup hT hA =>
      rename_i a xs
      have hxl := hA.length
      refine ⟨_, rfl, _, _, _, _, _, rfl, .ty _, tyx_D hd, kit_ty kb_tt, _, rfl, iteF ?_⟩
      refine ⟨_, rfl, a, _, rfl, .inr hT, rfl, _, rfl, ?_⟩
      refine iteN (fun hne => k0 ?_) (fun he => ?_)
      · match ds, hxl with
        | [], _ => rfl
        | [_], _ => rfl
        | [_, _], _ => rfl
        | [_, _, _], _ => rfl
        | [_, _, _, _], hxl => exact (hne (by rw [hxl]; rfl)).elim
        | _ :: _ :: _ :: _ :: _ :: _, _ => rfl
      · have hl4 : ds.length = 4 := by
          have := vint_inj.mp he
          omega
        obtain ⟨d0, d1, d2, d3, rfl⟩ : ∃ d0 d1 d2 d3, ds = [d0, d1, d2, d3] := by
          match ds, hl4 with
          | [d0, d1, d2, d3], _ => exact ⟨d0, d1, d2, d3, rfl⟩
        cases hA with
        | cons h0 hA => cases hA with
          | cons h1 hA => cases hA with
            | cons h2 hA => cases hA with
              | cons h3 hA =>
              cases hA
              rename_i v0 v1 v2 v3
              have e : isRowD (.tuple [d0, d1, d2, d3]) = (between d0 0 9 && (between d2 0 9 && (isB d1 && isB d3))) := rfl
              refine ⟨_, rfl, a, _, _, _, rfl, rfl, hT, atI_nat (j := 0) rfl, ?_⟩
              refine ⟨v0, d0, 0, 9, rfl, h0, hm d0 (by simp), _, rfl, ?_⟩
              refine iteB (fun hb => ?_) (fun hb => ?_)
              · have hb : between d0 0 9 = false := by simpa using hb
                exact iteT (k0 (by rw [e, hb]; rfl))
              have hb : between d0 0 9 = true := by simpa using hb
              refine ⟨_, rfl, a, _, _, _, rfl, rfl, hT, atI_nat (j := 2) rfl, ?_⟩
              refine ⟨v2, d2, 0, 9, rfl, h2, hm d2 (by simp), _, rfl, ?_⟩
              refine iteB (fun hc => ?_) (fun hc => ?_)
              · have hc : between d2 0 9 = false := by simpa using hc
                exact k0 (by rw [e, hb, hc]; rfl)
              have hc : between d2 0 9 = true := by simpa using hc
              have isb : ∀ {d : PyData}, (∀ l, d ≠ .list l) → (∀ l, d ≠ .dict l) → kitB (kty d) "bool" = some (isB d) := by
                intro d n1 n2
                cases d with
                | none => exact kb_nb
                | bool b => exact kb_bb
                | int i => exact kb_ib
                | str z => exact kb_sb
                | tuple ds => exact kb_tb
                | list ds => exact (n1 ds rfl).elim
                | dict ds => exact (n2 ds rfl).elim
              have nd : ∀ {v : V} {d : PyData}, Dp K H v d → ∀ l, d ≠ .dict l := fun h l z => by subst z; cases h
              refine ⟨_, rfl, a, _, _, _, rfl, rfl, hT, atI_nat (j := 1) rfl, ?_⟩
              refine ⟨_, _, _, _, _, rfl, .ty _, tyx_D h1, kit_ty (isb (hm d1 (by simp)) (nd h1)), _, rfl, ?_⟩
              refine iteB (fun hx => ?_) (fun hx => k0 (by rw [e, hb, hc, hx]; rfl))
              refine ⟨_, rfl, a, _, _, _, rfl, rfl, hT, atI_nat (j := 3) rfl, ?_⟩
              refine ⟨_, _, _, _, _, rfl, .ty _, tyx_D h3, kit_ty (isb (hm d3 (by simp)) (nd h3)), k0 (by rw [e, hb, hc, hx]; rfl)⟩

end
end TL

namespace TL
open PySem PySem.Spec PyProof.Rows L2
section
variable {P : Program} {w : World} {K : PySem.W.Frag} {mg : Str → Option Value} {base : Heap}
def sp_BadLog_init (T : Txt K mg) : Sp := fun vs H Q _ => ∃ (a : Addr) (n : Int), vs = [.ref a, .int n] ∧ H a = some (exo a T.C_BadLog none) ∧
  ∀ dx, H dx = none → dx ≠ a → Q .non (upd (upd H dx (exd dx [("row", .int n)])) a (exo a T.C_BadLog (some dx)))
theorem ok_BadLog_init (T : Txt K mg) : FnOk P w K mg base CX0 1 T.a_BadLog_init T.fd_BadLog_init P_BadLog_init (sp_BadLog_init T) := by
  skip
  refine T.F_BadLog_init.ok sc_BadLog_init (fun vs H Q E h => ?_) (fun cdv A outer s H vs Q E hr h => ?_)
  · obtain ⟨a, n, rfl, _⟩ := h
    rfl
  · obtain ⟨a, n, rfl, ha, k⟩ := h
    refine ⟨_, (pss_cons (ps_expr (pe_basei rfl T.c_LineError T.bc_LineError (pa_cons (pv 0) (pa_cons (pv 1) pa_nil))))
    (pss_one (ps_ost (pv 0) (pv 1) rfl))), ?_⟩
    refine ⟨_, rfl, _, rfl, a, T.C_BadLog, [.int n], rfl, (by show 1 ≤ 1000; decide), T.ox_BadLog, ha, ?_⟩
    exact ⟨_, rfl, _, rfl, a, T.C_BadLog, rfl, T.ox_BadLog, T.nx_BadLog_row, .inl ⟨ha, fun dx h1 h2 => k dx h1 h2⟩⟩

end
end TL

namespace TL
open PySem PySem.Spec PyProof.Rows L2
section
variable {P : Program} {w : World} {K : PySem.W.Frag} {mg : Str → Option Value} {base : Heap}
/-- no row, or one row too many -/
def badR (i : Nat) (d : PyData) : Prop := 300 ≤ i ∨ isRowD d = false
/-- the first bad one -/
def firstBad (ds : List PyData) (i : Nat) : Prop := (∃ d, ds[i]? = some d ∧ badR i d) ∧ ∀ j d, j < i → ds[j]? = some d → ¬ badR j d
def sp_need_log (T : Txt K mg) : Sp := fun vs H Q E => ∃ (a : Addr) (xs : List V) (ds : List PyData), vs = [.ref a] ∧ SqL K H a xs ∧ ImAll H xs ds ∧ (∀ d ∈ ds, rdat d) ∧
  (∀ i, firstBad ds i → ∀ (dd : Addr) (H' : Hp), Same H H' → H' dd = some (.xd [("row", .int (i : Nat))]) → E (.ref T.C_BadLog) (some dd) H') ∧
  ((∀ i d, ds[i]? = some d → ¬ badR i d) → ∀ H', Same H H' → Q .non H')
theorem ok_need_log (T : Txt K mg) : FnOk P w K mg base (L2.CX P w) 3 T.a_need_log T.fd_need_log P_need_log (sp_need_log T) := by
  have G_BadLog_init := ok_BadLog_init (P := P) (w := w) (base := base) T
  have G_is_row := ok_is_row (P := P) (w := w) (base := base) T
  refine T.F_need_log.okX sc_need_log (fun vs H Q E h => ?_) (fun cdv A outer s H vs Q E hr h => ?_)
  · obtain ⟨a, xs, ds, rfl, _⟩ := h
    rfl
  · obtain ⟨a, xs, ds, rfl, hL, hA, hrd, kE, kQ⟩ := h
    refine ⟨_, (pss_one (ps_for (passes_of rfl) rfl (pi_enum (by rfl) T.n_enumerate (pa_cons (pv 0) pa_nil)) (pg_tup rfl (pgs_cons (pg_name (i := 1) sc_need_log.nd rfl (by first | exact Or.inl rfl | exact Or.inr rfl)) (pgs_cons (pg_name (i := 2) sc_need_log.nd rfl (by first | exact Or.inl rfl | exact Or.inr rfl)) pgs_nil)))
      (pss_one (ps_if (PW.pt (pw_or (pt_cmpR op_ge (pv 1) (pe_glob (v := .int 300) rfl T.v_MOST_ROWS ⟨_, rfl⟩) (nomark _)) (pw_or1 (pt_not (pt_val (pe_call G_is_row (hr.mono (by decide)) rfl T.g_is_row T.F_is_row.kp T.b_is_row .nil pass0 (pa_cons (pv 2) pa_nil)))))))
        (pss_one (ps_raise rfl (takes_of rfl rfl rfl rfl) (pmk_oex T.ox_BadLog T.iC_BadLog T.tI_BadLog G_BadLog_init (hr.mono (by decide)) T.b_BadLog_init .nil pass0 rfl T.c_BadLog (pa_cons (pv 1) pa_nil))))
        pss_nil)))), ?_⟩
    have hxl := hA.length
    refine ⟨_, rfl, a, xs, rfl, hL, for_enum (K := K) (a := a) (xs := xs) (fun i σ H2 => (∃ v1 v2 : Option V, σ = [some (.ref a), v1, v2]) ∧ Same H H2 ∧ ∀ j d, j < i → ds[j]? = some d → ¬ badR j d)
      ⟨⟨_, _, rfl⟩, .refl _, fun j d hj => absurd hj (by omega)⟩ (fun i σ H2 _ h => h.2.1.seq hL) ?_ ?_⟩
    · rintro i x N σ H2 hi ⟨⟨v1, v2, rfl⟩, s2, hg⟩ hN
      have s3 : Same H (upd H2 N (.tup [.int (i : Nat), x])) := s2.trans (Same.upd_new hN)
      obtain ⟨d, hd, im⟩ := hA.get' hi
      have im3 := im.same s3
      have raise : ∀ (σ' : L2.St) (H3 : Hp), Same H H3 → σ'[1]? = some (some (.int (i : Nat))) → badR i d → tMkO T.C_BadLog (sp_BadLog_init T) [] (tCons (tVar 1) tNil) σ' H3 fun cls dd H' => E cls dd H' := by
        intro σ' H3 sx hσ hbad
        refine ⟨_, hσ, (by show 1 ≤ 1000; decide), fun o ho => ⟨o, i, rfl, upd_same, fun dx h1 h2 => ?_⟩⟩
        have h1' : H3 dx = none := by rw [upd_ne h2] at h1; exact h1
        refine ⟨rfl, dx, _, upd_same, by rw [upd_ne h2]; exact upd_same, h1', ?_⟩
        exact kE i ⟨⟨d, hd, hbad⟩, hg⟩ dx _ (sx.trans (raised_same ho h1')) upd_same
      refine ⟨N, _, rfl, SqT.of upd_same, rfl, _, _, rfl, _, _, rfl, rfl, ?_⟩
      generalize upd H2 N (.tup [.int (i : Nat), x]) = H3 at s3 im3 ⊢
      refine ⟨_, rfl, _, _, rfl, rfl, _, rfl, ?_⟩
      refine iteD (fun h3 => iteT (raise _ H3 s3 rfl (.inl (by omega)))) (fun h3 => ?_)
      refine ⟨_, rfl, _, d, rfl, im3.dp, hrd d (List.mem_of_getElem? hd), _, rfl, ?_⟩
      cases hb : isRowD d with
      | false => exact iteT (raise _ H3 s3 rfl (.inr hb))
      | true =>
        refine iteF ⟨⟨_, _, rfl⟩, s3, fun j d' hj hd' => ?_⟩
        rcases Nat.lt_or_ge j i with q | q
        · exact hg j d' q hd'
        · have : j = i := by omega
          subst this
          rw [hd] at hd'
          cases hd'
          rintro (z | z)
          · omega
          · rw [hb] at z; cases z
    · rintro σ H2 ⟨⟨v1, v2, rfl⟩, s2, hg⟩
      exact kQ (fun i d hd => hg i d (by have := (List.getElem?_eq_some_iff.mp hd).1; omega) hd) H2 s2
theorem btw_inv {d : PyData} {lo hi : Int} (h : between d lo hi = true) : ∃ i : Int, d = .int i ∧ lo ≤ i ∧ i ≤ hi := by
  cases d with
  | int i => exact ⟨i, rfl, by simpa [between] using h⟩
  | _ => simp [between] at h
theorem isB_inv {d : PyData} (h : isB d = true) : ∃ b : Bool, d = .bool b := by
  cases d with
  | bool b => exact ⟨b, rfl⟩
  | _ => simp [isB] at h
theorem isRow_inv {d : PyData} (h : isRowD d = true) : ∃ r, d = rowD r ∧ okRow r := by
  match d, h with
  | .tuple [d0, d1, d2, d3], h =>
    have h' : (between d0 0 9 && (between d2 0 9 && (isB d1 && isB d3))) = true := h
    simp only [Bool.and_eq_true] at h'
    obtain ⟨g0, g2, g1, g3⟩ := h'
    obtain ⟨i, rfl, i0, i9⟩ := btw_inv g0
    obtain ⟨k, rfl, k0, k9⟩ := btw_inv g2
    obtain ⟨b, rfl⟩ := isB_inv g1
    obtain ⟨c, rfl⟩ := isB_inv g3
    exact ⟨(i, b, k, c), rfl, ⟨i0, i9⟩, k0, k9⟩
theorem rows_of : ∀ {ds : List PyData}, (∀ d ∈ ds, isRowD d = true) → ∃ rs : List Row, ds = rs.map rowD ∧ ∀ r ∈ rs, okRow r
  | [], _ => ⟨[], rfl, fun r hr => by cases hr⟩
  | d :: ds, h => by
    obtain ⟨r, rfl, hr⟩ := isRow_inv (h d (by simp))
    obtain ⟨rs, rfl, hrs⟩ := rows_of (ds := ds) fun x hx => h x (by simp [hx])
    exact ⟨r :: rs, rfl, fun x hx => by
      rcases List.mem_cons.mp hx with rfl | hx
      · exact hr
      · exact hrs x hx⟩

end
end TL

namespace TL
open PySem PySem.Spec PyProof.Rows L2
section
variable {P : Program} {w : World} {K : PySem.W.Frag} {mg : Str → Option Value} {base : Heap}
/-- of manners and a log -/
def sp_judged (T : Txt K mg) : Sp := fun vs H Q E => ∃ (t0 t1 a : Addr) (ca cb : List Int) (xs : List V) (ds : List PyData), vs = [.ref t0, .ref t1, .ref a] ∧ H t0 = some (.tup (ca.map V.int)) ∧ H t1 = some (.tup (cb.map V.int)) ∧ Can ca ∧ Can cb ∧ SqL K H a xs ∧ ImAll H xs ds ∧ (∀ d ∈ ds, rdat d) ∧
  (∀ i, firstBad ds i → ∀ (dd : Addr) (H' : Hp), Same H H' → H' dd = some (.xd [("row", .int (i : Nat))]) → E (.ref T.C_BadLog) (some dd) H') ∧
  ∀ rs : List Row, ds = rs.map rowD → (∀ r ∈ rs, okRow r) → rs.length ≤ 300 →
    (∀ i r, rs[i]? = some r → goodRow ca cb r = false → (∀ j r', j < i → rs[j]? = some r' → goodRow ca cb r' = true) → ∀ H', Same H H' → Q (.int (i : Nat)) H') ∧ ((∀ r ∈ rs, goodRow ca cb r = true) → ∀ H', Same H H' → Q .non H')
theorem ok_judged (T : Txt K mg) : FnOk P w K mg base (L2.CX P w) 4 T.a_judged T.fd_judged P_judged (sp_judged T) := by
  have G_need_manners := ok_need_manners (P := P) (w := w) (base := base) T
  have G_need_log := ok_need_log (P := P) (w := w) (base := base) T
  refine T.F_judged.okX sc_judged (fun vs H Q E h => ?_) (fun cdv A outer s H vs Q E hr h => ?_)
  · obtain ⟨t0, t1, a, ca, cb, xs, ds, rfl, _⟩ := h
    rfl
  · obtain ⟨t0, t1, a, ca, cb, xs, ds, rfl, h0, h1, hca, hcb, hL, hA, hrd, kE, kQ⟩ := h
    have hu64 := hr.units
    refine ⟨_, (pss_cons (ps_expr (pe_call G_need_manners (hr.mono (by decide)) rfl T.g_need_manners T.F_need_manners.kp T.b_need_manners .nil (passes_call (takes_of rfl rfl rfl rfl) (fun _ _ _ _ h => h)) (pa_cons (pv 0) pa_nil)))
    (pss_cons (ps_expr (pe_call G_need_manners (hr.mono (by decide)) rfl T.g_need_manners T.F_need_manners.kp T.b_need_manners .nil (passes_call (takes_of rfl rfl rfl rfl) (fun _ _ _ _ h => h)) (pa_cons (pv 1) pa_nil)))
    (pss_cons (ps_expr (pe_call G_need_log (hr.mono (by decide)) rfl T.g_need_log T.F_need_log.kp T.b_need_log .nil (passes_call (takes_of rfl rfl rfl rfl) (fun _ _ _ _ h => h)) (pa_cons (pv 2) pa_nil)))
    (pss_cons (ps_for (passes_of rfl) rfl (pi_enum (by rfl) T.n_enumerate (pa_cons (pv 2) pa_nil)) (pg_tup rfl (pgs_cons (pg_name (i := 3) sc_judged.nd rfl (by first | exact Or.inl rfl | exact Or.inr rfl)) (pgs_cons (pg_tup rfl (pgs_cons (pg_name (i := 4) sc_judged.nd rfl (by first | exact Or.inl rfl | exact Or.inr rfl)) (pgs_cons (pg_name (i := 5) sc_judged.nd rfl (by first | exact Or.inl rfl | exact Or.inr rfl)) (pgs_cons (pg_name (i := 6) sc_judged.nd rfl (by first | exact Or.inl rfl | exact Or.inr rfl)) (pgs_cons (pg_name (i := 7) sc_judged.nd rfl (by first | exact Or.inl rfl | exact Or.inr rfl)) pgs_nil))))) pgs_nil)))
      (pss_cons (ps_cut (ps_setLc (i := 8) (own := [("manner", 9)]) (g := (gName 9)) (tt := (tOr (tTest (tOp (rIn K true) (tVar 9) (tVar 0))) (tTest (tOp (rIn K true) (tVar 9) (tVar 1))))) (te := (tVar 9)) rfl sc_judged.nd rfl rfl (sw_true rfl rfl rfl (by decide +kernel)) (pi_tup (pe_tup (pa_cons (pv 4) (pa_cons (pv 6) pa_nil)))) (blkOk_by (own := [("manner", 9)]) (N := N_judged) (sc := defScope s_judged) (by decide +kernel)) (fun _ _ _ _ _ => (pg_name (i := 9) sc_judged.nd rfl (by first | exact Or.inl rfl | exact Or.inr rfl))) (fun _ _ _ _ _ => (pts_one (PW.pt (pw_or (pt_cmpR op_notIn_seq (pv 9) (pv 0) (by rfl)) (pw_or1 (pt_cmpR op_notIn_seq (pv 9) (pv 1) (by rfl))))))) (fun _ _ _ _ _ => (pv 9))))
      (pss_one (ps_cut (ps_if (PW.pt (pw_or (pt_cmpR (op_neD hu64) (pv 8) (pe_lst pa_nil) (nomark _)) (pw_or1 (PW.pt (pw_and (PW.pt (pw_or (pt_val (pv 5)) (pw_or1 (pt_val (pv 7))))) (pw_and1 (pt_cmpR op_ne (pv 4) (pv 6) (nomark _))))))))
        (pss_one (ps_ret (pv 3)))
        pss_nil)))))
    (pss_one (ps_ret pe_non)))))), ?_⟩
    have i0 : Im H (.ref t0) ((PyData.tuple (ca.map .int))) := .tup h0 (im_ints _)
    have i1 : Im H (.ref t1) ((PyData.tuple (cb.map .int))) := .tup h1 (im_ints _)
    refine ⟨_, rfl, _, (PyData.tuple (ca.map .int)), rfl, i0.dp, mdat_ints hca.2.2.2, fun _ H1 s1 => ?_, fun z => absurd z (by show ¬ isMan (.tuple _) = false; rw [isMan_ints hca]; simp)⟩
    refine ⟨_, rfl, _, (PyData.tuple (cb.map .int)), rfl, (i1.same s1).dp, mdat_ints hcb.2.2.2, fun _ H2 s2 => ?_, fun z => absurd z (by show ¬ isMan (.tuple _) = false; rw [isMan_ints hcb]; simp)⟩
    have s12 := s1.trans s2
    refine ⟨_, rfl, a, xs, ds, rfl, s12.seq hL, hA.same s12, hrd, fun i hb dd H' s' hx => kE i hb dd H' (s12.trans s') hx, fun hgd H3 s3 => ?_⟩
    have s13 := s12.trans s3
    obtain ⟨rs, rfl, hok⟩ := rows_of (ds := ds) fun d hd => by
      obtain ⟨i, hi⟩ := List.getElem?_of_mem hd
      cases e : isRowD d with
      | true => rfl
      | false => exact absurd (.inr e) (hgd i d hi)
    have hl : rs.length ≤ 300 := by
      rcases Nat.lt_or_ge 300 rs.length with q | q
      · exact absurd (.inl (Nat.le_refl _)) (hgd 300 (rowD rs[300]) (by rw [List.getElem?_map, List.getElem?_eq_getElem q]; rfl))
      · exact q
    obtain ⟨k1, k2⟩ := kQ rs rfl hok hl
    have hxl := rows_len hA
    refine ⟨_, rfl, a, xs, rfl, s13.seq hL, for_enum (K := K) (a := a) (xs := xs) (fun i σ H' => (∃ v3 v4 v5 v6 v7 v8 : Option V, σ = [some (.ref t0), some (.ref t1), some (.ref a), v3, v4, v5, v6, v7, v8, none]) ∧ Same H H' ∧ ∀ j r', j < i → rs[j]? = some r' → goodRow ca cb r' = true)
      ⟨⟨_, _, _, _, _, _, rfl⟩, s13, fun j r' hj => absurd hj (by omega)⟩ (fun i σ H' _ h => h.2.1.seq hL) ?_ ?_⟩
    · rintro i x N σ H4 hi ⟨⟨v3, v4, v5, v6, v7, v8, rfl⟩, s4, hgood⟩ hN
      obtain ⟨t, r, hrj, rfl, ht⟩ := rows_get' hA hi
      have s5 := s4.trans (Same.upd_new (o := .tup [.int (i : Nat), .ref t]) hN)
      refine ⟨N, _, rfl, SqT.of upd_same, rfl, _, _, rfl, _, _, rfl, ⟨t, _, rfl, SqT.of (s5 _ _ ht), rfl, _, _, rfl, _, _, rfl, _, _, rfl, _, _, rfl, rfl, rfl, ?_⟩⟩
      generalize upd H4 N (.tup [.int (i : Nat), .ref t]) = H5 at s5 ⊢
      -- the unlike ones
      refine ⟨fun σ' H' => ∃ (u : Addr) (us : List Int), σ' = [some (.ref t0), some (.ref t1), some (.ref a), some (.int (i : Nat)), some (.int r.1), some (.bl r.2.1), some (.int r.2.2.1), some (.bl r.2.2.2), some (.ref u), none] ∧ Same H H' ∧ H' u = some (.lst (us.map V.int)) ∧ us = [r.1, r.2.2.1].filter (unl ca cb), ?_, ?_⟩
      · refine ⟨_, rfl, _, rfl, (by show 2 ≤ sizeLine; decide), fun p hp => ⟨p, rfl, ⟨_, SqT.of upd_same⟩, fun D hD => ?_⟩⟩
        have s6 := s5.trans (Same.upd_new (o := .tup [.int r.1, .int r.2.2.1]) hp)
        have npD : p ≠ D := ne_of_none upd_same hD
        have hDH := (Frm.of_same (S := []) s6).free hD
        refine lc_tup (K := K) (a := p) (xs := [r.1, r.2.2.1].map V.int) (fun j H' => Same H H' ∧ H' p = some (.tup ([r.1, r.2.2.1].map V.int)) ∧ H' D = some (.lst ((([r.1, r.2.2.1].take j).filter (unl ca cb)).map V.int)))
          ⟨s6.trans (Same.upd_new hD), by rw [upd_ne npD]; exact upd_same, upd_same⟩ (fun j H' _ h => SqT.of h.2.1) ?_ ?_
        · rintro j v H' hj ⟨s7, hp7, hD7⟩
          obtain ⟨m, hm, rfl⟩ := getmap hj
          have hjl : j < 2 := (List.getElem?_eq_some_iff.mp hm).1
          have htk := take_more hm
          have put : unl ca cb m = true → ∃ acc, H' D = some (.lst acc) ∧ acc.length < sizeLine ∧ (Same H (upd H' D (.lst (acc ++ [V.int m]))) ∧ (upd H' D (.lst (acc ++ [V.int m]))) p = some (.tup ([r.1, r.2.2.1].map V.int)) ∧ (upd H' D (.lst (acc ++ [V.int m]))) D = some (.lst ((([r.1, r.2.2.1].take (j + 1)).filter (unl ca cb)).map V.int))) := fun hu => by
            refine ⟨_, hD7, ?_, ((Frm.of_same (S := []) s7).own hDH (Frm.updL hD7)).same, by rw [upd_ne npD]; exact hp7, ?_⟩
            · rw [List.length_map]
              have := List.length_filter_le (unl ca cb) ([r.1, r.2.2.1].take j)
              have := List.length_take_le j [r.1, r.2.2.1]
              exact small1000 (by omega)
            · rw [upd_same, htk, List.filter_append, List.map_append]
              simp [List.filter, hu]
          have e1 : inV (.int m) (ca.map V.int) = decide (m ∈ ca) := inV_int m ca
          have e2 : inV (.int m) (cb.map V.int) = decide (m ∈ cb) := inV_int m cb
          refine ⟨rfl, _, rfl, _, rfl, t0, _, rfl, .inr (SqT.of (s7 _ _ h0)), rfl, flat_ints _, _, rfl, ?_⟩
          show if (!inV (.int m) (ca.map V.int)) = true then _ else _
          rw [e1]
          refine iteB (fun q1 => iteT ⟨_, rfl, put (by unfold unl; rw [q1]; rfl)⟩) (fun q1 => ?_)
          refine ⟨_, rfl, _, rfl, t1, _, rfl, .inr (SqT.of (s7 _ _ h1)), rfl, flat_ints _, _, rfl, ?_⟩
          show if (!inV (.int m) (cb.map V.int)) = true then _ else _
          rw [e2]
          refine iteB (fun q2 => ⟨_, rfl, put (by unfold unl; rw [q2]; simp)⟩) (fun q2 => ⟨s7, hp7, ?_⟩)
          rw [hD7, htk, List.filter_append]
          simp [List.filter, unl, q1, q2]
        · rintro H' ⟨s7, hp7, hD7⟩
          exact ⟨D, _, rfl, s7, hD7, rfl⟩
      rintro σ' H6 ⟨u, us, rfl, s6, hu6, hus⟩
      refine ⟨fun σ' H' => σ' = [some (.ref t0), some (.ref t1), some (.ref a), some (.int (i : Nat)), some (.int r.1), some (.bl r.2.1), some (.int r.2.2.1), some (.bl r.2.2.2), some (.ref u), none] ∧ Same H H' ∧ goodRow ca cb r = true, ?_, ?_⟩
      · refine ⟨_, rfl, (by show 0 ≤ sizeLine; decide), fun e he => ?_⟩
        have s7 := s6.trans (Same.upd_new (o := .lst []) he)
        have hu7 := Same.upd_new (o := .lst []) he _ _ hu6
        refine ⟨.list (us.map .int), .list [], .lst (SqL.of hu7) (dp_ints _), .lst (SqL.of upd_same) .nil, shaped_ints _, shaped_ints [], _, rfl, ?_⟩
        have ee : PyData.eqv (.list (us.map .int)) (.list []) = decide (us = []) := eqvAll_ints us []
        rw [ee]
        have badU : us ≠ [] → goodRow ca cb r = false := fun hn => by
          rw [hus] at hn
          unfold goodRow
          cases q1 : unl ca cb r.1 <;> cases q2 : unl ca cb r.2.2.1 <;> simp_all [List.filter]
        refine iteN (fun hn => iteT ⟨_, rfl, k1 i r hrj (badU hn) hgood _ s7⟩) (fun hz => ?_)
        have gu : unl ca cb r.1 = false ∧ unl ca cb r.2.2.1 = false := by
          rw [hus] at hz
          cases q1 : unl ca cb r.1 <;> cases q2 : unl ca cb r.2.2.1 <;> simp_all [List.filter]
        have fin : ((r.2.1 || r.2.2.2) && !decide (r.1 = r.2.2.1)) = false → goodRow ca cb r = true := fun e => by
          unfold goodRow
          rw [gu.1, gu.2, e]
          rfl
        have bad : ((r.2.1 || r.2.2.2) && !decide (r.1 = r.2.2.1)) = true → goodRow ca cb r = false := fun e => by
          unfold goodRow
          rw [gu.1, gu.2, e]
          rfl
        have ed : decide (V.int r.1 = V.int r.2.2.1) = decide (r.1 = r.2.2.1) := decide_eq_decide.mpr vint_inj
        refine ⟨_, rfl, _, rfl, ?_⟩
        refine iteB (fun q1 => ?_) (fun q1 => ⟨_, rfl, _, rfl, iteB (fun q2 => ?_) (fun q2 => ⟨rfl, s7, fin (by rw [q1, q2]; rfl)⟩)⟩)
        · refine iteT ⟨_, rfl, _, rfl, rfl, _, rfl, ?_⟩
          rw [ed]
          exact iteN (fun hn => ⟨_, rfl, k1 i r hrj (bad (by rw [q1, decide_eq_false hn]; rfl)) hgood _ s7⟩) (fun he => ⟨rfl, s7, fin (by rw [decide_eq_true he]; simp)⟩)
        · refine ⟨_, rfl, _, rfl, rfl, _, rfl, ?_⟩
          rw [ed]
          exact iteN (fun hn => ⟨_, rfl, k1 i r hrj (bad (by rw [q1, q2, decide_eq_false hn]; rfl)) hgood _ s7⟩) (fun he => ⟨rfl, s7, fin (by rw [decide_eq_true he]; simp)⟩)
      rintro σ' H7 ⟨rfl, s7, hg⟩
      refine ⟨⟨_, _, _, _, _, _, rfl⟩, s7, fun j r' hj hr' => ?_⟩
      rcases Nat.lt_or_ge j i with q | q
      · exact hgood j r' q hr'
      · have : j = i := by omega
        subst this
        rw [hrj] at hr'
        cases hr'
        exact hg
    · rintro σ H4 ⟨_, s4, hgood⟩
      refine k2 (fun r hr' => ?_) H4 s4
      obtain ⟨j, hj⟩ := List.getElem?_of_mem hr'
      exact hgood j r (by rw [hxl]; exact (List.getElem?_eq_some_iff.mp hj).1) hj

end
end TL

namespace TL
open PySem PySem.Spec PyProof.Rows L2
section
variable {P : Program} {w : World} {K : PySem.W.Frag} {mg : Str → Option Value} {base : Heap}
/-- of a log with a bad row only -/
def sp_stretches (T : Txt K mg) : Sp := fun vs H _ E => ∃ (a : Addr) (xs : List V) (ds : List PyData) (i : Nat), vs = [.ref a] ∧ SqL K H a xs ∧ ImAll H xs ds ∧ (∀ d ∈ ds, rdat d) ∧ firstBad ds i ∧
  ∀ (dd : Addr) (H' : Hp), Same H H' → H' dd = some (.xd [("row", .int (i : Nat))]) → E (.ref T.C_BadLog) (some dd) H'
theorem first_one {ds : List PyData} {i j : Nat} (a : firstBad ds i) (b : firstBad ds j) : i = j := by
  obtain ⟨⟨d, hd, hb⟩, h⟩ := a
  obtain ⟨⟨d', hd', hb'⟩, h'⟩ := b
  rcases Nat.lt_trichotomy i j with q | q | q
  · exact absurd hb (h' i d q hd)
  · exact q
  · exact absurd hb' (h j d' q hd')
theorem ok_stretches (T : Txt K mg) : FnOk P w K mg base (L2.CX P w) 4 T.a_stretches T.fd_stretches P_stretches (sp_stretches T) := by
  have G_need_log := ok_need_log (P := P) (w := w) (base := base) T
  refine T.F_stretches.okX sc_stretches (fun vs H Q E h => ?_) (fun cdv A outer s H vs Q E hr h => ?_)
  · obtain ⟨a, xs, ds, i, rfl, _⟩ := h
    rfl
  · obtain ⟨a, xs, ds, i, rfl, hL, hA, hrd, hb, kE⟩ := h
    have hu64 := hr.units
    refine ⟨_, (pss_cons (ps_expr (pe_call G_need_log (hr.mono (by decide)) rfl T.g_need_log T.F_need_log.kp T.b_need_log .nil (passes_call (takes_of rfl rfl rfl rfl) (fun _ _ _ _ h => h)) (pa_cons (pv 0) pa_nil)))
    (pss_cons (ps_set (i := 1) sc_stretches.nd rfl (by first | exact Or.inl rfl | exact Or.inr rfl) (pe_lst pa_nil))
    (pss_cons (ps_for (passes_of rfl) rfl (pi_enum (by rfl) T.n_enumerate (pa_cons (pv 0) pa_nil)) (pg_tup rfl (pgs_cons (pg_name (i := 2) sc_stretches.nd rfl (by first | exact Or.inl rfl | exact Or.inr rfl)) (pgs_cons (pg_tup rfl (pgs_cons (pg_name (i := 3) sc_stretches.nd rfl (by first | exact Or.inl rfl | exact Or.inr rfl)) (pgs_cons (pg_name (i := 4) sc_stretches.nd rfl (by first | exact Or.inl rfl | exact Or.inr rfl)) (pgs_cons (pg_name (i := 5) sc_stretches.nd rfl (by first | exact Or.inl rfl | exact Or.inr rfl)) (pgs_cons (pg_name (i := 6) sc_stretches.nd rfl (by first | exact Or.inl rfl | exact Or.inr rfl)) pgs_nil))))) pgs_nil)))
      (pss_one (ps_if (PW.pt (pw_and (pt_val (pv 4)) (pw_and (pt_val (pv 6)) (pw_and1 (pt_cmpR op_eq (pv 3) (pv 5) (nomark _))))))
        (pss_one (ps_if (PW.pt (pw_and (pt_cmpR (op_neD hu64) (pv 1) (pe_lst pa_nil) (nomark _)) (pw_and (pt_cmpR op_eq (pe_ix ix_tup (pe_ix ix_list (pv 1) (pe_un un_neg pe_int) (fun _ _ => rfl)) pe_int (fun _ _ => rfl)) (pv 3) (nomark _)) (pw_and1 (pt_cmpR op_eq (pe_ix ix_tup (pe_ix ix_list (pv 1) (pe_un un_neg pe_int) (fun _ _ => rfl)) pe_int (fun _ _ => rfl)) (pv 2) (nomark _))))))
          (pss_one (ps_asg (pe_tup (pa_cons (pv 3) (pa_cons (pe_ix ix_tup (pe_ix ix_list (pv 1) (pe_un un_neg pe_int) (fun _ _ => rfl)) pe_int (fun _ _ => rfl)) (pa_cons (pe_op op_add (pv 2) pe_int) pa_nil)))) (pg_sub (pv 1) (pe_un un_neg pe_int) set_list)))
          (pss_one (ps_expr (pe_bm PySem.F.plainAttrs_list PySem.F.slot_list_append PySem.F.type_list_append mt_append (pv 1) (pa_cons (pe_tup (pa_cons (pv 3) (pa_cons (pv 2) (pa_cons (pe_op op_add (pv 2) pe_int) pa_nil)))) pa_nil))))))
        pss_nil)))
    (pss_one (ps_ret (pv 1)))))), ?_⟩
    refine ⟨_, rfl, a, xs, ds, rfl, hL, hA, hrd, fun j hj dd H' s hx => ?_, fun hg => ?_⟩
    · have e := first_one hj hb
      subst e
      exact kE dd H' s hx
    · obtain ⟨⟨d, hd, hbd⟩, _⟩ := hb
      exact absurd hbd (hg i d hd)

end
end TL

namespace TL
open PySem PySem.Spec PyProof.Rows L2
section
variable {P : Program} {w : World} {K : PySem.W.Frag} {mg : Str → Option Value} {base : Heap}
def sp__law_dice (T : Txt K mg) : Sp := fun vs H Q _ => ∃ (a : Addr) (ns : List Int) (k : Int), vs = [.ref a, .int k] ∧ SqL K H a (ns.map V.int) ∧ ns.length ≤ 63 ∧
  ∀ (p : Addr) (H' : Hp), H p = none → DiceAt H' p → Same H H' → Q (.ref p) H'
theorem ok__law_dice (T : Txt K mg) : FnOk P w K mg base CX0 1 T.a__law_dice T.fd__law_dice P__law_dice (sp__law_dice T) := by
  skip
  refine T.F__law_dice.ok sc__law_dice (fun vs H Q E h => ?_) (fun cdv A outer s H vs Q E hr h => ?_)
  · obtain ⟨a, ns, k, rfl, _⟩ := h
    rfl
  · obtain ⟨a, ns, kz, rfl, hS, hl, k⟩ := h
    refine ⟨_, (pss_cons (ps_set (i := 2) sc__law_dice.nd rfl (by first | exact Or.inl rfl | exact Or.inr rfl) (pv 1))
    (pss_cons (ps_for PassesOwn.never rfl (pi_list (pv 0)) (pg_name (i := 3) sc__law_dice.nd rfl (by first | exact Or.inl rfl | exact Or.inr rfl))
      (pss_one (ps_set (i := 2) sc__law_dice.nd rfl (by first | exact Or.inl rfl | exact Or.inr rfl) (pe_op op_mod (pe_op op_add (pe_op op_mul (pv 2) pe_int) (pe_callB call_abs (by rfl) T.n_abs (by decide +kernel) (pa_cons (pv 3) pa_nil))) pe_int))))
    (pss_one (ps_ret (pe_op op_cat (pe_lst (pa_cons (pv 2) (pa_cons pe_int pa_nil))) (pe_lc (own := [("_law_cell", 3)]) (g := (gName 3)) (tt := (tTest (tOp (rI0 fun i j => .bl (decide (j ≤ i))) (tVar 3) (tOp (rI CPow fun i j => .int (i ^ j.toNat)) (tC (.int 10)) (tC (.int 18)))))) (te := (tVar 3)) rfl sc__law_dice.nd (pi_list (pv 0)) (blkOk_by (own := [("_law_cell", 3)]) (N := N__law_dice) (sc := defScope s__law_dice) (by decide +kernel)) (fun _ _ _ _ _ => (pg_name (i := 3) sc__law_dice.nd rfl (by first | exact Or.inl rfl | exact Or.inr rfl))) (fun _ _ _ _ _ => (pts_one (pt_cmpR op_ge (pv 3) (pe_op op_pow pe_int pe_int) (nomark _)))) (fun _ _ _ _ _ => (pv 3)))))))), ?_⟩
    refine ⟨_, rfl, ?_⟩
    refine ⟨_, rfl, a, rfl, ⟨_, hS⟩, for_list (K := K) (a := a) (xs := ns.map V.int) (fun i σ H2 => H2 = H ∧ ∃ (f : Int) (v : Option V), σ = [some (.ref a), some (.int kz), some (.int f), v])
      ⟨rfl, _, _, rfl⟩ (fun i σ H2 _ ⟨e, _⟩ => by rw [e]; exact hS) ?_ ?_⟩
    · rintro i y σ H2 hi ⟨rfl, f, v, rfl⟩
      obtain ⟨z, hz, rfl⟩ := getmap hi
      exact ⟨_, rfl, _, _, rfl, rfl, .inr (by decide), _, rfl, _, rfl, _, _, rfl, rfl, _, _, rfl, rfl, (by show (0 : Int) < 2147483647; decide), rfl, _, _, rfl⟩
    · rintro σ H2 ⟨rfl, f, v, rfl⟩
      refine ⟨_, rfl, (by show 2 ≤ sizeLine; decide), fun l hlz => ?_⟩
      have s1 : Same H2 (upd H2 l (.lst [.int f, .int 0])) := Same.upd_new hlz
      refine ⟨_, rfl, a, rfl, ⟨_, s1.seq hS⟩, fun D hD => ?_⟩
      refine lc_list (K := K) (a := a) (xs := ns.map V.int) (fun i H3 => ∃ ms : List Int, H3 D = some (.lst (ms.map V.int)) ∧ ms.length ≤ i ∧ Same (upd H2 l (.lst [.int f, .int 0])) H3)
        ⟨[], upd_same, Nat.le_refl _, Same.upd_new hD⟩ (fun i H3 _ ⟨_, _, _, s3⟩ => s3.seq (s1.seq hS)) ?_ ?_
      · rintro i y H3 hi ⟨ms, hm, hml, s3⟩
        obtain ⟨z, hz, rfl⟩ := getmap hi
        have hil : i < ns.length := (List.getElem?_eq_some_iff.mp hz).1
        refine ⟨rfl, _, rfl, _, _, rfl, rfl, ⟨by decide, by decide, by decide⟩, _, _, rfl, rfl, _, rfl, ?_⟩
        refine iteD (fun h0 => ?_) (fun h0 => ⟨ms, hm, Nat.le_succ_of_le hml, s3⟩)
        refine ⟨_, rfl, _, hm, by rw [List.length_map]; exact small1000 (by omega), ms ++ [z], by rw [upd_same, List.map_append]; rfl, by simp; omega, fun b o e => ?_⟩
        rw [upd_ne (fun q => ?_)]
        · exact s3 b o e
        · subst q
          rw [hD] at e
          cases e
      · rintro H3 ⟨ms, hm, hml, s3⟩
        rw [List.length_map] at hml
        have hlH : H3 l = some (.lst [.int f, .int 0]) := s3 _ _ upd_same
        refine ⟨l, D, _, _, rfl, rfl, hlH, hm, by rw [List.length_map]; exact Nat.le_of_lt (small1000 (by simp; omega)), fun p hp => ?_⟩
        refine k p _ ((s1.trans s3).free hp) ⟨f :: 0 :: ms, by rw [upd_same]; rfl, by simp, by simp; omega⟩ ((s1.trans s3).trans (Same.upd_new hp))

end
end TL

namespace TL
open PySem PySem.Spec PyProof.Rows L2
section
variable {P : Program} {w : World} {K : PySem.W.Frag} {mg : Str → Option Value} {base : Heap}
def sp__law_off (T : Txt K mg) : Sp := fun vs H Q _ => ∃ (d : Addr) (m : Int), vs = [.ref d, .int m] ∧ DiceAt H d ∧ 0 < m ∧ m < 1073741824 ∧
  ∀ (r : Int) (H' : Hp), 0 ≤ r → r < m → DiceAt H' d → Frm [d] H H' → Q (.int r) H'
theorem ok__law_off (T : Txt K mg) : FnOk P w K mg base CX0 1 T.a__law_off T.fd__law_off P__law_off (sp__law_off T) := by
  skip
  refine T.F__law_off.ok sc__law_off (fun vs H Q E h => ?_) (fun cdv A outer s H vs Q E hr h => ?_)
  · obtain ⟨d, m, rfl, _⟩ := h
    rfl
  · obtain ⟨d, m, rfl, ⟨ns, hd, hl, hl2⟩, hm0, hm1, k⟩ := h
    obtain ⟨a, b, r, rfl⟩ : ∃ a b r, ns = a :: b :: r := by
      match ns, hl with
      | a :: b :: r, _ => exact ⟨a, b, r, rfl⟩
    refine ⟨_, (pss_cons (ps_if (PW.pt (pw_and (pt_cmpR op_eq (pe_ix ix_list (pv 0) pe_int (fun _ _ => rfl)) pe_int (nomark _)) (pw_and1 (pt_cmpR op_gt (pe_callB call_len_seq (by rfl) T.n_len (by decide +kernel) (pa_cons (pv 0) pa_nil)) pe_int (nomark _)))))
      (pss_one (ps_asg (pe_bm PySem.F.plainAttrs_list PySem.F.slot_list_pop PySem.F.type_list_pop mt_popAt (pv 0) (pa_cons pe_int pa_nil)) (pg_sub (pv 0) pe_int set_list)))
      pss_nil)
    (pss_cons (ps_if (pt_cmpR op_gt (pe_ix ix_list (pv 0) pe_int (fun _ _ => rfl)) pe_int (nomark _))
      (pss_cons (ps_set (i := 2) sc__law_off.nd rfl (by first | exact Or.inl rfl | exact Or.inr rfl) (pe_op op_mod (pe_ix ix_list (pv 0) pe_int (fun _ _ => rfl)) (pv 1)))
      (pss_cons (ps_asg (pe_op op_fdiv (pe_ix ix_list (pv 0) pe_int (fun _ _ => rfl)) (pv 1)) (pg_sub (pv 0) pe_int set_list))
      (pss_one (ps_ret (pv 2)))))
      pss_nil)
    (pss_cons (ps_asg (pe_op op_mod (pe_op op_add (pe_op op_mul (pe_ix ix_list (pv 0) pe_int (fun _ _ => rfl)) pe_int) pe_int) pe_int) (pg_sub (pv 0) pe_int set_list))
    (pss_one (ps_ret (pe_op op_mod (pe_op op_fdiv (pe_ix ix_list (pv 0) pe_int (fun _ _ => rfl)) pe_int) (pv 1))))))), ?_⟩
    have key : ∀ (H1 : Hp) (a b : Int) (r : List Int), H1 d = some (.lst ((a :: b :: r).map V.int)) → (a :: b :: r).length ≤ 65 → Frm [d] H H1 → tSeq (tIfS (tTest (tOp (rI0 fun i j => .bl (decide (j < i))) (tOp (rIxL K) (tVar 0) (tC (.int 1))) (tC (.int 0)))) (tSeq (tAsg (tOp (rI (fun _ j => 0 < j) fun i j => .int (i % j)) (tOp (rIxL K) (tVar 0) (tC (.int 1))) (tVar 1)) (gName 2)) (tSeq (tAsg (tOp (rI CDiv fun i j => .int (i / j)) (tOp (rIxL K) (tVar 0) (tC (.int 1))) (tVar 1)) (gSub (tVar 0) (tC (.int 1)) rSetL)) (tRet (tVar 2)))) tNext)
        (tSeq (tAsg (tOp (rI (fun _ j => 0 < j) fun i j => .int (i % j)) (tOp (rI0 fun i j => .int (i + j)) (tOp (rI CMul fun i j => .int (i * j)) (tOp (rIxL K) (tVar 0) (tC (.int 0))) (tC (.int 48271))) (tC (.int 11))) (tC (.int 2147483647))) (gSub (tVar 0) (tC (.int 0)) rSetL))
          (tRet (tOp (rI (fun _ j => 0 < j) fun i j => .int (i % j)) (tOp (rI CDiv fun i j => .int (i / j)) (tOp (rIxL K) (tVar 0) (tC (.int 0))) (tC (.int 64))) (tVar 1))))
        { nx := fun _ H' => Q .non H', rt := Q } [some (.ref d), some (.int m), none] H1 := by
      intro H1 a b r h1 hl e1
      have dz : (ixN ((a :: b :: r).map V.int).length 1) = some 1 := by
        unfold ixN
        simp only [List.length_map, List.length_cons]
        rw [if_pos (by omega), if_pos (by omega)]
        rfl
      have dz0 : (ixN ((a :: b :: r).map V.int).length 0) = some 0 := by
        unfold ixN
        simp only [List.length_map, List.length_cons]
        rw [if_pos (by omega), if_pos (by omega)]
        rfl
      refine ⟨_, rfl, d, _, _, .int b, rfl, rfl, SqL.of h1, atI_nat (j := 1) rfl, _, _, rfl, rfl, _, rfl, ?_⟩
      refine iteD (fun h0 => ?_) (fun h0 => ?_)
      · refine ⟨_, rfl, d, _, _, .int b, rfl, rfl, SqL.of h1, atI_nat (j := 1) rfl, _, rfl, _, _, rfl, rfl, hm0, ?_⟩
        refine ⟨_, rfl, d, _, _, .int b, rfl, rfl, SqL.of h1, atI_nat (j := 1) rfl, _, rfl, _, _, rfl, rfl, ⟨hm0, hm1⟩, ?_⟩
        refine ⟨_, rfl, d, _, _, 1, rfl, rfl, h1, dz, _, rfl, ?_⟩
        refine k _ _ (Int.emod_nonneg _ (by omega)) (Int.emod_lt_of_pos _ hm0) ⟨a :: (b / m) :: r, upd_same, by simp, hl⟩ (e1.trans (Frm.updL h1))
      · refine ⟨_, rfl, d, _, _, .int a, rfl, rfl, SqL.of h1, atI_nat (j := 0) rfl, _, _, rfl, rfl, .inr (by decide), _, _, rfl, rfl, _, _, rfl, rfl, (by show (0 : Int) < 2147483647; decide), ?_⟩
        refine ⟨_, rfl, d, _, _, 0, rfl, rfl, h1, dz0, ?_⟩
        refine ⟨_, rfl, d, _, _, .int ((a * 48271 + 11) % 2147483647), rfl, rfl, SqL.of upd_same, atI_nat (j := 0) rfl, _, _, rfl, rfl, ⟨by decide, by decide⟩, _, rfl, _, _, rfl, rfl, hm0, ?_⟩
        exact k _ _ (Int.emod_nonneg _ (by omega)) (Int.emod_lt_of_pos _ hm0) ⟨((a * 48271 + 11) % 2147483647) :: b :: r, upd_same, by simp, hl⟩ (e1.trans (Frm.updL h1))
    -- d[1] == 0 and len(d) > 2
    refine ⟨_, rfl, d, _, _, .int b, rfl, rfl, SqL.of hd, atI_nat (j := 1) rfl, rfl, _, rfl, ?_⟩
    refine iteD (fun h0 => ?_) (fun h0 => iteF (key H a b r hd hl2 (.refl _ _)))
    refine ⟨_, rfl, d, _, rfl, .inl (SqL.of hd), _, _, rfl, rfl, _, rfl, ?_⟩
    refine iteD (fun h1 => ?_) (fun h1 => key H a b r hd hl2 (.refl _ _))
    obtain ⟨c, r', rfl⟩ : ∃ c r', r = c :: r' := by
      match r, h1 with
      | c :: r', _ => exact ⟨c, r', rfl⟩
      | [], h1 => exact absurd h1 (by simp)
    have s2 : seqIndex? 2 ((a :: b :: c :: r').map V.int).length = some 2 := by
      have e : ixN ((a :: b :: c :: r').map V.int).length 2 = some 2 := by
        unfold ixN
        simp only [List.length_map, List.length_cons]
        rw [if_pos (by omega), if_pos (by omega)]
        rfl
      exact (ixN_seq e).1
    refine ⟨_, rfl, .inl ⟨rfl, _, SqL.of hd⟩, d, _, _, 2, .int c, rfl, rfl, hd, by decide, by decide, s2, rfl, ?_⟩
    have dz : (ixN (((a :: b :: c :: r').map V.int).eraseIdx 2).length 1) = some 1 := by
      unfold ixN
      show (if (0 : Int) ≤ 1 then (if (1 : Int) < ((V.int a :: V.int b :: r'.map V.int).length : Nat) then _ else _) else _) = _
      simp only [List.length_cons]
      rw [if_pos (by omega), if_pos (by omega)]
      rfl
    refine ⟨_, rfl, d, _, _, 1, rfl, rfl, upd_same, dz, ?_⟩
    refine key _ a c r' (by rw [upd_same]; rfl) (by simp only [List.length_cons] at hl2 ⊢; omega) ((Frm.updL hd).trans (Frm.updL upd_same))

end
end TL

namespace TL
open PySem PySem.Spec PyProof.Rows L2
section
variable {P : Program} {w : World} {K : PySem.W.Frag} {mg : Str → Option Value} {base : Heap}
/-- of two things that are the same data True is told; n: how deep they may be, and one more -/
def sp__law_alike (T : Txt K mg) : Nat → Sp
  | 0 => fun _ _ _ _ => False
  | n + 1 => fun vs H Q _ => ∃ (x y : V) (d : PyData), vs = [x, y] ∧ Dp K H x d ∧ Dp K H y d ∧ lv n d ∧ ∀ H', Same H H' → Q (.bl true) H'
theorem rix_of {H : Hp} {p : Addr} {xs : List V} {i : Int} {v : V} {Q : VK} (h : SqL K H p xs ∨ SqT K H p xs) (e : atI xs i = some v) (q : Q v H) : rIx K (.ref p) (.int i) H Q := by
  rcases h with h | h
  · exact .inl ⟨p, xs, i, v, rfl, rfl, h, e, q⟩
  · exact .inr (.inl ⟨p, xs, i, v, rfl, rfl, h, e, q⟩)
theorem ok__law_alike_step (T : Txt K mg) (n : Nat) (G__law_alike : FnOk P w K mg base CX0 n T.a__law_alike T.fd__law_alike P__law_alike (sp__law_alike T n)) : FnOk P w K mg base CX0 (n + 1) T.a__law_alike T.fd__law_alike P__law_alike (sp__law_alike T (n + 1)) := by
  refine T.F__law_alike.ok sc__law_alike (fun vs H Q E h => ?_) (fun cdv A outer s H vs Q E hr h => ?_)
  · obtain ⟨x, y, d, rfl, _⟩ := h
    rfl
  · obtain ⟨x, y, d, rfl, hx, hy, hl, k⟩ := h
    have hrS := hr
    refine ⟨_, (pss_cons (ps_if (pt_cmpR op_isN1 (pv 1) pe_non (nomark _))
      (pss_one (ps_ret (pe_cmpR op_isN1 (pv 0) pe_non (nomark _))))
      pss_nil)
    (pss_cons (ps_if (pt_val (pe_callB call_isi (by rfl) T.n_isinstance (by decide +kernel) (pa_cons (pv 1) (pa_cons (pe_bltn (v := .ty "bool") (u := .type "bool") (by rfl) T.n_bool (by decide +kernel) rfl) pa_nil))))
      (pss_one (ps_ret (pe_and (pe_callB call_isi (by rfl) T.n_isinstance (by decide +kernel) (pa_cons (pv 0) (pa_cons (pe_bltn (v := .ty "bool") (u := .type "bool") (by rfl) T.n_bool (by decide +kernel) rfl) pa_nil))) (pe_one (pe_cmpR op_eq (pv 0) (pv 1) (nomark _))))))
      pss_nil)
    (pss_cons (ps_if (pt_val (pe_callB call_isi (by rfl) T.n_isinstance (by decide +kernel) (pa_cons (pv 1) (pa_cons (pe_bltn (v := .ty "int") (u := .type "int") (by rfl) T.n_int (by decide +kernel) rfl) pa_nil))))
      (pss_one (ps_ret (pe_and (pe_callB call_isi (by rfl) T.n_isinstance (by decide +kernel) (pa_cons (pv 0) (pa_cons (pe_bltn (v := .ty "int") (u := .type "int") (by rfl) T.n_int (by decide +kernel) rfl) pa_nil))) (pe_and (pe_not (pe_callB call_isi (by rfl) T.n_isinstance (by decide +kernel) (pa_cons (pv 0) (pa_cons (pe_bltn (v := .ty "bool") (u := .type "bool") (by rfl) T.n_bool (by decide +kernel) rfl) pa_nil)))) (pe_one (pe_cmpR op_eq (pv 0) (pv 1) (nomark _)))))))
      pss_nil)
    (pss_cons (ps_if (pt_val (pe_callB call_isi (by rfl) T.n_isinstance (by decide +kernel) (pa_cons (pv 1) (pa_cons (pe_bltn (v := .ty "str") (u := .type "str") (by rfl) T.n_str (by decide +kernel) rfl) pa_nil))))
      (pss_one (ps_ret (pe_and (pe_callB call_isi (by rfl) T.n_isinstance (by decide +kernel) (pa_cons (pv 0) (pa_cons (pe_bltn (v := .ty "str") (u := .type "str") (by rfl) T.n_str (by decide +kernel) rfl) pa_nil))) (pe_one (pe_cmpR op_eq (pv 0) (pv 1) (nomark _))))))
      pss_nil)
    (pss_cons (ps_if (PW.pt (pw_or (pt_cmpR op_ne (pe_callB call_isi (by rfl) T.n_isinstance (by decide +kernel) (pa_cons (pv 1) (pa_cons (pe_bltn (v := .ty "tuple") (u := .type "tuple") (by rfl) T.n_tuple (by decide +kernel) rfl) pa_nil))) (pe_callB call_isi (by rfl) T.n_isinstance (by decide +kernel) (pa_cons (pv 0) (pa_cons (pe_bltn (v := .ty "tuple") (u := .type "tuple") (by rfl) T.n_tuple (by decide +kernel) rfl) pa_nil))) (nomark _)) (pw_or1 (pt_cmpR op_ne (pe_callB call_isi (by rfl) T.n_isinstance (by decide +kernel) (pa_cons (pv 1) (pa_cons (pe_bltn (v := .ty "list") (u := .type "list") (by rfl) T.n_list (by decide +kernel) rfl) pa_nil))) (pe_callB call_isi (by rfl) T.n_isinstance (by decide +kernel) (pa_cons (pv 0) (pa_cons (pe_bltn (v := .ty "list") (u := .type "list") (by rfl) T.n_list (by decide +kernel) rfl) pa_nil))) (nomark _)))))
      (pss_one (ps_ret pe_bl))
      pss_nil)
    (pss_cons (ps_if (pt_cmpR op_ne (pe_callB call_len_seq (by rfl) T.n_len (by decide +kernel) (pa_cons (pv 0) pa_nil)) (pe_callB call_len_seq (by rfl) T.n_len (by decide +kernel) (pa_cons (pv 1) pa_nil)) (nomark _))
      (pss_one (ps_ret pe_bl))
      pss_nil)
    (pss_one (ps_ret (pe_callB (cr_all rfl) (by rfl) T.n_all (by decide +kernel) (pa_cons (pe_lc (own := [("_law_k", 2)]) (g := (gName 2)) (tt := tYes) (te := (tCall _ [] E0 (tCons (tOp (rIx K) (tVar 0) (tVar 2)) (tCons (tOp (rIx K) (tVar 1) (tVar 2)) tNil)))) rfl sc__law_alike.nd (pi_range1 rfl T.n_range (pa_cons (pe_callB call_len_seq (by rfl) T.n_len (by decide +kernel) (pa_cons (pv 1) pa_nil)) pa_nil)) (blkOk_by (own := [("_law_k", 2)]) (N := N__law_alike) (sc := defScope s__law_alike) (by decide +kernel)) (fun _ _ _ _ _ => (pg_name (i := 2) sc__law_alike.nd rfl (by first | exact Or.inl rfl | exact Or.inr rfl))) (fun _ _ _ _ _ => pts_nil) (fun _ _ _ _ _ => (pe_call G__law_alike hrS rfl T.g__law_alike T.F__law_alike.kp T.b__law_alike .nil pass0 (pa_cons (pe_ix ix_seq (pv 0) (pv 2) (fun _ _ => rfl)) (pa_cons (pe_ix ix_seq (pv 1) (pv 2) (fun _ _ => rfl)) pa_nil))))) pa_nil)))))))))), ?_⟩
    have kk : ∀ {p : Prop} [Decidable p], p → Q (.bl (decide p)) H := fun hp => by rw [decide_eq_true hp]; exact k _ (.refl _)
    cases d with
    | none =>
      cases hx; cases hy
      exact ⟨_, rfl, rfl, _, rfl, iteT ⟨_, rfl, rfl, k _ (.refl _)⟩⟩
    | bool b =>
      cases hx; cases hy
      refine ⟨_, rfl, rfl, _, rfl, iteF ?_⟩
      refine ⟨_, rfl, _, _, _, _, _, rfl, .ty _, tyx_D (.bl b), kit_ty kb_bb, _, rfl, iteT ?_⟩
      exact ⟨_, rfl, _, _, _, _, _, rfl, .ty _, tyx_D (.bl b), kit_ty kb_bb, _, rfl, iteT ⟨_, rfl, _, rfl, rfl, kk rfl⟩⟩
    | int i =>
      cases hx; cases hy
      refine ⟨_, rfl, rfl, _, rfl, iteF ?_⟩
      refine ⟨_, rfl, _, _, _, _, _, rfl, .ty _, tyx_D (.int i), kit_ty kb_ib, _, rfl, iteF ?_⟩
      refine ⟨_, rfl, _, _, _, _, _, rfl, .ty _, tyx_D (.int i), kit_ty kb_ii, _, rfl, iteT ?_⟩
      refine ⟨_, rfl, _, _, _, _, _, rfl, .ty _, tyx_D (.int i), kit_ty kb_ii, _, rfl, iteT ?_⟩
      exact ⟨_, rfl, _, _, _, _, _, rfl, .ty _, tyx_D (.int i), kit_ty kb_ib, _, rfl, _, rfl, iteT ⟨_, rfl, _, rfl, rfl, kk rfl⟩⟩
    | str z =>
      cases hx; cases hy
      refine ⟨_, rfl, rfl, _, rfl, iteF ?_⟩
      refine ⟨_, rfl, _, _, _, _, _, rfl, .ty _, tyx_D (.str z), kit_ty kb_sb, _, rfl, iteF ?_⟩
      refine ⟨_, rfl, _, _, _, _, _, rfl, .ty _, tyx_D (.str z), kit_ty kb_si, _, rfl, iteF ?_⟩
      refine ⟨_, rfl, _, _, _, _, _, rfl, .ty _, tyx_D (.str z), kit_ty kb_ss, _, rfl, iteT ?_⟩
      exact ⟨_, rfl, _, _, _, _, _, rfl, .ty _, tyx_D (.str z), kit_ty kb_ss, _, rfl, iteT ⟨_, rfl, _, rfl, rfl, kk rfl⟩⟩
    | dict _ => cases hx
    | list ds =>
      have hx' := hx
      have hy' := hy
      cases hx' with
      | lst hLx hAx =>
      rename_i a xs
      cases hy' with
      | lst hLy hAy =>
      rename_i b ys
      refine ⟨_, rfl, rfl, _, rfl, iteF ?_⟩
      refine ⟨_, rfl, _, _, _, _, _, rfl, .ty _, tyx_D hy, kit_ty kb_lb, _, rfl, iteF ?_⟩
      refine ⟨_, rfl, _, _, _, _, _, rfl, .ty _, tyx_D hy, kit_ty kb_li, _, rfl, iteF ?_⟩
      refine ⟨_, rfl, _, _, _, _, _, rfl, .ty _, tyx_D hy, kit_ty kb_ls, _, rfl, iteF ?_⟩
      refine ⟨_, rfl, _, _, _, _, _, rfl, .ty _, tyx_D hy, kit_ty kb_lt, _, rfl, _, _, _, _, _, rfl, .ty _, tyx_D hx, kit_ty kb_lt, rfl, _, rfl, iteF ?_⟩
      refine ⟨_, rfl, _, _, _, _, _, rfl, .ty _, tyx_D hy, kit_ty kb_ll, _, rfl, _, _, _, _, _, rfl, .ty _, tyx_D hx, kit_ty kb_ll, rfl, _, rfl, iteF ?_⟩
      obtain ⟨m, rfl⟩ : ∃ m, n = m + 1 := by
        cases n with
        | zero => simp [lv] at hl
        | succ m => exact ⟨m, rfl⟩
      simp only [lv] at hl
      have hLx : SqL K H a xs ∨ SqT K H a xs := .inl hLx
      have hLy : SqL K H b ys ∨ SqT K H b ys := .inl hLy
      have lx := hAx.length
      have ly := hAy.length
      have sq : ∀ {H' : Hp} {c : Addr} {zs : List V}, Same H H' → (SqL K H c zs ∨ SqT K H c zs) → (SqL K H' c zs ∨ SqT K H' c zs) := fun s z => z.imp (fun q => s.seq q) fun q => SqT_same s q
      refine ⟨_, rfl, a, _, rfl, hLx, _, rfl, b, _, rfl, hLy, rfl, _, rfl, iteNS (by rw [lx, ly]) ?_⟩
      refine ⟨_, rfl, b, _, rfl, hLy, _, rfl, by omega, by omega, fun D hD => ?_⟩
      have hn : ((ys.length : Nat) : Int).toNat = ds.length := by omega
      rw [hn]
      refine lc_range (lo := 0) (n := ds.length) (fun i H2 => Same H H2 ∧ H2 D = some (.lst ((List.replicate i true).map V.bl)))
        ⟨Same.upd_new hD, upd_same⟩ ?_ ?_
      · rintro i H2 hi ⟨s2, h2⟩
        obtain ⟨u, hu, hdu⟩ := hAx.get (i := i) (d := ds[i]) (List.getElem?_eq_getElem hi)
        obtain ⟨v, hv, hdv⟩ := hAy.get (i := i) (d := ds[i]) (List.getElem?_eq_getElem hi)
        have e0 : (0 : Int) + (i : Int) = (i : Int) := by omega
        refine ⟨rfl, ?_⟩
        refine ⟨_, rfl, _, rfl, rix_of (sq s2 hLx) (at_of e0 hu) ?_⟩
        refine ⟨_, rfl, _, rfl, rix_of (sq s2 hLy) (at_of e0 hv) ?_⟩
        refine ⟨_, _, ds[i], rfl, hdu.same s2, hdv.same s2, hl.2 _ (List.getElem_mem hi), fun H3 s3 => ?_⟩
        refine ⟨_, s3 _ _ h2, by simp only [List.length_map, List.length_replicate]; exact Nat.lt_of_lt_of_le (Nat.lt_of_lt_of_le hi hl.1) (by decide), fun c o e => ?_, ?_⟩
        · rw [upd_ne (fun q => by rw [q, hD] at e; cases e)]
          exact s3 _ _ (s2 c o e)
        · rw [upd_same, List.replicate_succ', List.map_append]
          rfl
      · rintro H2 ⟨s2, h2⟩
        refine ⟨D, List.replicate ds.length true, rfl, SqL.of h2, ?_⟩
        have : (List.replicate ds.length true).all id = true := by simp
        rw [this]
        exact k _ s2
    | tuple ds =>
      have hx' := hx
      have hy' := hy
      cases hx' with
      | tup hLx hAx =>
      rename_i a xs
      cases hy' with
      | tup hLy hAy =>
      rename_i b ys
      refine ⟨_, rfl, rfl, _, rfl, iteF ?_⟩
      refine ⟨_, rfl, _, _, _, _, _, rfl, .ty _, tyx_D hy, kit_ty kb_tb, _, rfl, iteF ?_⟩
      refine ⟨_, rfl, _, _, _, _, _, rfl, .ty _, tyx_D hy, kit_ty kb_ti, _, rfl, iteF ?_⟩
      refine ⟨_, rfl, _, _, _, _, _, rfl, .ty _, tyx_D hy, kit_ty kb_ts, _, rfl, iteF ?_⟩
      refine ⟨_, rfl, _, _, _, _, _, rfl, .ty _, tyx_D hy, kit_ty kb_tt, _, rfl, _, _, _, _, _, rfl, .ty _, tyx_D hx, kit_ty kb_tt, rfl, _, rfl, iteF ?_⟩
      refine ⟨_, rfl, _, _, _, _, _, rfl, .ty _, tyx_D hy, kit_ty kb_tl, _, rfl, _, _, _, _, _, rfl, .ty _, tyx_D hx, kit_ty kb_tl, rfl, _, rfl, iteF ?_⟩
      obtain ⟨m, rfl⟩ : ∃ m, n = m + 1 := by
        cases n with
        | zero => simp [lv] at hl
        | succ m => exact ⟨m, rfl⟩
      simp only [lv] at hl
      have hLx : SqL K H a xs ∨ SqT K H a xs := .inr hLx
      have hLy : SqL K H b ys ∨ SqT K H b ys := .inr hLy
      have lx := hAx.length
      have ly := hAy.length
      have sq : ∀ {H' : Hp} {c : Addr} {zs : List V}, Same H H' → (SqL K H c zs ∨ SqT K H c zs) → (SqL K H' c zs ∨ SqT K H' c zs) := fun s z => z.imp (fun q => s.seq q) fun q => SqT_same s q
      refine ⟨_, rfl, a, _, rfl, hLx, _, rfl, b, _, rfl, hLy, rfl, _, rfl, iteNS (by rw [lx, ly]) ?_⟩
      refine ⟨_, rfl, b, _, rfl, hLy, _, rfl, by omega, by omega, fun D hD => ?_⟩
      have hn : ((ys.length : Nat) : Int).toNat = ds.length := by omega
      rw [hn]
      refine lc_range (lo := 0) (n := ds.length) (fun i H2 => Same H H2 ∧ H2 D = some (.lst ((List.replicate i true).map V.bl)))
        ⟨Same.upd_new hD, upd_same⟩ ?_ ?_
      · rintro i H2 hi ⟨s2, h2⟩
        obtain ⟨u, hu, hdu⟩ := hAx.get (i := i) (d := ds[i]) (List.getElem?_eq_getElem hi)
        obtain ⟨v, hv, hdv⟩ := hAy.get (i := i) (d := ds[i]) (List.getElem?_eq_getElem hi)
        have e0 : (0 : Int) + (i : Int) = (i : Int) := by omega
        refine ⟨rfl, ?_⟩
        refine ⟨_, rfl, _, rfl, rix_of (sq s2 hLx) (at_of e0 hu) ?_⟩
        refine ⟨_, rfl, _, rfl, rix_of (sq s2 hLy) (at_of e0 hv) ?_⟩
        refine ⟨_, _, ds[i], rfl, hdu.same s2, hdv.same s2, hl.2 _ (List.getElem_mem hi), fun H3 s3 => ?_⟩
        refine ⟨_, s3 _ _ h2, by simp only [List.length_map, List.length_replicate]; exact Nat.lt_of_lt_of_le (Nat.lt_of_lt_of_le hi hl.1) (by decide), fun c o e => ?_, ?_⟩
        · rw [upd_ne (fun q => by rw [q, hD] at e; cases e)]
          exact s3 _ _ (s2 c o e)
        · rw [upd_same, List.replicate_succ', List.map_append]
          rfl
      · rintro H2 ⟨s2, h2⟩
        refine ⟨D, List.replicate ds.length true, rfl, SqL.of h2, ?_⟩
        have : (List.replicate ds.length true).all id = true := by simp
        rw [this]
        exact k _ s2
theorem ok__law_alike (T : Txt K mg) : ∀ n, FnOk P w K mg base CX0 n T.a__law_alike T.fd__law_alike P__law_alike (sp__law_alike T n)
  | 0 => ⟨fun _ _ _ _ h => h.elim, fun _ _ _ _ _ _ _ _ _ _ _ _ _ h => h.elim⟩
  | n + 1 => ok__law_alike_step T n (ok__law_alike T n)

end
end TL

namespace TL
open PySem PySem.Spec PyProof.Rows L2
section
variable {P : Program} {w : World} {K : PySem.W.Frag} {mg : Str → Option Value} {base : Heap}
def ts__law_word (T : Txt K mg) (a : Addr) (cls : Value) (d : Option Addr) : TS :=
  (tSeq (tAsg (tLst (tCons (tCB (rIsX K cls d a) (tCons (tVar 1) (tCons (tC (.ref T.C_BadManners)) tNil))) (tCons (tCB (rIsX K cls d a) (tCons (tVar 1) (tCons (tC (.ref T.C_BadCount)) tNil))) (tCons (tCB (rIsX K cls d a) (tCons (tVar 1) (tCons (tC (.ref T.C_BadPart)) tNil))) (tCons (tCB (rIsX K cls d a) (tCons (tVar 1) (tCons (tC (.ref T.C_BadItem)) tNil))) tNil))))) (gName 2))
    (tSeq (tAsg (tOp rCat (tVar 2) (tLst (tCons (tCB (rIsX K cls d a) (tCons (tVar 1) (tCons (tC (.ref T.C_Full)) tNil))) (tCons (tCB (rIsX K cls d a) (tCons (tVar 1) (tCons (tC (.ref T.C_BadLog)) tNil))) (tCons (tCB (rIsX K cls d a) (tCons (tVar 1) (tCons (tC (.ref T.C_BadText)) tNil))) (tCons (tCB (rIsX K cls d a) (tCons (tVar 1) (tCons (tC (.ref T.C_BadEnd)) tNil))) tNil)))))) (gName 2))
    (tSeq (tDrop (tBM K "list" rAppend (tVar 2) (tCons (tCB (rIsX K cls d a) (tCons (tVar 1) (tCons (tC (.ref T.C_BadStep)) tNil))) tNil)))
    (tSeq (tIfS (tOr (tTest (tOp rNe (tBM K "list" (rCountF K) (tVar 2) (tCons (tC (.bl true)) tNil)) (tC (.int 1)))) (tNot (tB (tCB (rIsX K cls d a) (tCons (tVar 1) (tCons (tC (.ty "ValueError")) tNil)))))) (tRet (tTup (tCons (tC (.str "other")) (tCons (tC (.int 0)) tNil)))) tNext)
    (tSeq (tAsg (tOp (rIxL K) (tLst (tCons (tC (.str "manners")) (tCons (tC (.str "count")) (tCons (tC (.str "part")) (tCons (tC (.str "item")) (tCons (tC (.str "full")) (tCons (tC (.str "log")) (tCons (tC (.str "text")) (tCons (tC (.str "end")) (tCons (tC (.str "step")) tNil)))))))))) (tBM K "list" (rIndex K) (tVar 2) (tCons (tC (.bl true)) tNil))) (gName 3))
    (tRet (tTup (tCons (tVar 3) (tCons (tIf (tTest (tOp (rIn K false) (tVar 3) (tTup (tCons (tC (.str "log")) (tCons (tC (.str "text")) tNil))))) (tXg K a cls d "row" (tVar 1)) (tIf (tTest (tOp rEq (tVar 3) (tC (.str "step")))) (tXg K a cls d "at" (tVar 1)) (tC (.int 0)))) tNil)))))))))
/-- what is told of a work handed to it -/
abbrev tW (T : Txt K mg) := TTw K [T.C_BadManners, T.C_BadCount, T.C_BadPart, T.C_BadItem, T.C_Full, T.C_BadLog, T.C_BadText, T.C_BadEnd, T.C_BadStep] T.C_LineError
/-- the kinds' list behind i of them -/
theorem gives__law_word (T : Txt K mg) {X : Cx} (h1 : P = X.prog) (h2 : w = X.w) (h3 : K = X.K) (h4 : mg = X.mg) (h5 : base = X.base) (q : Str) {g : Addr} {cdg : Value} :
    LamX.GivesTo X N__law_word "_law_word" (defScope s__law_word) g cdg (defBody s__law_word) "_law_work" q (TTw K [T.C_BadManners, T.C_BadCount, T.C_BadPart, T.C_BadItem, T.C_Full, T.C_BadLog, T.C_BadText, T.C_BadEnd, T.C_BadStep] T.C_LineError) := by
  obtain ⟨P', w', K', mg', base', A1, N1, s1, H1, env1, outer1, st1, ex1, fn1, calm1, pn1, xe1⟩ := X
  dsimp only at h1 h2 h3 h4 h5
  subst h1 h2 h3 h4 h5
  intro f c' s H Q tl act hc h
  refine ⟨_, pss_cons (ps_try_as (i := 1) (x := "LineError") (n := "e") (X := (cxOf CX0 P w K mg base N__law_word "_law_word" (defScope s__law_word) g cdg A1 st1 s H E0).nox) (c := .ref T.C_LineError) (ts := ts__law_word T)
      (tb := fun W D σ H => ∃ Ech : XK, (∀ cls d σ' H', Ech cls d H' → σ'.length = 4 → W cls d σ' H') ∧ σ[0]? = some (some (.ref f)) ∧ H c' = some (LamX.CodeO c' q) ∧ tl Ech H (fun _ H' => D.nx σ H'))
      rfl rfl sc__law_word.nd rfl rfl ⟨rfl, by decide, .inl T.c_LineError⟩ takes0 (fun W pn xe tk _ => ⟨fun pins s' σ H D I hh => ?bo⟩) (fun a oe cls d pn hz hf => ?su)) (pss_one (ps_ret pe_non)), ?right⟩
  case su =>
    have ci := call_isX (X := (cxOf CX0 P w K mg base N__law_word "_law_word" (defScope s__law_word) g cdg A1 st1 s H E0).nox) (a := a) (pn := pn) hz hf
    exact (pss_cons (ps_set (i := 2) sc__law_word.nd rfl (by first | exact Or.inl rfl | exact Or.inr rfl) (pe_lst (pa_cons (pe_callB ci (by rfl) T.n_isinstance (by decide +kernel) (pa_cons (pv 1) (pa_cons (pe_glob (v := .ref T.C_BadManners) rfl T.c_BadManners rfl) pa_nil))) (pa_cons (pe_callB ci (by rfl) T.n_isinstance (by decide +kernel) (pa_cons (pv 1) (pa_cons (pe_glob (v := .ref T.C_BadCount) rfl T.c_BadCount rfl) pa_nil))) (pa_cons (pe_callB ci (by rfl) T.n_isinstance (by decide +kernel) (pa_cons (pv 1) (pa_cons (pe_glob (v := .ref T.C_BadPart) rfl T.c_BadPart rfl) pa_nil))) (pa_cons (pe_callB ci (by rfl) T.n_isinstance (by decide +kernel) (pa_cons (pv 1) (pa_cons (pe_glob (v := .ref T.C_BadItem) rfl T.c_BadItem rfl) pa_nil))) pa_nil))))))
        (pss_cons (ps_set (i := 2) sc__law_word.nd rfl (by first | exact Or.inl rfl | exact Or.inr rfl) (pe_op op_cat (pv 2) (pe_lst (pa_cons (pe_callB ci (by rfl) T.n_isinstance (by decide +kernel) (pa_cons (pv 1) (pa_cons (pe_glob (v := .ref T.C_Full) rfl T.c_Full rfl) pa_nil))) (pa_cons (pe_callB ci (by rfl) T.n_isinstance (by decide +kernel) (pa_cons (pv 1) (pa_cons (pe_glob (v := .ref T.C_BadLog) rfl T.c_BadLog rfl) pa_nil))) (pa_cons (pe_callB ci (by rfl) T.n_isinstance (by decide +kernel) (pa_cons (pv 1) (pa_cons (pe_glob (v := .ref T.C_BadText) rfl T.c_BadText rfl) pa_nil))) (pa_cons (pe_callB ci (by rfl) T.n_isinstance (by decide +kernel) (pa_cons (pv 1) (pa_cons (pe_glob (v := .ref T.C_BadEnd) rfl T.c_BadEnd rfl) pa_nil))) pa_nil)))))))
        (pss_cons (ps_expr (pe_bm PySem.F.plainAttrs_list PySem.F.slot_list_append PySem.F.type_list_append mt_append (pv 2) (pa_cons (pe_callB ci (by rfl) T.n_isinstance (by decide +kernel) (pa_cons (pv 1) (pa_cons (pe_glob (v := .ref T.C_BadStep) rfl T.c_BadStep rfl) pa_nil))) pa_nil)))
        (pss_cons (ps_if (PW.pt (pw_or (pt_cmpR op_ne (pe_bm PySem.F.plainAttrs_list PySem.F.slot_list_count PySem.F.type_list_count mt_countF (pv 2) (pa_cons pe_bl pa_nil)) pe_int (nomark _)) (pw_or1 (pt_not (pt_val (pe_callB ci (by rfl) T.n_isinstance (by decide +kernel) (pa_cons (pv 1) (pa_cons (pe_bltn (v := .ty "ValueError") (u := .type "ValueError") (by rfl) T.n_ValueError (by decide +kernel) rfl) pa_nil))))))))
          (pss_one (ps_ret (pe_tup (pa_cons pe_str (pa_cons pe_int pa_nil)))))
          pss_nil)
        (pss_cons (ps_set (i := 3) sc__law_word.nd rfl (by first | exact Or.inl rfl | exact Or.inr rfl) (pe_ix ix_list (pe_lst (pa_cons pe_str (pa_cons pe_str (pa_cons pe_str (pa_cons pe_str (pa_cons pe_str (pa_cons pe_str (pa_cons pe_str (pa_cons pe_str (pa_cons pe_str pa_nil)))))))))) (pe_bm PySem.F.plainAttrs_list PySem.F.slot_list_index PySem.F.type_list_index mt_index (pv 2) (pa_cons pe_bl pa_nil)) (fun _ _ => rfl)))
        (pss_one (ps_ret (pe_tup (pa_cons (pv 3) (pa_cons (pe_ifExp (pt_cmpR op_in_seq (pv 3) (pe_tup (pa_cons pe_str (pa_cons pe_str pa_nil))) (by rfl)) (pe_xg hz hf (pv 1)) (pe_ifExp (pt_cmpR op_eq (pv 3) pe_str (nomark _)) (pe_xg hz hf (pv 1)) pe_int)) pa_nil))))))))))
  case bo =>
    obtain ⟨Ech, hW, h1, h2, h3⟩ := hh
    have tk2 : Takes ((cxOf CX0 P w K mg base N__law_word "_law_word" (defScope s__law_word) g cdg A1 st1 s _ E0).nox.tr pn xe) (fun cls d σ' H' => σ'.length = 4 → W cls d σ' H') := fun u s2 ⟨a, B, sI, pins, σ, H, cls, d, e, I, nb, up, sky, na, os, ag, w⟩ => tk u s2 ⟨a, B, sI, pins, σ, H, cls, d, e, I, nb, up, sky, na, os, ag, w I.len⟩
    exact (pss_one (ps_expr (act _ pn xe Ech _ _ tk2 fun cls d σ' H' z => hW cls d σ' H' z))).run pins s' σ H D I ⟨h1, h2, h3⟩
  case right =>
    obtain ⟨Ew, hn, hE⟩ := h
    refine ⟨Ew, fun cls d σ' H' z hl => ?_, rfl, hc, hn⟩
    obtain ⟨j, num, ⟨D, rfl, hj, kd, hnum⟩, k⟩ := hE cls d H' z
    refine ⟨true, kd.xm, fun _ a na => ?_, fun z => by cases z⟩
    obtain ⟨x0, x1, x2, x3, rfl⟩ : ∃ x0 x1 x2 x3, σ' = [x0, x1, x2, x3] := by
      match σ', hl with
      | [x0, x1, x2, x3], _ => exact ⟨x0, x1, x2, x3, rfl⟩
    have dc : ∀ {H2}, Same H' H2 → (d = none ∨ ∃ dd fs, d = some dd ∧ H2 dd = some (.xd fs)) := fun {H2} s => by
      rcases hnum with ⟨_, _, _, _, e⟩ | ⟨dd, fs, e, h2, _⟩
      · exact .inl e
      · exact .inr ⟨dd, fs, e, s _ _ h2⟩
    have s0 := Same.refl H'
    refine ⟨_, rfl, D, _, _, _, rfl, rfl, (fun u r => r), kd.ec, kd.ks 0 _ rfl, dc s0, _, rfl, D, _, _, _, rfl, rfl, (fun u r => r), kd.ec, kd.ks 1 _ rfl, dc s0, _, rfl, D, _, _, _, rfl, rfl, (fun u r => r), kd.ec, kd.ks 2 _ rfl, dc s0, _, rfl, D, _, _, _, rfl, rfl, (fun u r => r), kd.ec, kd.ks 3 _ rfl, dc s0, (by show 4 ≤ sizeLine; decide), fun l1 h1 => ?_⟩
    have s1 := Same.upd_new (o := .lst [.bl (decide (0 = j)), .bl (decide (1 = j)), .bl (decide (2 = j)), .bl (decide (3 = j))]) h1
    have q1 := upd_same (H := H') (a := l1) (o := .lst [.bl (decide (0 = j)), .bl (decide (1 = j)), .bl (decide (2 = j)), .bl (decide (3 = j))])
    generalize upd H' l1 (.lst [.bl (decide (0 = j)), .bl (decide (1 = j)), .bl (decide (2 = j)), .bl (decide (3 = j))]) = H1 at s1 q1 ⊢
    refine ⟨_, rfl, _, rfl, D, _, _, _, rfl, rfl, (fun u r => r), kd.ec, kd.ks 4 _ rfl, dc s1, _, rfl, D, _, _, _, rfl, rfl, (fun u r => r), kd.ec, kd.ks 5 _ rfl, dc s1, _, rfl, D, _, _, _, rfl, rfl, (fun u r => r), kd.ec, kd.ks 6 _ rfl, dc s1, _, rfl, D, _, _, _, rfl, rfl, (fun u r => r), kd.ec, kd.ks 7 _ rfl, dc s1, (by show 4 ≤ sizeLine; decide), fun l2 h2 => ?_⟩
    have s2 := Same.upd_new (o := .lst [.bl (decide (4 = j)), .bl (decide (5 = j)), .bl (decide (6 = j)), .bl (decide (7 = j))]) h2
    have q2 := upd_same (H := H1) (a := l2) (o := .lst [.bl (decide (4 = j)), .bl (decide (5 = j)), .bl (decide (6 = j)), .bl (decide (7 = j))])
    generalize upd H1 l2 (.lst [.bl (decide (4 = j)), .bl (decide (5 = j)), .bl (decide (6 = j)), .bl (decide (7 = j))]) = H2 at s2 q2 ⊢
    refine ⟨l1, l2, _, _, rfl, rfl, s2 _ _ q1, q2, (by show 4 + 4 ≤ sizeLine; decide), fun l3 h3 => ?_⟩
    have s3 := Same.upd_new (o := .lst ([.bl (decide (0 = j)), .bl (decide (1 = j)), .bl (decide (2 = j)), .bl (decide (3 = j))] ++ [.bl (decide (4 = j)), .bl (decide (5 = j)), .bl (decide (6 = j)), .bl (decide (7 = j))])) h3
    have q3 := upd_same (H := H2) (a := l3) (o := .lst ([.bl (decide (0 = j)), .bl (decide (1 = j)), .bl (decide (2 = j)), .bl (decide (3 = j))] ++ [.bl (decide (4 = j)), .bl (decide (5 = j)), .bl (decide (6 = j)), .bl (decide (7 = j))]))
    have n3 : ∀ b o, H' b = some o → b ≠ l3 := fun b o e => ne_of_none (s2 _ _ (s1 _ _ e)) h3
    generalize upd H2 l3 (.lst ([.bl (decide (0 = j)), .bl (decide (1 = j)), .bl (decide (2 = j)), .bl (decide (3 = j))] ++ [.bl (decide (4 = j)), .bl (decide (5 = j)), .bl (decide (6 = j)), .bl (decide (7 = j))])) = H3 at s3 q3 ⊢
    have s03 := (s1.trans s2).trans s3
    refine ⟨_, rfl, .inl ⟨rfl, _, SqL.of q3⟩, _, rfl, D, _, _, _, rfl, rfl, (fun u r => r), kd.ec, kd.ks 8 _ rfl, dc s03, l3, _, _, rfl, rfl, q3, (by show 8 < sizeLine; decide), ?_⟩
    have s4 : Same H' (upd H3 l3 (.lst ([.bl (decide (0 = j)), .bl (decide (1 = j)), .bl (decide (2 = j)), .bl (decide (3 = j))] ++ [.bl (decide (4 = j)), .bl (decide (5 = j)), .bl (decide (6 = j)), .bl (decide (7 = j))] ++ [.bl (decide (8 = j))]))) := fun b o e => by
      rw [upd_ne (n3 b o e)]
      exact s03 _ _ e
    have q4 := upd_same (H := H3) (a := l3) (o := .lst ((List.range 9).map fun i => V.bl (decide (i = j))))
    have e9 : ([.bl (decide (0 = j)), .bl (decide (1 = j)), .bl (decide (2 = j)), .bl (decide (3 = j))] ++ [.bl (decide (4 = j)), .bl (decide (5 = j)), .bl (decide (6 = j)), .bl (decide (7 = j))] ++ [.bl (decide (8 = j))] : List V) = (List.range 9).map fun i => V.bl (decide (i = j)) := rfl
    rw [e9] at s4 ⊢
    generalize upd H3 l3 (.lst ((List.range 9).map fun i => V.bl (decide (i = j)))) = H4 at s4 q4 ⊢
    have hfl : ((List.range 9).map fun i => V.bl (decide (i = j))).all flatV = true := by
      rw [List.all_map]
      exact List.all_eq_true.mpr fun x _ => rfl
    have hcn : ((List.range 9).map fun i => V.bl (decide (i = j))).countP (fun z => eqV z (.bl true)) = 1 := (by decide +kernel : ∀ j < 9, ((List.range 9).map fun i => V.bl (decide (i = j))).countP (fun z => eqV z (.bl true)) = 1) j hj
    refine ⟨_, rfl, .inl ⟨rfl, _, SqL.of q4⟩, l3, _, .bl true, rfl, rfl, SqL.of q4, rfl, hfl, ?_⟩
    rw [hcn]
    refine ⟨rfl, false, rfl, iteF ?_⟩
    refine ⟨_, rfl, D, _, _, _, rfl, rfl, (fun u r => r), kd.ec, kd.iv, dc s4, true, rfl, iteF ?_⟩
    refine ⟨(by show 9 ≤ sizeLine; decide), fun l5 h5 => ?_⟩
    have s5 := Same.upd_new (o := .lst [.str "manners", .str "count", .str "part", .str "item", .str "full", .str "log", .str "text", .str "end", .str "step"]) h5
    have q5 := upd_same (H := H4) (a := l5) (o := .lst [.str "manners", .str "count", .str "part", .str "item", .str "full", .str "log", .str "text", .str "end", .str "step"])
    generalize upd H4 l5 (.lst [.str "manners", .str "count", .str "part", .str "item", .str "full", .str "log", .str "text", .str "end", .str "step"]) = H5 at s5 q5 ⊢
    have s05 := s4.trans s5
    have hix : ∀ m : Nat, m < 9 → ((List.range 9).map fun i => V.bl (decide (i = j)))[m]? = some (V.bl (decide (m = j))) := fun m hm => by
      rw [List.getElem?_map, List.getElem?_eq_getElem (by simpa using hm), List.getElem_range]
      rfl
    refine ⟨_, rfl, .inl ⟨rfl, _, SqL.of (s5 _ _ q4)⟩, l3, _, .bl true, j, .bl true, rfl, rfl, SqL.of (s5 _ _ q4), rfl, hfl, (hix j hj).trans (by rw [decide_eq_true rfl]), rfl, fun m z' hm hz => ?_, ?_⟩
    · rw [hix m (by omega), decide_eq_false (by omega)] at hz
      rw [← Option.some.inj hz]
      rfl
    have hw : atI [V.str "manners", .str "count", .str "part", .str "item", .str "full", .str "log", .str "text", .str "end", .str "step"] (j : Int) = some (.str (wordN j)) := (by decide +kernel : ∀ j : Nat, j < 9 → atI [V.str "manners", .str "count", .str "part", .str "item", .str "full", .str "log", .str "text", .str "end", .str "step"] (j : Int) = some (.str (wordN j))) j hj
    refine ⟨l5, _, j, _, rfl, rfl, SqL.of q5, hw, ?_⟩
    refine ⟨_, rfl, _, rfl, (by show 2 ≤ sizeLine; decide), fun u hu => ?_⟩
    have s6 := Same.upd_new (o := .tup [.str "log", .str "text"]) hu
    have q6 := upd_same (H := H5) (a := u) (o := .tup [.str "log", .str "text"])
    generalize upd H5 u (.tup [.str "log", .str "text"]) = H6 at s6 q6 ⊢
    have s06 := s05.trans s6
    have hin : inV (.str (wordN j)) [.str "log", .str "text"] = decide (j = 5 ∨ j = 6) := (by decide +kernel : ∀ j < 9, inV (.str (wordN j)) [.str "log", .str "text"] = decide (j = 5 ∨ j = 6)) j hj
    have hst : decide (V.str (wordN j) = V.str "step") = decide (j = 8) := (by decide +kernel : ∀ j < 9, decide (V.str (wordN j) = V.str "step") = decide (j = 8)) j hj
    have e1 : (if false = true then !inV (.str (wordN j)) [.str "log", .str "text"] else inV (.str (wordN j)) [.str "log", .str "text"]) = decide (j = 5 ∨ j = 6) := (if_neg Bool.false_ne_true).trans hin
    have fin : ∀ (H7 : Hp), Same H6 H7 → (2 ≤ sizeLine ∧ ∀ t, H7 t = none → Q (.ref t) (upd H7 t (.tup [.str (wordN j), .int num]))) := fun H7 s7 =>
      ⟨by decide, fun t ht => k t _ ((s06.trans s7).trans (Same.upd_new ht)) upd_same⟩
    rcases hnum with ⟨n5, n6, n8, rfl, _⟩ | ⟨dd, fs, rfl, hx, xf, ⟨hj56, hno, hl⟩ | ⟨hj8, hno, hl⟩⟩
    · refine ⟨u, _, rfl, .inr (SqT.of q6), rfl, rfl, false, congrArg V.bl (e1.trans (decide_eq_false (by omega))), iteF ?_⟩
      exact ⟨_, rfl, rfl, false, congrArg V.bl (hst.trans (decide_eq_false (by omega))), iteF (fin _ (.refl _))⟩
    · refine ⟨u, _, rfl, .inr (SqT.of q6), rfl, rfl, true, congrArg V.bl (e1.trans (decide_eq_true hj56)), iteT ?_⟩
      exact ⟨_, rfl, rfl, D, dd, fs, .int num, rfl, xf, hno, rfl, s06 _ _ hx, hl, fin _ (.refl _)⟩
    · refine ⟨u, _, rfl, .inr (SqT.of q6), rfl, rfl, false, congrArg V.bl (e1.trans (decide_eq_false (by omega))), iteF ?_⟩
      refine ⟨_, rfl, rfl, true, congrArg V.bl (hst.trans (decide_eq_true hj8)), iteT ?_⟩
      exact ⟨_, rfl, rfl, D, dd, fs, .int num, rfl, xf, hno, rfl, s06 _ _ hx, hl, fin _ (.refl _)⟩

end
end TL

namespace TL
open PySem PySem.Spec PyProof.Rows L2
section
variable {P : Program} {w : World} {K : PySem.W.Frag} {mg : Str → Option Value} {base : Heap}
def sp__law_can (T : Txt K mg) : Sp := fun vs H Q _ => ∃ d : Addr, vs = [.ref d] ∧ DiceAt H d ∧
  ∀ (t : Addr) (ms : List Int) (H' : Hp), Can ms → H' t = some (.tup (ms.map V.int)) → DiceAt H' d → Frm [d] H H' → Q (.ref t) H'
theorem ok__law_can (T : Txt K mg) : FnOk P w K mg base CX0 2 T.a__law_can T.fd__law_can P__law_can (sp__law_can T) := by
  have G__law_off := ok__law_off (P := P) (w := w) (base := base) T
  refine T.F__law_can.ok sc__law_can (fun vs H Q E h => ?_) (fun cdv A outer s H vs Q E hr h => ?_)
  · obtain ⟨d, rfl, _⟩ := h
    rfl
  · obtain ⟨d, rfl, hD, k⟩ := h
    refine ⟨_, (pss_cons (ps_set (i := 1) sc__law_can.nd rfl (by first | exact Or.inl rfl | exact Or.inr rfl) (pe_ix ix_list (pe_lst (pa_cons pe_int (pa_cons pe_int (pa_cons pe_int (pa_cons pe_int pa_nil))))) (pe_call G__law_off (hr.mono (by decide)) rfl T.g__law_off T.F__law_off.kp T.b__law_off .nil pass0 (pa_cons (pv 0) (pa_cons pe_int pa_nil))) (fun _ _ => rfl)))
    (pss_one (ps_ret (pe_op op_catA (pe_tup (pa_cons pe_int pa_nil)) (pe_callTy call_tuple_of (by rfl) T.n_tuple (by decide +kernel) (pa_cons (pe_lc (own := [("_law_manner", 2)]) (g := (gName 2)) (tt := (tTest (tOp rEq (tCall _ [] E0 (tCons (tVar 0) (tCons (tVar 1) tNil))) (tC (.int 0))))) (te := (tVar 2)) rfl sc__law_can.nd (pi_range2 rfl T.n_range (pa_cons pe_int (pa_cons pe_int pa_nil))) (blkOk_by (own := [("_law_manner", 2)]) (N := N__law_can) (sc := defScope s__law_can) (by decide +kernel)) (fun _ _ _ _ _ => (pg_name (i := 2) sc__law_can.nd rfl (by first | exact Or.inl rfl | exact Or.inr rfl))) (fun _ _ _ _ _ => (pts_one (pt_cmpR op_eq (pe_call G__law_off (hr.mono (by decide)) rfl T.g__law_off T.F__law_off.kp T.b__law_off .nil pass0 (pa_cons (pv 0) (pa_cons (pv 1) pa_nil))) pe_int (nomark _)))) (fun _ _ _ _ _ => (pv 2))) pa_nil)))))), ?_⟩
    have hD0 : ∃ o, H d = some o := let ⟨ns, e, _⟩ := hD; ⟨_, e⟩
    obtain ⟨od, hod⟩ := hD0
    refine ⟨(by show 4 ≤ sizeLine; decide), fun l hl => ?_⟩
    have nld : d ≠ l := ne_of_none hod hl
    have f1 : Frm [d] H (upd H l (.lst [.int 1, .int 2, .int 2, .int 4])) := Frm.new hl
    refine ⟨_, rfl, d, 4, rfl, hD.frm (Frm.new (S := []) hl) (by simp), (by decide), (by decide), fun r H1 r0 r4 hD1 g1 => ?_⟩
    have hl1 : H1 l = some (.lst [.int 1, .int 2, .int 2, .int 4]) := g1 _ _ upd_same (by simp [Ne.symm nld])
    obtain ⟨m, hm, hm0, hm4⟩ : ∃ m : Int, atI [V.int 1, V.int 2, V.int 2, V.int 4] r = some (.int m) ∧ 0 < m ∧ m ≤ 4 := by
      have : r = 0 ∨ r = 1 ∨ r = 2 ∨ r = 3 := by omega
      rcases this with rfl | rfl | rfl | rfl
      · exact ⟨1, rfl, by decide, by decide⟩
      · exact ⟨2, rfl, by decide, by decide⟩
      · exact ⟨2, rfl, by decide, by decide⟩
      · exact ⟨4, rfl, by decide, by decide⟩
    refine ⟨l, _, r, _, rfl, rfl, SqL.of hl1, hm, ?_⟩
    have f2 := f1.trans g1
    -- (0,) + tuple([..])
    refine ⟨(by show 1 ≤ sizeLine; decide), fun p hp => ?_⟩
    have f3 : Frm [d] H1 (upd H1 p (.tup [.int 0])) := Frm.new hp
    obtain ⟨od1, hod1⟩ : ∃ o, H1 d = some o := let ⟨ns, e, _⟩ := hD1; ⟨_, e⟩
    have npd : d ≠ p := ne_of_none hod1 hp
    have hD2 : DiceAt (upd H1 p (.tup [.int 0])) d := hD1.frm (Frm.new (S := []) hp) (by simp)
    refine ⟨1, 10, rfl, ⟨by decide, by decide, by decide, by decide⟩, fun D hDn => ?_⟩
    have nDd : D ≠ d := fun e => by
      obtain ⟨ns, z, _⟩ := hD2
      rw [← e, hDn] at z
      cases z
    have nDp : D ≠ p := fun e => by rw [e, upd_same] at hDn; cases hDn
    refine lc_range (lo := 1) (n := 9) (fun i H2 => DiceAt H2 d ∧ Frm [d] H H2 ∧ H2 p = some (.tup [.int 0]) ∧ ∃ ms : List Int, H2 D = some (.lst (ms.map V.int)) ∧ ms.Pairwise (· < ·) ∧ (∀ x ∈ ms, 1 ≤ x ∧ x < 1 + i) ∧ ms.length ≤ i)
      ⟨hD2.frm (Frm.new (S := []) hDn) (by simp), (f2.trans f3).trans (Frm.new hDn), by rw [upd_ne (Ne.symm nDp), upd_same], [], upd_same, List.Pairwise.nil, by simp, Nat.le_refl _⟩ ?_ ?_
    · rintro i H2 hi ⟨d2, f, hp2, ms, hms, hpw, hb, hln⟩
      have hS : (wipe [some (V.ref d), some (V.int m), none] [2]).set 2 (some (.int (1 + i))) = [some (V.ref d), some (V.int m), some (.int (1 + i))] := rfl
      refine ⟨rfl, _, rfl, _, rfl, d, m, rfl, d2, hm0, by omega, fun r H3 r0 rm d3 g3 => ?_⟩
      have e3 : H3 D = some (.lst (ms.map V.int)) := g3 _ _ hms (by simp [nDd])
      have p3 : H3 p = some (.tup [.int 0]) := g3 _ _ hp2 (by simp [Ne.symm npd])
      refine ⟨rfl, _, rfl, ?_⟩
      refine iteD (fun _ => ?_) (fun _ => ?_)
      · refine ⟨_, rfl, _, e3, by rw [List.length_map]; exact small1000 (by omega), ?_⟩
        refine ⟨d3.upd_ne (Ne.symm nDd), (f.trans g3).own ((f2.trans f3).free hDn) (Frm.updL e3), by rw [upd_ne (Ne.symm nDp)]; exact p3, ms ++ [1 + (i : Int)], by rw [upd_same, List.map_append]; rfl, ?_, ?_, by simp; omega⟩
        · rw [List.pairwise_append]
          refine ⟨hpw, by simp, fun x hx y hy => ?_⟩
          simp at hy
          have := hb x hx
          omega
        · intro x hx
          rcases List.mem_append.mp hx with h1 | h1
          · have := hb x h1
            omega
          · simp at h1
            omega
      · exact ⟨d3, f.trans g3, p3, ms, e3, hpw, fun x hx => by have := hb x hx; omega, by omega⟩
    · rintro H2 ⟨d2, f, hp2, ms, hms, hpw, hb, hln⟩
      have hcan : Can (0 :: ms) := by
        refine ⟨fun i hi => ?_, ?_, by simp, by simp; omega⟩
        · rcases List.mem_cons.mp hi with e | e
          · omega
          · have := hb i e
            omega
        · rw [List.pairwise_cons]
          exact ⟨fun x hx => by have := hb x hx; omega, hpw⟩
      refine ⟨D, _, rfl, .inl ⟨SqL.of hms, fun q hq => ?_⟩⟩
      have p3 : (upd H2 q (.tup (ms.map V.int))) p = some (.tup [.int 0]) := by rw [upd_ne (ne_of_none hp2 hq)]; exact hp2
      have fq : Frm [d] H2 (upd H2 q (.tup (ms.map V.int))) := Frm.new hq
      have dq : DiceAt (upd H2 q (.tup (ms.map V.int))) d := d2.frm (Frm.new (S := []) hq) (by simp)
      refine ⟨p, q, _, _, rfl, rfl, SqT.of p3, SqT.of upd_same, ?_, (fun z => by cases z), fun _ z => ?_, fun _ _ u hu => ?_⟩
      · rw [List.length_map]
        exact Nat.le_of_lt (small1000 (by simp; omega))
      · have e0 : ms = [] := by simpa using z
        subst e0
        exact k p [0] _ hcan p3 dq (f.trans fq)
      · exact k u (0 :: ms) _ hcan (by rw [upd_same]; rfl) (dq.frm (Frm.new (S := []) hu) (by simp)) ((f.trans fq).trans (Frm.new hu))

end
end TL

namespace TL
open PySem PySem.Spec PyProof.Rows L2
section
variable {P : Program} {w : World} {K : PySem.W.Frag} {mg : Str → Option Value} {base : Heap}
def sp__law_row (T : Txt K mg) : Sp := fun vs H Q _ => ∃ d : Addr, vs = [.ref d] ∧ DiceAt H d ∧
  ∀ (t : Addr) (r : Row) (H' : Hp), okRow r → H t = none → H' t = some (.tup (rowV r)) → DiceAt H' d → Frm [d] H H' → Q (.ref t) H'
theorem ok__law_row (T : Txt K mg) : FnOk P w K mg base CX0 2 T.a__law_row T.fd__law_row P__law_row (sp__law_row T) := by
  have G__law_off := ok__law_off (P := P) (w := w) (base := base) T
  refine T.F__law_row.ok sc__law_row (fun vs H Q E h => ?_) (fun cdv A outer s H vs Q E hr h => ?_)
  · obtain ⟨d, rfl, _⟩ := h
    rfl
  · obtain ⟨d, rfl, hD, k⟩ := h
    refine ⟨_, (pss_cons (ps_set (i := 1) sc__law_row.nd rfl (by first | exact Or.inl rfl | exact Or.inr rfl) (pe_call G__law_off (hr.mono (by decide)) rfl T.g__law_off T.F__law_off.kp T.b__law_off .nil pass0 (pa_cons (pv 0) (pa_cons (pe_ix ix_list (pe_lst (pa_cons pe_int (pa_cons pe_int pa_nil))) (pe_call G__law_off (hr.mono (by decide)) rfl T.g__law_off T.F__law_off.kp T.b__law_off .nil pass0 (pa_cons (pv 0) (pa_cons pe_int pa_nil))) (fun _ _ => rfl)) pa_nil))))
    (pss_cons (ps_set (i := 2) sc__law_row.nd rfl (by first | exact Or.inl rfl | exact Or.inr rfl) (pe_ifExp (pt_cmpR op_gt (pe_call G__law_off (hr.mono (by decide)) rfl T.g__law_off T.F__law_off.kp T.b__law_off .nil pass0 (pa_cons (pv 0) (pa_cons pe_int pa_nil))) pe_int (nomark _)) (pv 1) (pe_call G__law_off (hr.mono (by decide)) rfl T.g__law_off T.F__law_off.kp T.b__law_off .nil pass0 (pa_cons (pv 0) (pa_cons pe_int pa_nil)))))
    (pss_one (ps_ret (pe_tup (pa_cons (pv 1) (pa_cons (pe_cmpR op_gt (pe_call G__law_off (hr.mono (by decide)) rfl T.g__law_off T.F__law_off.kp T.b__law_off .nil pass0 (pa_cons (pv 0) (pa_cons pe_int pa_nil))) pe_int (nomark _)) (pa_cons (pv 2) (pa_cons (pe_cmpR op_gt (pe_call G__law_off (hr.mono (by decide)) rfl T.g__law_off T.F__law_off.kp T.b__law_off .nil pass0 (pa_cons (pv 0) (pa_cons pe_int pa_nil))) pe_int (nomark _)) pa_nil))))))))), ?_⟩
    -- mine
    refine ⟨_, rfl, (by show 2 ≤ sizeLine; decide), fun l hl => ?_⟩
    have f1 : Frm [d] H (upd H l (.lst [.int 2, .int 10])) := Frm.new hl
    have nld := hD.ne_new hl
    refine ⟨_, rfl, d, 2, rfl, hD.new hl, by decide, by decide, fun r H1 r0 r2 D1 g1 => ?_⟩
    have hl1 : H1 l = some (.lst [.int 2, .int 10]) := g1 _ _ upd_same (by simp [nld])
    obtain ⟨m, hm, hm0, hm1⟩ : ∃ m : Int, atI [V.int 2, V.int 10] r = some (.int m) ∧ 0 < m ∧ m ≤ 10 := by
      have : r = 0 ∨ r = 1 := by omega
      rcases this with rfl | rfl
      · exact ⟨2, rfl, by decide, by decide⟩
      · exact ⟨10, rfl, by decide, by decide⟩
    refine ⟨l, _, r, _, rfl, rfl, SqL.of hl1, hm, ?_⟩
    refine ⟨d, m, rfl, D1, hm0, by omega, fun mine H2 a0 a1 D2 g2 => ?_⟩
    have f2 := (f1.trans g1).trans g2
    -- yours
    refine ⟨_, rfl, d, 4, rfl, D2, by decide, by decide, fun z H3 z0 z4 D3 g3 => ?_⟩
    have f3 := f2.trans g3
    refine ⟨_, _, rfl, rfl, _, rfl, ?_⟩
    have fin : ∀ (yours : Int) (H4 : Hp), 0 ≤ yours → yours ≤ 9 → DiceAt H4 d → Frm [d] H H4 →
        tRet (tTup (tCons (tVar 1) (tCons (tOp (rI0 fun i j => .bl (decide (j < i))) (tCall (sp__law_off T) [] E0 (tCons (tVar 0) (tCons (tC (.int 3)) tNil))) (tC (.int 0))) (tCons (tVar 2) (tCons (tOp (rI0 fun i j => .bl (decide (j < i))) (tCall (sp__law_off T) [] E0 (tCons (tVar 0) (tCons (tC (.int 3)) tNil))) (tC (.int 0))) tNil)))))
          { nx := fun _ H' => Q .non H', rt := Q } [some (.ref d), some (.int mine), some (.int yours)] H4 := by
      intro yours H4 y0 y9 D4 f4
      refine ⟨_, rfl, _, rfl, d, 3, rfl, D4, by decide, by decide, fun u H5 _ _ D5 g5 => ?_⟩
      refine ⟨_, _, rfl, rfl, _, rfl, _, rfl, d, 3, rfl, D5, by decide, by decide, fun w' H6 _ _ D6 g6 => ?_⟩
      refine ⟨_, _, rfl, rfl, (by show 4 ≤ sizeLine; decide), fun t ht => ?_⟩
      have f6 := (f4.trans g5).trans g6
      refine k t (mine, decide (0 < u), yours, decide (0 < w')) _ ⟨⟨a0, by omega⟩, y0, y9⟩ (f6.free ht) (by rw [upd_same]; rfl) (D6.new ht) (f6.trans (Frm.new ht))
    refine iteD (fun _ => ?_) (fun _ => ?_)
    · exact ⟨_, rfl, fin mine H3 a0 (by omega) D3 f3⟩
    · refine ⟨_, rfl, d, 10, rfl, D3, by decide, by decide, fun y H4 y0 y1 D4 g4 => ?_⟩
      exact fin y H4 y0 (by omega) D4 (f3.trans g4)

end
end TL

namespace TL
open PySem PySem.Spec PyProof.Rows L2
section
variable {P : Program} {w : World} {K : PySem.W.Frag} {mg : Str → Option Value} {base : Heap}
def sp__law_log (T : Txt K mg) : Sp := fun vs H Q _ => ∃ d : Addr, vs = [.ref d] ∧ DiceAt H d ∧
  ∀ (p : Addr) (xs : List V) (rs : List Row) (H' : Hp), (∀ r ∈ rs, okRow r) → rs.length ≤ 40 → H p = none → H' p = some (.lst xs) → ImAll H' xs (rs.map rowD) → DiceAt H' d → Frm [d] H H' → Q (.ref p) H'
theorem ok__law_log (T : Txt K mg) : FnOk P w K mg base CX0 3 T.a__law_log T.fd__law_log P__law_log (sp__law_log T) := by
  have G__law_off := ok__law_off (P := P) (w := w) (base := base) T
  have G__law_row := ok__law_row (P := P) (w := w) (base := base) T
  refine T.F__law_log.ok sc__law_log (fun vs H Q E h => ?_) (fun cdv A outer s H vs Q E hr h => ?_)
  · obtain ⟨d, rfl, _⟩ := h
    rfl
  · obtain ⟨d, rfl, hD, k⟩ := h
    have hu64 := hr.units
    refine ⟨_, (pss_cons (ps_set (i := 1) sc__law_log.nd rfl (by first | exact Or.inl rfl | exact Or.inr rfl) (pe_lst pa_nil))
    (pss_cons (ps_for PassesOwn.never rfl (pi_range1 rfl T.n_range (pa_cons (pe_call G__law_off (hr.mono (by decide)) rfl T.g__law_off T.F__law_off.kp T.b__law_off .nil pass0 (pa_cons (pv 0) (pa_cons (pe_ix ix_list (pe_lst (pa_cons pe_int (pa_cons pe_int pa_nil))) (pe_call G__law_off (hr.mono (by decide)) rfl T.g__law_off T.F__law_off.kp T.b__law_off .nil pass0 (pa_cons (pv 0) (pa_cons pe_int pa_nil))) (fun _ _ => rfl)) pa_nil))) pa_nil)) (pg_name (i := 2) sc__law_log.nd rfl (by first | exact Or.inl rfl | exact Or.inr rfl))
      (pss_one (ps_expr (pe_bm PySem.F.plainAttrs_list PySem.F.slot_list_append PySem.F.type_list_append mt_append (pv 1) (pa_cons (pe_ifExp (PW.pt (pw_and (pt_cmpR (op_neD hu64) (pv 1) (pe_lst pa_nil) (nomark _)) (pw_and1 (pt_cmpR op_eq (pe_call G__law_off (hr.mono (by decide)) rfl T.g__law_off T.F__law_off.kp T.b__law_off .nil pass0 (pa_cons (pv 0) (pa_cons pe_int pa_nil))) pe_int (nomark _))))) (pe_ix ix_list (pv 1) (pe_un un_neg pe_int) (fun _ _ => rfl)) (pe_call G__law_row (hr.mono (by decide)) rfl T.g__law_row T.F__law_row.kp T.b__law_row .nil pass0 (pa_cons (pv 0) pa_nil))) pa_nil)))))
    (pss_one (ps_ret (pv 1))))), ?_⟩
    refine ⟨(by show 0 ≤ sizeLine; decide), fun p hp => ?_⟩
    have npd := hD.ne_new hp
    refine ⟨_, rfl, (by show 2 ≤ sizeLine; decide), fun l hl => ?_⟩
    have D0 := (hD.new (o := .lst []) hp).new (o := .lst [.int 8, .int 40]) hl
    have nld := (hD.new (o := .lst []) hp).ne_new hl
    have npl : p ≠ l := fun e => by rw [← e, upd_same] at hl; cases hl
    have f1 : Frm [d] H (upd (upd H p (.lst [])) l (.lst [.int 8, .int 40])) := (Frm.new hp).trans (Frm.new hl)
    refine ⟨_, rfl, d, 2, rfl, D0, by decide, by decide, fun r H1 r0 r2 D1 g1 => ?_⟩
    have hl1 : H1 l = some (.lst [.int 8, .int 40]) := g1 _ _ upd_same (by simp [nld])
    have hp1 : H1 p = some (.lst []) := g1 _ _ (by rw [upd_ne npl]; exact upd_same) (by simp [npd])
    obtain ⟨m, hm, hm0, hm1⟩ : ∃ m : Int, atI [V.int 8, V.int 40] r = some (.int m) ∧ 0 < m ∧ m ≤ 40 := by
      have : r = 0 ∨ r = 1 := by omega
      rcases this with rfl | rfl
      · exact ⟨8, rfl, by decide, by decide⟩
      · exact ⟨40, rfl, by decide, by decide⟩
    refine ⟨l, _, r, _, rfl, rfl, SqL.of hl1, hm, ?_⟩
    refine ⟨d, m, rfl, D1, hm0, by omega, fun n H2 n0 n1 D2 g2 => ?_⟩
    have hp2 : H2 p = some (.lst []) := g2 _ _ hp1 (by simp [npd])
    have f2 := (f1.trans g1).trans g2
    refine ⟨n, rfl, by omega, by omega, for_range (lo := 0) (n := n.toNat) (fun i σ H3 => (∃ v : Option V, σ = [some (.ref d), some (.ref p), v]) ∧ DiceAt H3 d ∧ Frm [d] H H3 ∧ ∃ (xs : List V) (rs : List Row), H3 p = some (.lst xs) ∧ ImAll H3 xs (rs.map rowD) ∧ (∀ r ∈ rs, okRow r) ∧ rs.length = i)
      ⟨⟨_, rfl⟩, D2, f2, [], [], hp2, .nil, by simp, rfl⟩ ?_ ?_⟩
    · rintro i σ H3 hi ⟨⟨v, rfl⟩, D3, f3, xs, rs, hp3, hA, hok, hln⟩
      have hxl := rows_len hA
      refine ⟨_, rfl, .inl ⟨rfl, _, SqL.of hp3⟩, ?_⟩
      refine ⟨_, rfl, (by show 0 ≤ sizeLine; decide), fun e he => ?_⟩
      have s4 : Same H3 (upd H3 e (.lst [])) := Same.upd_new he
      have f4 : Frm [d] H (upd H3 e (.lst [])) := f3.trans (Frm.of_same s4)
      have hp4 := s4 _ _ hp3
      have hA4 := hA.same s4
      have new : ∀ H5, DiceAt H5 d → Frm [d] H H5 → H5 p = some (.lst xs) → ImAll H5 xs (rs.map rowD) → tCall (sp__law_row T) [] E0 (tCons (tVar 0) tNil) [some (.ref d), some (.ref p), some (.int (0 + (i : Nat)))] H5
          (fun x H6 => rAppend (.ref p) [x] H6 fun _ H7 => (∃ v : Option V, ([some (.ref d), some (.ref p), some (.int (0 + (i : Nat)))] : List (Option V)) = [some (.ref d), some (.ref p), v]) ∧ DiceAt H7 d ∧ Frm [d] H H7 ∧ ∃ (xs : List V) (rs : List Row), H7 p = some (.lst xs) ∧ ImAll H7 xs (rs.map rowD) ∧ (∀ r ∈ rs, okRow r) ∧ rs.length = i + 1) := by
        intro H5 D5 f5 hp5 hA5
        refine ⟨_, rfl, d, rfl, D5, fun t r H6 ok ht ht6 D6 g6 => ?_⟩
        have hp6 : H6 p = some (.lst xs) := g6 _ _ hp5 (by simp [npd])
        refine ⟨p, xs, _, rfl, rfl, hp6, small1000 (by omega), ⟨_, rfl⟩, D6.upd_ne (Ne.symm npd), (f5.trans g6).own hp (Frm.updL hp6), _, rs ++ [r], upd_same, ?_, fun x hx => ?_, by simp [hln]⟩
        · rw [List.map_append]
          refine ImAll.append ((hA5.frm g6).updL hp6) (.cons (im_row ?_) .nil)
          rw [upd_ne (ne_of ht6 hp6 (by intro q; cases q))]
          exact ht6
        · rcases List.mem_append.mp hx with h1 | h1
          · exact hok x h1
          · simp at h1; subst h1; exact ok
      have hlv := lv_rows (rs := rs) (by omega)
      refine ⟨.list (rs.map rowD), .list [], .lst (SqL.of hp4) hA4.dp, .lst (SqL.of upd_same) .nil, shaped_lv hlv (by decide), rfl, _, rfl, ?_⟩
      rw [eqv_rows_nil]
      refine iteN (fun hne => ?_) (fun he0 => iteF (new _ (D3.same s4) f4 hp4 hA4))
      refine ⟨_, rfl, d, 3, rfl, D3.same s4, by decide, by decide, fun z H5 z0 z3 D5 g5 => ?_⟩
      have hp5 : H5 p = some (.lst xs) := g5 _ _ hp4 (by simp [npd])
      have hA5 := hA4.frm g5
      refine ⟨rfl, _, rfl, ?_⟩
      refine iteD (fun _ => ?_) (fun _ => new _ D5 (f4.trans g5) hp5 hA5)
      -- the last one again
      have hpos : 0 < rs.length := List.length_pos_iff.mpr hne
      obtain ⟨t, ht, htt⟩ := rows_get hA5 (i := rs.length - 1) (r := rs[rs.length - 1]) (List.getElem?_eq_getElem (by omega))
      have hat : atI xs (-1) = some (.ref t) := by
        unfold atI ixN
        rw [if_neg (by omega), if_pos (by omega)]
        have : ((-1 : Int) + (xs.length : Nat)).toNat = rs.length - 1 := by omega
        rw [this]
        exact ht
      refine ⟨_, rfl, _, rfl, p, _, _, _, rfl, rfl, SqL.of hp5, hat, ?_⟩
      refine ⟨p, xs, _, rfl, rfl, hp5, small1000 (by omega), ⟨_, rfl⟩, D5.upd_ne (Ne.symm npd), (f4.trans g5).own hp (Frm.updL hp5), _, rs ++ [rs[rs.length - 1]], upd_same, ?_, fun x hx => ?_, by simp [hln]⟩
      · rw [List.map_append]
        refine ImAll.append (hA5.updL hp5) (.cons (im_row ?_) .nil)
        rw [upd_ne (ne_of htt hp5 (by intro q; cases q))]
        exact htt
      · rcases List.mem_append.mp hx with h1 | h1
        · exact hok x h1
        · simp at h1
          rw [h1]
          exact hok _ (List.getElem_mem _)
    · rintro σ H3 ⟨⟨v, rfl⟩, D3, f3, xs, rs, hp3, hA, hok, hln⟩
      exact ⟨_, rfl, k p xs rs H3 hok (by omega) hp hp3 hA D3 f3⟩

end
end TL

namespace TL
open PySem PySem.Spec PyProof.Rows L2
section
variable {P : Program} {w : World} {K : PySem.W.Frag} {mg : Str → Option Value} {base : Heap}
def sp__law_first (T : Txt K mg) : Sp := fun vs H Q _ => ∃ (t0 t1 a : Addr) (ca cb : List Int) (xs : List V) (rs : List Row), vs = [.ref t0, .ref t1, .ref a] ∧ H t0 = some (.tup (ca.map V.int)) ∧ H t1 = some (.tup (cb.map V.int)) ∧ Can ca ∧ Can cb ∧ SqL K H a xs ∧ ImAll H xs (rs.map rowD) ∧ rs.length ≤ 1000 ∧
  (∀ i r, rs[i]? = some r → goodRow ca cb r = false → (∀ j r', j < i → rs[j]? = some r' → goodRow ca cb r' = true) → ∀ H', Same H H' → Q (.int (i : Nat)) H') ∧ ((∀ r ∈ rs, goodRow ca cb r = true) → ∀ H', Same H H' → Q .non H')
theorem ok__law_first (T : Txt K mg) : FnOk P w K mg base CX0 1 T.a__law_first T.fd__law_first P__law_first (sp__law_first T) := by
  skip
  refine T.F__law_first.ok sc__law_first (fun vs H Q E h => ?_) (fun cdv A outer s H vs Q E hr h => ?_)
  · obtain ⟨t0, t1, a, ca, cb, xs, rs, rfl, _⟩ := h
    rfl
  · obtain ⟨t0, t1, a, ca, cb, xs, rs, rfl, h0, h1, hca, hcb, hL, hA, hl, k1, k2⟩ := h
    refine ⟨_, (pss_cons (ps_for PassesOwn.never rfl (pi_range1 rfl T.n_range (pa_cons (pe_callB call_len_seq (by rfl) T.n_len (by decide +kernel) (pa_cons (pv 2) pa_nil)) pa_nil)) (pg_name (i := 3) sc__law_first.nd rfl (by first | exact Or.inl rfl | exact Or.inr rfl))
      (pss_cons (ps_asg (pe_ix ix_list (pv 2) (pv 3) (fun _ _ => rfl)) (pg_tup rfl (pgs_cons (pg_name (i := 4) sc__law_first.nd rfl (by first | exact Or.inl rfl | exact Or.inr rfl)) (pgs_cons (pg_name (i := 5) sc__law_first.nd rfl (by first | exact Or.inl rfl | exact Or.inr rfl)) (pgs_cons (pg_name (i := 6) sc__law_first.nd rfl (by first | exact Or.inl rfl | exact Or.inr rfl)) (pgs_cons (pg_name (i := 7) sc__law_first.nd rfl (by first | exact Or.inl rfl | exact Or.inr rfl)) pgs_nil))))))
      (pss_cons (ps_cut (ps_setLc (i := 8) (own := [("_law_manner", 9)]) (g := (gName 9)) (tt := (tTest (tOp (rIn K false) (tVar 9) (tVar 1)))) (te := (tVar 9)) rfl sc__law_first.nd rfl rfl (sw_true rfl rfl rfl (by decide +kernel)) (pi_tup (pv 0)) (blkOk_by (own := [("_law_manner", 9)]) (N := N__law_first) (sc := defScope s__law_first) (by decide +kernel)) (fun _ _ _ _ _ => (pg_name (i := 9) sc__law_first.nd rfl (by first | exact Or.inl rfl | exact Or.inr rfl))) (fun _ _ _ _ _ => (pts_one (pt_cmpR op_in_seq (pv 9) (pv 1) (by rfl)))) (fun _ _ _ _ _ => (pv 9))))
      (pss_cons (ps_cut (ps_if (PW.pt (pw_or (pt_cmpR op_eq (pe_bm PySem.F.plainAttrs_list PySem.F.slot_list_count PySem.F.type_list_count mt_countF (pv 8) (pa_cons (pv 4) pa_nil)) pe_int (nomark _)) (pw_or1 (pt_cmpR op_eq (pe_bm PySem.F.plainAttrs_list PySem.F.slot_list_count PySem.F.type_list_count mt_countF (pv 8) (pa_cons (pv 6) pa_nil)) pe_int (nomark _)))))
        (pss_one (ps_ret (pv 3)))
        pss_nil))
      (pss_one (ps_if (PW.pt (pw_and (pt_cmpR op_ne (pv 4) (pv 6) (nomark _)) (pw_and1 (PW.pt (pw_or (pt_val (pv 5)) (pw_or1 (pt_val (pv 7))))))))
        (pss_one (ps_ret (pv 3)))
        pss_nil))))))
    (pss_one (ps_ret pe_non))), ?_⟩
    have hxl := rows_len hA
    refine ⟨_, rfl, a, _, rfl, .inl hL, ?_⟩
    have hn : ((xs.length : Nat) : Int).toNat = rs.length := by omega
    refine ⟨_, rfl, by omega, by omega, ?_⟩
    rw [hn]
    refine for_range (lo := 0) (n := rs.length) (fun i σ H' => (∃ v3 v4 v5 v6 v7 v8 : Option V, σ = [some (.ref t0), some (.ref t1), some (.ref a), v3, v4, v5, v6, v7, v8, none]) ∧ Same H H' ∧ ∀ j r', j < i → rs[j]? = some r' → goodRow ca cb r' = true)
      ⟨⟨_, _, _, _, _, _, rfl⟩, .refl _, fun j r' hj => absurd hj (by omega)⟩ ?_ ?_
    · rintro i σ H2 hi ⟨⟨v3, v4, v5, v6, v7, v8, rfl⟩, s2, hgood⟩
      have e0 : (0 : Int) + (i : Int) = (i : Nat) := by omega
      rw [e0]
      have hri := List.getElem?_eq_getElem hi
      obtain ⟨t, ht, hr⟩ := rows_get hA hri
      generalize rs[i] = r at hri hr
      have hr2 := s2 _ _ hr
      refine ⟨_, rfl, _, rfl, a, _, _, _, rfl, rfl, s2.seq hL, atI_nat ht, t, _, rfl, SqT.of hr2, rfl, _, _, rfl, _, _, rfl, _, _, rfl, _, _, rfl, rfl, ?_⟩
      -- both
      refine ⟨fun σ' H' => ∃ (u : Addr) (us : List Int), σ' = [some (.ref t0), some (.ref t1), some (.ref a), some (.int (i : Nat)), some (.int r.1), some (.bl r.2.1), some (.int r.2.2.1), some (.bl r.2.2.2), some (.ref u), none] ∧ Same H H' ∧ H' u = some (.lst (us.map V.int)) ∧ us = ca.filter (fun m => decide (m ∈ cb)), ?_, ?_⟩
      · refine ⟨_, rfl, t0, rfl, ⟨_, SqT.of (s2 _ _ h0)⟩, fun D hD => ?_⟩
        have hDH := (Frm.of_same (S := []) s2).free hD
        refine lc_tup (K := K) (a := t0) (xs := ca.map V.int) (fun j H' => Same H H' ∧ H' D = some (.lst (((ca.take j).filter (fun m => decide (m ∈ cb))).map V.int)))
          ⟨s2.trans (Same.upd_new hD), upd_same⟩ (fun j H' _ h => SqT.of (h.1 _ _ h0)) ?_ ?_
        · rintro j v H' hj ⟨s3, hD3⟩
          obtain ⟨m, hm, rfl⟩ := getmap hj
          have htk := take_more hm
          refine ⟨rfl, _, rfl, _, rfl, t1, _, rfl, .inr (SqT.of (s3 _ _ h1)), rfl, flat_ints _, _, rfl, ?_⟩
          show if inV (.int m) (cb.map V.int) = true then _ else _
          rw [inV_int]
          refine iteD (fun q => ?_) (fun q => ?_)
          · refine ⟨_, rfl, _, hD3, ?_, ((Frm.of_same (S := []) s3).own hDH (Frm.updL hD3)).same, ?_⟩
            · rw [List.length_map]
              have := List.length_filter_le (fun m => decide (m ∈ cb)) (ca.take j)
              have := (List.take_sublist j ca).length_le
              have := hca.2.2.2
              exact small1000 (by omega)
            · rw [upd_same, htk, List.filter_append, List.map_append]
              simp [List.filter, q]
          · refine ⟨s3, ?_⟩
            rw [hD3, htk, List.filter_append]
            simp [List.filter, q]
        · rintro H' ⟨s3, hD3⟩
          rw [List.length_map, List.take_length] at hD3
          exact ⟨D, _, rfl, s3, hD3, rfl⟩
      rintro σ' H3 ⟨u, us, rfl, s3, hu, hus⟩
      have mem : ∀ m, us.count m = 0 ↔ unl ca cb m = true := fun m => by
        rw [hus, List.count_eq_zero, List.mem_filter]
        unfold unl
        by_cases q1 : m ∈ ca <;> by_cases q2 : m ∈ cb <;> simp [q1, q2]
      -- out of both
      refine ⟨fun σ' H' => σ' = [some (.ref t0), some (.ref t1), some (.ref a), some (.int (i : Nat)), some (.int r.1), some (.bl r.2.1), some (.int r.2.2.1), some (.bl r.2.2.2), some (.ref u), none] ∧ H' = H3 ∧ unl ca cb r.1 = false ∧ unl ca cb r.2.2.1 = false, ?_, ?_⟩
      · have out : (unl ca cb r.1 = true ∨ unl ca cb r.2.2.1 = true) → goodRow ca cb r = false := fun z => by
          unfold goodRow
          rcases z with z | z <;> rw [z] <;> simp
        refine ⟨_, rfl, .inl ⟨rfl, _, SqL.of hu⟩, _, rfl, u, _, .int r.1, rfl, rfl, SqL.of hu, rfl, flat_ints _, ?_⟩
        rw [count_int]
        refine ⟨rfl, _, rfl, ?_⟩
        refine iteD (fun q => iteT ⟨_, rfl, k1 i r hri (out (.inl ((mem _).mp (by have := vint_inj.mp q; omega)))) hgood _ s3⟩) (fun q => ?_)
        refine ⟨_, rfl, .inl ⟨rfl, _, SqL.of hu⟩, _, rfl, u, _, .int r.2.2.1, rfl, rfl, SqL.of hu, rfl, flat_ints _, ?_⟩
        rw [count_int]
        refine ⟨rfl, _, rfl, ?_⟩
        refine iteD (fun q2 => ⟨_, rfl, k1 i r hri (out (.inr ((mem _).mp (by have := vint_inj.mp q2; omega)))) hgood _ s3⟩) (fun q2 => ?_)
        have no : ∀ m, ¬ V.int (us.count m : Nat) = V.int 0 → unl ca cb m = false := fun m z => by
          cases e : unl ca cb m with
          | false => rfl
          | true => exact absurd (congrArg V.int (by have := (mem m).mpr e; omega)) z
        exact ⟨rfl, rfl, no _ q, no _ q2⟩
      rintro σ' H4 ⟨rfl, rfl, u1, u2⟩
      have fin : ((r.2.1 || r.2.2.2) && !decide (r.1 = r.2.2.1)) = false → goodRow ca cb r = true := fun e => by
        unfold goodRow
        rw [u1, u2, e]
        rfl
      have bad : ((r.2.1 || r.2.2.2) && !decide (r.1 = r.2.2.1)) = true → goodRow ca cb r = false := fun e => by
        unfold goodRow
        rw [u1, u2, e]
        rfl
      have next : goodRow ca cb r = true → (∃ v3 v4 v5 v6 v7 v8 : Option V, ([some (V.ref t0), some (.ref t1), some (.ref a), some (.int (i : Nat)), some (.int r.1), some (.bl r.2.1), some (.int r.2.2.1), some (.bl r.2.2.2), some (.ref u), none] : L2.St) = [some (.ref t0), some (.ref t1), some (.ref a), v3, v4, v5, v6, v7, v8, none]) ∧ Same H H4 ∧ ∀ j r', j < i + 1 → rs[j]? = some r' → goodRow ca cb r' = true := fun g =>
        ⟨⟨_, _, _, _, _, _, rfl⟩, s3, fun j r' hj hr' => by
          rcases Nat.lt_or_ge j i with q | q
          · exact hgood j r' q hr'
          · have : j = i := by omega
            subst this
            rw [hri] at hr'
            cases hr'
            exact g⟩
      refine ⟨_, rfl, _, rfl, rfl, _, rfl, ?_⟩
      have ed : decide (V.int r.1 = V.int r.2.2.1) = decide (r.1 = r.2.2.1) := decide_eq_decide.mpr vint_inj
      rw [ed]
      refine iteN (fun hne => ?_) (fun he => iteF (next (fin (by rw [decide_eq_true he]; simp))))
      refine ⟨_, rfl, _, rfl, iteB (fun q1 => ?_) (fun q1 => ?_)⟩
      · exact iteT ⟨_, rfl, k1 i r hri (bad (by rw [q1, decide_eq_false hne]; rfl)) hgood _ s3⟩
      · refine ⟨_, rfl, _, rfl, iteB (fun q2 => ?_) (fun q2 => ?_)⟩
        · exact ⟨_, rfl, k1 i r hri (bad (by rw [q1, q2, decide_eq_false hne]; rfl)) hgood _ s3⟩
        · exact next (fin (by rw [q1, q2]; rfl))
    · rintro σ H4 ⟨_, s4, hgood⟩
      refine k2 (fun r hr' => ?_) H4 s4
      obtain ⟨j, hj⟩ := List.getElem?_of_mem hr'
      exact hgood j r (List.getElem?_eq_some_iff.mp hj).1 hj

end
end TL

namespace TL
open PySem PySem.Spec PyProof.Rows L2
section
variable {P : Program} {w : World} {K : PySem.W.Frag} {mg : Str → Option Value} {base : Heap}
/-- no row, and fit to be handed in as one -/
def NR (H : Hp) (v : V) : Prop := ∃ dd, Im H v dd ∧ rdat dd ∧ isRowD dd = false
theorem NR.same {H H' : Hp} {v : V} (h : NR H v) (s : Same H H') : NR H' v := let ⟨dd, a, b, c⟩ := h; ⟨dd, a.same s, b, c⟩
theorem NR.frm {S : List Addr} {H H' : Hp} {v : V} (h : NR H v) (f : Frm S H H') : NR H' v := let ⟨dd, a, b, c⟩ := h; ⟨dd, a.frm f, b, c⟩
def sp__law_no_row (T : Txt K mg) : Sp := fun vs H Q _ => ∃ d, vs = [.ref d] ∧ DiceAt H d ∧ ∀ (v : V) (H' : Hp), NR H' v → DiceAt H' d → Frm [d] H H' → Q v H'
theorem NR.tup {H : Hp} {o : Addr} {vs : List V} {ds : List PyData} (ho : H o = some (.tup vs)) (h : ImAll H vs ds) (n : ∀ e ∈ ds, ∀ l, e ≠ .list l) (z : isRowD (.tuple ds) = false) : NR H (.ref o) := ⟨.tuple ds, .tup ho h, n, z⟩
/-- an odd part -/
def Odd (H : Hp) (v : V) : Prop := ∃ od, Im H v od ∧ between od 0 9 = false ∧ isB od = false ∧ ∀ l, od ≠ .list l
theorem Odd.same {H H' : Hp} {v : V} (h : Odd H v) (s : Same H H') : Odd H' v := let ⟨dd, a, b⟩ := h; ⟨dd, a.same s, b⟩
theorem Odd.frm {S : List Addr} {H H' : Hp} {v : V} (h : Odd H v) (f : Frm S H H') : Odd H' v := let ⟨dd, a, b⟩ := h; ⟨dd, a.frm f, b⟩
theorem nr_out {H : Hp} {p : Addr} {r : Row} {n : Nat} (hn : n < 4) (hp : H p = some (.tup ((rowV r).take n ++ (rowV r).drop (n + 1)))) : NR H (.ref p) := by
  obtain ⟨a, b, c, d⟩ := r
  have : n = 0 ∨ n = 1 ∨ n = 2 ∨ n = 3 := by omega
  have nl : ∀ {e : PyData}, (e = .int a ∨ e = .bool b ∨ e = .int c ∨ e = .bool d) → ∀ l, e ≠ .list l := fun h l z => by subst z; rcases h with h | h | h | h <;> cases h
  rcases this with rfl | rfl | rfl | rfl
  · exact ⟨.tuple [.bool b, .int c, .bool d], .tup hp (.cons (.bl _) (.cons (.int _) (.cons (.bl _) .nil))), fun e he => nl (by simp at he; rcases he with rfl | rfl | rfl <;> simp), rfl⟩
  · exact ⟨.tuple [.int a, .int c, .bool d], .tup hp (.cons (.int _) (.cons (.int _) (.cons (.bl _) .nil))), fun e he => nl (by simp at he; rcases he with rfl | rfl | rfl <;> simp), rfl⟩
  · exact ⟨.tuple [.int a, .bool b, .bool d], .tup hp (.cons (.int _) (.cons (.bl _) (.cons (.bl _) .nil))), fun e he => nl (by simp at he; rcases he with rfl | rfl | rfl <;> simp), rfl⟩
  · exact ⟨.tuple [.int a, .bool b, .int c], .tup hp (.cons (.int _) (.cons (.bl _) (.cons (.int _) .nil))), fun e he => nl (by simp at he; rcases he with rfl | rfl | rfl <;> simp), rfl⟩
theorem nr_put {H : Hp} {p : Addr} {r : Row} {n : Nat} {x : V} (hn : n < 4) (hx : Odd H x) (hp : H p = some (.tup ((rowV r).take n ++ [x] ++ (rowV r).drop (n + 1)))) : NR H (.ref p) := by
  obtain ⟨a, b, c, d⟩ := r
  obtain ⟨od, io, o1, o2, o3⟩ := hx
  have : n = 0 ∨ n = 1 ∨ n = 2 ∨ n = 3 := by omega
  have nl : ∀ {e : PyData}, (e = .int a ∨ e = .bool b ∨ e = .int c ∨ e = .bool d ∨ e = od) → ∀ l, e ≠ .list l := fun h l z => by
    subst z
    rcases h with h | h | h | h | h
    · cases h
    · cases h
    · cases h
    · cases h
    · exact o3 l h.symm
  rcases this with rfl | rfl | rfl | rfl
  · exact ⟨.tuple [od, .bool b, .int c, .bool d], .tup hp (.cons io (.cons (.bl _) (.cons (.int _) (.cons (.bl _) .nil)))), fun e he => nl (by simp at he; rcases he with rfl | rfl | rfl | rfl <;> simp), by simp [isRowD, o1]⟩
  · exact ⟨.tuple [.int a, od, .int c, .bool d], .tup hp (.cons (.int _) (.cons io (.cons (.int _) (.cons (.bl _) .nil)))), fun e he => nl (by simp at he; rcases he with rfl | rfl | rfl | rfl <;> simp), by simp [isRowD, o2]⟩
  · exact ⟨.tuple [.int a, .bool b, od, .bool d], .tup hp (.cons (.int _) (.cons (.bl _) (.cons io (.cons (.bl _) .nil)))), fun e he => nl (by simp at he; rcases he with rfl | rfl | rfl | rfl <;> simp), by simp [isRowD, o1]⟩
  · exact ⟨.tuple [.int a, .bool b, .int c, od], .tup hp (.cons (.int _) (.cons (.bl _) (.cons (.int _) (.cons io .nil)))), fun e he => nl (by simp at he; rcases he with rfl | rfl | rfl | rfl <;> simp), by simp [isRowD, o2]⟩
theorem ok__law_no_row (T : Txt K mg) : FnOk P w K mg base CX0 3 T.a__law_no_row T.fd__law_no_row P__law_no_row (sp__law_no_row T) := by
  have G__law_row := ok__law_row (P := P) (w := w) (base := base) T
  have G__law_off := ok__law_off (P := P) (w := w) (base := base) T
  refine T.F__law_no_row.ok sc__law_no_row (fun vs H Q E h => ?_) (fun cdv A outer s H vs Q E hr h => ?_)
  · obtain ⟨d, rfl, _⟩ := h
    rfl
  · obtain ⟨d, rfl, D0, k⟩ := h
    refine ⟨_, (pss_cons (ps_set (i := 1) sc__law_no_row.nd rfl (by first | exact Or.inl rfl | exact Or.inr rfl) (pe_callB (call_max2 rfl) (by rfl) T.n_max (by decide +kernel) (pa_cons pe_int (pa_cons (pe_op op_sub (pe_call G__law_off (hr.mono (by decide)) rfl T.g__law_off T.F__law_off.kp T.b__law_off .nil pass0 (pa_cons (pv 0) (pa_cons (pe_op op_pow pe_int pe_int) pa_nil))) pe_int) pa_nil))))
    (pss_cons (ps_set (i := 2) sc__law_no_row.nd rfl (by first | exact Or.inl rfl | exact Or.inr rfl) (pe_call G__law_row (hr.mono (by decide)) rfl T.g__law_row T.F__law_row.kp T.b__law_row .nil pass0 (pa_cons (pv 0) pa_nil)))
    (pss_cons (ps_set (i := 3) sc__law_no_row.nd rfl (by first | exact Or.inl rfl | exact Or.inr rfl) (pe_call G__law_off (hr.mono (by decide)) rfl T.g__law_off T.F__law_off.kp T.b__law_off .nil pass0 (pa_cons (pv 0) (pa_cons pe_int pa_nil))))
    (pss_cons (ps_cut (ps_set (i := 4) sc__law_no_row.nd rfl (by first | exact Or.inl rfl | exact Or.inr rfl) (pe_ix ix_list (pe_lst (pa_cons pe_int (pa_cons (pe_op op_add pe_int (pv 1)) (pa_cons (pe_un un_neg pe_int) (pa_cons (pe_op op_sub (pe_un un_neg pe_int) (pv 1)) (pa_cons pe_non (pa_cons pe_str (pa_cons (pe_tup (pa_cons pe_int pa_nil)) pa_nil)))))))) (pe_call G__law_off (hr.mono (by decide)) rfl T.g__law_off T.F__law_off.kp T.b__law_off .nil pass0 (pa_cons (pv 0) (pa_cons pe_int pa_nil))) (fun _ _ => rfl))))
    (pss_cons (ps_set (i := 5) sc__law_no_row.nd rfl (by first | exact Or.inl rfl | exact Or.inr rfl) (pe_lst (pa_cons (pe_cut (pe_op op_catA (pe_slice sl_tupA (pv 2) po_none (po_some (pv 3))) (pe_slice sl_tupA (pv 2) (po_some (pe_op op_add (pv 3) pe_int)) po_none))) (pa_cons (pe_cut (pe_op op_catA (pe_op op_catA (pe_slice sl_tupA (pv 2) po_none (po_some (pv 3))) (pe_tup (pa_cons (pv 4) pa_nil))) (pe_slice sl_tupA (pv 2) (po_some (pe_op op_add (pv 3) pe_int)) po_none))) (pa_cons (pe_cut (pe_op op_catA (pv 2) (pe_tup (pa_cons pe_bl pa_nil)))) (pa_cons (pe_tup pa_nil) (pa_cons pe_int (pa_cons pe_non (pa_cons pe_str pa_nil)))))))))
    (pss_cons (ps_set (i := 6) sc__law_no_row.nd rfl (by first | exact Or.inl rfl | exact Or.inr rfl) (pe_tup (pa_cons (pe_ix ix_tup (pv 2) pe_int (fun _ _ => rfl)) (pa_cons (pe_ix ix_tup (pv 2) pe_int (fun _ _ => rfl)) (pa_cons (pe_ix ix_tup (pv 2) pe_int (fun _ _ => rfl)) (pa_cons (pe_ix ix_tup (pv 2) pe_int (fun _ _ => rfl)) pa_nil))))))
    (pss_one (ps_ret (pe_ix ix_list (pe_op op_cat (pe_op op_cat (pv 5) (pe_op op_rep (pe_lst (pa_cons (pe_cut (pe_op op_catA (pe_op op_catA (pe_slice sl_tupA (pv 2) po_none (po_some (pv 3))) (pe_tup (pa_cons (pv 4) pa_nil))) (pe_slice sl_tupA (pv 2) (po_some (pe_op op_add (pv 3) pe_int)) po_none))) pa_nil)) pe_int)) (pe_lst (pa_cons (pv 6) (pa_cons (pe_tup (pa_cons pe_int (pa_cons pe_int (pa_cons pe_int (pa_cons pe_int pa_nil))))) (pa_cons (pe_tup (pa_cons pe_int (pa_cons pe_bl (pa_cons pe_int (pa_cons pe_int pa_nil))))) pa_nil))))) (pe_call G__law_off (hr.mono (by decide)) rfl T.g__law_off T.F__law_off.kp T.b__law_off .nil pass0 (pa_cons (pv 0) (pa_cons pe_int pa_nil))) (fun _ _ => rfl)))))))))), ?_⟩
    refine ⟨_, rfl, _, _, rfl, rfl, ⟨by decide, by decide, by decide⟩, d, _, rfl, D0, by decide, by decide, fun x H1 x0 x1 D1 f1 => ?_⟩
    refine ⟨_, _, rfl, rfl, _, _, rfl, ?_⟩
    obtain ⟨far, efar, far0⟩ : ∃ far : Int, (if x - 500000 > 0 then x - 500000 else 0) = far ∧ 0 ≤ far := ⟨_, rfl, by split <;> omega⟩
    rw [efar]
    refine ⟨_, rfl, d, rfl, D1, fun t r H2 okr htn ht D2 f2 => ?_⟩
    have f02 := f1.trans f2
    refine ⟨_, rfl, d, 4, rfl, D2, by decide, by decide, fun at_ H3 a0 a4 D3 f3 => ?_⟩
    obtain ⟨n, rfl⟩ : ∃ n : Nat, at_ = n := ⟨at_.toNat, by omega⟩
    have hn : n < 4 := by omega
    have f03 := f02.trans f3
    have ht3 := f3.tups _ _ ht
    -- an odd part
    refine ⟨fun σ' H' => ∃ od : V, σ' = [some (V.ref d), some (.int far), some (.ref t), some (.int (n : Int)), some od, none, none] ∧ Odd H' od ∧ DiceAt H' d ∧ Frm [d] H3 H', ?_, ?_⟩
    · refine ⟨_, rfl, _, _, rfl, rfl, _, rfl, _, rfl, _, rfl, _, _, rfl, rfl, (by show 1 ≤ sizeLine; decide), fun o ho => ?_⟩
      have s4 : Same H3 (upd H3 o (.tup [.int 1])) := Same.upd_new ho
      have q4 := upd_same (H := H3) (a := o) (o := .tup [.int 1])
      have D4 := D3.same s4
      generalize upd H3 o (.tup [.int 1]) = H4 at s4 q4 D4 ⊢
      refine ⟨(by show 7 ≤ sizeLine; decide), fun l hl => ?_⟩
      have s5 : Same H4 (upd H4 l (.lst [.int 10, .int (10 + far), .int (-1), .int (-1 - far), .non, .str "1", .ref o])) := Same.upd_new hl
      have q5 := upd_same (H := H4) (a := l) (o := .lst [.int 10, .int (10 + far), .int (-1), .int (-1 - far), .non, .str "1", .ref o])
      have D5 := D4.same s5
      have nld := D4.ne_new hl
      have E5 : upd H4 l (.lst [.int 10, .int (10 + far), .int (-1), .int (-1 - far), .non, .str "1", .ref o]) = upd H4 l (.lst [.int 10, .int (10 + far), .int (-1), .int (-1 - far), .non, .str "1", .ref o]) := rfl
      generalize upd H4 l (.lst [.int 10, .int (10 + far), .int (-1), .int (-1 - far), .non, .str "1", .ref o]) = H5 at s5 q5 D5 ⊢
      clear E5
      have s45 := s4.trans s5
      refine ⟨_, rfl, d, 7, rfl, D5, by decide, by decide, fun j H6 j0 j7 D6 f6 => ?_⟩
      have q6 := f6 _ _ q5 (by simp [nld])
      have q46 := f6.tups _ _ (s5 _ _ q4)
      obtain ⟨v, hv, hat⟩ : ∃ v, Odd H6 v ∧ atI [V.int 10, .int (10 + far), .int (-1), .int (-1 - far), .non, .str "1", .ref o] j = some v := by
        have : j = 0 ∨ j = 1 ∨ j = 2 ∨ j = 3 ∨ j = 4 ∨ j = 5 ∨ j = 6 := by omega
        rcases this with rfl | rfl | rfl | rfl | rfl | rfl | rfl
        · exact ⟨_, ⟨_, .int _, rfl, rfl, fun l z => by cases z⟩, rfl⟩
        · exact ⟨_, ⟨_, .int _, by simp [between]; omega, rfl, fun l z => by cases z⟩, rfl⟩
        · exact ⟨_, ⟨_, .int _, rfl, rfl, fun l z => by cases z⟩, rfl⟩
        · exact ⟨_, ⟨_, .int _, by simp [between]; omega, rfl, fun l z => by cases z⟩, rfl⟩
        · exact ⟨_, ⟨_, .non, rfl, rfl, fun l z => by cases z⟩, rfl⟩
        · exact ⟨_, ⟨_, .str _, rfl, rfl, fun l z => by cases z⟩, rfl⟩
        · exact ⟨_, ⟨.tuple [.int 1], .tup q46 (.cons (.int _) .nil), rfl, rfl, fun l z => by cases z⟩, rfl⟩
      exact ⟨l, _, j, _, rfl, rfl, SqL.of q6, hat, v, rfl, hv, D6, (Frm.of_same (S := [d]) s45).trans f6⟩
    rintro σ' H4 ⟨od, rfl, hod, D4, f4⟩
    have f04 := f03.trans f4
    have ht4 := f4.tups _ _ ht3
    -- kinds of what is no row
    refine ⟨_, cut_out rfl rfl ht4 (by show n + 1 ≤ 4; omega) (by show 4 ≤ 100; decide), ?_⟩
    rintro _ H5 ⟨p1, rfl, hp1, s5⟩
    refine ⟨_, cut_put rfl rfl rfl (s5 _ _ ht4) (by show n + 1 ≤ 4; omega) (by show 4 ≤ 100; decide), ?_⟩
    rintro _ H6 ⟨p2, rfl, hp2, s6⟩
    have s46 := s5.trans s6
    refine ⟨fun v H' => ∃ p, v = .ref p ∧ H' p = some (.tup (rowV r ++ [.bl true])) ∧ Same H6 H', ⟨_, rfl, (by show 1 ≤ sizeLine; decide), fun o ho => catA ((Same.upd_new (o := .tup [.bl true]) ho) _ _ (s46 _ _ ht4)) upd_same (by show 4 + 1 ≤ 1000; decide) fun p H' s hp => ⟨p, rfl, hp, (Same.upd_new ho).trans s⟩⟩, ?_⟩
    rintro _ H7 ⟨p3, rfl, hp3, s7⟩
    refine ⟨(by show 0 ≤ sizeLine; decide), fun e he => ?_⟩
    have s8 : Same H7 (upd H7 e (.tup [])) := Same.upd_new he
    have q8 := upd_same (H := H7) (a := e) (o := .tup [])
    generalize upd H7 e (.tup []) = H8 at s8 q8 ⊢
    refine ⟨(by show 7 ≤ sizeLine; decide), fun KL hKL => ?_⟩
    have s9 : Same H8 (upd H8 KL (.lst [.ref p1, .ref p2, .ref p3, .ref e, .int 5, .non, .str "0+ 0-"])) := Same.upd_new hKL
    have q9 := upd_same (H := H8) (a := KL) (o := .lst [.ref p1, .ref p2, .ref p3, .ref e, .int 5, .non, .str "0+ 0-"])
    generalize upd H8 KL (.lst [.ref p1, .ref p2, .ref p3, .ref e, .int 5, .non, .str "0+ 0-"]) = H9 at s9 q9 ⊢
    have s49 := ((s46.trans s7).trans s8).trans s9
    have ht9 := s49 _ _ ht4
    -- mixed
    refine ⟨_, rfl, t, _, _, _, rfl, rfl, SqT.of ht9, atI_nat (j := 1) rfl, _, rfl, t, _, _, _, rfl, rfl, SqT.of ht9, atI_nat (j := 0) rfl, _, rfl, t, _, _, _, rfl, rfl, SqT.of ht9, atI_nat (j := 2) rfl, _, rfl, t, _, _, _, rfl, rfl, SqT.of ht9, atI_nat (j := 3) rfl, (by show 4 ≤ sizeLine; decide), fun mx hmx => ?_⟩
    have s10 : Same H9 (upd H9 mx (.tup [.bl r.2.1, .int r.1, .int r.2.2.1, .bl r.2.2.2])) := Same.upd_new hmx
    have q10 := upd_same (H := H9) (a := mx) (o := .tup [.bl r.2.1, .int r.1, .int r.2.2.1, .bl r.2.2.2])
    generalize upd H9 mx (.tup [.bl r.2.1, .int r.1, .int r.2.2.1, .bl r.2.2.2]) = H10 at s10 q10 ⊢
    have s410 := s49.trans s10
    refine ⟨_, rfl, _, cut_put rfl rfl rfl (s410 _ _ ht4) (by show n + 1 ≤ 4; omega) (by show 4 ≤ 100; decide), ?_⟩
    rintro _ H11 ⟨p4, rfl, hp4, s11⟩
    refine ⟨(by show 1 ≤ sizeLine; decide), fun l1 hl1 => ?_⟩
    have s12 : Same H11 (upd H11 l1 (.lst [.ref p4])) := Same.upd_new hl1
    have q12 := upd_same (H := H11) (a := l1) (o := .lst [.ref p4])
    generalize upd H11 l1 (.lst [.ref p4]) = H12 at s12 q12 ⊢
    refine ⟨l1, 3, _, rfl, rfl, q12, by decide, by decide, (by show 1 * 3 ≤ sizeLine; decide), fun l2 hl2 => ?_⟩
    have e3 : (List.replicate (3 : Int).toNat [V.ref p4]).flatten = [.ref p4, .ref p4, .ref p4] := rfl
    rw [e3]
    have s13 : Same H12 (upd H12 l2 (.lst [.ref p4, .ref p4, .ref p4])) := Same.upd_new hl2
    have q13 := upd_same (H := H12) (a := l2) (o := .lst [.ref p4, .ref p4, .ref p4])
    generalize upd H12 l2 (.lst [.ref p4, .ref p4, .ref p4]) = H13 at s13 q13 ⊢
    have s1013 := (s11.trans s12).trans s13
    have q913 := s1013 _ _ (s10 _ _ q9)
    refine ⟨KL, l2, _, _, rfl, rfl, q913, q13, (by show 7 + 3 ≤ sizeLine; decide), fun l3 hl3 => ?_⟩
    have s14 : Same H13 (upd H13 l3 (.lst ([.ref p1, .ref p2, .ref p3, .ref e, .int 5, .non, .str "0+ 0-"] ++ [.ref p4, .ref p4, .ref p4]))) := Same.upd_new hl3
    have q14 := upd_same (H := H13) (a := l3) (o := .lst ([.ref p1, .ref p2, .ref p3, .ref e, .int 5, .non, .str "0+ 0-"] ++ [.ref p4, .ref p4, .ref p4]))
    generalize upd H13 l3 (.lst ([.ref p1, .ref p2, .ref p3, .ref e, .int 5, .non, .str "0+ 0-"] ++ [.ref p4, .ref p4, .ref p4])) = H14 at s14 q14 ⊢
    refine ⟨_, rfl, (by show 4 ≤ sizeLine; decide), fun t1 h1 => ?_⟩
    have s15 : Same H14 (upd H14 t1 (.tup [.int 0, .int 1, .int 0, .int 0])) := Same.upd_new h1
    have q15 := upd_same (H := H14) (a := t1) (o := .tup [.int 0, .int 1, .int 0, .int 0])
    generalize upd H14 t1 (.tup [.int 0, .int 1, .int 0, .int 0]) = H15 at s15 q15 ⊢
    refine ⟨(by show 4 ≤ sizeLine; decide), fun t2 h2 => ?_⟩
    have s16 : Same H15 (upd H15 t2 (.tup [.int 0, .bl true, .int 0, .int 1])) := Same.upd_new h2
    have q16 := upd_same (H := H15) (a := t2) (o := .tup [.int 0, .bl true, .int 0, .int 1])
    generalize upd H15 t2 (.tup [.int 0, .bl true, .int 0, .int 1]) = H16 at s16 q16 ⊢
    refine ⟨(by show 3 ≤ sizeLine; decide), fun l4 hl4 => ?_⟩
    have s17 : Same H16 (upd H16 l4 (.lst [.ref mx, .ref t1, .ref t2])) := Same.upd_new hl4
    have q17 := upd_same (H := H16) (a := l4) (o := .lst [.ref mx, .ref t1, .ref t2])
    generalize upd H16 l4 (.lst [.ref mx, .ref t1, .ref t2]) = H17 at s17 q17 ⊢
    have s1417 := (s15.trans s16).trans s17
    refine ⟨l3, l4, _, _, rfl, rfl, s1417 _ _ q14, q17, (by show 10 + 3 ≤ sizeLine; decide), fun l5 hl5 => ?_⟩
    have s18 : Same H17 (upd H17 l5 (.lst ([.ref p1, .ref p2, .ref p3, .ref e, .int 5, .non, .str "0+ 0-"] ++ [.ref p4, .ref p4, .ref p4] ++ [.ref mx, .ref t1, .ref t2]))) := Same.upd_new hl5
    have q18 := upd_same (H := H17) (a := l5) (o := .lst ([.ref p1, .ref p2, .ref p3, .ref e, .int 5, .non, .str "0+ 0-"] ++ [.ref p4, .ref p4, .ref p4] ++ [.ref mx, .ref t1, .ref t2]))
    generalize upd H17 l5 (.lst ([.ref p1, .ref p2, .ref p3, .ref e, .int 5, .non, .str "0+ 0-"] ++ [.ref p4, .ref p4, .ref p4] ++ [.ref mx, .ref t1, .ref t2])) = H18 at s18 q18 ⊢
    have s1418 := s1417.trans s18
    have s1018 := (s1013.trans s14).trans s1418
    have s418 := s410.trans s1018
    have D18 := D4.same s418
    have nl5 : l5 ≠ d := (D4.same (s410.trans ((s1013.trans s14).trans s1417))).ne_new hl5
    have all : ∀ x ∈ ([.ref p1, .ref p2, .ref p3, .ref e, .int 5, .non, .str "0+ 0-"] ++ [.ref p4, .ref p4, .ref p4] ++ [.ref mx, .ref t1, .ref t2] : List V), NR H18 x := fun x hx => by
      have s918 := s10.trans s1018
      have g4 : NR H18 (.ref p4) := (nr_put hn (hod.same s410 |>.same s11) hp4).same (((s12.trans s13).trans s14).trans s1418)
      simp only [List.mem_append, List.mem_cons, List.not_mem_nil, or_false] at hx
      rcases hx with ((rfl | rfl | rfl | rfl | rfl | rfl | rfl) | (rfl | rfl | rfl)) | (rfl | rfl | rfl)
      · exact ((nr_out hn hp1).same (((s6.trans s7).trans s8).trans s9)).same s918
      · exact ((nr_put hn (hod.same s46) hp2).same ((s7.trans s8).trans s9)).same s918
      · exact (NR.tup (ds := [.int r.1, .bool r.2.1, .int r.2.2.1, .bool r.2.2.2, .bool true]) hp3 (.cons (.int _) (.cons (.bl _) (.cons (.int _) (.cons (.bl _) (.cons (.bl _) .nil))))) (fun z hz l => by simp at hz; rcases hz with rfl | rfl | rfl | rfl | rfl <;> simp) rfl).same ((s8.trans s9).trans s918)
      · exact (NR.tup (ds := []) q8 .nil (fun z hz => by simp at hz) rfl).same (s9.trans s918)
      · exact ⟨.int 5, .int _, trivial, rfl⟩
      · exact ⟨.none, .non, trivial, rfl⟩
      · exact ⟨.str "0+ 0-", .str _, trivial, rfl⟩
      · exact g4
      · exact g4
      · exact g4
      · exact (NR.tup (ds := [.bool r.2.1, .int r.1, .int r.2.2.1, .bool r.2.2.2]) q10 (.cons (.bl _) (.cons (.int _) (.cons (.int _) (.cons (.bl _) .nil)))) (fun z hz l => by simp at hz; rcases hz with rfl | rfl | rfl | rfl <;> simp) rfl).same s1018
      · exact (NR.tup (ds := [.int 0, .int 1, .int 0, .int 0]) q15 (.cons (.int _) (.cons (.int _) (.cons (.int _) (.cons (.int _) .nil)))) (fun z hz l q => by subst q; simp at hz) rfl).same ((s16.trans s17).trans s18)
      · exact (NR.tup (ds := [.int 0, .bool true, .int 0, .int 1]) q16 (.cons (.int _) (.cons (.bl _) (.cons (.int _) (.cons (.int _) .nil)))) (fun z hz l => by simp at hz; rcases hz with rfl | rfl | rfl | rfl <;> simp) rfl).same (s17.trans s18)
    refine ⟨_, rfl, d, 13, rfl, D18, by decide, by decide, fun j H19 j0 j13 D19 f19 => ?_⟩
    obtain ⟨x, hx, hat⟩ := at_get (l := ([.ref p1, .ref p2, .ref p3, .ref e, .int 5, .non, .str "0+ 0-"] ++ [.ref p4, .ref p4, .ref p4] ++ [.ref mx, .ref t1, .ref t2] : List V)) j0 (by show j < (13 : Nat); omega)
    exact ⟨l5, _, j, _, rfl, rfl, SqL.of (f19 _ _ q18 (by simp [nl5])), hat, k x H19 ((all x hx).frm f19) D19 ((f04.trans (Frm.of_same s418)).trans f19)⟩

end
end TL

namespace TL
open PySem PySem.Spec PyProof.Rows L2
section
variable {P : Program} {w : World} {K : PySem.W.Frag} {mg : Str → Option Value} {base : Heap}
def spLaw (K : PySem.W.Frag) (P : Addr) : Sp := fun vs H Q _ => ∃ (a : Addr) (ns : List Int), vs = [.ref a] ∧ SqL K H a (ns.map V.int) ∧ ns.length ≤ 63 ∧ LamX.Tabs [(P, lamQ)] H ∧ ∀ H', Q (.bl true) H'
abbrev sp_law (T : Txt K mg) : Sp := spLaw K T.lP
/-- what stands from turn to turn -/
structure I11 (P : Addr) (H : Hp) (d : Addr) : Prop where
  D : DiceAt H d
  T : LamX.Tabs [(P, lamQ)] H
section
variable {Pa d : Addr} {H H' : Hp}
theorem I11.same (h : I11 Pa H d) (s : Same H H') : I11 Pa H' d := ⟨h.D.same s, tabs_same h.T s⟩
theorem I11.dice (h : I11 Pa H d) (D : DiceAt H' d) (f : Frm [d] H H') : I11 Pa H' d := ⟨D, tabs_dice h.T h.D f⟩
theorem I11.ext (h : I11 Pa H d) (e : LamX.ExtN H H') (T : LamX.Tabs [(Pa, lamQ)] H') : I11 Pa H' d := ⟨dice_ext h.D e, T⟩
end
/-- what is answered of rows -/
def AnsR (ca cb : List Int) (rs : List Row) (v : V) (d : PyData) : Prop := (∃ (i : Nat) (r : Row), v = .int (i : Nat) ∧ d = .int (i : Nat) ∧ rs[i]? = some r ∧ goodRow ca cb r = false ∧ ∀ j r', j < i → rs[j]? = some r' → goodRow ca cb r' = true) ∨ (v = .non ∧ d = .none ∧ ∀ r ∈ rs, goodRow ca cb r = true)
theorem AnsR.eq {ca cb : List Int} {rs : List Row} {v v' : V} {d d' : PyData} (a : AnsR ca cb rs v d) (b : AnsR ca cb rs v' d') : v = v' := by
  rcases a with ⟨i, r, rfl, _, h1, h2, h3⟩ | ⟨rfl, _, h⟩
  · rcases b with ⟨i', r', rfl, _, g1, g2, g3⟩ | ⟨rfl, _, g⟩
    · rcases Nat.lt_trichotomy i i' with q | q | q
      · rw [g3 i r q h1] at h2; cases h2
      · rw [q]
      · rw [h3 i' r' q g1] at g2; cases g2
    · rw [g r (List.mem_of_getElem? h1)] at h2; cases h2
  · rcases b with ⟨i', r', rfl, _, g1, g2, g3⟩ | ⟨rfl, _, g⟩
    · rw [h r' (List.mem_of_getElem? g1)] at g2; cases g2
    · rfl
theorem AnsR.dp {ca cb : List Int} {rs : List Row} {v : V} {d : PyData} (a : AnsR ca cb rs v d) {K : PySem.W.Frag} {H : Hp} : Dp K H v d := by
  rcases a with ⟨i, r, rfl, rfl, _⟩ | ⟨rfl, rfl, _⟩
  · exact .int _
  · exact .non
theorem AnsR.lv {ca cb : List Int} {rs : List Row} {v : V} {d : PyData} (a : AnsR ca cb rs v d) : lv 0 d := by
  rcases a with ⟨i, r, rfl, rfl, _⟩ | ⟨rfl, rfl, _⟩
  · exact trivial
  · exact trivial
/-- rows in a list -/
structure RowsAt (H : Hp) (d p : Addr) (xs : List V) (rs : List Row) : Prop where
  L : H p = some (.lst xs)
  A : ImAll H xs (rs.map rowD)
  ok : ∀ r ∈ rs, okRow r
  np : p ≠ d
theorem RowsAt.same {H H' : Hp} {d p : Addr} {xs : List V} {rs : List Row} (g : RowsAt H d p xs rs) (s : Same H H') : RowsAt H' d p xs rs := ⟨s _ _ g.L, g.A.same s, g.ok, g.np⟩
theorem RowsAt.dice {H H' : Hp} {d p : Addr} {xs : List V} {rs : List Row} (g : RowsAt H d p xs rs) (f : Frm [d] H H') : RowsAt H' d p xs rs := ⟨f _ _ g.L (by simp [g.np]), g.A.frm f, g.ok, g.np⟩
theorem no_bad {rs : List Row} (ok : ∀ r ∈ rs, okRow r) (hl : rs.length ≤ 300) {i : Nat} : ¬ firstBad (rs.map rowD) i := by
  rintro ⟨⟨d, hd, hb⟩, _⟩
  rw [List.getElem?_map] at hd
  cases e : rs[i]? with
  | none => rw [e] at hd; cases hd
  | some r =>
    rw [e] at hd
    have ed : rowD r = d := Option.some.inj hd
    subst ed
    have hi := (List.getElem?_eq_some_iff.mp e).1
    rcases hb with z | z
    · omega
    · rw [isRow_row (ok r (List.mem_of_getElem? e))] at z
      cases z
/-- good rows, one that is none or too many, more -/
theorem bad_at {rs : List Row} (ok : ∀ r ∈ rs, okRow r) (hl : rs.length ≤ 300) {d : PyData} {es : List PyData} (hb : badR rs.length d) : firstBad (rs.map rowD ++ d :: es) rs.length := by
  refine ⟨⟨d, ?_, hb⟩, fun j d' hj hd' => ?_⟩
  · rw [List.getElem?_append_right (by simp)]
    simp
  · rw [List.getElem?_append_left (by simpa using hj), List.getElem?_map] at hd'
    rw [List.getElem?_eq_getElem hj] at hd'
    have ed : rowD rs[j] = d' := Option.some.inj hd'
    subst ed
    rintro (z | z)
    · omega
    · rw [isRow_row (ok _ (List.getElem_mem hj))] at z
      cases z
theorem rows_inj {rs rs' : List Row} (h : rs.map rowD = rs'.map rowD) : rs = rs' := (List.map_inj_right (fun a b z => by
  obtain ⟨a1, a2, a3, a4⟩ := a
  obtain ⟨b1, b2, b3, b4⟩ := b
  simp [rowD] at z
  obtain ⟨rfl, rfl, rfl, rfl⟩ := z
  rfl)).mp h
theorem lv_up {d : PyData} (h : lv 0 d) : ∀ n, lv n d
  | 0 => h
  | n + 1 => lv_mono (lv_up h n)
def ansN (ca cb : List Int) (rs : List Row) (H : Hp) : VK := fun v H' => ∃ dd, AnsR ca cb rs v dd ∧ Same H H'
theorem rdat_rows {rs : List Row} : ∀ d ∈ rs.map rowD, rdat d := fun d hd => by
  obtain ⟨r, _, rfl⟩ := List.mem_map.mp hd
  exact rdat_row r
theorem both_ok {ca cb : List Int} {rs : List Row} {H : Hp} :
    (∀ i r, rs[i]? = some r → goodRow ca cb r = false → (∀ j r', j < i → rs[j]? = some r' → goodRow ca cb r' = true) → ∀ H', Same H H' → ansN ca cb rs H (.int (i : Nat)) H') ∧ ((∀ r ∈ rs, goodRow ca cb r = true) → ∀ H', Same H H' → ansN ca cb rs H .non H') :=
  ⟨fun i r e1 e2 e3 H' s => ⟨.int (i : Nat), .inl ⟨i, r, rfl, rfl, e1, e2, e3⟩, s⟩, fun e H' s => ⟨.none, .inr ⟨rfl, rfl, e⟩, s⟩⟩
theorem both_eq {ca cb : List Int} {rs rs' : List Row} {H : Hp} (e : rs.map rowD = rs'.map rowD) :
    (∀ i r, rs'[i]? = some r → goodRow ca cb r = false → (∀ j r', j < i → rs'[j]? = some r' → goodRow ca cb r' = true) → ∀ H', Same H H' → ansN ca cb rs H (.int (i : Nat)) H') ∧ ((∀ r ∈ rs', goodRow ca cb r = true) → ∀ H', Same H H' → ansN ca cb rs H .non H') := by
  have e := rows_inj e
  subst e
  exact both_ok
theorem ok_law (T : Txt K mg) (TB : LamX.TabB base mg T.lC T.lP) : FnOk P w K mg base CX0 7 T.a_law T.fd_law P_law (sp_law T) := by
  have G__law_dice := ok__law_dice (P := P) (w := w) (base := base) T
  have G__law_log := ok__law_log (P := P) (w := w) (base := base) T
  have G__law_off := ok__law_off (P := P) (w := w) (base := base) T
  have G__law_can := ok__law_can (P := P) (w := w) (base := base) T
  have G__law_alike := ok__law_alike (P := P) (w := w) (base := base) T 4
  have G_judged := ok_judged (P := P) (w := w) (base := base) T
  have G_stretches := ok_stretches (P := P) (w := w) (base := base) T
  have G__law_row := ok__law_row (P := P) (w := w) (base := base) T
  have G__law_first := ok__law_first (P := P) (w := w) (base := base) T
  have G__law_no_row := ok__law_no_row (P := P) (w := w) (base := base) T
  have bnw := T.b__law_word
  obtain ⟨ocw, odw, kVw, dcw, pmw, anw, cdw, ctw, slw, efw, lkw, hcw⟩ := T.F__law_word.ex
  rw [efw] at lkw bnw
  refine T.fl.ok sc_law (fun vs H Q E h => ?_) (fun A outer s H vs Q E hr h => ?_)
  · obtain ⟨a, ns, rfl, _⟩ := h
    rfl
  · obtain ⟨a, ns, rfl, hS, hlen, tb0, k⟩ := h
    have hu64 : (A.deeper (envOfC "law" (defScope s_law) s.heap.objs.size T.a_law (.ref T.lC))).units + 64 < cLine := by have := hr.un; omega
    refine ⟨_, (pss_cons (ps_set (i := 1) sc_law.nd rfl (by first | exact Or.inl rfl | exact Or.inr rfl) (pe_call G__law_dice (hr.mono (by decide)) rfl T.g__law_dice T.F__law_dice.kp T.b__law_dice .nil pass0 (pa_cons (pv 0) (pa_cons pe_int pa_nil))))
    (pss_cons (ps_for PassesOwn.never rfl (pi_range1 rfl T.n_range (pa_cons pe_int pa_nil)) (pg_name (i := 2) sc_law.nd rfl (by first | exact Or.inl rfl | exact Or.inr rfl))
      (pss_cons (ps_asg (pe_tup (pa_cons (pe_call G__law_can (hr.mono (by decide)) rfl T.g__law_can T.F__law_can.kp T.b__law_can .nil pass0 (pa_cons (pv 1) pa_nil)) (pa_cons (pe_call G__law_can (hr.mono (by decide)) rfl T.g__law_can T.F__law_can.kp T.b__law_can .nil pass0 (pa_cons (pv 1) pa_nil)) pa_nil))) (pg_tup rfl (pgs_cons (pg_name (i := 3) sc_law.nd rfl (by first | exact Or.inl rfl | exact Or.inr rfl)) (pgs_cons (pg_name (i := 4) sc_law.nd rfl (by first | exact Or.inl rfl | exact Or.inr rfl)) pgs_nil))))
      (pss_cons (ps_cut (ps_set (i := 5) sc_law.nd rfl (by first | exact Or.inl rfl | exact Or.inr rfl) (pe_lc (own := [("_law_manner", 6)]) (g := (gName 6)) (tt := (tTest (tOp (rIn K false) (tVar 6) (tVar 4)))) (te := (tVar 6)) rfl sc_law.nd (pi_tup (pv 3)) (blkOk_by (own := [("_law_manner", 6)]) (N := N_law) (sc := defScope s_law) (by decide +kernel)) (fun _ _ _ _ _ => (pg_name (i := 6) sc_law.nd rfl (by first | exact Or.inl rfl | exact Or.inr rfl))) (fun _ _ _ _ _ => (pts_one (pt_cmpR op_in_seq (pv 6) (pv 4) (by rfl)))) (fun _ _ _ _ _ => (pv 6)))))
      (pss_cons (ps_set (i := 7) sc_law.nd rfl (by first | exact Or.inl rfl | exact Or.inr rfl) (pe_call G__law_log (hr.mono (by decide)) rfl T.g__law_log T.F__law_log.kp T.b__law_log .nil pass0 (pa_cons (pv 1) pa_nil)))
      (pss_cons (ps_cut (ps_if (pt_cmpR op_eq (pe_call G__law_off (hr.mono (by decide)) rfl T.g__law_off T.F__law_off.kp T.b__law_off .nil pass0 (pa_cons (pv 1) (pa_cons pe_int pa_nil))) pe_int (nomark _))
        (pss_one (ps_setLc (i := 7) (own := [("_law_row_here", 8)]) (g := (gName 8)) (tt := tYes) (te := (tTup (tCons (tOp (rIxL K) (tVar 5) (tOp (rI (fun _ j => 0 < j) fun i j => .int (i % j)) (tOp (rIxT K) (tVar 8) (tC (.int 0))) (tCB (fun xs H Q => ∃ p ys, xs = [.ref p] ∧ (SqL K H p ys ∨ SqT K H p ys) ∧ Q (.int ys.length) H) (tCons (tVar 5) tNil)))) (tCons (tOp (rIxT K) (tVar 8) (tC (.int 1))) (tCons (tOp (rIxL K) (tVar 5) (tOp (rI (fun _ j => 0 < j) fun i j => .int (i % j)) (tOp (rIxT K) (tVar 8) (tC (.int 0))) (tCB (fun xs H Q => ∃ p ys, xs = [.ref p] ∧ (SqL K H p ys ∨ SqT K H p ys) ∧ Q (.int ys.length) H) (tCons (tVar 5) tNil)))) (tCons (tOp (rIxT K) (tVar 8) (tC (.int 3))) tNil)))))) rfl sc_law.nd rfl rfl (sw_true rfl rfl rfl (by decide +kernel)) (pi_list (pv 7)) (blkOk_by (own := [("_law_row_here", 8)]) (N := N_law) (sc := defScope s_law) (by decide +kernel)) (fun _ _ _ _ _ => (pg_name (i := 8) sc_law.nd rfl (by first | exact Or.inl rfl | exact Or.inr rfl))) (fun _ _ _ _ _ => pts_nil) (fun _ _ _ _ _ => (pe_tup (pa_cons (pe_ix ix_list (pv 5) (pe_op op_mod (pe_ix ix_tup (pv 8) pe_int (fun _ _ => rfl)) (pe_callB call_len_seq (by rfl) T.n_len (by decide +kernel) (pa_cons (pv 5) pa_nil))) (fun _ _ => rfl)) (pa_cons (pe_ix ix_tup (pv 8) pe_int (fun _ _ => rfl)) (pa_cons (pe_ix ix_list (pv 5) (pe_op op_mod (pe_ix ix_tup (pv 8) pe_int (fun _ _ => rfl)) (pe_callB call_len_seq (by rfl) T.n_len (by decide +kernel) (pa_cons (pv 5) pa_nil))) (fun _ _ => rfl)) (pa_cons (pe_ix ix_tup (pv 8) pe_int (fun _ _ => rfl)) pa_nil))))))))
        pss_nil))
      (pss_cons (ps_for PassesOwn.never rfl (pi_range1 rfl T.n_range (pa_cons (pe_call G__law_off (hr.mono (by decide)) rfl T.g__law_off T.F__law_off.kp T.b__law_off .nil pass0 (pa_cons (pv 1) (pa_cons pe_int pa_nil))) pa_nil)) (pg_name (i := 9) sc_law.nd rfl (by first | exact Or.inl rfl | exact Or.inr rfl))
        (pss_cons (ps_set (i := 10) sc_law.nd rfl (by first | exact Or.inl rfl | exact Or.inr rfl) (pe_call G__law_off (hr.mono (by decide)) rfl T.g__law_off T.F__law_off.kp T.b__law_off .nil pass0 (pa_cons (pv 1) (pa_cons (pe_op op_add (pe_callB call_len_seq (by rfl) T.n_len (by decide +kernel) (pa_cons (pv 7) pa_nil)) pe_int) pa_nil))))
        (pss_one (ps_cut (ps_set (i := 7) sc_law.nd rfl (by first | exact Or.inl rfl | exact Or.inr rfl) (pe_op op_cat (pe_op op_cat (pe_slice sl_list (pv 7) po_none (po_some (pv 10))) (pe_lst (pa_cons (pe_call G__law_row (hr.mono (by decide)) rfl T.g__law_row T.F__law_row.kp T.b__law_row .nil pass0 (pa_cons (pv 1) pa_nil)) pa_nil))) (pe_slice sl_list (pv 7) (po_some (pe_op op_add (pv 10) pe_int)) po_none)))))))
      (pss_cons (ps_set (i := 11) sc_law.nd rfl (by first | exact Or.inl rfl | exact Or.inr rfl) (pe_callTy call_list_of (by rfl) T.n_list (by decide +kernel) (pa_cons (pv 7) pa_nil)))
      (pss_cons (ps_if (PW.pt (pw_or (pt_not (pt_val (pe_call G__law_alike (hr.mono (by decide)) rfl T.g__law_alike T.F__law_alike.kp T.b__law_alike .nil pass0 (pa_cons (pe_cut (pe_call G_judged (hr.mono (by decide)) rfl T.g_judged T.F_judged.kp T.b_judged .nil passL (pa_cons (pv 3) (pa_cons (pv 4) (pa_cons (pv 11) pa_nil))))) (pa_cons (pe_cut (pe_call G__law_first (hr.mono (by decide)) rfl T.g__law_first T.F__law_first.kp T.b__law_first .nil pass0 (pa_cons (pv 3) (pa_cons (pv 4) (pa_cons (pv 7) pa_nil))))) pa_nil))))) (pw_or1 (pt_cmpR (op_neD hu64) (pv 11) (pv 7) (nomark _)))))
        (pss_one (ps_ret pe_bl))
        pss_nil)
      (pss_cons (ps_set (i := 10) sc_law.nd rfl (by first | exact Or.inl rfl | exact Or.inr rfl) (pe_call G__law_off (hr.mono (by decide)) rfl T.g__law_off T.F__law_off.kp T.b__law_off .nil pass0 (pa_cons (pv 1) (pa_cons (pe_op op_add (pe_callB call_len_seq (by rfl) T.n_len (by decide +kernel) (pa_cons (pv 7) pa_nil)) pe_int) pa_nil))))
      (pss_cons (ps_cut (ps_set (i := 12) sc_law.nd rfl (by first | exact Or.inl rfl | exact Or.inr rfl) (pe_op op_cat (pe_op op_cat (pe_op op_cat (pe_slice sl_list (pv 7) po_none (po_some (pv 10))) (pe_lst (pa_cons (pe_call G__law_no_row (hr.mono (by decide)) rfl T.g__law_no_row T.F__law_no_row.kp T.b__law_no_row .nil pass0 (pa_cons (pv 1) pa_nil)) pa_nil))) (pe_slice sl_list (pv 7) (po_some (pv 10)) po_none)) (pe_op op_rep (pe_lst (pa_cons (pe_tup pa_nil) pa_nil)) (pe_call G__law_off (hr.mono (by decide)) rfl T.g__law_off T.F__law_off.kp T.b__law_off .nil pass0 (pa_cons (pv 1) (pa_cons pe_int pa_nil)))))))
      (pss_cons (ps_set (i := 13) sc_law.nd rfl (by first | exact Or.inl rfl | exact Or.inr rfl) (pe_lst (pa_cons (pe_lamF (T := [(T.lP, lamQ)]) TB rfl (.head _) (fun p hp _ => by rw [List.mem_singleton.mp hp]; rfl) (NdefX.ndef_free (fr := []) (by show NdefX.ndefB (defScope s_law) _ [] = true; decide +kernel)) rfl) (pa_cons (pe_lamD (T := [(T.lP, lamQ)]) TB rfl (.head _) (fun p hp _ => by rw [List.mem_singleton.mp hp]; rfl) (NdefX.ndef_free (fr := []) (by show NdefX.ndefB (defScope s_law) _ [] = true; decide +kernel)) rfl rfl) pa_nil))))
      (pss_cons (ps_cut (ps_if (pt_not (pt_val (pe_call G__law_alike (hr.mono (by decide)) rfl T.g__law_alike T.F__law_alike.kp T.b__law_alike .nil pass0 (pa_cons (pe_lcK (own := [("_law_work", 14)]) (g := (gName 14)) (tt := fun σL => tYes) (te := fun σL => (tWordX (cxOf CX0 P w K mg base N_law "law" (defScope s_law) T.a_law (.ref T.lC) A outer s H E).nox 5 (fun _ => σL) (tW T) (tVar 14))) rfl sc_law.nd (pi_list (pv 13)) (blkOk_by (own := [("_law_work", 14)]) (N := N_law) (sc := defScope s_law) (by decide +kernel)) (fun _ _ _ _ _ => (pg_name (i := 14) sc_law.nd rfl (by first | exact Or.inl rfl | exact Or.inr rfl))) (fun pins σL s0 H0 C cl ob J z => pts_nil) (fun pins σL s0 H0 C cl ob J z => (pe_word (k := 5) (sel := fun _ => σL) (known_blk J z) rfl T.g__law_word T.F__law_word.kp lkw hcw bnw sc__law_word rfl (.inl rfl) (fun q => gives__law_word T rfl rfl rfl rfl rfl q) (hr.mono (by decide)) (pv 14)))) (pa_cons (pe_op op_rep (pe_lst (pa_cons (pe_tup (pa_cons pe_str (pa_cons (pv 10) pa_nil))) pa_nil)) pe_int) pa_nil)))))
        (pss_one (ps_ret pe_bl))
        pss_nil))
      (pss_cons (ps_set (i := 15) sc_law.nd rfl (by first | exact Or.inl rfl | exact Or.inr rfl) (pe_op op_rep (pe_lst (pa_cons (pe_call G__law_row (hr.mono (by decide)) rfl T.g__law_row T.F__law_row.kp T.b__law_row .nil pass0 (pa_cons (pv 1) pa_nil)) pa_nil)) pe_int))
      (pss_cons (ps_if (pt_cmpR (op_neD hu64) (pe_word (k := 5) (sel := id) known_def rfl T.g__law_word T.F__law_word.kp lkw hcw bnw sc__law_word rfl (.inl rfl) (fun q => gives__law_word T rfl rfl rfl rfl rfl q) (hr.mono (by decide)) (pe_lamF (T := [(T.lP, lamQ)]) TB rfl (.head _) (fun p hp _ => by rw [List.mem_singleton.mp hp]; rfl) (NdefX.ndef_free (fr := []) (by show NdefX.ndefB (defScope s_law) _ [] = true; decide +kernel)) rfl)) (pe_tup (pa_cons pe_str (pa_cons pe_int pa_nil))) (nomark _))
        (pss_one (ps_ret pe_bl))
        pss_nil)
      (pss_one (ps_if (pt_not (pt_val (pe_call G__law_alike (hr.mono (by decide)) rfl T.g__law_alike T.F__law_alike.kp T.b__law_alike .nil pass0 (pa_cons (pe_cut (pe_call G_judged (hr.mono (by decide)) rfl T.g_judged T.F_judged.kp T.b_judged .nil passL (pa_cons (pv 3) (pa_cons (pv 4) (pa_cons (pv 15) pa_nil))))) (pa_cons (pe_cut (pe_call G__law_first (hr.mono (by decide)) rfl T.g__law_first T.F__law_first.kp T.b__law_first .nil pass0 (pa_cons (pv 3) (pa_cons (pv 4) (pa_cons (pv 15) pa_nil))))) pa_nil)))))
        (pss_one (ps_ret pe_bl))
        pss_nil))))))))))))))))
    (pss_one (ps_ret pe_bl)))), ?_⟩
    have big : ∀ {n : Nat}, n ≤ 3000000 → n ≤ sizeLine := fun h => by show _ ≤ 16777216; omega
    refine ⟨_, rfl, a, ns, 0, rfl, hS, hlen, fun d H0 hd D0 s0 => ?_⟩
    have I0 : I11 T.lP H0 d := ⟨D0, tabs_same tb0 s0⟩
    refine ⟨5, rfl, by decide, by decide, for_range (lo := 0) (n := 5) (fun i σ H' => (∃ v2 v3 v4 v5 v7 v9 v10 v11 v12 v13 v15 : Option V, σ = [some (V.ref a), some (.ref d), v2, v3, v4, v5, none, v7, none, v9, v10, v11, v12, v13, none, v15]) ∧ I11 T.lP H' d)
      ⟨⟨_, _, _, _, _, _, _, _, _, _, _, rfl⟩, I0⟩ ?_ (fun σ H' _ => k H')⟩
    rintro turn σ H1 hturn ⟨⟨v2, v3, v4, v5, v7, v9, v10, v11, v12, v13, v15, rfl⟩, I1⟩
    refine ⟨_, rfl, d, rfl, I1.D, fun t0 ca H2 hca ht0 D2 f2 => ?_⟩
    have I2 := I1.dice D2 f2
    refine ⟨_, rfl, d, rfl, I2.D, fun t1 cb Ha hcb ht1a Da fa => ?_⟩
    have ht0a := fa.tups _ _ ht0
    have Ia := I2.dice Da fa
    refine ⟨(by show 2 ≤ sizeLine; decide), fun pr hpr => ?_⟩
    have sa := Same.upd_new (o := .tup [.ref t0, .ref t1]) hpr
    have qa := upd_same (H := Ha) (a := pr) (o := .tup [.ref t0, .ref t1])
    generalize upd Ha pr (.tup [.ref t0, .ref t1]) = H3 at sa qa ⊢
    have I3 := Ia.same sa
    have ht03 := sa _ _ ht0a
    have ht1 := sa _ _ ht1a
    refine ⟨pr, _, rfl, SqT.of qa, rfl, _, _, rfl, _, _, rfl, rfl, ?_⟩
    -- both
    refine ⟨fun σ' H' => ∃ (u : Addr) (us : List Int), σ' = [some (V.ref a), some (.ref d), some (.int (0 + (turn : Nat))), some (.ref t0), some (.ref t1), some (.ref u), none, v7, none, v9, v10, v11, v12, v13, none, v15] ∧ Same H3 H' ∧ H3 u = none ∧ H' u = some (.lst (us.map V.int)) ∧ us = ca.filter (fun m => decide (m ∈ cb)), ?_, ?_⟩
    · refine ⟨_, rfl, t0, rfl, ⟨_, SqT.of ht03⟩, fun D hD => ?_⟩
      refine lc_tup (K := K) (a := t0) (xs := ca.map V.int) (fun j H' => Same H3 H' ∧ H' D = some (.lst (((ca.take j).filter (fun m => decide (m ∈ cb))).map V.int)))
        ⟨Same.upd_new hD, upd_same⟩ (fun j H' _ h => SqT.of (h.1 _ _ ht03)) ?_ ?_
      · rintro j v H' hj ⟨s3, hD3⟩
        obtain ⟨m, hm, rfl⟩ := getmap hj
        have htk := take_more hm
        refine ⟨rfl, _, rfl, _, rfl, t1, _, rfl, .inr (SqT.of (s3 _ _ ht1)), rfl, flat_ints _, _, rfl, ?_⟩
        show if inV (.int m) (cb.map V.int) = true then _ else _
        rw [inV_int]
        refine iteD (fun q => ?_) (fun q => ?_)
        · refine ⟨_, rfl, _, hD3, ?_, ((Frm.of_same (S := []) s3).own hD (Frm.updL hD3)).same, ?_⟩
          · rw [List.length_map]
            have := List.length_filter_le (fun m => decide (m ∈ cb)) (ca.take j)
            have := (List.take_sublist j ca).length_le
            have := hca.2.2.2
            exact small1000 (by omega)
          · rw [upd_same, htk, List.filter_append, List.map_append]
            simp [List.filter, q]
        · refine ⟨s3, ?_⟩
          rw [hD3, htk, List.filter_append]
          simp [List.filter, q]
      · rintro H' ⟨s3, hD3⟩
        rw [List.length_map, List.take_length] at hD3
        exact ⟨D, _, rfl, s3, hD, hD3, rfl⟩
    rintro σ' H4 ⟨u, us, rfl, s4, hun, hu4, hus⟩
    have I4 := I3.same s4
    have ht04 := s4 _ _ ht03
    have ht14 := s4 _ _ ht1
    have nud := I3.D.ne_new hun
    have uok : ∀ m ∈ us, 0 ≤ m ∧ m ≤ 9 := fun m hm => by
      rw [hus, List.mem_filter] at hm
      exact hca.1 m hm.1
    have upos : 0 < us.length := List.length_pos_of_mem (a := 0) (by rw [hus, List.mem_filter]; exact ⟨hca.2.2.1, decide_eq_true hcb.2.2.1⟩)
    have ulen : us.length ≤ 60 := by
      rw [hus]
      exact Nat.le_trans (List.length_filter_le _ _) hca.2.2.2
    -- rows
    refine ⟨_, rfl, d, rfl, I4.D, fun p xs rs H5 hok hl hpn hp hA D5 f5 => ?_⟩
    have I5 := I4.dice D5 f5
    have R5 : RowsAt H5 d p xs rs := ⟨hp, hA, hok, I4.D.ne_new hpn⟩
    have hu5 := f5 _ _ hu4 (by simp [nud])
    refine ⟨fun σ' H' => ∃ (p : Addr) (xs : List V) (rs : List Row), σ' = [some (V.ref a), some (.ref d), some (.int (0 + (turn : Nat))), some (.ref t0), some (.ref t1), some (.ref u), none, some (.ref p), none, v9, v10, v11, v12, v13, none, v15] ∧ RowsAt H' d p xs rs ∧ rs.length ≤ 40 ∧ I11 T.lP H' d ∧ Frm [d] H5 H', ?_, ?_⟩
    · refine ⟨_, rfl, d, 2, rfl, I5.D, by decide, by decide, fun r H6 r0 r1 D6 f6 => ⟨rfl, _, rfl, ?_⟩⟩
      have I6 := I5.dice D6 f6
      have R6 := R5.dice f6
      have hu6 := f6 _ _ hu5 (by simp [nud])
      refine iteD (fun _ => ?_) (fun _ => ⟨p, xs, rs, rfl, R6, hl, I6, f6⟩)
      refine ⟨_, rfl, p, rfl, ⟨_, SqL.of R6.L⟩, fun D hD => ?_⟩
      have nDd := I6.D.ne_new hD
      refine lc_list (K := K) (a := p) (xs := xs) (fun i H' => Same H6 H' ∧ ∃ (ys : List V) (qs : List Row), H' D = some (.lst ys) ∧ ImAll H' ys (qs.map rowD) ∧ (∀ r ∈ qs, okRow r) ∧ qs.length = i)
        ⟨Same.upd_new hD, [], [], upd_same, .nil, fun r hr => by simp at hr, rfl⟩ (fun i H' _ h => SqL.of (h.1 _ _ R6.L)) ?_ ?_
      · rintro i x H7 hi ⟨s7, ys, qs, hD7, hA7, hok7, hl7⟩
        obtain ⟨t, r, hri, rfl, ht⟩ := rows_get' R6.A hi
        have ht7 := s7 _ _ ht
        have hu7 := s7 _ _ hu6
        obtain ⟨y, hy, hat⟩ := at_get (l := us.map V.int) (r := r.1 % (us.length : Nat)) (Int.emod_nonneg _ (by omega)) (by rw [List.length_map]; exact Int.emod_lt_of_pos _ (by omega))
        obtain ⟨m, hm, rfl⟩ := List.mem_map.mp hy
        have hm9 := uok m hm
        have hil : i < rs.length := (List.getElem?_eq_some_iff.mp hri).1
        have e0 : ((us.map V.int).length : Int) = (us.length : Nat) := by rw [List.length_map]
        refine ⟨rfl, _, rfl, _, rfl, t, _, _, _, rfl, rfl, SqT.of ht7, atI_nat (j := 0) rfl, _, rfl, u, _, rfl, .inl (SqL.of hu7), _, _, rfl, rfl, (by rw [e0]; omega), ?_⟩
        rw [e0]
        refine ⟨u, _, _, _, rfl, rfl, SqL.of hu7, hat, _, rfl, t, _, _, _, rfl, rfl, SqT.of ht7, atI_nat (j := 1) rfl, _, rfl, _, rfl, t, _, _, _, rfl, rfl, SqT.of ht7, atI_nat (j := 0) rfl, _, rfl, u, _, rfl, .inl (SqL.of hu7), _, _, rfl, rfl, (by rw [e0]; omega), ?_⟩
        rw [e0]
        refine ⟨u, _, _, _, rfl, rfl, SqL.of hu7, hat, _, rfl, t, _, _, _, rfl, rfl, SqT.of ht7, atI_nat (j := 3) rfl, (by show 4 ≤ sizeLine; decide), fun q hq => ?_⟩
        have s8 := Same.upd_new (o := .tup [.int m, .bl r.2.1, .int m, .bl r.2.2.2]) hq
        have q8 : (upd H7 q (.tup [.int m, .bl r.2.1, .int m, .bl r.2.2.2])) q = some (.tup (rowV (m, r.2.1, m, r.2.2.2))) := upd_same
        have hD8 := s8 _ _ hD7
        refine ⟨ys, hD8, big (by rw [hA7.length, List.length_map]; omega), ((Frm.of_same (s7.trans s8)).own hD (Frm.updL hD8)).same, _, qs ++ [(m, r.2.1, m, r.2.2.2)], upd_same, ?_, fun z hz => ?_, by simp [hl7]⟩
        · rw [List.map_append]
          exact ((hA7.same s8).append (.cons (im_row q8) .nil)).updL hD8
        · rcases List.mem_append.mp hz with z1 | z1
          · exact hok7 z z1
          · rw [List.mem_singleton.mp z1]
            exact ⟨hm9, hm9⟩
      · rintro H7 ⟨s7, ys, qs, hD7, hA7, hok7, hl7⟩
        exact ⟨D, ys, qs, rfl, ⟨hD7, hA7, hok7, nDd⟩, by rw [hl7, rows_len R6.A]; exact hl, I6.same s7, f6.trans (Frm.of_same s7)⟩
    rintro σ' H6 ⟨p, xs, rs, rfl, R6, hl6, I6, f6⟩
    have ht06 := (f5.trans f6).tups _ _ ht04
    have ht16 := (f5.trans f6).tups _ _ ht14
    clear R5 hA hp hpn hok hl hu5 hu4
    -- changes
    refine ⟨_, rfl, d, 3, rfl, I6.D, by decide, by decide, fun n H7 n0 n3 D7 f7 => ?_⟩
    have I7 := I6.dice D7 f7
    refine ⟨n, rfl, by omega, by omega, for_range (lo := 0) (n := n.toNat) (fun i σ H' => ∃ (p : Addr) (xs : List V) (rs : List Row) (v9 v10 : Option V), σ = [some (V.ref a), some (.ref d), some (.int (0 + (turn : Nat))), some (.ref t0), some (.ref t1), some (.ref u), none, some (.ref p), none, v9, v10, v11, v12, v13, none, v15] ∧ RowsAt H' d p xs rs ∧ rs.length ≤ 40 + i ∧ I11 T.lP H' d ∧ Frm [d] H7 H')
      ⟨p, xs, rs, _, _, rfl, R6.dice f7, hl6, I7, .refl _ _⟩ ?_ ?_⟩
    · rintro i σ H8 hi ⟨p, xs, rs, w9, w10, rfl, R8, hl8, I8, f8⟩
      have hxl := rows_len R8.A
      refine ⟨_, rfl, _, rfl, p, _, rfl, .inl (SqL.of R8.L), _, _, rfl, rfl, d, _, rfl, I8.D, by omega, by omega, fun at_ H9 a0 a1 D9 f9 => ?_⟩
      have I9 := I8.dice D9 f9
      have R9 := R8.dice f9
      obtain ⟨m, rfl⟩ : ∃ m : Nat, at_ = m := ⟨at_.toNat, by omega⟩
      refine ⟨fun σ' H' => ∃ (p : Addr) (xs : List V) (rs : List Row), σ' = [some (V.ref a), some (.ref d), some (.int (0 + (turn : Nat))), some (.ref t0), some (.ref t1), some (.ref u), none, some (.ref p), none, some (.int (0 + (i : Nat))), some (.int (m : Nat)), v11, v12, v13, none, v15] ∧ RowsAt H' d p xs rs ∧ rs.length ≤ 40 + (i + 1) ∧ I11 T.lP H' d ∧ Frm [d] H9 H', ?_, ?_⟩
      · refine ⟨_, rfl, _, rfl, _, rfl, p, xs, rfl, SqL.of R9.L, fun z1 hz1 => ?_⟩
        rw [cutG_to]
        have s10 := Same.upd_new (o := .lst (xs.take m)) hz1
        have q10 := upd_same (H := H9) (a := z1) (o := .lst (xs.take m))
        have n1 := I9.D.ne_new hz1
        generalize upd H9 z1 (.lst (xs.take m)) = H10 at s10 q10 ⊢
        have I10 := I9.same s10
        have R10 := R9.same s10
        refine ⟨_, rfl, d, rfl, I10.D, fun t r H11 okr htn ht D11 f11 => ?_⟩
        have I11' := I10.dice D11 f11
        have R11 := R10.dice f11
        have q11 := f11 _ _ q10 (by simp [n1])
        refine ⟨(by show 1 ≤ sizeLine; decide), fun z2 hz2 => ?_⟩
        have s12 := Same.upd_new (o := .lst [.ref t]) hz2
        have q12 := upd_same (H := H11) (a := z2) (o := .lst [.ref t])
        generalize upd H11 z2 (.lst [.ref t]) = H12 at s12 q12 ⊢
        have tl1 := List.length_take_le m xs
        refine ⟨z1, z2, _, _, rfl, rfl, s12 _ _ q11, q12, big (by show _ + 1 ≤ _; omega), fun z3 hz3 => ?_⟩
        have s13 := Same.upd_new (o := .lst (xs.take m ++ [.ref t])) hz3
        have q13 := upd_same (H := H12) (a := z3) (o := .lst (xs.take m ++ [.ref t]))
        generalize upd H12 z3 (.lst (xs.take m ++ [.ref t])) = H13 at s13 q13 ⊢
        have s1113 := s12.trans s13
        refine ⟨_, rfl, _, rfl, _, _, rfl, rfl, _, rfl, p, xs, rfl, SqL.of (s1113 _ _ R11.L), fun z4 hz4 => ?_⟩
        rw [cutG_from1]
        have s14 := Same.upd_new (o := .lst (xs.drop (m + 1))) hz4
        have q14 := upd_same (H := H13) (a := z4) (o := .lst (xs.drop (m + 1)))
        generalize upd H13 z4 (.lst (xs.drop (m + 1))) = H14 at s14 q14 ⊢
        have s1114 := s1113.trans s14
        have dl1 : (xs.drop (m + 1)).length ≤ xs.length := by rw [List.length_drop]; omega
        refine ⟨z3, z4, _, _, rfl, rfl, s14 _ _ q13, q14, big (by rw [List.length_append]; show _ + 1 + _ ≤ _; omega), fun z5 hz5 => ?_⟩
        have s15 := Same.upd_new (o := .lst (xs.take m ++ [.ref t] ++ xs.drop (m + 1))) hz5
        have s1115 := s1114.trans s15
        refine ⟨z5, _, rs.take m ++ [r] ++ rs.drop (m + 1), rfl, ⟨upd_same, ?_, fun z hz => ?_, (I11'.same s1114).D.ne_new hz5⟩, ?_, I11'.same s1115, ((Frm.of_same s10).trans f11).trans (Frm.of_same s1115)⟩
        · rw [List.map_append, List.map_append, List.map_take, List.map_drop]
          exact (((R11.A.take m).append (.cons (im_row ht) .nil)).append (R11.A.drop (m + 1))).same s1115
        · simp only [List.mem_append, List.mem_singleton] at hz
          rcases hz with (z1 | z1) | z1
          · exact R11.ok z (List.mem_of_mem_take z1)
          · rw [z1]; exact okr
          · exact R11.ok z (List.mem_of_mem_drop z1)
        · simp only [List.length_append, List.length_take, List.length_drop, List.length_singleton]
          omega
      rintro σ' H10 ⟨p, xs, rs, rfl, R10, hl10, I10, f10⟩
      exact ⟨p, xs, rs, _, _, rfl, R10, hl10, I10, (f8.trans f9).trans f10⟩
    rintro σ H8 ⟨p, xs, rs, w9, w10, rfl, R8, hl8, I8, f8⟩
    have ht08 := (f7.trans f8).tups _ _ ht06
    have ht18 := (f7.trans f8).tups _ _ ht16
    have hl42 : rs.length ≤ 42 := by omega
    have hxl := rows_len R8.A
    clear hl8 I7 R6 hl6 f6 f5
    -- handed
    refine ⟨_, rfl, p, xs, rfl, .inl (SqL.of R8.L), fun h hh => ?_⟩
    have s9 := Same.upd_new (o := .lst xs) hh
    have q9 := upd_same (H := H8) (a := h) (o := .lst xs)
    generalize upd H8 h (.lst xs) = H9 at s9 q9 ⊢
    have R9 := R8.same s9
    have I9 := I8.same s9
    have ht09 := s9 _ _ ht08
    have ht19 := s9 _ _ ht18
    refine ⟨ansN ca cb rs H9, ⟨_, rfl, _, rfl, _, rfl, t0, t1, h, ca, cb, xs, _, rfl, ht09, ht19, hca, hcb, SqL.of q9, R9.A, rdat_rows, fun i hi => absurd hi (no_bad R9.ok (by omega)), fun rs' e' _ _ => both_eq e'⟩, fun v H10 ⟨dd, hv, s10⟩ => ?_⟩
    refine ⟨ansN ca cb rs H10, ⟨_, rfl, _, rfl, _, rfl, t0, t1, p, ca, cb, xs, rs, rfl, s10 _ _ ht09, s10 _ _ ht19, hca, hcb, SqL.of (s10 _ _ R9.L), R9.A.same s10, by omega, both_ok⟩, fun v' H11 ⟨dd', hv', s11⟩ => ?_⟩
    refine ⟨v, v', dd, rfl, hv.dp, (by rw [← hv.eq hv']; exact hv.dp), lv_up hv.lv _, fun H12 s12 => ⟨_, rfl, iteF ?_⟩⟩
    have s912 := (s10.trans s11).trans s12
    have R12 := R9.same s912
    have I12 := I9.same s912
    have l12 : lv 2 (.list (rs.map rowD)) := lv_rows (by omega)
    refine ⟨_, rfl, _, rfl, _, _, .lst (SqL.of (s912 _ _ q9)) R12.A.dp, .lst (SqL.of R12.L) R12.A.dp, shaped_lv l12 (by decide), shaped_lv l12 (by decide), false, congrArg V.bl (by rw [eqv_refl l12]; rfl), iteF ?_⟩
    have ht012 := s912 _ _ ht09
    have ht112 := s912 _ _ ht19
    clear R9 R8 I9 I8 s912 hv hv' q9
    -- where it breaks
    refine ⟨_, rfl, _, rfl, p, _, rfl, .inl (SqL.of R12.L), _, _, rfl, rfl, d, _, rfl, I12.D, by omega, by omega, fun at_ H13 a0 a1 D13 f13 => ?_⟩
    have I13 := I12.dice D13 f13
    have R13 := R12.dice f13
    have ht013 := f13.tups _ _ ht012
    have ht113 := f13.tups _ _ ht112
    obtain ⟨m, rfl⟩ : ∃ m : Nat, at_ = m := ⟨at_.toNat, by omega⟩
    have hm : m ≤ rs.length := by omega
    refine ⟨fun σ' H' => ∃ (B : Addr) (xb : List V) (ds : List PyData), σ' = [some (V.ref a), some (.ref d), some (.int (0 + (turn : Nat))), some (.ref t0), some (.ref t1), some (.ref u), none, some (.ref p), none, w9, some (.int (m : Nat)), some (.ref h), some (.ref B), v13, none, v15] ∧ H' B = some (.lst xb) ∧ ImAll H' xb ds ∧ (∀ d ∈ ds, rdat d) ∧ firstBad ds m ∧ B ≠ d ∧ I11 T.lP H' d ∧ Frm [d] H13 H', ?_, ?_⟩
    · refine ⟨_, rfl, _, rfl, _, rfl, p, xs, rfl, SqL.of R13.L, fun z1 hz1 => ?_⟩
      rw [cutG_to]
      have s14 := Same.upd_new (o := .lst (xs.take m)) hz1
      have q14 := upd_same (H := H13) (a := z1) (o := .lst (xs.take m))
      have n1 := I13.D.ne_new hz1
      generalize upd H13 z1 (.lst (xs.take m)) = H14 at s14 q14 ⊢
      have I14 := I13.same s14
      refine ⟨_, rfl, d, rfl, I14.D, fun v H15 hv D15 f15 => ?_⟩
      have I15 := I14.dice D15 f15
      have R15 := (R13.same s14).dice f15
      have q15 := f15 _ _ q14 (by simp [n1])
      obtain ⟨dv, imv, rdv, nov⟩ := hv
      refine ⟨(by show 1 ≤ sizeLine; decide), fun z2 hz2 => ?_⟩
      have s16 := Same.upd_new (o := .lst [v]) hz2
      have q16 := upd_same (H := H15) (a := z2) (o := .lst [v])
      generalize upd H15 z2 (.lst [v]) = H16 at s16 q16 ⊢
      have tl1 := List.length_take_le m xs
      refine ⟨z1, z2, _, _, rfl, rfl, s16 _ _ q15, q16, big (by show _ + 1 ≤ _; omega), fun z3 hz3 => ?_⟩
      have s17 := Same.upd_new (o := .lst (xs.take m ++ [v])) hz3
      have q17 := upd_same (H := H16) (a := z3) (o := .lst (xs.take m ++ [v]))
      generalize upd H16 z3 (.lst (xs.take m ++ [v])) = H17 at s17 q17 ⊢
      have s1517 := s16.trans s17
      refine ⟨_, rfl, _, rfl, _, rfl, p, xs, rfl, SqL.of (s1517 _ _ R15.L), fun z4 hz4 => ?_⟩
      rw [cutG_from]
      have s18 := Same.upd_new (o := .lst (xs.drop m)) hz4
      have q18 := upd_same (H := H17) (a := z4) (o := .lst (xs.drop m))
      generalize upd H17 z4 (.lst (xs.drop m)) = H18 at s18 q18 ⊢
      have dl1 : (xs.drop m).length ≤ xs.length := by rw [List.length_drop]; omega
      have dl2 : (xs.take m ++ [v]).length ≤ 43 := by rw [List.length_append]; show _ + 1 ≤ _; omega
      refine ⟨z3, z4, _, _, rfl, rfl, s18 _ _ q17, q18, big (by omega), fun z5 hz5 => ?_⟩
      have s19 := Same.upd_new (o := .lst (xs.take m ++ [v] ++ xs.drop m)) hz5
      have q19 := upd_same (H := H18) (a := z5) (o := .lst (xs.take m ++ [v] ++ xs.drop m))
      have s1518 := s1517.trans s18
      have n5 := (I15.same s1518).D.ne_new hz5
      generalize upd H18 z5 (.lst (xs.take m ++ [v] ++ xs.drop m)) = H19 at s19 q19 ⊢
      refine ⟨(by show 0 ≤ sizeLine; decide), fun e he => ?_⟩
      have s20 := Same.upd_new (o := .tup []) he
      have q20 := upd_same (H := H19) (a := e) (o := .tup [])
      generalize upd H19 e (.tup []) = H20 at s20 q20 ⊢
      refine ⟨(by show 1 ≤ sizeLine; decide), fun z6 hz6 => ?_⟩
      have s21 := Same.upd_new (o := .lst [.ref e]) hz6
      have q21 := upd_same (H := H20) (a := z6) (o := .lst [.ref e])
      have s1520 := (s1518.trans s19).trans s20
      have n6 := (I15.same s1520).D.ne_new hz6
      generalize upd H20 z6 (.lst [.ref e]) = H21 at s21 q21 ⊢
      have s1521 := s1520.trans s21
      have I21 := I15.same s1521
      refine ⟨_, rfl, d, 2, rfl, I21.D, by decide, by decide, fun r H22 r0 r2 D22 f22 => ?_⟩
      have I22 := I21.dice D22 f22
      have q22 := f22 _ _ q21 (by simp [n6])
      have z5q := f22 _ _ (s21 _ _ (s20 _ _ q19)) (by simp [n5])
      refine ⟨z6, r, _, rfl, rfl, q22, by omega, by omega, big (by show 1 * _ ≤ _; omega), fun z7 hz7 => ?_⟩
      have s23 := Same.upd_new (o := .lst (List.replicate r.toNat [V.ref e]).flatten) hz7
      have q23 := upd_same (H := H22) (a := z7) (o := .lst (List.replicate r.toNat [V.ref e]).flatten)
      generalize upd H22 z7 (.lst (List.replicate r.toNat [V.ref e]).flatten) = H23 at s23 q23 ⊢
      have fl : (List.replicate r.toNat [V.ref e]).flatten.length ≤ 2 := by
        rw [List.length_flatten, List.map_replicate, List.sum_replicate_nat]
        show _ * 1 ≤ 2
        omega
      have l5 : (xs.take m ++ [v] ++ xs.drop m).length ≤ 100 := by rw [List.length_append]; omega
      refine ⟨z5, z7, _, _, rfl, rfl, s23 _ _ z5q, q23, big (by omega), fun z8 hz8 => ?_⟩
      have s24 := Same.upd_new (o := .lst (xs.take m ++ [v] ++ xs.drop m ++ (List.replicate r.toNat [V.ref e]).flatten)) hz8
      have f1524 : Frm [d] H15 (upd H23 z8 (.lst (xs.take m ++ [v] ++ xs.drop m ++ (List.replicate r.toNat [V.ref e]).flatten))) := ((Frm.of_same s1521).trans f22).trans (Frm.of_same (s23.trans s24))
      have im20 : ImAll H20 [V.ref e] [.tuple []] := .cons (.tup q20 .nil) .nil
      have f2024 : Frm [d] H20 (upd H23 z8 (.lst (xs.take m ++ [v] ++ xs.drop m ++ (List.replicate r.toNat [V.ref e]).flatten))) := ((Frm.of_same s21).trans f22).trans (Frm.of_same (s23.trans s24))
      refine ⟨z8, _, (rs.take m).map rowD ++ dv :: ((rs.drop m).map rowD ++ (List.replicate r.toNat [PyData.tuple []]).flatten), rfl, upd_same, ?_, fun d' hd' => ?_, ?_, (I22.same s23).D.ne_new hz8, (I22.same s23).same s24, ((Frm.of_same s14).trans f15).trans f1524⟩
      · have e1 : (rs.take m).map rowD ++ dv :: ((rs.drop m).map rowD ++ (List.replicate r.toNat [PyData.tuple []]).flatten) = (rs.map rowD).take m ++ [dv] ++ (rs.map rowD).drop m ++ (List.replicate r.toNat [PyData.tuple []]).flatten := by simp [List.map_take, List.map_drop]
        rw [e1]
        exact ((((R15.A.take m).append (.cons imv .nil)).append (R15.A.drop m)).frm f1524).append ((im20.rep _).frm f2024)
      · simp only [List.mem_append, List.mem_cons, List.mem_map] at hd'
        rcases hd' with ⟨r', _, rfl⟩ | rfl | ⟨r', _, rfl⟩ | hz
        · exact rdat_row _
        · exact rdv
        · exact rdat_row _
        · obtain ⟨y, hy, hz⟩ := List.mem_flatten.mp hz
          rw [(List.mem_replicate.mp hy).2] at hz
          rw [List.mem_singleton.mp hz]
          exact fun e he => by simp at he
      · have tl : (rs.take m).length = m := by rw [List.length_take]; omega
        have := bad_at (rs := rs.take m) (d := dv) (es := (rs.drop m).map rowD ++ (List.replicate r.toNat [PyData.tuple []]).flatten) (fun r' hr' => R13.ok r' (List.mem_of_mem_take hr')) (by omega) (.inr nov)
        rw [tl] at this
        exact this
    rintro σ' H14 ⟨B, xb, ds, rfl, hB, hAb, hrd, hfb, nBd, I14, f14⟩
    have ht014 := f14.tups _ _ ht013
    have ht114 := f14.tups _ _ ht113
    clear R13 R12 I13 I12
    -- two works
    refine ⟨I14.T, fun g1 c1 H15 e15 tb15 g1n g1H c1H => ⟨tb15, fun tz g2 c2 H16 e16 tb16 g2n tzH g2H c2H => ⟨(by show 2 ≤ sizeLine; decide), fun W hW => ?_⟩⟩⟩
    have I16 := (I14.ext e15 tb15).ext e16 tb16
    have s17 := Same.upd_new (o := .lst [.ref g1, .ref g2]) hW
    have q17 := upd_same (H := H16) (a := W) (o := .lst [.ref g1, .ref g2])
    generalize upd H16 W (.lst [.ref g1, .ref g2]) = H17 at s17 q17 ⊢
    have I17 := I16.same s17
    have e1417 : LamX.ExtN H14 H17 := fun b o z n => s17 _ _ (e16 _ _ (e15 _ _ z n) n)
    have g1H := s17 _ _ (e16 _ _ g1H lamAt_ne)
    have c1H := s17 _ _ (e16 _ _ c1H LamX.codeO_ne)
    have g2H := s17 _ _ g2H
    have c2H := s17 _ _ c2H
    have tzH := s17 _ _ tzH
    have hB17 := e1417 _ _ hB lst_ne
    have ht017 := e1417 _ _ ht014 tup_ne
    have ht117 := e1417 _ _ ht114 tup_ne
    -- what the two tell
    have hA17 := hAb.ext e1417
    have wlv : ∀ k : Int, lv 1 (.tuple [.str "log", .int k]) := fun k => lv_word (by decide +kernel) k
    -- what a work tells that raises
    have raised : ∀ (n : Nat) (H' : Hp) (cls : Value) (d' : Option Addr), (cls = .ref T.C_BadLog ∧ ∃ dd, d' = some dd ∧ H' dd = some (.xd [("row", .int (n : Nat))])) →
        WordAt K [T.C_BadManners, T.C_BadCount, T.C_BadPart, T.C_BadItem, T.C_Full, T.C_BadLog, T.C_BadText, T.C_BadEnd, T.C_BadStep] T.C_LineError cls d' H' 5 n := by
      rintro n H' cls d' ⟨rfl, dd, rfl, hx⟩
      exact ⟨T.C_BadLog, rfl, by decide, T.wk_BadLog, .inr ⟨dd, _, rfl, hx, T.xf_BadLog, .inl ⟨.inl rfl, T.nx_BadLog_row, look1⟩⟩⟩
    refine ⟨fun σ' H' => σ' = [some (V.ref a), some (.ref d), some (.int (0 + (turn : Nat))), some (.ref t0), some (.ref t1), some (.ref u), none, some (.ref p), none, w9, some (.int (m : Nat)), some (.ref h), some (.ref B), some (.ref W), none, v15] ∧ Same H17 H', ?_, ?_⟩
    · refine ⟨_, rfl, W, rfl, ⟨_, SqL.of q17⟩, fun D hD => ?_⟩
      have sD := Same.upd_new (o := .lst []) hD
      refine lc_two (K := K) (a := W) (v0 := .ref g1) (v1 := .ref g2) (fun H' => Same H17 H' ∧ H' D = some (.lst [])) (fun H' => Same H17 H' ∧ ∃ u1, H' D = some (.lst [.ref u1]) ∧ H' u1 = some (.tup [.str "log", .int (m : Nat)]))
        (fun H' => Same H17 H' ∧ ∃ u1 u2, H' D = some (.lst [.ref u1, .ref u2]) ∧ H' u1 = some (.tup [.str "log", .int (m : Nat)]) ∧ H' u2 = some (.tup [.str "log", .int (m : Nat)])) ⟨sD, upd_same⟩ (fun H' h => SqL.of (h.1 _ _ q17)) (fun H' h => SqL.of (h.1 _ _ q17)) (fun H' h => SqL.of (h.1 _ _ q17)) ?_ ?_ ?_
      · rintro H18 ⟨s18, hD18⟩
        refine ⟨rfl, _, rfl, g1, _, rfl, ready_of (js := [3, 4, 12]) (s18 _ _ g1H) (s18 _ _ c1H) (fun t z => by cases z) (lok_of (P := P) (w := w) (mg := mg) (base := base) (k := 4) (fr := ["_law_one", "_law_other", "_law_bad"]) (N := ["_law_one", "_law_other", "_law_bad"]) (ps := []) (vs := []) (tb := fun E => (tCall _ [] E (tCons (tVar 0) (tCons (tVar 1) (tCons (tVar 2) tNil))))) (NdefX.nscope_by (by dsimp only; decide +kernel)) rfl (fun s doc pm ctv _ => ⟨[], .nil, .of_eq rfl⟩) (fun A outer s H E hr => (pe_call G_judged (hr.mono (by decide)) rfl T.g_judged T.F_judged.kp T.b_judged .nil pass_ncx (pa_cons (pv 0) (pa_cons (pv 1) (pa_cons (pv 2) pa_nil)))))) ⟨rfl, NdefX.ndef_free (fr := []) (by show NdefX.ndefB (defScope s_law) _ [] = true; dsimp only; decide +kernel), NdefX.ndef_fr (sc := defScope s_law) (by dsimp only; decide +kernel), rfl⟩, fun cls d' H' => (cls = .ref T.C_BadLog ∧ ∃ dd, d' = some dd ∧ H' dd = some (.xd [("row", .int (m : Nat))])) ∧ Same H18 H', ?_, ?_⟩
        · refine ⟨s18 _ _ g1H, (fun t z => by cases z), _, rfl, _, rfl, _, rfl, t0, t1, B, ca, cb, xb, ds, rfl, s18 _ _ ht017, s18 _ _ ht117, hca, hcb, SqL.of (s18 _ _ hB17), hA17.same s18, hrd, fun i hi dd H' s' hx => ?_, fun rs' e' ok' l' => ?_⟩
          · have e := first_one hi hfb
            subst e
            exact ⟨⟨rfl, dd, rfl, hx⟩, s'⟩
          · subst e'
            exact absurd hfb (no_bad ok' l')
        · rintro cls d' H' ⟨hc, s19⟩
          refine ⟨5, m, raised m H' cls d' hc, fun u H3 s3 hu => ?_⟩
          rw [word5] at hu
          have hD3 := s3 _ _ (s19 _ _ hD18)
          have nu : u ≠ D := by
            rintro rfl
            rw [hD3] at hu
            cases hu
          exact ⟨[], hD3, (by show 0 < sizeLine; decide), ((Frm.of_same ((s18.trans s19).trans s3)).own hD (Frm.updL hD3)).same, u, upd_same, by rw [upd_ne nu]; exact hu⟩
      · rintro H18 ⟨s18, u1, hD18, hu1⟩
        refine ⟨rfl, _, rfl, g2, _, rfl, ready_of (js := [12]) (s18 _ _ g2H) (s18 _ _ c2H) (fun t z => by cases z; exact s18 _ _ tzH) (lok_of (P := P) (w := w) (mg := mg) (base := base) (k := 4) (fr := ["_law_bad"]) (N := ["_law_a", "_law_bad"]) (ps := ["_law_a"]) (vs := [.int 0]) (tb := fun E => (tCall _ [] E (tCons (tVar 1) tNil))) (NdefX.nscope_by (by dsimp only; decide +kernel)) rfl (fun s doc pm ctv h => by obtain ⟨u, ⟨o, ho, _, n, hd⟩, ru⟩ := h _ rfl; exact ⟨[u], .cons ru .nil, BindsTo.of_defaults rfl ho hd rfl rfl⟩) (fun A outer s H E hr => (pe_call G_stretches (hr.mono (by decide)) rfl T.g_stretches T.F_stretches.kp T.b_stretches .nil pass_ncx (pa_cons (pv 1) pa_nil)))) ⟨rfl, NdefX.ndef_free (fr := []) (by show NdefX.ndefB (defScope s_law) _ [] = true; dsimp only; decide +kernel), NdefX.ndef_fr (sc := defScope s_law) (by dsimp only; decide +kernel), rfl⟩, fun cls d' H' => (cls = .ref T.C_BadLog ∧ ∃ dd, d' = some dd ∧ H' dd = some (.xd [("row", .int (m : Nat))])) ∧ Same H18 H', ?_, ?_⟩
        · refine ⟨s18 _ _ g2H, (fun t z => by cases z; exact s18 _ _ tzH), _, rfl, B, xb, ds, m, rfl, SqL.of (s18 _ _ hB17), hA17.same s18, hrd, hfb, fun dd H' s' hx => ⟨⟨rfl, dd, rfl, hx⟩, s'⟩⟩
        · rintro cls d' H' ⟨hc, s19⟩
          refine ⟨5, m, raised m H' cls d' hc, fun u H3 s3 hu => ?_⟩
          rw [word5] at hu
          have hD3 := s3 _ _ (s19 _ _ hD18)
          have hu13 := s3 _ _ (s19 _ _ hu1)
          have nu : ∀ {x : Addr} {l : List V}, H3 x = some (.tup l) → x ≠ D := by
            rintro x l hx rfl
            rw [hD3] at hx
            cases hx
          exact ⟨[.ref u1], hD3, (by show 1 < sizeLine; decide), ((Frm.of_same ((s18.trans s19).trans s3)).own hD (Frm.updL hD3)).same, u1, u, upd_same, by rw [upd_ne (nu hu13)]; exact hu13, by rw [upd_ne (nu hu)]; exact hu⟩
      · rintro H18 ⟨s18, u1, u2, hD18, hu1, hu2⟩
        refine ⟨_, rfl, (by show 2 ≤ sizeLine; decide), fun t ht => ⟨(by show 1 ≤ sizeLine; decide), fun l hl => ?_⟩⟩
        have s19 := Same.upd_new (o := .tup [.str "log", .int (m : Nat)]) ht
        have q19 := upd_same (H := H18) (a := t) (o := .tup [.str "log", .int (m : Nat)])
        generalize upd H18 t (.tup [.str "log", .int (m : Nat)]) = H19 at s19 q19 hl ⊢
        have s20 := Same.upd_new (o := .lst [.ref t]) hl
        refine ⟨l, 2, _, rfl, rfl, upd_same, by decide, by decide, big (by show 1 * 2 ≤ _; decide), fun p2 hp2 => ?_⟩
        have q21 := upd_same (H := upd H19 l (.lst [.ref t])) (a := p2) (o := .lst (List.replicate (2 : Int).toNat [V.ref t]).flatten)
        have s21 := s20.trans (Same.upd_new (o := .lst (List.replicate (2 : Int).toNat [V.ref t]).flatten) hp2)
        generalize upd (upd H19 l (.lst [.ref t])) p2 (.lst (List.replicate (2 : Int).toNat [V.ref t]).flatten) = H20 at s21 q21 ⊢
        have s1820 := s19.trans s21
        have i1 := im_word (s1820 _ _ hu1)
        have i2 := im_word (s1820 _ _ hu2)
        have i3 := im_word (s21 _ _ q19)
        refine ⟨.ref D, .ref p2, .list [.tuple [.str "log", .int (m : Nat)], .tuple [.str "log", .int (m : Nat)]], rfl, .lst (SqL.of (s1820 _ _ hD18)) (.cons i1.dp (.cons i2.dp .nil)), .lst (SqL.of q21) (.cons i3.dp (.cons i3.dp .nil)), ?_, fun H' s' => ⟨_, rfl, iteF ⟨rfl, (s18.trans s1820).trans s'⟩⟩⟩
        refine ⟨(by show 2 ≤ 100000; decide), fun x hx => ?_⟩
        simp only [List.mem_cons, List.not_mem_nil, or_false] at hx
        have : x = .tuple [.str "log", .int (m : Nat)] := hx.elim id id
        rw [this]
        exact lv_mono (wlv _)
    rintro σ' H18 ⟨rfl, s18⟩
    have I18 := I17.same s18
    have ht018 := s18 _ _ ht017
    have ht118 := s18 _ _ ht117
    clear I17 I16 I14
    -- long ones
    refine ⟨_, rfl, d, rfl, I18.D, fun t r H19 okr htn ht D19 f19 => ⟨(by show 1 ≤ sizeLine; decide), fun z1 hz1 => ?_⟩⟩
    have I19 := I18.dice D19 f19
    have s20 := Same.upd_new (o := .lst [.ref t]) hz1
    have q20 := upd_same (H := H19) (a := z1) (o := .lst [.ref t])
    generalize upd H19 z1 (.lst [.ref t]) = H20 at s20 q20 ⊢
    refine ⟨z1, 300, _, rfl, rfl, q20, by decide, by decide, big (by show 1 * 300 ≤ _; decide), fun L hL => ?_⟩
    have s21 := s20.trans (Same.upd_new (o := .lst (List.replicate (300 : Int).toNat [V.ref t]).flatten) hL)
    have q21 := upd_same (H := H20) (a := L) (o := .lst (List.replicate (300 : Int).toNat [V.ref t]).flatten)
    have nLd := (I19.same s20).D.ne_new hL
    generalize upd H20 L (.lst (List.replicate (300 : Int).toNat [V.ref t]).flatten) = H21 at s21 q21 ⊢
    have e300 : (List.replicate (300 : Int).toNat [V.ref t]).flatten = List.replicate 300 (V.ref t) := flat_rep _ 300
    rw [e300] at q21
    have I21 := I19.same s21
    have RL : RowsAt H21 d L (List.replicate 300 (V.ref t)) (List.replicate 300 r) := by
      refine ⟨q21, ?_, fun x hx => ?_, nLd⟩
      · have i0 : ImAll H21 [V.ref t] [rowD r] := .cons (im_row (s21 _ _ ht)) .nil
        have i1 := i0.rep 300
        rw [flat_rep, flat_rep] at i1
        rw [List.map_replicate]
        exact i1
      · rw [List.eq_of_mem_replicate hx]
        exact okr
    have ht021 := (f19.trans (Frm.of_same s21)).tups _ _ ht018
    have ht121 := (f19.trans (Frm.of_same s21)).tups _ _ ht118
    refine ⟨I21.T, fun g3 c3 H22 e22 tb22 g3n g3H c3H => ⟨g3, _, rfl, ready_of (js := [3, 4, 15, 2, 1]) (g3H) (c3H) (fun t z => by cases z) (lok_of (P := P) (w := w) (mg := mg) (base := base) (k := 4) (fr := ["_law_one", "_law_other", "_law_long", "_law_turn", "_law_d"]) (N := ["_law_one", "_law_other", "_law_long", "_law_turn", "_law_d"]) (ps := []) (vs := []) (tb := fun E => (tCall _ [] E (tCons (tVar 0) (tCons (tVar 1) (tCons (tOp rCat (tVar 2) (tOp rRep (tLst (tCons (tOp (rIxL K) (tLst (tCons (tCall _ [] E0 (tCons (tVar 4) tNil)) (tCons (tTup tNil) tNil))) (tOp (rI (fun _ j => 0 < j) fun i j => .int (i % j)) (tVar 3) (tC (.int 2)))) tNil)) (tOp (rI0 fun i j => .int (i + j)) (tC (.int 1)) (tVar 3)))) tNil))))) (NdefX.nscope_by (by dsimp only; decide +kernel)) rfl (fun s doc pm ctv _ => ⟨[], .nil, .of_eq rfl⟩) (fun A outer s H E hr => (pe_call G_judged (hr.mono (by decide)) rfl T.g_judged T.F_judged.kp T.b_judged .nil pass_ncx (pa_cons (pv 0) (pa_cons (pv 1) (pa_cons (pe_op op_cat (pv 2) (pe_op op_rep (pe_lst (pa_cons (pe_ix ix_list (pe_lst (pa_cons (pe_call G__law_row (hr.mono (by decide)) rfl T.g__law_row T.F__law_row.kp T.b__law_row .nil pass0 (pa_cons (pv 4) pa_nil)) (pa_cons (pe_tup pa_nil) pa_nil))) (pe_op op_mod (pv 3) pe_int) (fun _ _ => rfl)) pa_nil)) (pe_op op_add pe_int (pv 3)))) pa_nil)))))) ⟨rfl, NdefX.ndef_free (fr := []) (by show NdefX.ndefB (defScope s_law) _ [] = true; dsimp only; decide +kernel), NdefX.ndef_fr (sc := defScope s_law) (by dsimp only; decide +kernel), rfl⟩, fun cls d' H' => (cls = .ref T.C_BadLog ∧ ∃ dd, d' = some dd ∧ H' dd = some (.xd [("row", .int (300 : Nat))])) ∧ DiceAt H' d ∧ Frm [d] H22 H', ?_, ?_⟩⟩
    · have R22 : H22 L = some (.lst (List.replicate 300 (V.ref t))) := e22 _ _ RL.L lst_ne
      have A22 := RL.A.ext e22
      refine ⟨g3H, (fun t z => by cases z), _, rfl, _, rfl, _, rfl, _, rfl, d, rfl, (I21.ext e22 tb22).D, fun t5 r5 H23 okr5 ht5n ht5 D23 f23 => ?_⟩
      have L23 := f23 _ _ R22 (by simp [RL.np])
      have A23 := A22.frm f23
      have ht023 := f23.tups _ _ (e22 _ _ ht021 tup_ne)
      have ht123 := f23.tups _ _ (e22 _ _ ht121 tup_ne)
      refine ⟨(by show 0 ≤ sizeLine; decide), fun e he => ⟨(by show 2 ≤ sizeLine; decide), fun l2 hl2 => ?_⟩⟩
      have s24 := Same.upd_new (o := .tup []) he
      have q24 := upd_same (H := H23) (a := e) (o := .tup [])
      generalize upd H23 e (.tup []) = H24 at s24 q24 hl2 ⊢
      have s25 := Same.upd_new (o := .lst [.ref t5, .ref e]) hl2
      have q25 := upd_same (H := H24) (a := l2) (o := .lst [.ref t5, .ref e])
      generalize upd H24 l2 (.lst [.ref t5, .ref e]) = H25 at s25 q25 ⊢
      have s2325 := s24.trans s25
      obtain ⟨x, dx, hat, imx, rdx⟩ : ∃ (x : V) (dx : PyData), atI [V.ref t5, .ref e] ((0 + (turn : Int)) % 2) = some x ∧ Im H25 x dx ∧ rdat dx := by
        have : (0 + (turn : Int)) % 2 = 0 ∨ (0 + (turn : Int)) % 2 = 1 := by omega
        rcases this with q | q <;> rw [q]
        · exact ⟨_, _, rfl, im_row (s2325 _ _ ht5), rdat_row _⟩
        · exact ⟨_, .tuple [], rfl, .tup (s25 _ _ q24) .nil, fun e he => by simp at he⟩
      refine ⟨_, rfl, _, _, rfl, rfl, (by show (0 : Int) < 2; decide), l2, _, _, x, rfl, rfl, SqL.of q25, hat, (by show 1 ≤ sizeLine; decide), fun l3 hl3 => ?_⟩
      have s26 := Same.upd_new (o := .lst [x]) hl3
      have q26 := upd_same (H := H25) (a := l3) (o := .lst [x])
      generalize upd H25 l3 (.lst [x]) = H26 at s26 q26 ⊢
      refine ⟨_, rfl, _, _, rfl, rfl, l3, _, _, rfl, rfl, q26, by omega, by omega, big (by show 1 * _ ≤ _; omega), fun l4 hl4 => ?_⟩
      have eN : (1 + (0 + (turn : Int))).toNat = turn + 1 := by omega
      rw [eN, flat_rep]
      have s27 := Same.upd_new (o := .lst (List.replicate (turn + 1) x)) hl4
      have q27 := upd_same (H := H26) (a := l4) (o := .lst (List.replicate (turn + 1) x))
      generalize upd H26 l4 (.lst (List.replicate (turn + 1) x)) = H27 at s27 q27 ⊢
      have s2327 := (s2325.trans s26).trans s27
      refine ⟨L, l4, _, _, rfl, rfl, s2327 _ _ L23, q27, big (by rw [List.length_replicate, List.length_replicate]; omega), fun l5 hl5 => ?_⟩
      have s28 := Same.upd_new (o := .lst (List.replicate 300 (V.ref t) ++ List.replicate (turn + 1) x)) hl5
      have q28 := upd_same (H := H27) (a := l5) (o := .lst (List.replicate 300 (V.ref t) ++ List.replicate (turn + 1) x))
      generalize upd H27 l5 (.lst (List.replicate 300 (V.ref t) ++ List.replicate (turn + 1) x)) = H28 at s28 q28 ⊢
      have s2328 := s2327.trans s28
      have i1 : ImAll H28 [x] [dx] := .cons (((imx.same s26).same s27).same s28) .nil
      have i2 := i1.rep (turn + 1)
      rw [flat_rep, flat_rep] at i2
      have l300 : (List.replicate 300 r).length = 300 := List.length_replicate
      have hb3 : firstBad ((List.replicate 300 r).map rowD ++ List.replicate (turn + 1) dx) 300 := by
        have := bad_at (rs := List.replicate 300 r) (d := dx) (es := List.replicate turn dx) RL.ok (by omega) (.inl (by omega))
        rw [l300] at this
        exact this
      refine ⟨t0, t1, l5, ca, cb, _, (List.replicate 300 r).map rowD ++ List.replicate (turn + 1) dx, rfl, s2328 _ _ ht023, s2328 _ _ ht123, hca, hcb, SqL.of q28, (A23.same s2328).append i2, fun y hy => ?_, fun i hi dd H' s' hx => ?_, fun rs' e' ok' l' => ?_⟩
      · rcases List.mem_append.mp hy with z | z
        · exact rdat_rows y z
        · rw [List.eq_of_mem_replicate z]
          exact rdx
      · have e := first_one hi hb3
        subst e
        exact ⟨⟨rfl, dd, rfl, hx⟩, (D23.same s2328).same s', (f23.trans (Frm.of_same s2328)).trans (Frm.of_same s')⟩
      · rw [e'] at hb3
        exact absurd hb3 (no_bad ok' l')
    · rintro cls d' H' ⟨hc, D23, f23⟩
      refine ⟨5, (300 : Nat), raised 300 H' cls d' hc, fun u3 H3 s3 hu => ?_⟩
      rw [word5] at hu
      have I23 := (((I21.ext e22 tb22).dice D23 f23).same s3)
      have L3 := s3 _ _ (f23 _ _ (e22 _ _ RL.L lst_ne) (by simp [RL.np]))
      have A3 := ((RL.A.ext e22).frm f23).same s3
      have ht03 := s3 _ _ (f23.tups _ _ (e22 _ _ ht021 tup_ne))
      have ht13 := s3 _ _ (f23.tups _ _ (e22 _ _ ht121 tup_ne))
      refine ⟨(by show 2 ≤ sizeLine; decide), fun w1 hw1 => ?_⟩
      have s4 := Same.upd_new (o := .tup [.str "log", .int 300]) hw1
      have q4 := upd_same (H := H3) (a := w1) (o := .tup [.str "log", .int 300])
      generalize upd H3 w1 (.tup [.str "log", .int 300]) = H4' at s4 q4 ⊢
      have wl : lv 1 (.tuple [.str "log", .int 300]) := wlv 300
      refine ⟨_, _, (im_word (s4 _ _ hu)).dp, (im_word q4).dp, shaped_lv wl (by decide), shaped_lv wl (by decide), false, congrArg V.bl (by
        have : PyData.eqv (.tuple [.str "log", .int ((300 : Nat) : Int)]) (.tuple [.str "log", .int 300]) = true := eqv_refl wl
        rw [this]
        rfl), iteF ?_⟩
      refine ⟨ansN ca cb (List.replicate 300 r) H4', ⟨_, rfl, _, rfl, _, rfl, t0, t1, L, ca, cb, _, _, rfl, s4 _ _ ht03, s4 _ _ ht13, hca, hcb, SqL.of (s4 _ _ L3), A3.same s4, rdat_rows, fun i hi => absurd hi (no_bad RL.ok (by rw [List.length_replicate]; decide)), fun rs' e' _ _ => both_eq e'⟩, fun v H5' ⟨dd, hv, s5⟩ => ?_⟩
      refine ⟨ansN ca cb (List.replicate 300 r) H5', ⟨_, rfl, _, rfl, _, rfl, t0, t1, L, ca, cb, _, _, rfl, s5 _ _ (s4 _ _ ht03), s5 _ _ (s4 _ _ ht13), hca, hcb, SqL.of (s5 _ _ (s4 _ _ L3)), (A3.same s4).same s5, (by rw [List.length_replicate]; decide), both_ok⟩, fun v' H6' ⟨dd', hv', s6⟩ => ?_⟩
      exact ⟨v, v', dd, rfl, hv.dp, (by rw [← hv.eq hv']; exact hv.dp), lv_up hv.lv _, fun H7' s7 => ⟨_, rfl, iteF ⟨⟨_, _, _, _, _, _, _, _, _, _, _, rfl⟩, (((I23.same s4).same s5).same s6).same s7⟩⟩⟩

end
end TL

namespace TL
open PySem L2
/-! ### what the top has written; the last theorem -/
theorem all_mk {l : PySem.W.OpenLaw} {w : World} {K : PySem.W.Frag} {h : Heap} {mg : Str → Option Value} {fa : Addr} (X : K.In h) (G : h.Ns mainGlobals mg) (hfa : mg "law" = some (.ref fa)) (own : LamX.OwnTab K fa h) {C_LineError C_BadManners C_BadItem C_Full C_BadPart C_BadCount C_BadEnd C_BadStep C_BadLog C_BadText a_is_between a_are_manners a_need_manners a_is_row a_need_log a_judged a_stretches a__law_dice a__law_off a__law_alike a__law_word a__law_can a__law_row a__law_log a__law_first a__law_no_row a_law a_BadLog_init lC lP : Addr}
    {od_is_between an_is_between od_are_manners an_are_manners od_need_manners an_need_manners od_is_row an_is_row od_need_log an_need_log od_judged an_judged od_stretches an_stretches od__law_dice an__law_dice od__law_off an__law_off od__law_alike an__law_alike od__law_word an__law_word od__law_can an__law_can od__law_row an__law_row od__law_log an__law_log od__law_first an__law_first od__law_no_row an__law_no_row od_law an_law od_BadLog_init an_BadLog_init : Option Addr} {sl_is_between sl_are_manners sl_need_manners sl_is_row sl_need_log sl_judged sl_stretches sl__law_dice sl__law_off sl__law_alike sl__law_word sl__law_can sl__law_row sl__law_log sl__law_first sl__law_no_row sl_law sl_BadLog_init : Array (Option Value)} {oc_is_between kV_is_between dc_is_between pm_is_between cd_is_between ct_is_between oc_are_manners kV_are_manners dc_are_manners pm_are_manners cd_are_manners ct_are_manners oc_need_manners kV_need_manners dc_need_manners pm_need_manners cd_need_manners ct_need_manners oc_is_row kV_is_row dc_is_row pm_is_row cd_is_row ct_is_row oc_need_log kV_need_log dc_need_log pm_need_log cd_need_log ct_need_log oc_judged kV_judged dc_judged pm_judged cd_judged ct_judged oc_stretches kV_stretches dc_stretches pm_stretches cd_stretches ct_stretches oc__law_dice kV__law_dice dc__law_dice pm__law_dice cd__law_dice ct__law_dice oc__law_off kV__law_off dc__law_off pm__law_off cd__law_off ct__law_off oc__law_alike kV__law_alike dc__law_alike pm__law_alike cd__law_alike ct__law_alike oc__law_word kV__law_word dc__law_word pm__law_word cd__law_word ct__law_word oc__law_can kV__law_can dc__law_can pm__law_can cd__law_can ct__law_can oc__law_row kV__law_row dc__law_row pm__law_row cd__law_row ct__law_row oc__law_log kV__law_log dc__law_log pm__law_log cd__law_log ct__law_log oc__law_first kV__law_first dc__law_first pm__law_first cd__law_first ct__law_first oc__law_no_row kV__law_no_row dc__law_no_row pm__law_no_row cd__law_no_row ct__law_no_row oc_law kV_law dc_law pm_law ct_law oc_BadLog_init kV_BadLog_init dc_BadLog_init pm_BadLog_init cd_BadLog_init ct_BadLog_init : Value} {tk_MOST tk_MOST_ROWS : Tok} {nm_BadLog qn_BadLog : Str} {N_BadLog : Addr} {bs_BadLog sb_BadLog : List Value} {sn_BadLog : List Str} {ab_BadLog : Bool} {cl_BadLog : Option Bool} {dd_BadLog : Option Addr} {m0_BadLog m1_BadLog m2_BadLog m3_BadLog m5_BadLog : Option Value} {te : Value} {td : Option Addr} {tv : Array Value} {tsl : Array (Option Value)}
    (hC_LineError : PySem.W.nsIn K mainGlobals "LineError" = some (some (.ref C_LineError)))
    (hC_BadManners : PySem.W.nsIn K mainGlobals "BadManners" = some (some (.ref C_BadManners)))
    (hC_BadItem : PySem.W.nsIn K mainGlobals "BadItem" = some (some (.ref C_BadItem)))
    (hC_Full : PySem.W.nsIn K mainGlobals "Full" = some (some (.ref C_Full)))
    (hC_BadPart : PySem.W.nsIn K mainGlobals "BadPart" = some (some (.ref C_BadPart)))
    (hC_BadCount : PySem.W.nsIn K mainGlobals "BadCount" = some (some (.ref C_BadCount)))
    (hC_BadEnd : PySem.W.nsIn K mainGlobals "BadEnd" = some (some (.ref C_BadEnd)))
    (hC_BadStep : PySem.W.nsIn K mainGlobals "BadStep" = some (some (.ref C_BadStep)))
    (hC_BadLog : PySem.W.nsIn K mainGlobals "BadLog" = some (some (.ref C_BadLog)))
    (hC_BadText : PySem.W.nsIn K mainGlobals "BadText" = some (some (.ref C_BadText)))
    (hg_is_between : PySem.W.nsIn K mainGlobals "is_between" = some (some (.ref a_is_between)))
    (hl_is_between : K.lookup a_is_between = some ⟨oc_is_between, od_is_between, .func (PySem.W.fnOf "is_between" "is_between" (defArgs s_is_between) (defBody s_is_between) (defScope s_is_between) .none kV_is_between dc_is_between pm_is_between an_is_between cd_is_between ct_is_between), sl_is_between⟩)
    (hc_is_between : PySem.W.codeIn K cd_is_between "is_between" = true)
    (hk_is_between : PySem.W.keepIn K (.ref a_is_between) = true)
    (hg_are_manners : PySem.W.nsIn K mainGlobals "are_manners" = some (some (.ref a_are_manners)))
    (hl_are_manners : K.lookup a_are_manners = some ⟨oc_are_manners, od_are_manners, .func (PySem.W.fnOf "are_manners" "are_manners" (defArgs s_are_manners) (defBody s_are_manners) (defScope s_are_manners) .none kV_are_manners dc_are_manners pm_are_manners an_are_manners cd_are_manners ct_are_manners), sl_are_manners⟩)
    (hc_are_manners : PySem.W.codeIn K cd_are_manners "are_manners" = true)
    (hk_are_manners : PySem.W.keepIn K (.ref a_are_manners) = true)
    (hg_need_manners : PySem.W.nsIn K mainGlobals "need_manners" = some (some (.ref a_need_manners)))
    (hl_need_manners : K.lookup a_need_manners = some ⟨oc_need_manners, od_need_manners, .func (PySem.W.fnOf "need_manners" "need_manners" (defArgs s_need_manners) (defBody s_need_manners) (defScope s_need_manners) .none kV_need_manners dc_need_manners pm_need_manners an_need_manners cd_need_manners ct_need_manners), sl_need_manners⟩)
    (hc_need_manners : PySem.W.codeIn K cd_need_manners "need_manners" = true)
    (hk_need_manners : PySem.W.keepIn K (.ref a_need_manners) = true)
    (hg_is_row : PySem.W.nsIn K mainGlobals "is_row" = some (some (.ref a_is_row)))
    (hl_is_row : K.lookup a_is_row = some ⟨oc_is_row, od_is_row, .func (PySem.W.fnOf "is_row" "is_row" (defArgs s_is_row) (defBody s_is_row) (defScope s_is_row) .none kV_is_row dc_is_row pm_is_row an_is_row cd_is_row ct_is_row), sl_is_row⟩)
    (hc_is_row : PySem.W.codeIn K cd_is_row "is_row" = true)
    (hk_is_row : PySem.W.keepIn K (.ref a_is_row) = true)
    (hg_need_log : PySem.W.nsIn K mainGlobals "need_log" = some (some (.ref a_need_log)))
    (hl_need_log : K.lookup a_need_log = some ⟨oc_need_log, od_need_log, .func (PySem.W.fnOf "need_log" "need_log" (defArgs s_need_log) (defBody s_need_log) (defScope s_need_log) .none kV_need_log dc_need_log pm_need_log an_need_log cd_need_log ct_need_log), sl_need_log⟩)
    (hc_need_log : PySem.W.codeIn K cd_need_log "need_log" = true)
    (hk_need_log : PySem.W.keepIn K (.ref a_need_log) = true)
    (hg_judged : PySem.W.nsIn K mainGlobals "judged" = some (some (.ref a_judged)))
    (hl_judged : K.lookup a_judged = some ⟨oc_judged, od_judged, .func (PySem.W.fnOf "judged" "judged" (defArgs s_judged) (defBody s_judged) (defScope s_judged) .none kV_judged dc_judged pm_judged an_judged cd_judged ct_judged), sl_judged⟩)
    (hc_judged : PySem.W.codeIn K cd_judged "judged" = true)
    (hk_judged : PySem.W.keepIn K (.ref a_judged) = true)
    (hg_stretches : PySem.W.nsIn K mainGlobals "stretches" = some (some (.ref a_stretches)))
    (hl_stretches : K.lookup a_stretches = some ⟨oc_stretches, od_stretches, .func (PySem.W.fnOf "stretches" "stretches" (defArgs s_stretches) (defBody s_stretches) (defScope s_stretches) .none kV_stretches dc_stretches pm_stretches an_stretches cd_stretches ct_stretches), sl_stretches⟩)
    (hc_stretches : PySem.W.codeIn K cd_stretches "stretches" = true)
    (hk_stretches : PySem.W.keepIn K (.ref a_stretches) = true)
    (hg__law_dice : PySem.W.nsIn K mainGlobals "_law_dice" = some (some (.ref a__law_dice)))
    (hl__law_dice : K.lookup a__law_dice = some ⟨oc__law_dice, od__law_dice, .func (PySem.W.fnOf "_law_dice" "_law_dice" (defArgs s__law_dice) (defBody s__law_dice) (defScope s__law_dice) .none kV__law_dice dc__law_dice pm__law_dice an__law_dice cd__law_dice ct__law_dice), sl__law_dice⟩)
    (hc__law_dice : PySem.W.codeIn K cd__law_dice "_law_dice" = true)
    (hk__law_dice : PySem.W.keepIn K (.ref a__law_dice) = true)
    (hg__law_off : PySem.W.nsIn K mainGlobals "_law_off" = some (some (.ref a__law_off)))
    (hl__law_off : K.lookup a__law_off = some ⟨oc__law_off, od__law_off, .func (PySem.W.fnOf "_law_off" "_law_off" (defArgs s__law_off) (defBody s__law_off) (defScope s__law_off) .none kV__law_off dc__law_off pm__law_off an__law_off cd__law_off ct__law_off), sl__law_off⟩)
    (hc__law_off : PySem.W.codeIn K cd__law_off "_law_off" = true)
    (hk__law_off : PySem.W.keepIn K (.ref a__law_off) = true)
    (hg__law_alike : PySem.W.nsIn K mainGlobals "_law_alike" = some (some (.ref a__law_alike)))
    (hl__law_alike : K.lookup a__law_alike = some ⟨oc__law_alike, od__law_alike, .func (PySem.W.fnOf "_law_alike" "_law_alike" (defArgs s__law_alike) (defBody s__law_alike) (defScope s__law_alike) .none kV__law_alike dc__law_alike pm__law_alike an__law_alike cd__law_alike ct__law_alike), sl__law_alike⟩)
    (hc__law_alike : PySem.W.codeIn K cd__law_alike "_law_alike" = true)
    (hk__law_alike : PySem.W.keepIn K (.ref a__law_alike) = true)
    (hg__law_word : PySem.W.nsIn K mainGlobals "_law_word" = some (some (.ref a__law_word)))
    (hl__law_word : K.lookup a__law_word = some ⟨oc__law_word, od__law_word, .func (PySem.W.fnOf "_law_word" "_law_word" (defArgs s__law_word) (defBody s__law_word) (defScope s__law_word) .none kV__law_word dc__law_word pm__law_word an__law_word cd__law_word ct__law_word), sl__law_word⟩)
    (hc__law_word : PySem.W.codeIn K cd__law_word "_law_word" = true)
    (hk__law_word : PySem.W.keepIn K (.ref a__law_word) = true)
    (hg__law_can : PySem.W.nsIn K mainGlobals "_law_can" = some (some (.ref a__law_can)))
    (hl__law_can : K.lookup a__law_can = some ⟨oc__law_can, od__law_can, .func (PySem.W.fnOf "_law_can" "_law_can" (defArgs s__law_can) (defBody s__law_can) (defScope s__law_can) .none kV__law_can dc__law_can pm__law_can an__law_can cd__law_can ct__law_can), sl__law_can⟩)
    (hc__law_can : PySem.W.codeIn K cd__law_can "_law_can" = true)
    (hk__law_can : PySem.W.keepIn K (.ref a__law_can) = true)
    (hg__law_row : PySem.W.nsIn K mainGlobals "_law_row" = some (some (.ref a__law_row)))
    (hl__law_row : K.lookup a__law_row = some ⟨oc__law_row, od__law_row, .func (PySem.W.fnOf "_law_row" "_law_row" (defArgs s__law_row) (defBody s__law_row) (defScope s__law_row) .none kV__law_row dc__law_row pm__law_row an__law_row cd__law_row ct__law_row), sl__law_row⟩)
    (hc__law_row : PySem.W.codeIn K cd__law_row "_law_row" = true)
    (hk__law_row : PySem.W.keepIn K (.ref a__law_row) = true)
    (hg__law_log : PySem.W.nsIn K mainGlobals "_law_log" = some (some (.ref a__law_log)))
    (hl__law_log : K.lookup a__law_log = some ⟨oc__law_log, od__law_log, .func (PySem.W.fnOf "_law_log" "_law_log" (defArgs s__law_log) (defBody s__law_log) (defScope s__law_log) .none kV__law_log dc__law_log pm__law_log an__law_log cd__law_log ct__law_log), sl__law_log⟩)
    (hc__law_log : PySem.W.codeIn K cd__law_log "_law_log" = true)
    (hk__law_log : PySem.W.keepIn K (.ref a__law_log) = true)
    (hg__law_first : PySem.W.nsIn K mainGlobals "_law_first" = some (some (.ref a__law_first)))
    (hl__law_first : K.lookup a__law_first = some ⟨oc__law_first, od__law_first, .func (PySem.W.fnOf "_law_first" "_law_first" (defArgs s__law_first) (defBody s__law_first) (defScope s__law_first) .none kV__law_first dc__law_first pm__law_first an__law_first cd__law_first ct__law_first), sl__law_first⟩)
    (hc__law_first : PySem.W.codeIn K cd__law_first "_law_first" = true)
    (hk__law_first : PySem.W.keepIn K (.ref a__law_first) = true)
    (hg__law_no_row : PySem.W.nsIn K mainGlobals "_law_no_row" = some (some (.ref a__law_no_row)))
    (hl__law_no_row : K.lookup a__law_no_row = some ⟨oc__law_no_row, od__law_no_row, .func (PySem.W.fnOf "_law_no_row" "_law_no_row" (defArgs s__law_no_row) (defBody s__law_no_row) (defScope s__law_no_row) .none kV__law_no_row dc__law_no_row pm__law_no_row an__law_no_row cd__law_no_row ct__law_no_row), sl__law_no_row⟩)
    (hc__law_no_row : PySem.W.codeIn K cd__law_no_row "_law_no_row" = true)
    (hk__law_no_row : PySem.W.keepIn K (.ref a__law_no_row) = true)
    (hg_law : PySem.W.nsIn K mainGlobals "law" = some (some (.ref a_law)))
    (hl_law : K.lookup a_law = some ⟨oc_law, od_law, .func (PySem.W.fnOf "law" "law" (defArgs s_law) (defBody s_law) (defScope s_law) .none kV_law dc_law pm_law an_law (.ref lC) ct_law), sl_law⟩)
    (hc_law : PySem.W.codeIn K (.ref lC) "law" = true)
    (hk_law : PySem.W.keepIn K (.ref a_law) = true)
    (hg_BadLog_init : PySem.W.findIn K (.ref C_BadLog) "__init__" = some (some (.ref a_BadLog_init)))
    (hi_BadLog_init : PySem.W.isFn K (.ref a_BadLog_init) = true)
    (hl_BadLog_init : K.lookup a_BadLog_init = some ⟨oc_BadLog_init, od_BadLog_init, .func (PySem.W.fnOf "__init__" "BadLog.__init__" (defArgs s_BadLog_init) (defBody s_BadLog_init) (defScope s_BadLog_init) .none kV_BadLog_init dc_BadLog_init pm_BadLog_init an_BadLog_init cd_BadLog_init ct_BadLog_init), sl_BadLog_init⟩)
    (hc_BadLog_init : PySem.W.codeIn K cd_BadLog_init "BadLog.__init__" = true)
    (hk_BadLog_init : PySem.W.keepIn K (.ref a_BadLog_init) = true)
    (x_LineError : PySem.W.excIn K C_LineError [.type "ValueError", .type "Exception", .type "BaseException", .type "object"] "ValueError.__new__" = true)
    (k_LineError : PySem.W.keepIn K (.ref C_LineError) = true)
    (s_LineError : PySem.W.subIn K (.ref C_LineError) (.type "BaseException") = some true)
    (t_LineError : PySem.W.typeIn K (.ref C_LineError) = some (.type "type"))
    (x_BadManners : PySem.W.excIn K C_BadManners [.type "ValueError", .type "Exception", .type "BaseException", .type "object"] "ValueError.__new__" = true)
    (k_BadManners : PySem.W.keepIn K (.ref C_BadManners) = true)
    (s_BadManners : PySem.W.subIn K (.ref C_BadManners) (.type "BaseException") = some true)
    (t_BadManners : PySem.W.typeIn K (.ref C_BadManners) = some (.type "type"))
    (x_BadItem : PySem.W.excIn K C_BadItem [.type "ValueError", .type "Exception", .type "BaseException", .type "object"] "ValueError.__new__" = true)
    (k_BadItem : PySem.W.keepIn K (.ref C_BadItem) = true)
    (s_BadItem : PySem.W.subIn K (.ref C_BadItem) (.type "BaseException") = some true)
    (t_BadItem : PySem.W.typeIn K (.ref C_BadItem) = some (.type "type"))
    (x_Full : PySem.W.excIn K C_Full [.type "ValueError", .type "Exception", .type "BaseException", .type "object"] "ValueError.__new__" = true)
    (k_Full : PySem.W.keepIn K (.ref C_Full) = true)
    (s_Full : PySem.W.subIn K (.ref C_Full) (.type "BaseException") = some true)
    (t_Full : PySem.W.typeIn K (.ref C_Full) = some (.type "type"))
    (x_BadPart : PySem.W.excIn K C_BadPart [.type "ValueError", .type "Exception", .type "BaseException", .type "object"] "ValueError.__new__" = true)
    (k_BadPart : PySem.W.keepIn K (.ref C_BadPart) = true)
    (s_BadPart : PySem.W.subIn K (.ref C_BadPart) (.type "BaseException") = some true)
    (t_BadPart : PySem.W.typeIn K (.ref C_BadPart) = some (.type "type"))
    (x_BadCount : PySem.W.excIn K C_BadCount [.type "ValueError", .type "Exception", .type "BaseException", .type "object"] "ValueError.__new__" = true)
    (k_BadCount : PySem.W.keepIn K (.ref C_BadCount) = true)
    (s_BadCount : PySem.W.subIn K (.ref C_BadCount) (.type "BaseException") = some true)
    (t_BadCount : PySem.W.typeIn K (.ref C_BadCount) = some (.type "type"))
    (x_BadEnd : PySem.W.excIn K C_BadEnd [.type "ValueError", .type "Exception", .type "BaseException", .type "object"] "ValueError.__new__" = true)
    (k_BadEnd : PySem.W.keepIn K (.ref C_BadEnd) = true)
    (s_BadEnd : PySem.W.subIn K (.ref C_BadEnd) (.type "BaseException") = some true)
    (t_BadEnd : PySem.W.typeIn K (.ref C_BadEnd) = some (.type "type"))
    (k_BadStep : PySem.W.keepIn K (.ref C_BadStep) = true)
    (s_BadStep : PySem.W.subIn K (.ref C_BadStep) (.type "BaseException") = some true)
    (t_BadStep : PySem.W.typeIn K (.ref C_BadStep) = some (.type "type"))
    (k_BadLog : PySem.W.keepIn K (.ref C_BadLog) = true)
    (s_BadLog : PySem.W.subIn K (.ref C_BadLog) (.type "BaseException") = some true)
    (t_BadLog : PySem.W.typeIn K (.ref C_BadLog) = some (.type "type"))
    (k_BadText : PySem.W.keepIn K (.ref C_BadText) = true)
    (s_BadText : PySem.W.subIn K (.ref C_BadText) (.type "BaseException") = some true)
    (t_BadText : PySem.W.typeIn K (.ref C_BadText) = some (.type "type"))
    (gs_LE : PySem.W.specialIn K (.ref C_LineError) "__getattribute__" = some (some (.builtin "type.__getattribute__")))
    (rd_LE : PySem.W.readsIn K C_LineError (.type "type") = true)
    (fi_LE : PySem.W.findCls K (.ref C_LineError) (.type "type") "__init__" = some (.val (.builtin "ValueError.__init__")))
    (gx_n : PySem.W.specialIn K (.builtin "object.__class__") "__get__" = some (some (.builtin "getset_descriptor.__get__")))
    (gx_t : PySem.W.takesIn K (.builtin "object.__class__") = some true)
    (ga_BadLog : PySem.W.findIn K (.ref C_BadLog) "__getattribute__" = some (some (.builtin "BaseException.__getattribute__")))
    (gg_BadLog : PySem.W.findIn K (.ref C_BadLog) "__getattr__" = some none)
    (hx_BadLog : PySem.W.hasDictIn K C_BadLog = true)
    (xl_BadLog : K.lookup C_BadLog = some (excClassObj nm_BadLog qn_BadLog C_BadLog N_BadLog bs_BadLog [.ref C_LineError, .type "ValueError", .type "Exception", .type "BaseException", .type "object"] true sn_BadLog sb_BadLog ab_BadLog cl_BadLog dd_BadLog m0_BadLog m1_BadLog m2_BadLog m3_BadLog m5_BadLog "ValueError.__new__"))
    (sa_BadLog : PySem.W.findIn K (.ref C_BadLog) "__setattr__" = some (some (.builtin "object.__setattr__")))
    (nx_BadLog_row : PySem.W.findIn K (.ref C_BadLog) "row" = some none)
    (gc_BadLog : PySem.W.findIn K (.ref C_BadLog) "__class__" = some (some (.builtin "object.__class__")))
    (gm_BadLog : PySem.W.mroIn K C_BadLog (.type "object") = some true)
    (ik_BadLog_0 : PySem.W.kitOne K (.ref C_BadLog) (.ref C_BadManners) = some false)
    (ik_BadLog_1 : PySem.W.kitOne K (.ref C_BadLog) (.ref C_BadCount) = some false)
    (ik_BadLog_2 : PySem.W.kitOne K (.ref C_BadLog) (.ref C_BadPart) = some false)
    (ik_BadLog_3 : PySem.W.kitOne K (.ref C_BadLog) (.ref C_BadItem) = some false)
    (ik_BadLog_4 : PySem.W.kitOne K (.ref C_BadLog) (.ref C_Full) = some false)
    (ik_BadLog_5 : PySem.W.kitOne K (.ref C_BadLog) (.ref C_BadLog) = some true)
    (ik_BadLog_6 : PySem.W.kitOne K (.ref C_BadLog) (.ref C_BadText) = some false)
    (ik_BadLog_7 : PySem.W.kitOne K (.ref C_BadLog) (.ref C_BadEnd) = some false)
    (ik_BadLog_8 : PySem.W.kitOne K (.ref C_BadLog) (.ref C_BadStep) = some false)
    (iv_BadLog : PySem.W.kitOne K (.ref C_BadLog) (.type "ValueError") = some true)
    (xm_BadLog : PySem.W.exmOne K (.ref C_BadLog) (.ref C_LineError) = some true)
    (tb_1 : K.lookup lC = some ⟨te, td, .fields tv, tsl⟩)
    (tb_2 : tv[11]? = some (.ref lP))
    (tb_3 : K.lookup lP = none)
    (tb_4 : PySem.W.codeHdIn K lC lP = true)
    (hv_MOST : PySem.W.nsIn K mainGlobals "MOST" = some (some (.int 9 tk_MOST)))
    (hv_MOST_ROWS : PySem.W.nsIn K mainGlobals "MOST_ROWS" = some (some (.int 300 tk_MOST_ROWS)))
    (z_ValueError : PySem.W.nsIn K mainGlobals "ValueError" = some none)
    (z_abs : PySem.W.nsIn K mainGlobals "abs" = some none)
    (z_all : PySem.W.nsIn K mainGlobals "all" = some none)
    (z_bool : PySem.W.nsIn K mainGlobals "bool" = some none)
    (z_enumerate : PySem.W.nsIn K mainGlobals "enumerate" = some none)
    (z_int : PySem.W.nsIn K mainGlobals "int" = some none)
    (z_isinstance : PySem.W.nsIn K mainGlobals "isinstance" = some none)
    (z_len : PySem.W.nsIn K mainGlobals "len" = some none)
    (z_list : PySem.W.nsIn K mainGlobals "list" = some none)
    (z_max : PySem.W.nsIn K mainGlobals "max" = some none)
    (z_range : PySem.W.nsIn K mainGlobals "range" = some none)
    (z_set : PySem.W.nsIn K mainGlobals "set" = some none)
    (z_sorted : PySem.W.nsIn K mainGlobals "sorted" = some none)
    (z_str : PySem.W.nsIn K mainGlobals "str" = some none)
    (z_tuple : PySem.W.nsIn K mainGlobals "tuple" = some none) :
    LamX.LawAtS l w K CX0 7 63 "_law_script" mg fa h := by
  have e := hfa.symm.trans (PySem.W.mg_of X G hg_law)
  cases e
  let T : Txt K mg := {
    a_is_between := a_is_between
    fd_is_between := _
    F_is_between := fun_mk (st := s_is_between) hl_is_between hc_is_between hk_is_between
    g_is_between := PySem.W.mg_of X G hg_is_between
    b_is_between := (fun_mk (st := s_is_between) hl_is_between hc_is_between hk_is_between).binds (ps := P_is_between) (fun _ _ _ _ _ _ us hl => match us, hl with | [_, _, _], _ => rfl)
    a_are_manners := a_are_manners
    fd_are_manners := _
    F_are_manners := fun_mk (st := s_are_manners) hl_are_manners hc_are_manners hk_are_manners
    g_are_manners := PySem.W.mg_of X G hg_are_manners
    b_are_manners := (fun_mk (st := s_are_manners) hl_are_manners hc_are_manners hk_are_manners).binds (ps := P_are_manners) (fun _ _ _ _ _ _ us hl => match us, hl with | [_], _ => rfl)
    a_need_manners := a_need_manners
    fd_need_manners := _
    F_need_manners := fun_mk (st := s_need_manners) hl_need_manners hc_need_manners hk_need_manners
    g_need_manners := PySem.W.mg_of X G hg_need_manners
    b_need_manners := (fun_mk (st := s_need_manners) hl_need_manners hc_need_manners hk_need_manners).binds (ps := P_need_manners) (fun _ _ _ _ _ _ us hl => match us, hl with | [_], _ => rfl)
    a_is_row := a_is_row
    fd_is_row := _
    F_is_row := fun_mk (st := s_is_row) hl_is_row hc_is_row hk_is_row
    g_is_row := PySem.W.mg_of X G hg_is_row
    b_is_row := (fun_mk (st := s_is_row) hl_is_row hc_is_row hk_is_row).binds (ps := P_is_row) (fun _ _ _ _ _ _ us hl => match us, hl with | [_], _ => rfl)
    a_need_log := a_need_log
    fd_need_log := _
    F_need_log := fun_mk (st := s_need_log) hl_need_log hc_need_log hk_need_log
    g_need_log := PySem.W.mg_of X G hg_need_log
    b_need_log := (fun_mk (st := s_need_log) hl_need_log hc_need_log hk_need_log).binds (ps := P_need_log) (fun _ _ _ _ _ _ us hl => match us, hl with | [_], _ => rfl)
    a_judged := a_judged
    fd_judged := _
    F_judged := fun_mk (st := s_judged) hl_judged hc_judged hk_judged
    g_judged := PySem.W.mg_of X G hg_judged
    b_judged := (fun_mk (st := s_judged) hl_judged hc_judged hk_judged).binds (ps := P_judged) (fun _ _ _ _ _ _ us hl => match us, hl with | [_, _, _], _ => rfl)
    a_stretches := a_stretches
    fd_stretches := _
    F_stretches := fun_mk (st := s_stretches) hl_stretches hc_stretches hk_stretches
    g_stretches := PySem.W.mg_of X G hg_stretches
    b_stretches := (fun_mk (st := s_stretches) hl_stretches hc_stretches hk_stretches).binds (ps := P_stretches) (fun _ _ _ _ _ _ us hl => match us, hl with | [_], _ => rfl)
    a__law_dice := a__law_dice
    fd__law_dice := _
    F__law_dice := fun_mk (st := s__law_dice) hl__law_dice hc__law_dice hk__law_dice
    g__law_dice := PySem.W.mg_of X G hg__law_dice
    b__law_dice := (fun_mk (st := s__law_dice) hl__law_dice hc__law_dice hk__law_dice).binds (ps := P__law_dice) (fun _ _ _ _ _ _ us hl => match us, hl with | [_, _], _ => rfl)
    a__law_off := a__law_off
    fd__law_off := _
    F__law_off := fun_mk (st := s__law_off) hl__law_off hc__law_off hk__law_off
    g__law_off := PySem.W.mg_of X G hg__law_off
    b__law_off := (fun_mk (st := s__law_off) hl__law_off hc__law_off hk__law_off).binds (ps := P__law_off) (fun _ _ _ _ _ _ us hl => match us, hl with | [_, _], _ => rfl)
    a__law_alike := a__law_alike
    fd__law_alike := _
    F__law_alike := fun_mk (st := s__law_alike) hl__law_alike hc__law_alike hk__law_alike
    g__law_alike := PySem.W.mg_of X G hg__law_alike
    b__law_alike := (fun_mk (st := s__law_alike) hl__law_alike hc__law_alike hk__law_alike).binds (ps := P__law_alike) (fun _ _ _ _ _ _ us hl => match us, hl with | [_, _], _ => rfl)
    a__law_word := a__law_word
    fd__law_word := _
    F__law_word := fun_mk (st := s__law_word) hl__law_word hc__law_word hk__law_word
    g__law_word := PySem.W.mg_of X G hg__law_word
    b__law_word := (fun_mk (st := s__law_word) hl__law_word hc__law_word hk__law_word).binds (ps := P__law_word) (fun _ _ _ _ _ _ us hl => match us, hl with | [_], _ => rfl)
    a__law_can := a__law_can
    fd__law_can := _
    F__law_can := fun_mk (st := s__law_can) hl__law_can hc__law_can hk__law_can
    g__law_can := PySem.W.mg_of X G hg__law_can
    b__law_can := (fun_mk (st := s__law_can) hl__law_can hc__law_can hk__law_can).binds (ps := P__law_can) (fun _ _ _ _ _ _ us hl => match us, hl with | [_], _ => rfl)
    a__law_row := a__law_row
    fd__law_row := _
    F__law_row := fun_mk (st := s__law_row) hl__law_row hc__law_row hk__law_row
    g__law_row := PySem.W.mg_of X G hg__law_row
    b__law_row := (fun_mk (st := s__law_row) hl__law_row hc__law_row hk__law_row).binds (ps := P__law_row) (fun _ _ _ _ _ _ us hl => match us, hl with | [_], _ => rfl)
    a__law_log := a__law_log
    fd__law_log := _
    F__law_log := fun_mk (st := s__law_log) hl__law_log hc__law_log hk__law_log
    g__law_log := PySem.W.mg_of X G hg__law_log
    b__law_log := (fun_mk (st := s__law_log) hl__law_log hc__law_log hk__law_log).binds (ps := P__law_log) (fun _ _ _ _ _ _ us hl => match us, hl with | [_], _ => rfl)
    a__law_first := a__law_first
    fd__law_first := _
    F__law_first := fun_mk (st := s__law_first) hl__law_first hc__law_first hk__law_first
    g__law_first := PySem.W.mg_of X G hg__law_first
    b__law_first := (fun_mk (st := s__law_first) hl__law_first hc__law_first hk__law_first).binds (ps := P__law_first) (fun _ _ _ _ _ _ us hl => match us, hl with | [_, _, _], _ => rfl)
    a__law_no_row := a__law_no_row
    fd__law_no_row := _
    F__law_no_row := fun_mk (st := s__law_no_row) hl__law_no_row hc__law_no_row hk__law_no_row
    g__law_no_row := PySem.W.mg_of X G hg__law_no_row
    b__law_no_row := (fun_mk (st := s__law_no_row) hl__law_no_row hc__law_no_row hk__law_no_row).binds (ps := P__law_no_row) (fun _ _ _ _ _ _ us hl => match us, hl with | [_], _ => rfl)
    a_law := fa
    fd_law := _
    F_law := fun_mk (st := s_law) hl_law hc_law hk_law
    g_law := PySem.W.mg_of X G hg_law
    b_law := (fun_mk (st := s_law) hl_law hc_law hk_law).binds (ps := P_law) (fun _ _ _ _ _ _ us hl => match us, hl with | [_], _ => rfl)
    a_BadLog_init := a_BadLog_init
    fd_BadLog_init := _
    F_BadLog_init := fun_mk (st := s_BadLog_init) hl_BadLog_init hc_BadLog_init hk_BadLog_init
    b_BadLog_init := (fun_mk (st := s_BadLog_init) hl_BadLog_init hc_BadLog_init hk_BadLog_init).binds (ps := P_BadLog_init) (fun _ _ _ _ _ _ us hl => match us, hl with | [_, _], _ => rfl)
    C_LineError := C_LineError
    c_LineError := PySem.W.mg_of X G hC_LineError
    k_LineError := k_LineError
    s_LineError := s_LineError
    t_LineError := t_LineError
    x_LineError := x_LineError
    C_BadManners := C_BadManners
    c_BadManners := PySem.W.mg_of X G hC_BadManners
    k_BadManners := k_BadManners
    s_BadManners := s_BadManners
    t_BadManners := t_BadManners
    x_BadManners := x_BadManners
    C_BadItem := C_BadItem
    c_BadItem := PySem.W.mg_of X G hC_BadItem
    k_BadItem := k_BadItem
    s_BadItem := s_BadItem
    t_BadItem := t_BadItem
    x_BadItem := x_BadItem
    C_Full := C_Full
    c_Full := PySem.W.mg_of X G hC_Full
    k_Full := k_Full
    s_Full := s_Full
    t_Full := t_Full
    x_Full := x_Full
    C_BadPart := C_BadPart
    c_BadPart := PySem.W.mg_of X G hC_BadPart
    k_BadPart := k_BadPart
    s_BadPart := s_BadPart
    t_BadPart := t_BadPart
    x_BadPart := x_BadPart
    C_BadCount := C_BadCount
    c_BadCount := PySem.W.mg_of X G hC_BadCount
    k_BadCount := k_BadCount
    s_BadCount := s_BadCount
    t_BadCount := t_BadCount
    x_BadCount := x_BadCount
    C_BadEnd := C_BadEnd
    c_BadEnd := PySem.W.mg_of X G hC_BadEnd
    k_BadEnd := k_BadEnd
    s_BadEnd := s_BadEnd
    t_BadEnd := t_BadEnd
    x_BadEnd := x_BadEnd
    C_BadStep := C_BadStep
    c_BadStep := PySem.W.mg_of X G hC_BadStep
    k_BadStep := k_BadStep
    s_BadStep := s_BadStep
    t_BadStep := t_BadStep
    C_BadLog := C_BadLog
    c_BadLog := PySem.W.mg_of X G hC_BadLog
    k_BadLog := k_BadLog
    s_BadLog := s_BadLog
    t_BadLog := t_BadLog
    C_BadText := C_BadText
    c_BadText := PySem.W.mg_of X G hC_BadText
    k_BadText := k_BadText
    s_BadText := s_BadText
    t_BadText := t_BadText
    bc_LineError := ⟨gs_LE, rd_LE, fi_LE, k_LineError⟩
    ox_BadLog := ⟨⟨nm_BadLog, qn_BadLog, N_BadLog, bs_BadLog, _, sn_BadLog, sb_BadLog, ab_BadLog, cl_BadLog, dd_BadLog, m0_BadLog, m1_BadLog, m2_BadLog, m3_BadLog, m5_BadLog, xl_BadLog, rfl⟩, sa_BadLog, s_BadLog, t_BadLog, k_BadLog⟩
    iC_BadLog := hg_BadLog_init
    tI_BadLog := beq_iff_eq.mp hi_BadLog_init
    nx_BadLog_row := nx_BadLog_row
    xf_BadLog := ⟨ga_BadLog, gg_BadLog, s_BadLog, hx_BadLog⟩
    wk_BadLog := ⟨⟨ga_BadLog, gg_BadLog, s_BadLog, hx_BadLog, gc_BadLog, gx_n, gx_t, gm_BadLog⟩, kinds9 ik_BadLog_0 ik_BadLog_1 ik_BadLog_2 ik_BadLog_3 ik_BadLog_4 ik_BadLog_5 ik_BadLog_6 ik_BadLog_7 ik_BadLog_8 (by decide), iv_BadLog, xm_BadLog⟩
    lC := lC
    lP := lP
    fl := ⟨_, _, _, _, _, _, _, _, rfl, hl_law, hc_law⟩
    tk_MOST := tk_MOST
    v_MOST := PySem.W.mg_of X G hv_MOST
    tk_MOST_ROWS := tk_MOST_ROWS
    v_MOST_ROWS := PySem.W.mg_of X G hv_MOST_ROWS
    n_ValueError := PySem.W.mg_none_of X G z_ValueError
    n_abs := PySem.W.mg_none_of X G z_abs
    n_all := PySem.W.mg_none_of X G z_all
    n_bool := PySem.W.mg_none_of X G z_bool
    n_enumerate := PySem.W.mg_none_of X G z_enumerate
    n_int := PySem.W.mg_none_of X G z_int
    n_isinstance := PySem.W.mg_none_of X G z_isinstance
    n_len := PySem.W.mg_none_of X G z_len
    n_list := PySem.W.mg_none_of X G z_list
    n_max := PySem.W.mg_none_of X G z_max
    n_range := PySem.W.mg_none_of X G z_range
    n_set := PySem.W.mg_none_of X G z_set
    n_sorted := PySem.W.mg_none_of X G z_sorted
    n_str := PySem.W.mg_none_of X G z_str
    n_tuple := PySem.W.mg_none_of X G z_tuple }
  exact ⟨_, [(lC, lP)], spLaw K lP, fun p hp => by rw [List.mem_singleton.mp hp]; exact own lC lP _ _ _ _ _ _ hl_law rfl rfl tb_1 tb_2, fun p hp => by rw [List.mem_singleton.mp hp]; exact tb_3, fun p hp => by rw [List.mem_singleton.mp hp]; exact PySem.W.codeHd_of_K X tb_4,
    fun s v => .of_eq rfl, fun H a ns hn _ hT hS => ⟨a, ns, rfl, hS, hn, fun p hp => by rw [List.mem_singleton.mp hp]; exact LamX.TabS.nil (hT _ (.head _)), fun _ => rfl⟩, fun base _ _ hB => ok_law T (hB _ (.head _))⟩
theorem walk {l : PySem.W.OpenLaw} {q : Program} {loose : List Str} {XP : (Str → Option Value) → Heap → Prop} {YP : World → Heap → Prop} {d : DefRec} {K : Params → PySem.W.Frag} (hn : l.most = some 63) (hdf : d.params.defaults = []) (hrec : ((PyProof.Rows.recsOf q).any fun e => e.name == d.name) = true)
    (hY : ∀ (w : World) (h : Heap), YP w h → (K w.params).In h)
    (F : ∀ (w : World) (mg : Str → Option Value) (fa : Addr) (h : Heap), YP w h → (K w.params).In h → h.Ns mainGlobals mg → mg d.name = some (.ref fa) → LamX.OwnTab (K w.params) fa h → LamX.LawAtS l w (K w.params) CX0 7 63 "_law_script" mg fa h) :
    PySem.W.WalkO q loose XP YP l.row.toRowW d [] (fun f vs => PySem.call f vs) :=
  LamX.walk_ofOwn (n := 63) (k := 7) (x := "_law_script") (CX := fun _ => CX0) hn (by decide) hdf ⟨rfl, by decide, by decide⟩ hrec hY F fun _ _ _ _ _ z => z
end TL
open PySem PySem.W PyProof.Rows
set_option maxRecDepth 100000 in
set_option maxHeartbeats 0 in
theorem PySem.Challenge.cw_trainline_k11_logs_judged_holds : PySem.Challenge.rw_trainline_k11_logs_judged.Holds := by
  w_on; o_law; k_head; (case hw => w_witness2)
  k_fill
  refine TL.walk (l := PySem.Challenge.rw_trainline_k11_logs_judged) rfl rfl (rfl) (fun w h Y => PySem.W.km_in_of Y) ?F
  case F =>
    intro w mg fa h Y KX G hmg own
    refine' TL.all_mk KX G hmg own ?hC_LineError ?hC_BadManners ?hC_BadItem ?hC_Full ?hC_BadPart ?hC_BadCount ?hC_BadEnd ?hC_BadStep ?hC_BadLog ?hC_BadText ?hg_is_between ?hl_is_between ?hc_is_between ?hk_is_between ?hg_are_manners ?hl_are_manners ?hc_are_manners ?hk_are_manners ?hg_need_manners ?hl_need_manners ?hc_need_manners ?hk_need_manners ?hg_is_row ?hl_is_row ?hc_is_row ?hk_is_row ?hg_need_log ?hl_need_log ?hc_need_log ?hk_need_log ?hg_judged ?hl_judged ?hc_judged ?hk_judged ?hg_stretches ?hl_stretches ?hc_stretches ?hk_stretches ?hg__law_dice ?hl__law_dice ?hc__law_dice ?hk__law_dice ?hg__law_off ?hl__law_off ?hc__law_off ?hk__law_off ?hg__law_alike ?hl__law_alike ?hc__law_alike ?hk__law_alike ?hg__law_word ?hl__law_word ?hc__law_word ?hk__law_word ?hg__law_can ?hl__law_can ?hc__law_can ?hk__law_can ?hg__law_row ?hl__law_row ?hc__law_row ?hk__law_row ?hg__law_log ?hl__law_log ?hc__law_log ?hk__law_log ?hg__law_first ?hl__law_first ?hc__law_first ?hk__law_first ?hg__law_no_row ?hl__law_no_row ?hc__law_no_row ?hk__law_no_row ?hg_law ?hl_law ?hc_law ?hk_law ?hg_BadLog_init ?hi_BadLog_init ?hl_BadLog_init ?hc_BadLog_init ?hk_BadLog_init ?x_LineError ?k_LineError ?s_LineError ?t_LineError ?x_BadManners ?k_BadManners ?s_BadManners ?t_BadManners ?x_BadItem ?k_BadItem ?s_BadItem ?t_BadItem ?x_Full ?k_Full ?s_Full ?t_Full ?x_BadPart ?k_BadPart ?s_BadPart ?t_BadPart ?x_BadCount ?k_BadCount ?s_BadCount ?t_BadCount ?x_BadEnd ?k_BadEnd ?s_BadEnd ?t_BadEnd ?k_BadStep ?s_BadStep ?t_BadStep ?k_BadLog ?s_BadLog ?t_BadLog ?k_BadText ?s_BadText ?t_BadText ?gs_LE ?rd_LE ?fi_LE ?gx_n ?gx_t ?ga_BadLog ?gg_BadLog ?hx_BadLog ?xl_BadLog ?sa_BadLog ?nx_BadLog_row ?gc_BadLog ?gm_BadLog ?ik_BadLog_0 ?ik_BadLog_1 ?ik_BadLog_2 ?ik_BadLog_3 ?ik_BadLog_4 ?ik_BadLog_5 ?ik_BadLog_6 ?ik_BadLog_7 ?ik_BadLog_8 ?iv_BadLog ?xm_BadLog ?tb_1 ?tb_2 ?tb_3 ?tb_4 ?hv_MOST ?hv_MOST_ROWS ?z_ValueError ?z_abs ?z_all ?z_bool ?z_enumerate ?z_int ?z_isinstance ?z_len ?z_list ?z_max ?z_range ?z_set ?z_sorted ?z_str ?z_tuple
    (case hC_LineError => first | k_is | rfl)
    (case hC_BadManners => first | k_is | rfl)
    (case hC_BadItem => first | k_is | rfl)
    (case hC_Full => first | k_is | rfl)
    (case hC_BadPart => first | k_is | rfl)
    (case hC_BadCount => first | k_is | rfl)
    (case hC_BadEnd => first | k_is | rfl)
    (case hC_BadStep => first | k_is | rfl)
    (case hC_BadLog => first | k_is | rfl)
    (case hC_BadText => first | k_is | rfl)
    (case hg_is_between => first | k_is | rfl)
    (case hl_is_between => first | k_is | rfl)
    (case hc_is_between => first | k_is | rfl)
    (case hk_is_between => first | k_is | rfl)
    (case hg_are_manners => first | k_is | rfl)
    (case hl_are_manners => first | k_is | rfl)
    (case hc_are_manners => first | k_is | rfl)
    (case hk_are_manners => first | k_is | rfl)
    (case hg_need_manners => first | k_is | rfl)
    (case hl_need_manners => first | k_is | rfl)
    (case hc_need_manners => first | k_is | rfl)
    (case hk_need_manners => first | k_is | rfl)
    (case hg_is_row => first | k_is | rfl)
    (case hl_is_row => first | k_is | rfl)
    (case hc_is_row => first | k_is | rfl)
    (case hk_is_row => first | k_is | rfl)
    (case hg_need_log => first | k_is | rfl)
    (case hl_need_log => first | k_is | rfl)
    (case hc_need_log => first | k_is | rfl)
    (case hk_need_log => first | k_is | rfl)
    (case hg_judged => first | k_is | rfl)
    (case hl_judged => first | k_is | rfl)
    (case hc_judged => first | k_is | rfl)
    (case hk_judged => first | k_is | rfl)
    (case hg_stretches => first | k_is | rfl)
    (case hl_stretches => first | k_is | rfl)
    (case hc_stretches => first | k_is | rfl)
    (case hk_stretches => first | k_is | rfl)
    (case hg__law_dice => first | k_is | rfl)
    (case hl__law_dice => first | k_is | rfl)
    (case hc__law_dice => first | k_is | rfl)
    (case hk__law_dice => first | k_is | rfl)
    (case hg__law_off => first | k_is | rfl)
    (case hl__law_off => first | k_is | rfl)
    (case hc__law_off => first | k_is | rfl)
    (case hk__law_off => first | k_is | rfl)
    (case hg__law_alike => first | k_is | rfl)
    (case hl__law_alike => first | k_is | rfl)
    (case hc__law_alike => first | k_is | rfl)
    (case hk__law_alike => first | k_is | rfl)
    (case hg__law_word => first | k_is | rfl)
    (case hl__law_word => first | k_is | rfl)
    (case hc__law_word => first | k_is | rfl)
    (case hk__law_word => first | k_is | rfl)
    (case hg__law_can => first | k_is | rfl)
    (case hl__law_can => first | k_is | rfl)
    (case hc__law_can => first | k_is | rfl)
    (case hk__law_can => first | k_is | rfl)
    (case hg__law_row => first | k_is | rfl)
    (case hl__law_row => first | k_is | rfl)
    (case hc__law_row => first | k_is | rfl)
    (case hk__law_row => first | k_is | rfl)
    (case hg__law_log => first | k_is | rfl)
    (case hl__law_log => first | k_is | rfl)
    (case hc__law_log => first | k_is | rfl)
    (case hk__law_log => first | k_is | rfl)
    (case hg__law_first => first | k_is | rfl)
    (case hl__law_first => first | k_is | rfl)
    (case hc__law_first => first | k_is | rfl)
    (case hk__law_first => first | k_is | rfl)
    (case hg__law_no_row => first | k_is | rfl)
    (case hl__law_no_row => first | k_is | rfl)
    (case hc__law_no_row => first | k_is | rfl)
    (case hk__law_no_row => first | k_is | rfl)
    (case hg_law => first | k_is | rfl)
    (case hl_law => first | k_is | rfl)
    (case hc_law => first | k_is | rfl)
    (case hk_law => first | k_is | rfl)
    (case hg_BadLog_init => first | k_is | rfl)
    (case hi_BadLog_init => first | k_is | rfl)
    (case hl_BadLog_init => first | k_is | rfl)
    (case hc_BadLog_init => first | k_is | rfl)
    (case hk_BadLog_init => first | k_is | rfl)
    (case x_LineError => k_exc)
    (case k_LineError => first | k_is | rfl)
    (case s_LineError => first | k_is | rfl)
    (case t_LineError => first | k_is | rfl)
    (case x_BadManners => k_exc)
    (case k_BadManners => first | k_is | rfl)
    (case s_BadManners => first | k_is | rfl)
    (case t_BadManners => first | k_is | rfl)
    (case x_BadItem => k_exc)
    (case k_BadItem => first | k_is | rfl)
    (case s_BadItem => first | k_is | rfl)
    (case t_BadItem => first | k_is | rfl)
    (case x_Full => k_exc)
    (case k_Full => first | k_is | rfl)
    (case s_Full => first | k_is | rfl)
    (case t_Full => first | k_is | rfl)
    (case x_BadPart => k_exc)
    (case k_BadPart => first | k_is | rfl)
    (case s_BadPart => first | k_is | rfl)
    (case t_BadPart => first | k_is | rfl)
    (case x_BadCount => k_exc)
    (case k_BadCount => first | k_is | rfl)
    (case s_BadCount => first | k_is | rfl)
    (case t_BadCount => first | k_is | rfl)
    (case x_BadEnd => k_exc)
    (case k_BadEnd => first | k_is | rfl)
    (case s_BadEnd => first | k_is | rfl)
    (case t_BadEnd => first | k_is | rfl)
    (case k_BadStep => first | k_is | rfl)
    (case s_BadStep => first | k_is | rfl)
    (case t_BadStep => first | k_is | rfl)
    (case k_BadLog => first | k_is | rfl)
    (case s_BadLog => first | k_is | rfl)
    (case t_BadLog => first | k_is | rfl)
    (case k_BadText => first | k_is | rfl)
    (case s_BadText => first | k_is | rfl)
    (case t_BadText => first | k_is | rfl)
    (case gs_LE => first | k_is | rfl)
    (case rd_LE => first | k_is | rfl)
    (case fi_LE => first | k_is | rfl)
    (case gx_n => first | k_is | rfl)
    (case gx_t => first | k_is | rfl)
    (case ga_BadLog => first | k_is | rfl)
    (case gg_BadLog => first | k_is | rfl)
    (case hx_BadLog => first | k_is | rfl)
    (case xl_BadLog => first | k_is | rfl)
    (case sa_BadLog => first | k_is | rfl)
    (case nx_BadLog_row => first | k_is | rfl)
    (case gc_BadLog => first | k_is | rfl)
    (case gm_BadLog => first | k_is | rfl)
    (case ik_BadLog_0 => first | k_is | rfl)
    (case ik_BadLog_1 => first | k_is | rfl)
    (case ik_BadLog_2 => first | k_is | rfl)
    (case ik_BadLog_3 => first | k_is | rfl)
    (case ik_BadLog_4 => first | k_is | rfl)
    (case ik_BadLog_5 => first | k_is | rfl)
    (case ik_BadLog_6 => first | k_is | rfl)
    (case ik_BadLog_7 => first | k_is | rfl)
    (case ik_BadLog_8 => first | k_is | rfl)
    (case iv_BadLog => first | k_is | rfl)
    (case xm_BadLog => first | k_is | rfl)
    (case tb_1 => first | k_is | rfl)
    (case tb_2 => first | k_is | rfl)
    (case tb_3 => first | k_is | rfl)
    (case tb_4 => first | k_is | rfl)
    (case hv_MOST => first | k_is | rfl)
    (case hv_MOST_ROWS => first | k_is | rfl)
    (case z_ValueError => first | k_is | rfl)
    (case z_abs => first | k_is | rfl)
    (case z_all => first | k_is | rfl)
    (case z_bool => first | k_is | rfl)
    (case z_enumerate => first | k_is | rfl)
    (case z_int => first | k_is | rfl)
    (case z_isinstance => first | k_is | rfl)
    (case z_len => first | k_is | rfl)
    (case z_list => first | k_is | rfl)
    (case z_max => first | k_is | rfl)
    (case z_range => first | k_is | rfl)
    (case z_set => first | k_is | rfl)
    (case z_sorted => first | k_is | rfl)
    (case z_str => first | k_is | rfl)
    (case z_tuple => first | k_is | rfl)
