import PyProof.Rows.All
import Wide.All
import OpenK.AllK
import Wide.FinOn
import HandS.ForMost
import HandS.Exc
import HandS.TryOnly
import HandS.ExcOwn
import HandS.WordsExc
import HandS.IsInst
import HandS.TupAny
import HandS.SetFor
import HandS.Strs
import HandS.Steps
import HandS.Style
import HandS.Deep
import PySem.Challenge.RW_trainline_k03_marks
set_option Elab.async false
set_option linter.all false
set_option maxRecDepth 100000
set_option maxHeartbeats 4000000
namespace TL
open PySem PySem.Spec PyProof.Rows L2
/-! ### heaps -/
/-- what was tracked and isn't in S stays; tuples stay; nothing goes -/
structure Frm (S : List Addr) (H H' : Hp) : Prop where
  keep : ∀ b o, H b = some o → b ∉ S → H' b = some o
  tups : ∀ b ys, H b = some (.tup ys) → H' b = some (.tup ys)
  there : ∀ b o, H b = some o → ∃ o', H' b = some o'
instance {S : List Addr} {H H' : Hp} : CoeFun (Frm S H H') (fun _ => ∀ b o, H b = some o → b ∉ S → H' b = some o) := ⟨Frm.keep⟩
theorem Frm.refl (S : List Addr) (H : Hp) : Frm S H H := ⟨fun _ _ e _ => e, fun _ _ e => e, fun _ o e => ⟨o, e⟩⟩
theorem Frm.trans {S : List Addr} {H H1 H2 : Hp} (a : Frm S H H1) (b : Frm S H1 H2) : Frm S H H2 := ⟨fun c o e h => b.keep c o (a.keep c o e h) h, fun c o e => b.tups c o (a.tups c o e), fun c o e => let ⟨o', e'⟩ := a.there c o e; b.there c o' e'⟩
theorem Frm.mono {S S' : List Addr} {H H1 : Hp} (a : Frm S H H1) (h : ∀ x ∈ S, x ∈ S') : Frm S' H H1 := ⟨fun c o e hn => a.keep c o e fun z => hn (h _ z), a.tups, a.there⟩
theorem Frm.of_same {S : List Addr} {H H1 : Hp} (a : Same H H1) : Frm S H H1 := ⟨fun c o e _ => a c o e, fun c o e => a c _ e, fun c o e => ⟨o, a c o e⟩⟩
theorem Frm.same {H H1 : Hp} (a : Frm [] H H1) : Same H H1 := fun c o e => a.keep c o e (by simp)
theorem upd_there {H : Hp} {d b : Addr} {o u : HO} (e : H b = some u) : ∃ o', L2.upd H d o b = some o' := by
  by_cases h : b = d
  · subst h; exact ⟨o, upd_same⟩
  · exact ⟨u, by rw [upd_ne h]; exact e⟩
/-- something that is no tuple is written -/
theorem Frm.updN {H : Hp} {d : Addr} {o : HO} (n : ∀ ys, H d ≠ some (.tup ys)) : Frm [d] H (L2.upd H d o) := ⟨fun b u e h => by
  rw [upd_ne (fun z => h (by simp [z]))]
  exact e, fun b ys e => by
  rw [upd_ne (fun z => by rw [z] at e; exact n ys e)]
  exact e, fun b u e => upd_there e⟩
theorem Frm.updL {H : Hp} {d : Addr} {o : HO} {xs : List V} (h : H d = some (.lst xs)) : Frm [d] H (L2.upd H d o) := Frm.updN fun ys z => by rw [h] at z; cases z
theorem Frm.updI {H : Hp} {d C dx : Addr} {o : HO} {fs : List (Str × V)} (h : H d = some (.ins C dx fs)) : Frm [d] H (L2.upd H d o) := Frm.updN fun ys z => by rw [h] at z; cases z
theorem Frm.updK {H : Hp} {d : Addr} {o : HO} {kvs : List (Key × V)} (h : H d = some (.dK kvs)) : Frm [d] H (L2.upd H d o) := Frm.updN fun ys z => by rw [h] at z; cases z
theorem Frm.new {S : List Addr} {H : Hp} {p : Addr} {o : HO} (n : H p = none) : Frm S H (L2.upd H p o) := ⟨fun b u e _ => by
  rw [upd_ne (ne_of_none e n)]
  exact e, fun b u e => by
  rw [upd_ne (ne_of_none e n)]
  exact e, fun b u e => upd_there e⟩
/-- what is written was made since: all that stood ahead stands -/
theorem Frm.own {S : List Addr} {H H1 H2 : Hp} (a : Frm S H H1) {l : Addr} (hl : H l = none) (b : Frm [l] H1 H2) : Frm S H H2 := ⟨fun c o e h => b.keep c o (a.keep c o e h) (by
  simp only [List.mem_singleton]
  exact ne_of_none e hl), fun c o e => b.tups c o (a.tups c o e), fun c o e => let ⟨o', e'⟩ := a.there c o e; b.there c o' e'⟩
theorem Frm.free {S : List Addr} {H H1 : Hp} (a : Frm S H H1) {l : Addr} (h : H1 l = none) : H l = none := by
  cases q : H l with
  | none => rfl
  | some o =>
    obtain ⟨o', e⟩ := a.there l o q
    rw [e] at h
    cases h
/-- all that S names stands -/
def Alloc (S : List Addr) (H : Hp) : Prop := ∀ z ∈ S, ∃ o, H z = some o
theorem Alloc.frm {S Z : List Addr} {H H' : Hp} (a : Alloc Z H) (f : Frm S H H') : Alloc Z H' := fun z hz => let ⟨o, e⟩ := a z hz; f.there z o e
theorem Alloc.not {Z : List Addr} {H : Hp} (a : Alloc Z H) {l : Addr} (h : H l = none) : l ∉ Z := fun z => by
  obtain ⟨o, e⟩ := a l z
  rw [h] at e
  cases e
/-! ### attributes by their places -/
theorem zip_lookup : ∀ {N : List Str} {vs : List V} {i : Nat} {f : Str} {v : V}, N.Nodup → N[i]? = some f → vs[i]? = some v → (N.zip vs).lookup f = some v
  | [], _, _, _, _, _, h, _ => by simp at h
  | _ :: _, [], _, _, _, _, _, h => by simp at h
  | n :: N, x :: vs, 0, f, v, nd, h, g => by
    simp at h g
    subst h g
    simp [List.lookup]
  | n :: N, x :: vs, i + 1, f, v, nd, h, g => by
    rw [List.nodup_cons] at nd
    simp at h g
    have hne : (f == n) = false := by
      rw [beq_eq_false_iff_ne]
      rintro rfl
      exact nd.1 (List.mem_of_getElem? h)
    rw [List.zip_cons_cons, List.lookup, hne]
    exact zip_lookup nd.2 h g
theorem zip_no : ∀ {N : List Str} {vs : List V} {f : Str}, f ∉ N → (N.zip vs).lookup f = none
  | [], _, _, _ => rfl
  | _ :: _, [], _, _ => rfl
  | n :: N, x :: vs, f, h => by
    simp at h
    have hne : (f == n) = false := by rw [beq_eq_false_iff_ne]; exact h.1
    rw [List.zip_cons_cons, List.lookup, hne]
    exact zip_no h.2
/-- an attribute is stored again -/
theorem zip_put : ∀ {N : List Str} {vs : List V} {i : Nat} {f : Str} {v : V}, N.Nodup → N[i]? = some f → i < vs.length → putF f v (N.zip vs) = N.zip (vs.set i v)
  | [], _, _, _, _, _, h, _ => by simp at h
  | _ :: _, [], _, _, _, _, _, h => by simp at h
  | n :: N, x :: vs, 0, f, v, nd, h, g => by
    simp at h
    subst h
    simp [putF]
  | n :: N, x :: vs, i + 1, f, v, nd, h, g => by
    rw [List.nodup_cons] at nd
    simp at h g
    have hne : ¬ n = f := by
      rintro rfl
      exact nd.1 (List.mem_of_getElem? h)
    rw [List.zip_cons_cons]
    show (if n = f then _ else _) = _
    rw [if_neg hne, zip_put nd.2 h g]
    rfl
/-- an attribute is stored for the first time, the next by its place -/
theorem zip_add : ∀ {N : List Str} {vs : List V} {f : Str} {v : V}, N.Nodup → N[vs.length]? = some f → putF f v (N.zip vs) = N.zip (vs ++ [v])
  | [], _, _, _, _, h => by simp at h
  | n :: N, [], f, v, nd, h => by
    simp at h
    subst h
    simp [putF]
  | n :: N, x :: vs, f, v, nd, h => by
    rw [List.nodup_cons] at nd
    simp at h
    have hne : ¬ n = f := by
      rintro rfl
      exact nd.1 (List.mem_of_getElem? h)
    rw [List.zip_cons_cons]
    show (if n = f then _ else _) = _
    rw [if_neg hne, zip_add nd.2 h]
    rfl
theorem zip_small {N : List Str} {vs : List V} (h : N.length < 1000) : (N.zip vs).length < 1000 := by
  rw [List.length_zip]
  omega
theorem Same.upd_new {H : Hp} {p : Addr} {o : HO} (n : H p = none) : Same H (L2.upd H p o) := fun b u e => by
  rw [upd_ne (ne_of_none e n)]
  exact e
/-- a tuple isn't among what may be written -/
theorem iteD {p A B : Prop} [Decidable p] (h1 : p → A) (h2 : ¬ p → B) : if decide p = true then A else B := by
  by_cases h : p
  · rw [if_pos (decide_eq_true h)]
    exact h1 h
  · rw [if_neg (by simp [h])]
    exact h2 h
theorem iteN {p A B : Prop} [Decidable p] (h1 : ¬ p → A) (h2 : p → B) : if (!decide p) = true then A else B := by
  by_cases h : p
  · rw [if_neg (by simp [h])]
    exact h2 h
  · rw [if_pos (by simp [h])]
    exact h1 h
theorem iteB {b : Bool} {A B : Prop} (h1 : b = true → A) (h2 : b = false → B) : if b = true then A else B := by
  cases b
  · rw [if_neg (by simp)]; exact h2 rfl
  · rw [if_pos rfl]; exact h1 rfl
theorem vint_inj {i j : Int} : (V.int i = V.int j) ↔ i = j := ⟨fun h => by cases h; rfl, fun h => by rw [h]⟩
theorem getmap {α : Type} {f : α → V} {ns : List α} {i : Nat} {y : V} (h : (ns.map f)[i]? = some y) : ∃ z, ns[i]? = some z ∧ y = f z := by
  rw [List.getElem?_map] at h
  cases e : ns[i]? with
  | none => rw [e] at h; cases h
  | some z => rw [e] at h; exact ⟨z, rfl, (Option.some.inj h).symm⟩
theorem take_more {α : Type} : ∀ {l : List α} {i : Nat} {x : α}, l[i]? = some x → l.take (i + 1) = l.take i ++ [x]
  | [], i, x, h => by simp at h
  | a :: l, 0, x, h => by
    have e : a = x := Option.some.inj h
    subst e
    rfl
  | a :: l, i + 1, x, h => by
    have ih := take_more (l := l) (i := i) (x := x) h
    show a :: l.take (i + 1) = a :: l.take i ++ [x]
    rw [ih]
    rfl
/-! ### loops over enumerate(..) -/
/-- the invariant of a for over J -/
abbrev ForW (J : It) (g : TG) (tb : TS) (D : Ends) (σ : L2.St) (H : Hp) : Prop :=
  ∃ W : Nat → Nat → L2.St → Hp → Prop, (∃ m, W 0 m σ H) ∧ ∀ i m σ H, W i m σ H → (J.stop i H ∧ D.nx σ H) ∨
    (J.go i H ∧ ∃ N : L2.St → Hp → Prop, (∀ σ' H', N σ' H' → ∃ m', m' < m ∧ W (i + 1) m' σ' H') ∧ ∀ x H', J.yld i H x H' → g x σ H' fun σ2 H2 => tb { D with nx := N, ct := N, bk := D.nx } σ2 H2)
abbrev LcW (J : It) (g : TG) (tt : TT) (te : TE) (vs : List Nat) (σ : L2.St) (H1 : Hp) (D : Addr) (Qd : Hp → Prop) : Prop :=
  ∃ W : Nat → Nat → Hp → Prop, (∃ m, W 0 m (upd H1 D (.lst []))) ∧ ∀ i m H, W i m H → (J.stop i H ∧ Qd H) ∨
    (J.go i H ∧ ∃ Nx : Hp → Prop, (∀ H', Nx H' → ∃ m', m' < m ∧ W (i + 1) m' H') ∧ ∀ x H', J.yld i H x H' → g x (wipe σ vs) H' fun σ2 H2 => wipe σ2 vs = wipe σ vs ∧ tt σ2 H2 fun b H3 =>
      if b = true then te σ2 H3 fun y H4 => ∃ acc, H4 D = some (.lst acc) ∧ acc.length < sizeLine ∧ Nx (upd H4 D (.lst (acc ++ [y]))) else Nx H3)
theorem for_enum {K : PySem.W.Frag} {a : Addr} {xs : List V} {g : TG} {tb : TS} {D : Ends} {σ : L2.St} {H : Hp} (Pv : Nat → L2.St → Hp → Prop) (h0 : Pv 0 σ H) (hl : ∀ i σ H, i ≤ xs.length → Pv i σ H → SqL K H a xs)
    (hs : ∀ (i : Nat) (x : V) (T : Addr) (σ : L2.St) (H : Hp), xs[i]? = some x → Pv i σ H → H T = none → g (.ref T) σ (upd H T (.tup [.int (i : Nat), x])) fun σ2 H2 => tb { D with nx := Pv (i + 1), ct := Pv (i + 1), bk := D.nx } σ2 H2)
    (hd : ∀ σ H, Pv xs.length σ H → D.nx σ H) : ForW (Ite K a) g tb D σ H := by
  refine ⟨fun i m σ H => m = xs.length - i ∧ i ≤ xs.length ∧ Pv i σ H, ⟨_, rfl, Nat.zero_le _, h0⟩, fun i m σ H hw => ?_⟩
  obtain ⟨rfl, hi, p⟩ := hw
  have q := hl i σ H hi p
  rcases Nat.lt_or_ge i xs.length with hlt | hge
  · refine .inr ⟨⟨xs, xs[i], q, by simp [hlt]⟩, Pv (i + 1), fun σ' H' p' => ⟨xs.length - (i + 1), by omega, rfl, hlt, p'⟩, fun v H' y => ?_⟩
    obtain ⟨T, x, rfl, hT, rfl, hx⟩ := y
    exact hs i x T σ H (hx xs q) p hT
  · have e : i = xs.length := by omega
    subst e
    exact .inl ⟨⟨xs, q, Nat.le_refl _⟩, hd σ H p⟩
theorem lc_enum {K : PySem.W.Frag} {a : Addr} {xs : List V} {g : TG} {tt : TT} {te : TE} {vs : List Nat} {σ : L2.St} {H1 : Hp} {D : Addr} {Qd : Hp → Prop} (Pv : Nat → Hp → Prop) (h0 : Pv 0 (upd H1 D (.lst []))) (hl : ∀ i H, i ≤ xs.length → Pv i H → SqL K H a xs)
    (hs : ∀ (i : Nat) (x : V) (T : Addr) (H : Hp), xs[i]? = some x → Pv i H → H T = none → g (.ref T) (wipe σ vs) (upd H T (.tup [.int (i : Nat), x])) fun σ2 H2 => wipe σ2 vs = wipe σ vs ∧ tt σ2 H2 fun b H3 =>
      if b = true then te σ2 H3 fun y H4 => ∃ acc, H4 D = some (.lst acc) ∧ acc.length < sizeLine ∧ Pv (i + 1) (upd H4 D (.lst (acc ++ [y]))) else Pv (i + 1) H3)
    (hd : ∀ H, Pv xs.length H → Qd H) : LcW (Ite K a) g tt te vs σ H1 D Qd := by
  refine ⟨fun i m H => m = xs.length - i ∧ i ≤ xs.length ∧ Pv i H, ⟨_, rfl, Nat.zero_le _, h0⟩, fun i m H hw => ?_⟩
  obtain ⟨rfl, hi, p⟩ := hw
  have q := hl i H hi p
  rcases Nat.lt_or_ge i xs.length with hlt | hge
  · refine .inr ⟨⟨xs, xs[i], q, by simp [hlt]⟩, Pv (i + 1), fun H' p' => ⟨xs.length - (i + 1), by omega, rfl, hlt, p'⟩, fun v H' y => ?_⟩
    obtain ⟨T, x, rfl, hT, rfl, hx⟩ := y
    exact hs i x T H (hx xs q) p hT
  · have e : i = xs.length := by omega
    subst e
    exact .inl ⟨⟨xs, q, Nat.le_refl _⟩, hd H p⟩
/-! ### o.f as one of several targets -/
def gFld (K : PySem.W.Frag) (to : TE) (f : Str) : TG := fun v σ H Q => to σ H fun x H1 => ∃ a C dx fs, x = .ref a ∧ H1 a = some (.ins C dx fs) ∧ Cls K C ∧ NoAttr K C f ∧ fs.length < 1000 ∧ Q σ (upd H1 a (.ins C dx (putF f v fs)))
theorem pg_fld {X : Cx} {o : Expr} {f : Str} {pos : Pos} {to : TE} (ho : PE X o to) : PG X (.Attribute o f pos) (gFld X.K to f) := by
  refine ⟨fun pins s σ H v u Q I r h => ?_⟩
  rw [assign_Attribute]
  refine wpAny_bind (wpAny_holding (thn (ho.run pins s σ H _ I h) fun ov s1 ⟨x, H1, I1, rx, a, C, dx, fs, ex, ea, c, n, l, q⟩ => ?_))
  subst ex
  obtain rfl : ov = Value.ref a := rx
  refine wpAny_bind (wpAny_standAt (wpAny_bind (wpAny_holding (setattr_ok I1 ea c n l r fun s2 I2 => ?_))))
  exact wpAny_release ⟨σ, _, I2, q⟩
/-! ### a comprehension within a comprehension -/
def FrIn (sc : Scope) : List Str → Prop
  | [] => True
  | n :: r => (sc.names.lookup n = some .cell ∨ sc.names.lookup n = some .free) ∧ FrIn sc r
def frees (scope : Scope) : List Str := (scope.names.filter fun y => y.2 == .free).map (·.1)
def blkD (N : List Str) (scope : Scope) (own : List (Str × Nat)) : Bool :=
  (match scope.kind with | .function => true | _ => false) && (scope.names.all fun y => decide (scope.names.lookup y.1 = some y.2)) && (own.all fun p => decide (N[p.2]? = some p.1)) &&
    (scope.names.all fun y => match y.2 with
      | .local => decide (y.1 ∈ own.map (·.1)) || decide (y.1 ∉ N)
      | .cell => decide (y.1 ∈ own.map (·.1)) || decide (y.1 ∉ N)
      | _ => true)
theorem FrIn.of {sc : Scope} : ∀ {l : List Str} {n : Str}, FrIn sc l → n ∈ l → sc.names.lookup n = some .cell ∨ sc.names.lookup n = some .free
  | [], _, _, h => by simp at h
  | a :: r, n, f, h => by
    rcases List.mem_cons.mp h with rfl | h
    · exact f.1
    · exact FrIn.of f.2 h
theorem blkOk_in {N : List Str} {sc scope : Scope} {own : List (Str × Nat)} (h : blkD N scope own = true) (hf : FrIn sc (frees scope)) : BlkOk N sc scope own := by
  unfold blkD at h
  simp only [Bool.and_eq_true, List.all_eq_true, decide_eq_true_eq] at h
  obtain ⟨⟨⟨h1, h2⟩, h3⟩, h4⟩ := h
  refine ⟨?_, h2, h3, fun y hy e => ?_, fun y hy e => ?_⟩
  · split at h1
    · assumption
    · cases h1
  · refine hf.of ?_
    unfold frees
    rw [List.mem_map]
    exact ⟨y, by rw [List.mem_filter]; exact ⟨hy, by rw [e]; rfl⟩, rfl⟩
  · have q := h4 y hy
    rcases e with e | e
    · rw [e] at q
      simpa using q
    · rw [e] at q
      simpa using q
/-- a comprehension over a list of two -/
theorem lc_two {K : PySem.W.Frag} {a : Addr} {v0 v1 : V} {g : TG} {tt : TT} {te : TE} {vs : List Nat} {σ : L2.St} {H1 : Hp} {D : Addr} {Qd : Hp → Prop} (P0 P1 P2 : Hp → Prop) (h0 : P0 (upd H1 D (.lst []))) (l0 : ∀ H, P0 H → SqL K H a [v0, v1]) (l1 : ∀ H, P1 H → SqL K H a [v0, v1]) (l2 : ∀ H, P2 H → SqL K H a [v0, v1])
    (s0 : ∀ H, P0 H → g v0 (wipe σ vs) H fun σ2 H2 => wipe σ2 vs = wipe σ vs ∧ tt σ2 H2 fun b H3 => if b = true then te σ2 H3 fun y H4 => ∃ acc, H4 D = some (.lst acc) ∧ acc.length < sizeLine ∧ P1 (upd H4 D (.lst (acc ++ [y]))) else P1 H3)
    (s1 : ∀ H, P1 H → g v1 (wipe σ vs) H fun σ2 H2 => wipe σ2 vs = wipe σ vs ∧ tt σ2 H2 fun b H3 => if b = true then te σ2 H3 fun y H4 => ∃ acc, H4 D = some (.lst acc) ∧ acc.length < sizeLine ∧ P2 (upd H4 D (.lst (acc ++ [y]))) else P2 H3)
    (hd : ∀ H, P2 H → Qd H) : LcW (Itl K a) g tt te vs σ H1 D Qd := by
  refine lc_list (K := K) (a := a) (xs := [v0, v1]) (fun i H => match i with | 0 => P0 H | 1 => P1 H | _ => P2 H) h0 ?_ ?_ hd
  · intro i H hi p
    match i, p with
    | 0, p => exact l0 H p
    | 1, p => exact l1 H p
    | _ + 2, p => exact l2 H p
  · intro i x H hx p
    match i, hx, p with
    | 0, hx, p =>
      have e : v0 = x := Option.some.inj hx
      subst e
      exact s0 H p
    | 1, hx, p =>
      have e : v1 = x := Option.some.inj hx
      subst e
      exact s1 H p
    | n + 2, hx, p => simp at hx
/-- a loop over 0, 1 -/
theorem for_two {g : TG} {tb : TS} {D : Ends} {σ : L2.St} {H : Hp} (P0 P1 P2 : L2.St → Hp → Prop) (h0 : P0 σ H)
    (s0 : ∀ σ H, P0 σ H → g (.int 0) σ H fun σ2 H2 => tb { D with nx := P1, ct := P1, bk := D.nx } σ2 H2)
    (s1 : ∀ σ H, P1 σ H → g (.int 1) σ H fun σ2 H2 => tb { D with nx := P2, ct := P2, bk := D.nx } σ2 H2)
    (hd : ∀ σ H, P2 σ H → D.nx σ H) : ForW (Itr 0 2) g tb D σ H := by
  refine for_range (lo := 0) (n := 2) (fun i σ H => match i with | 0 => P0 σ H | 1 => P1 σ H | _ => P2 σ H) h0 ?_ hd
  intro i σ H hi p
  match i, hi, p with
  | 0, _, p => exact s0 σ H p
  | 1, _, p => exact s1 σ H p
/-! ### where ways come together -/
/-- behind t N holds, and from N on the rest goes -/
def tCut (t : TS) : TS := fun D σ H => ∃ N : L2.St → Hp → Prop, t { D with nx := N } σ H ∧ ∀ σ' H', N σ' H' → D.nx σ' H'
theorem ps_cut {X : Cx} {st : Stmt} {t : TS} (h : PS X st t) : PS X st (tCut t) := ⟨fun pins s σ H D I ⟨N, h1, h2⟩ => thn (h.run pins s σ H { D with nx := N } I h1) fun f s' q => by
  cases f with
  | next =>
    obtain ⟨σ', H', I', n⟩ := q
    exact ⟨σ', H', I', h2 _ _ n⟩
  | brk => exact q
  | cont => exact q
  | ret u => exact q⟩
/-- the same of an expression: its value, and of a test -/
def tCutE (t : TE) : TE := fun σ H Q => ∃ N : VK, t σ H N ∧ ∀ v H', N v H' → Q v H'
theorem pe_cut {X : Cx} {e : Expr} {t : TE} (h : PE X e t) : PE X e (tCutE t) := ⟨fun pins s σ H Q I ⟨N, h1, h2⟩ => thn (h.run pins s σ H N I h1) fun u s' ⟨x, H', I', r, n⟩ => ⟨x, H', I', r, h2 _ _ n⟩⟩
def tCutT (t : TT) : TT := fun σ H Q => ∃ N : Bool → Hp → Prop, t σ H N ∧ ∀ b H', N b H' → Q b H'
theorem pt_cut {X : Cx} {e : Expr} {t : TT} (h : PT X e t) : PT X e (tCutT t) := ⟨fun pins s σ H Q I ⟨N, h1, h2⟩ => thn (h.run pins s σ H N I h1) fun c s' ⟨H', I', n⟩ => ⟨H', I', h2 _ _ n⟩⟩
/-! ### set(t), t a tuple of whole numbers -/
section
variable {X : Cx}
def rSetT (K : PySem.W.Frag) (w : World) : List V → Hp → VK → Prop := fun xs H Q => ∃ (p : Addr) (ns : List Int), xs = [.ref p] ∧ SqT K H p (ns.map V.int) ∧ ns.length ≤ 1000 ∧
  ∀ (q : Addr) (c : Nat), H q = none → c ≤ ns.length → Q (.ref q) (upd H q (SetO w q (fun j => decide (j ∈ ns)) c))
theorem cr_setT (hc : X.calm = true) : CallR X (.type "set") (rSetT X.K X.w) := by
  intro pins s σ H xs us Q I rv h
  obtain ⟨p0, ns, rfl, hq, hl, q⟩ := h
  cases rv with
  | cons r rr =>
    cases rr
    cases r
    obtain ⟨its, rv, pt, hz⟩ := I.tuple hq
    have hi : IntsAre its.toArray.toList ns := ints_of_vals rv
    refine call_set_tupI ns (I.ok.hd hc) (show s.heap.IsTuple p0 its.toArray from pt) hi (by unfold scanBound; omega) fun h' tk c R1 hcn k => ?_
    exact ⟨.ref _, upd H s.heap.objs.size (SetO X.w s.heap.objs.size (fun j => decide (j ∈ ns)) c), I.laid (t' := tk) k (Nat.le_refl _) (setO_new R1), rfl, q _ _ (I.hok.fresh (Nat.le_refl _)) hcn⟩
/-! ### xs.count(y), flat items -/
def rCountF (K : PySem.W.Frag) : V → List V → Hp → VK → Prop := fun x xs H Q => ∃ (p : Addr) (ys : List V) (y : V), x = .ref p ∧ xs = [y] ∧ SqL K H p ys ∧ flatV y = true ∧ ys.all flatV = true ∧ Q (.int (ys.countP (fun z => eqV z y) : Nat)) H
theorem countP_eqU {y : V} : ∀ {ys : List V} {us : List Value}, Vals ys us → ys.all flatV = true → us.countP (eqU y) = ys.countP (fun z => eqV z y)
  | _, _, .nil, _ => rfl
  | _, _, .cons r t, f => by
    simp only [List.all_cons, Bool.and_eq_true] at f
    rw [List.countP_cons, List.countP_cons, countP_eqU t f.2, eqU_of r f.1]
theorem mt_countF : MtR X "list.count" (rCountF X.K) := by
  intro pins s σ H x xs v us Q I rx rxs h
  obtain ⟨p, ys, y, rfl, rfl, hs, fy, fys, q⟩ := h
  cases rx
  obtain ⟨u, rfl, ru⟩ := rxs.one
  obtain ⟨its, rv, ⟨⟨cls, dd, data, sl⟩, n, ho, hc, hdn, hd⟩, hlen⟩ := I.list hs
  simp only at hc hd
  subst hc hd
  refine call_meets PySem.F.slot_list_count ⟨_, ho, rfl⟩ PySem.F.entry_list_count (PySem.F.args_list_count_2 _ _)
    (SeqAt.list_countAt p its.toArray n dd sl u (eqU y)) ⟨ho, fun z hz => mem_eqAt ru fy rv fys z (by simpa using hz), ?_⟩
  have ec : its.toArray.toList.countP (eqU y) = ys.countP (fun z => eqV z y) := countP_eqU rv fys
  refine ⟨.int (ys.countP (fun z => eqV z y) : Nat), H, I.tok _, ⟨s.toks, ?_⟩, q⟩
  show Value.int ((its.toArray.toList.countP (eqU y) : Nat) : Int) s.toks = Value.int ((ys.countP (fun z => eqV z y) : Nat) : Int) s.toks
  rw [ec]
end
theorem count_int (ns : List Int) (k : Int) : (ns.map V.int).countP (fun z => eqV z (.int k)) = ns.count k := by
  induction ns with
  | nil => rfl
  | cons a r ih =>
    rw [List.map_cons, List.countP_cons, ih, List.count_cons]
    rfl
/-! ### data and ints -/
theorem flat_ints (ns : List Int) : (ns.map V.int).all flatV = true := by
  rw [List.all_map, List.all_eq_true]
  intro _ _
  rfl
theorem inV_int (k : Int) (ns : List Int) : inV (.int k) (ns.map V.int) = decide (k ∈ ns) := by
  unfold inV
  rw [List.any_map]
  induction ns with
  | nil => rfl
  | cons a r ih =>
    rw [List.any_cons, ih]
    show (a == k || decide (k ∈ r)) = _
    by_cases e : a = k
    · subst e; simp
    · have e' : ¬ k = a := fun z => e z.symm
      simp [e, e']
end TL

namespace L2
open PySem PySem.Spec PyProof.Rows
mutual
theorem Dp.same {K : PySem.W.Frag} {H H' : Hp} (e : Same H H') : ∀ {x : V} {d : PyData}, Dp K H x d → Dp K H' x d
  | _, _, .non => .non
  | _, _, .bl b => .bl b
  | _, _, .int i => .int i
  | _, _, .str z => .str z
  | _, _, .lst h a => .lst (e.seq h) (DpAll.same e a)
  | _, _, .tup h a => .tup (by
      rcases h with (h | ⟨o, h⟩) | h
      · exact .inl (.inl (e _ _ h))
      · exact .inl (.inr ⟨o, e _ _ h⟩)
      · exact .inr h) (DpAll.same e a)
theorem DpAll.same {K : PySem.W.Frag} {H H' : Hp} (e : Same H H') : ∀ {xs : List V} {ds : List PyData}, DpAll K H xs ds → DpAll K H' xs ds
  | _, _, .nil => .nil
  | _, _, .cons h t => .cons (Dp.same e h) (DpAll.same e t)
end
theorem SqT_same {K : PySem.W.Frag} {H H' : Hp} {a : Addr} {xs : List V} (e : Same H H') (h : SqT K H a xs) : SqT K H' a xs := by
  rcases h with (h | ⟨o, h⟩) | h
  · exact .inl (.inl (e _ _ h))
  · exact .inl (.inr ⟨o, e _ _ h⟩)
  · exact .inr h
theorem DpAll.length {K : PySem.W.Frag} {H : Hp} : ∀ {xs : List V} {ds : List PyData}, DpAll K H xs ds → xs.length = ds.length
  | _, _, .nil => rfl
  | _, _, .cons _ t => by rw [List.length_cons, List.length_cons, DpAll.length t]
theorem DpAll.get {K : PySem.W.Frag} {H : Hp} : ∀ {xs : List V} {ds : List PyData} {i : Nat} {d : PyData}, DpAll K H xs ds → ds[i]? = some d → ∃ x, xs[i]? = some x ∧ Dp K H x d
  | _, _, i, d, .nil, e => by simp at e
  | _, _, 0, d, .cons h t, e => by simp at e; subst e; exact ⟨_, rfl, h⟩
  | _, _, i + 1, d, .cons h t, e => by
    obtain ⟨x, h1, h2⟩ := DpAll.get (i := i) (d := d) t (by simpa using e)
    exact ⟨x, by simpa using h1, h2⟩
theorem dp_ints {K : PySem.W.Frag} {H : Hp} : ∀ ns : List Int, DpAll K H (ns.map V.int) (ns.map PyData.int)
  | [] => .nil
  | n :: r => .cons (.int n) (dp_ints r)
theorem DpAll.append {K : PySem.W.Frag} {H : Hp} : ∀ {xs ys : List V} {ds es : List PyData}, DpAll K H xs ds → DpAll K H ys es → DpAll K H (xs ++ ys) (ds ++ es)
  | _, _, _, _, .nil, b => b
  | _, _, _, _, .cons h t, b => .cons h (DpAll.append t b)
theorem DpAll.get' {K : PySem.W.Frag} {H : Hp} : ∀ {xs : List V} {ds : List PyData} {i : Nat} {x : V}, DpAll K H xs ds → xs[i]? = some x → ∃ d, ds[i]? = some d ∧ Dp K H x d
  | _, _, i, d, .nil, e => by simp at e
  | _, _, 0, d, .cons h t, e => by simp at e; subst e; exact ⟨_, rfl, h⟩
  | _, _, i + 1, d, .cons h t, e => by
    obtain ⟨x, h1, h2⟩ := DpAll.get' (i := i) (x := d) t (by simpa using e)
    exact ⟨x, by simpa using h1, h2⟩
theorem DpAll.ints_inv {K : PySem.W.Frag} {H : Hp} : ∀ {xs : List V} {ns : List Int}, DpAll K H xs (ns.map .int) → xs = ns.map V.int
  | _, [], .nil => rfl
  | _, n :: r, .cons h t => by
    cases h
    rw [List.map_cons, DpAll.ints_inv t]
end L2
namespace TL
open PySem PySem.Spec PyProof.Rows L2
/-! ### isinstance, by the kinds -/
theorem kb_ii : kitB "int" "int" = some true := by decide +kernel
theorem kb_ib : kitB "int" "bool" = some false := by decide +kernel
theorem kb_is : kitB "int" "str" = some false := by decide +kernel
theorem kb_it : kitB "int" "tuple" = some false := by decide +kernel
theorem kb_il : kitB "int" "list" = some false := by decide +kernel
theorem kb_bi : kitB "bool" "int" = some true := by decide +kernel
theorem kb_bb : kitB "bool" "bool" = some true := by decide +kernel
theorem kb_bt : kitB "bool" "tuple" = some false := by decide +kernel
theorem kb_bs : kitB "bool" "str" = some false := by decide +kernel
theorem kb_si : kitB "str" "int" = some false := by decide +kernel
theorem kb_sb : kitB "str" "bool" = some false := by decide +kernel
theorem kb_ss : kitB "str" "str" = some true := by decide +kernel
theorem kb_st : kitB "str" "tuple" = some false := by decide +kernel
theorem kb_ni : kitB "NoneType" "int" = some false := by decide +kernel
theorem kb_nb : kitB "NoneType" "bool" = some false := by decide +kernel
theorem kb_nt : kitB "NoneType" "tuple" = some false := by decide +kernel
theorem kb_ns : kitB "NoneType" "str" = some false := by decide +kernel
theorem kb_ti : kitB "tuple" "int" = some false := by decide +kernel
theorem kb_tb : kitB "tuple" "bool" = some false := by decide +kernel
theorem kb_ts : kitB "tuple" "str" = some false := by decide +kernel
theorem kb_tt : kitB "tuple" "tuple" = some true := by decide +kernel
theorem kb_tl : kitB "tuple" "list" = some false := by decide +kernel
theorem kb_li : kitB "list" "int" = some false := by decide +kernel
theorem kb_lb : kitB "list" "bool" = some false := by decide +kernel
theorem kb_ls : kitB "list" "str" = some false := by decide +kernel
theorem kb_lt : kitB "list" "tuple" = some false := by decide +kernel
theorem kb_ll : kitB "list" "list" = some true := by decide +kernel
theorem tyx_L {K : PySem.W.Frag} {H : Hp} {a : Addr} {xs : List V} (h : SqL K H a xs) : TyX K H (.ref a) (.type "list") := by
  rcases h with (h | ⟨o, h⟩) | ⟨o, its, n, hk, hc, _⟩
  · exact .base (.lst h)
  · exact .base (.frz h)
  · exact .kList hk hc
theorem tyx_T {K : PySem.W.Frag} {H : Hp} {a : Addr} {xs : List V} (h : SqT K H a xs) : TyX K H (.ref a) (.type "tuple") := by
  rcases h with (h | ⟨o, h⟩) | ⟨o, its, n, hk, hc, _⟩
  · exact .base (.tup h)
  · exact .fTuple h
  · exact .kTuple hk hc
/-- what is, by its kind: the type that isinstance asks -/
def kty : PyData → String
  | .none => "NoneType" | .bool _ => "bool" | .int _ => "int" | .str _ => "str" | .list _ => "list" | .tuple _ => "tuple" | .dict _ => "dict"
theorem tyx_D {K : PySem.W.Frag} {H : Hp} {x : V} {d : PyData} (h : Dp K H x d) : TyX K H x (.type (kty d)) := by
  cases h with
  | non => exact .base .non
  | bl b => exact .base (.bl b)
  | int i => exact .base (.int i)
  | str z => exact .base (.str z)
  | lst h _ => exact tyx_L h
  | tup h _ => exact tyx_T h
/-- isinstance(x, c) of data -/
theorem isi_D {K : PySem.W.Frag} {H : Hp} {x : V} {d : PyData} {c : String} {b : Bool} {Q : VK} (h : Dp K H x d) (k : kitB (kty d) c = some b) (q : Q (.bl b) H) : rIsi K [x, .ty c] H Q :=
  ⟨x, .ty c, _, _, b, rfl, .ty c, tyx_D h, kit_ty k, q⟩
/-- numbers, texts, truths, None, lists and tuples of these, nested no more than n deep -/
def lv : Nat → PyData → Prop
  | _, .none => True | _, .bool _ => True | _, .int _ => True | _, .str x => (PyData.str x).canLay0 = true
  | n + 1, .list ds => ds.length ≤ 100000 ∧ ∀ d ∈ ds, lv n d
  | n + 1, .tuple ds => ds.length ≤ 100000 ∧ ∀ d ∈ ds, lv n d
  | _, _ => False
/-- such data are laid out and compared -/
theorem lv_ok : ∀ (n : Nat) (d : PyData), lv n d → d.canLay0 = true ∧ d.depth ≤ n
  | _, .none, _ => ⟨rfl, by simp [PyData.depth]⟩
  | _, .bool _, _ => ⟨rfl, by simp [PyData.depth]⟩
  | _, .int _, _ => ⟨rfl, by simp [PyData.depth]⟩
  | _, .str _, h => ⟨by simpa [lv] using h, by simp [PyData.depth]⟩
  | 0, .list _, h => by simp [lv] at h
  | 0, .tuple _, h => by simp [lv] at h
  | n + 1, .list ds, h => by
    simp only [lv] at h
    have q : ∀ es : List PyData, (∀ d ∈ es, lv n d) → PyData.canLayAll0 es = true ∧ PyData.depthAll es ≤ n := by
      intro es
      induction es with
      | nil => intro _; exact ⟨rfl, by simp [PyData.depthAll]⟩
      | cons e r ih =>
        intro z
        obtain ⟨a1, a2⟩ := lv_ok n e (z e (by simp))
        obtain ⟨b1, b2⟩ := ih fun d hd => z d (by simp [hd])
        exact ⟨by simp [PyData.canLayAll0, a1, b1], by simp only [PyData.depthAll]; omega⟩
    obtain ⟨q1, q2⟩ := q ds h.2
    exact ⟨by simpa [PyData.canLay0] using q1, by simp only [PyData.depth]; omega⟩
  | n + 1, .tuple ds, h => by
    simp only [lv] at h
    have q : ∀ es : List PyData, (∀ d ∈ es, lv n d) → PyData.canLayAll0 es = true ∧ PyData.depthAll es ≤ n := by
      intro es
      induction es with
      | nil => intro _; exact ⟨rfl, by simp [PyData.depthAll]⟩
      | cons e r ih =>
        intro z
        obtain ⟨a1, a2⟩ := lv_ok n e (z e (by simp))
        obtain ⟨b1, b2⟩ := ih fun d hd => z d (by simp [hd])
        exact ⟨by simp [PyData.canLayAll0, a1, b1], by simp only [PyData.depthAll]; omega⟩
    obtain ⟨q1, q2⟩ := q ds h.2
    exact ⟨by simpa [PyData.canLay0] using q1, by simp only [PyData.depth]; omega⟩
  | 0, .dict _, h => by simp [lv] at h
  | _ + 1, .dict _, h => by simp [lv] at h
theorem shaped_lv {n : Nat} {d : PyData} (h : lv n d) (hn : n ≤ 64) : SeqAt.shaped d = true := by
  obtain ⟨a, b⟩ := lv_ok n d h
  unfold SeqAt.shaped
  rw [a, decide_eq_true (Nat.le_trans b hn)]
  rfl
theorem eqvAll_ints : ∀ ns ms : List Int, PyData.eqvAll (ns.map .int) (ms.map .int) = decide (ns = ms)
  | [], [] => rfl
  | [], _ :: _ => rfl
  | _ :: _, [] => rfl
  | a :: r, b :: s => by
    rw [List.map_cons, List.map_cons]
    show (PyData.eqv (.int a) (.int b) && PyData.eqvAll _ _) = _
    rw [eqvAll_ints r s]
    show ((a == b) && decide (r = s)) = _
    by_cases h : a = b
    · subst h; simp
    · simp [h]
theorem canLay_ints (ns : List Int) : (PyData.list (ns.map .int)).canLay0 = true := by
  induction ns with
  | nil => rfl
  | cons a r ih => exact ih
theorem depth_ints (ns : List Int) : (PyData.list (ns.map .int)).depth ≤ 2 := by
  induction ns with
  | nil => decide
  | cons a r ih =>
    revert ih
    simp only [PyData.depth, PyData.depthAll, List.map_cons]
    omega
theorem shaped_ints (ns : List Int) : SeqAt.shaped (.list (ns.map .int)) = true := by
  unfold SeqAt.shaped
  rw [canLay_ints, decide_eq_true (Nat.le_trans (depth_ints ns) (by decide))]
  rfl
/-! ### what can't be changed: numbers, texts, truths, None, tuples of these -/
mutual
inductive Im (H : Hp) : V → PyData → Prop
  | non : Im H .non .none
  | bl (b : Bool) : Im H (.bl b) (.bool b)
  | int (i : Int) : Im H (.int i) (.int i)
  | str (x : Str) : Im H (.str x) (.str x)
  | tup {a : Addr} {xs : List V} {ds : List PyData} : H a = some (.tup xs) → ImAll H xs ds → Im H (.ref a) (.tuple ds)
inductive ImAll (H : Hp) : List V → List PyData → Prop
  | nil : ImAll H [] []
  | cons {v : V} {vs : List V} {d : PyData} {ds : List PyData} : Im H v d → ImAll H vs ds → ImAll H (v :: vs) (d :: ds)
end
mutual
theorem Im.dp {K : PySem.W.Frag} {H : Hp} : ∀ {x : V} {d : PyData}, Im H x d → Dp K H x d
  | _, _, .non => .non
  | _, _, .bl b => .bl b
  | _, _, .int i => .int i
  | _, _, .str z => .str z
  | _, _, .tup h a => .tup (SqT.of h) (ImAll.dp a)
theorem ImAll.dp {K : PySem.W.Frag} {H : Hp} : ∀ {xs : List V} {ds : List PyData}, ImAll H xs ds → DpAll K H xs ds
  | _, _, .nil => .nil
  | _, _, .cons h t => .cons (Im.dp h) (ImAll.dp t)
end
mutual
theorem Im.frm {S : List Addr} {H H' : Hp} (e : Frm S H H') : ∀ {x : V} {d : PyData}, Im H x d → Im H' x d
  | _, _, .non => .non
  | _, _, .bl b => .bl b
  | _, _, .int i => .int i
  | _, _, .str z => .str z
  | _, _, .tup h a => .tup (e.tups _ _ h) (ImAll.frm e a)
theorem ImAll.frm {S : List Addr} {H H' : Hp} (e : Frm S H H') : ∀ {xs : List V} {ds : List PyData}, ImAll H xs ds → ImAll H' xs ds
  | _, _, .nil => .nil
  | _, _, .cons h t => .cons (Im.frm e h) (ImAll.frm e t)
end
theorem ImAll.same {H H' : Hp} {xs : List V} {ds : List PyData} (h : ImAll H xs ds) (e : Same H H') : ImAll H' xs ds := h.frm (S := []) (.of_same e)
theorem Im.same {H H' : Hp} {x : V} {d : PyData} (h : Im H x d) (e : Same H H') : Im H' x d := h.frm (S := []) (.of_same e)
theorem ImAll.new {H : Hp} {xs : List V} {ds : List PyData} {p : Addr} {o : HO} (h : ImAll H xs ds) (n : H p = none) : ImAll (upd H p o) xs ds := h.same (Same.upd_new n)
theorem Im.new {H : Hp} {x : V} {d : PyData} {p : Addr} {o : HO} (h : Im H x d) (n : H p = none) : Im (upd H p o) x d := h.same (Same.upd_new n)
theorem ImAll.updL {H : Hp} {xs : List V} {ds : List PyData} {p : Addr} {o : HO} {ys : List V} (h : ImAll H xs ds) (n : H p = some (.lst ys)) : ImAll (upd H p o) xs ds := h.frm (Frm.updL n)
theorem Im.updL {H : Hp} {x : V} {d : PyData} {p : Addr} {o : HO} {ys : List V} (h : Im H x d) (n : H p = some (.lst ys)) : Im (upd H p o) x d := h.frm (Frm.updL n)
theorem ImAll.length {H : Hp} : ∀ {xs : List V} {ds : List PyData}, ImAll H xs ds → xs.length = ds.length
  | _, _, .nil => rfl
  | _, _, .cons _ t => by rw [List.length_cons, List.length_cons, ImAll.length t]
theorem ImAll.append {H : Hp} : ∀ {xs ys : List V} {ds es : List PyData}, ImAll H xs ds → ImAll H ys es → ImAll H (xs ++ ys) (ds ++ es)
  | _, _, _, _, .nil, b => b
  | _, _, _, _, .cons h t, b => .cons h (ImAll.append t b)
theorem ImAll.get {H : Hp} : ∀ {xs : List V} {ds : List PyData} {i : Nat} {d : PyData}, ImAll H xs ds → ds[i]? = some d → ∃ x, xs[i]? = some x ∧ Im H x d
  | _, _, i, d, .nil, e => by simp at e
  | _, _, 0, d, .cons h t, e => by simp at e; subst e; exact ⟨_, rfl, h⟩
  | _, _, i + 1, d, .cons h t, e => by
    obtain ⟨x, h1, h2⟩ := ImAll.get (i := i) (d := d) t (by simpa using e)
    exact ⟨x, by simpa using h1, h2⟩
theorem ImAll.get' {H : Hp} : ∀ {xs : List V} {ds : List PyData} {i : Nat} {x : V}, ImAll H xs ds → xs[i]? = some x → ∃ d, ds[i]? = some d ∧ Im H x d
  | _, _, i, d, .nil, e => by simp at e
  | _, _, 0, d, .cons h t, e => by simp at e; subst e; exact ⟨_, rfl, h⟩
  | _, _, i + 1, d, .cons h t, e => by
    obtain ⟨x, h1, h2⟩ := ImAll.get' (i := i) (x := d) t (by simpa using e)
    exact ⟨x, by simpa using h1, h2⟩
theorem ImAll.take {H : Hp} : ∀ {xs : List V} {ds : List PyData} (n : Nat), ImAll H xs ds → ImAll H (xs.take n) (ds.take n)
  | _, _, 0, _ => .nil
  | _, _, n + 1, .nil => .nil
  | _, _, n + 1, .cons h t => .cons h (ImAll.take n t)
theorem ImAll.drop {H : Hp} : ∀ {xs : List V} {ds : List PyData} (n : Nat), ImAll H xs ds → ImAll H (xs.drop n) (ds.drop n)
  | _, _, 0, h => h
  | _, _, n + 1, .nil => .nil
  | _, _, n + 1, .cons h t => ImAll.drop n t
theorem ImAll.set {H : Hp} {x : V} {d : PyData} (h : Im H x d) : ∀ {xs : List V} {ds : List PyData} (n : Nat), ImAll H xs ds → ImAll H (xs.set n x) (ds.set n d)
  | _, _, _, .nil => .nil
  | _, _, 0, .cons _ t => .cons h t
  | _, _, n + 1, .cons g t => .cons g (ImAll.set h n t)
theorem ImAll.rep {H : Hp} {xs : List V} {ds : List PyData} (h : ImAll H xs ds) : ∀ n : Nat, ImAll H (List.replicate n xs).flatten (List.replicate n ds).flatten
  | 0 => .nil
  | n + 1 => by
    rw [List.replicate_succ, List.replicate_succ, List.flatten_cons, List.flatten_cons]
    exact h.append (ImAll.rep h n)
theorem im_ints {H : Hp} : ∀ ns : List Int, ImAll H (ns.map V.int) (ns.map PyData.int)
  | [] => .nil
  | n :: r => .cons (.int n) (im_ints r)
mutual
theorem eqv_refl : ∀ {n : Nat} {d : PyData}, lv n d → PyData.eqv d d = true
  | _, .none, _ => rfl
  | _, .bool b, _ => by simp [PyData.eqv]
  | _, .int i, _ => by simp [PyData.eqv]
  | _, .str z, _ => by simp [PyData.eqv]
  | 0, .list _, h => by simp [lv] at h
  | 0, .tuple _, h => by simp [lv] at h
  | n + 1, .list ds, h => by
    simp only [lv] at h
    simp only [PyData.eqv]
    exact eqvAll_refl h.2
  | n + 1, .tuple ds, h => by
    simp only [lv] at h
    simp only [PyData.eqv]
    exact eqvAll_refl h.2
  | 0, .dict _, h => by simp [lv] at h
  | _ + 1, .dict _, h => by simp [lv] at h
theorem eqvAll_refl : ∀ {n : Nat} {ds : List PyData}, (∀ d ∈ ds, lv n d) → PyData.eqvAll ds ds = true
  | _, [], _ => rfl
  | n, d :: r, h => by
    simp only [PyData.eqvAll, Bool.and_eq_true]
    exact ⟨eqv_refl (h d (by simp)), eqvAll_refl (n := n) fun x hx => h x (by simp [hx])⟩
end
theorem lv_mono : ∀ {n : Nat} {d : PyData}, lv n d → lv (n + 1) d
  | _, .none, _ => by simp [lv]
  | _, .bool b, _ => by simp [lv]
  | _, .int i, _ => by simp [lv]
  | _, .str z, h => by simpa [lv] using h
  | 0, .list _, h => by simp [lv] at h
  | 0, .tuple _, h => by simp [lv] at h
  | n + 1, .list ds, h => by
    simp only [lv] at h ⊢
    exact ⟨h.1, fun d hd => lv_mono (h.2 d hd)⟩
  | n + 1, .tuple ds, h => by
    simp only [lv] at h ⊢
    exact ⟨h.1, fun d hd => lv_mono (h.2 d hd)⟩
  | 0, .dict _, h => by simp [lv] at h
  | _ + 1, .dict _, h => by simp [lv] at h
end TL

namespace TL
open PySem PySem.Spec PyProof.Rows L2
/-- the dice: a list of whole numbers, two at least -/
def DiceAt (H : Hp) (d : Addr) : Prop := ∃ ns : List Int, H d = some (.lst (ns.map V.int)) ∧ 2 ≤ ns.length ∧ ns.length ≤ 65
theorem DiceAt.frm {S : List Addr} {H H' : Hp} {d : Addr} (h : DiceAt H d) (e : Frm S H H') (n : d ∉ S) : DiceAt H' d := by
  obtain ⟨ns, h1, h2⟩ := h
  exact ⟨ns, e _ _ h1 n, h2⟩
theorem DiceAt.upd_ne {H : Hp} {d l : Addr} {o : HO} (h : DiceAt H d) (n : d ≠ l) : DiceAt (upd H l o) d := by
  obtain ⟨ns, h1, h2⟩ := h
  exact ⟨ns, by rw [L2.upd_ne n]; exact h1, h2⟩
theorem DiceAt.same {H H' : Hp} {d : Addr} (h : DiceAt H d) (e : Same H H') : DiceAt H' d := by
  obtain ⟨ns, h1, h2⟩ := h
  exact ⟨ns, e _ _ h1, h2⟩
theorem DiceAt.new {H : Hp} {d l : Addr} {o : HO} (h : DiceAt H d) (n : H l = none) : DiceAt (upd H l o) d := h.same (Same.upd_new n)
theorem DiceAt.ne_new {H : Hp} {d l : Addr} (h : DiceAt H d) (n : H l = none) : l ≠ d := by
  obtain ⟨ns, h1, h2⟩ := h
  exact fun e => by rw [e, h1] at n; cases n
theorem DiceAt.ne_tup {H : Hp} {d t : Addr} {xs : List V} (h : DiceAt H d) (e : H t = some (.tup xs)) : t ≠ d := by
  obtain ⟨ns, h1, h2⟩ := h
  exact ne_of e h1 (by intro q; cases q)
/-! ### manners -/
def intOf : PyData → Int
  | .int i => i
  | _ => 0
/-- a number within bounds -/
def between : PyData → Int → Int → Bool
  | .int i, lo, hi => decide (lo ≤ i) && decide (i ≤ hi)
  | _, _, _ => false
def isMan : PyData → Bool
  | .tuple ds => ds.all (fun e => between e 0 9) && (decide ((ds.map intOf).Pairwise (· < ·)) && decide (0 ∈ ds.map intOf))
  | _ => false
/-- what may be handed in in the place of manners -/
def mdat : PyData → Prop
  | .list _ => False
  | .dict _ => False
  | .str x => (PyData.str x).canLay0 = true
  | .tuple ds => ds.length ≤ 60 ∧ ∀ e ∈ ds, (∀ l, e ≠ .list l) ∧ lv 1 e
  | _ => True
theorem mdat.nolist {d : PyData} (h : mdat d) : ∀ ds, d ≠ .list ds := fun ds e => by subst e; exact h
theorem ints_of_between : ∀ {ds : List PyData}, ds.all (fun e => between e 0 9) = true → ds = (ds.map intOf).map .int
  | [], _ => rfl
  | d :: r, h => by
    rw [List.all_cons, Bool.and_eq_true] at h
    rw [List.map_cons, List.map_cons, ← ints_of_between h.2]
    cases d with
    | int i => rfl
    | _ => exact absurd h.1 (by simp [between])
theorem between_of {ds : List PyData} (h : ds.all (fun e => between e 0 9) = true) : ∀ i ∈ ds.map intOf, 0 ≤ i ∧ i ≤ 9 := fun i hi => by
  obtain ⟨d, hd, rfl⟩ := List.mem_map.mp hi
  have q := List.all_eq_true.mp h d hd
  cases d with
  | int j => simpa [between, intOf] using q
  | _ => exact absurd q (by simp [between])
/-- manners as numbers -/
def Can (ms : List Int) : Prop := (∀ i ∈ ms, 0 ≤ i ∧ i ≤ 9) ∧ ms.Pairwise (· < ·) ∧ 0 ∈ ms ∧ ms.length ≤ 60
theorem isMan_ints {ms : List Int} (h : Can ms) : isMan (.tuple (ms.map .int)) = true := by
  have e : (ms.map PyData.int).map intOf = ms := by
    rw [List.map_map]
    have : (intOf ∘ PyData.int) = id := rfl
    rw [this, List.map_id]
  simp only [isMan]
  rw [e, decide_eq_true h.2.1, decide_eq_true h.2.2.1]
  simp only [Bool.and_true, List.all_map, List.all_eq_true]
  intro i hi
  have := h.1 i hi
  simp [between, this]
theorem mdat_ints {ms : List Int} (h : ms.length ≤ 60) : mdat (.tuple (ms.map .int)) := by
  refine ⟨by rw [List.length_map]; exact h, fun e he => ?_⟩
  obtain ⟨i, _, rfl⟩ := List.mem_map.mp he
  exact ⟨fun l z => PyData.noConfusion z, trivial⟩
theorem sorted_ext : ∀ {a b : List Int}, a.Pairwise (· < ·) → b.Pairwise (· < ·) → (∀ k, k ∈ a ↔ k ∈ b) → a = b
  | [], [], _, _, _ => rfl
  | [], y :: s, _, _, h => absurd ((h y).mpr (by simp)) (by simp)
  | x :: r, [], _, _, h => absurd ((h x).mp (by simp)) (by simp)
  | x :: r, y :: s, ha, hb, h => by
    rw [List.pairwise_cons] at ha hb
    have hxy : x = y := by
      rcases List.mem_cons.mp ((h x).mp (by simp)) with e | e
      · exact e
      · rcases List.mem_cons.mp ((h y).mpr (by simp)) with e' | e'
        · exact e'.symm
        · have := ha.1 y e'
          have := hb.1 x e
          omega
    subst hxy
    rw [sorted_ext ha.2 hb.2 fun k => ?_]
    constructor
    · intro hk
      rcases List.mem_cons.mp ((h k).mp (by simp [hk])) with e | e
      · have := ha.1 k hk
        omega
      · exact e
    · intro hk
      rcases List.mem_cons.mp ((h k).mpr (by simp [hk])) with e | e
      · have := hb.1 k hk
        omega
      · exact e
/-- the greatest that both can and that isn't bad -/
def chosenF (one other bad : List Int) : Int := (one.filter fun m => decide (m ∈ other) && !decide (m ∈ bad)).foldl max 0
def IsChosen (one other bad : List Int) (m : Int) : Prop := (m = 0 ∨ (m ∈ one ∧ m ∈ other ∧ m ∉ bad)) ∧ 0 ≤ m ∧ ∀ y ∈ one, y ∈ other → y ∉ bad → y ≤ m
theorem foldl_max : ∀ (l : List Int) (a : Int), a ≤ l.foldl max a ∧ (∀ y ∈ l, y ≤ l.foldl max a) ∧ (l.foldl max a = a ∨ l.foldl max a ∈ l)
  | [], a => ⟨Int.le_refl _, by simp, .inl rfl⟩
  | x :: r, a => by
    obtain ⟨h1, h2, h3⟩ := foldl_max r (max a x)
    rw [List.foldl_cons]
    refine ⟨by omega, fun y hy => ?_, ?_⟩
    · rcases List.mem_cons.mp hy with rfl | hy
      · omega
      · exact h2 y hy
    · rcases h3 with h3 | h3
      · rw [h3]
        by_cases hax : a ≤ x
        · right
          rw [Int.max_eq_right hax]
          simp
        · left
          exact Int.max_eq_left (by omega)
      · right
        exact List.mem_cons_of_mem _ h3
theorem isChosen_F (one other bad : List Int) : IsChosen one other bad (chosenF one other bad) := by
  obtain ⟨h1, h2, h3⟩ := foldl_max (one.filter fun m => decide (m ∈ other) && !decide (m ∈ bad)) 0
  refine ⟨?_, h1, fun y h4 h5 h6 => h2 y ?_⟩
  · rcases h3 with h3 | h3
    · exact .inl h3
    · right
      have := List.mem_filter.mp h3
      simp only [Bool.and_eq_true, decide_eq_true_eq, Bool.not_eq_true', decide_eq_false_iff_not] at this
      exact this
  · rw [List.mem_filter]
    simp [h4, h5, h6]
theorem IsChosen.unique {one other bad : List Int} {m k : Int} (a : IsChosen one other bad m) (b : IsChosen one other bad k) : m = k := by
  have h1 : m ≤ k := by
    rcases a.1 with e | ⟨e1, e2, e3⟩
    · rw [e]; exact b.2.1
    · exact b.2.2 m e1 e2 e3
  have h2 : k ≤ m := by
    rcases b.1 with e | ⟨e1, e2, e3⟩
    · rw [e]; exact a.2.1
    · exact a.2.2 k e1 e2 e3
  omega
theorem IsChosen.eq {one other bad : List Int} {m : Int} (a : IsChosen one other bad m) : m = chosenF one other bad := a.unique (isChosen_F _ _ _)
theorem IsChosen.symm {one other bad : List Int} {m : Int} (a : IsChosen one other bad m) : IsChosen other one bad m :=
  ⟨a.1.imp id fun h => ⟨h.2.1, h.1, h.2.2⟩, a.2.1, fun y h1 h2 h3 => a.2.2 y h2 h1 h3⟩
theorem IsChosen.congr {one other bad bad' : List Int} {m : Int} (a : IsChosen one other bad m) (h : ∀ x, x ∈ bad ↔ x ∈ bad') : IsChosen one other bad' m :=
  ⟨a.1.imp id fun z => ⟨z.1, z.2.1, fun q => z.2.2 ((h _).mpr q)⟩, a.2.1, fun y h1 h2 h3 => a.2.2 y h1 h2 fun q => h3 ((h _).mp q)⟩
theorem man_tuple {d : PyData} (h : isMan d = true) : ∃ ns : List Int, d = .tuple (ns.map .int) ∧ (∀ i ∈ ns, 0 ≤ i ∧ i ≤ 9) := by
  cases d with
  | tuple ds =>
    simp only [isMan, Bool.and_eq_true] at h
    exact ⟨ds.map intOf, by rw [← ints_of_between h.1], between_of h.1⟩
  | _ => exact absurd h (by simp [isMan])
end TL

namespace TL
open PySem PySem.Spec PyProof.Rows L2
/-! ### marks: the mirror -/
structure MkS where
  wait : Int → Option Int
  untl : Int → Option Int
  run : Int → Option Int
  tries : Int → Option (List Bool)
def MkS.new : MkS := ⟨fun _ => none, fun _ => none, fun _ => none, fun _ => none⟩
def setA {α : Type} (f : Int → Option α) (i : Int) (v : α) : Int → Option α := fun j => if j = i then some v else f j
def last6 {α : Type} (l : List α) : List α := l.drop (l.length - 6)
/-- what a note leaves: the tries and runs; the wait -/
def triesOf (s : MkS) (m : Int) (p : Bool) : List Bool := last6 ((s.tries m).getD [] ++ [p])
def runOf (s : MkS) (m : Int) (p : Bool) : Int := if p = true then (s.run m).getD 0 + 1 else 0
def waitsOf (s : MkS) (m : Int) (p : Bool) : Int → Option Int := if runOf s m p = 32 then setA s.wait m 16 else s.wait
def isMarked (s : MkS) (m : Int) (p : Bool) : Bool := !decide (((triesOf s m p).count false : Int) < 3)
def noteF (s : MkS) (m : Int) (p : Bool) (f : Int) : MkS :=
  if isMarked s m p = true then
    { wait := setA (waitsOf s m p) m (min 256 (2 * ((waitsOf s m p) m).getD 16)), untl := setA s.untl m (max ((s.untl m).getD 0) (f + ((waitsOf s m p) m).getD 16)), run := setA s.run m (runOf s m p), tries := setA s.tries m [] }
  else { s with wait := waitsOf s m p, run := setA s.run m (runOf s m p), tries := setA s.tries m (triesOf s m p) }
def nine : List Int := [1, 2, 3, 4, 5, 6, 7, 8, 9]
def badF (s : MkS) (f : Int) : List Int := nine.filter fun i => match s.untl i with | some u => decide (f ≤ u) | none => false
/-! ### a dict whose keys are manners -/
def DictM (H : Hp) (a : Addr) (f : Int → Option V) : Prop :=
  ∃ kvs : List (Key × V), H a = some (.dK kvs) ∧ (kvs.map (·.1)).Nodup ∧ (∀ kv ∈ kvs, ∃ i : Int, kv.1 = .inl i ∧ 1 ≤ i ∧ i ≤ 9) ∧ ∀ i : Int, valV kvs (.inl i) = f i
theorem DictM.new {H : Hp} {a : Addr} (h : H a = some (.dK [])) : DictM H a fun _ => none := ⟨[], h, List.nodup_nil, by simp, fun _ => rfl⟩
theorem DictM.frm {S : List Addr} {H H' : Hp} {a : Addr} {f : Int → Option V} (h : DictM H a f) (e : Frm S H H') (n : a ∉ S) : DictM H' a f := by
  obtain ⟨kvs, h1, h2⟩ := h
  exact ⟨kvs, e _ _ h1 n, h2⟩
theorem pig : ∀ (n : Nat) (l : List Int), l.Nodup → (∀ x ∈ l, 1 ≤ x ∧ x ≤ n) → l.length ≤ n
  | 0, l, _, h => by
    match l with
    | [] => simp
    | x :: r => have := h x (by simp); omega
  | n + 1, l, nd, h => by
    by_cases hm : ((n + 1 : Nat) : Int) ∈ l
    · have h1 := pig n (l.erase ((n + 1 : Nat) : Int)) (nd.erase _) fun x hx => by
        have hx' := (nd.mem_erase_iff).mp hx
        have := h x hx'.2
        have := hx'.1
        omega
      rw [List.length_erase_of_mem hm] at h1
      omega
    · have h1 := pig n l nd fun x hx => by
        have := h x hx
        have hne : x ≠ ((n + 1 : Nat) : Int) := fun e => hm (by rw [← e]; exact hx)
        omega
      omega
theorem keys_int {kvs : List (Key × V)} (h : ∀ kv ∈ kvs, ∃ i : Int, kv.1 = .inl i ∧ 1 ≤ i ∧ i ≤ 9) : ∃ ks : List Int, kvs.map (·.1) = ks.map Sum.inl ∧ ∀ k ∈ ks, 1 ≤ k ∧ k ≤ 9 := by
  induction kvs with
  | nil => exact ⟨[], rfl, by simp⟩
  | cons a r ih =>
    obtain ⟨ks, e, hk⟩ := ih fun kv hkv => h kv (by simp [hkv])
    obtain ⟨i, hi, h1, h9⟩ := h a (by simp)
    refine ⟨i :: ks, by simp [hi, e], fun k hk' => ?_⟩
    rcases List.mem_cons.mp hk' with rfl | hk'
    · exact ⟨h1, h9⟩
    · exact hk k hk'
theorem nodup_inl {ks : List Int} (h : (ks.map (Sum.inl : Int → Key)).Nodup) : ks.Nodup := by
  rw [List.nodup_iff_pairwise_ne, List.pairwise_map] at h
  rw [List.nodup_iff_pairwise_ne]
  exact h.imp fun hne e => hne (by rw [e])
theorem dict_len {kvs : List (Key × V)} (nd : (kvs.map (·.1)).Nodup) (h : ∀ kv ∈ kvs, ∃ i : Int, kv.1 = .inl i ∧ 1 ≤ i ∧ i ≤ 9) : kvs.length ≤ 9 := by
  obtain ⟨ks, e, hk⟩ := keys_int h
  rw [e] at nd
  have := pig 9 ks (nodup_inl nd) hk
  have hl : kvs.length = ks.length := by
    have := congrArg List.length e
    simpa using this
  omega
theorem mem_key {kvs : List (Key × V)} {k : Key} : (valV kvs k).isSome = true ↔ k ∈ kvs.map (·.1) := by
  rw [← valV_any, List.any_eq_true, List.mem_map]
  constructor
  · rintro ⟨p, hp, h⟩
    exact ⟨p, hp, by simpa using h⟩
  · rintro ⟨p, hp, h⟩
    exact ⟨p, hp, by simpa using h⟩
theorem putK_keys {kvs : List (Key × V)} {k : Key} {v : V} : ((putK kvs k v).map (·.1)) = if (valV kvs k).isSome = true then kvs.map (·.1) else kvs.map (·.1) ++ [k] := by
  unfold putK
  rw [valV_any]
  by_cases h : (valV kvs k).isSome = true
  · rw [if_pos h, if_pos h, List.map_map]
    apply List.map_congr_left
    intro p _
    simp only [Function.comp]
    split
    · rfl
    · rfl
  · rw [if_neg h, if_neg h, List.map_append]
    rfl
/-- d[i] = v -/
theorem DictM.put {H : Hp} {a : Addr} {f : Int → Option V} (h : DictM H a f) {i : Int} (h1 : 1 ≤ i) (h9 : i ≤ 9) (v : V) : ∃ H', DPut H a (.int i) v H' ∧ DictM H' a (setA f i v) ∧ Frm [a] H H' := by
  obtain ⟨kvs, e, nd, hk, hv⟩ := h
  have hl := dict_len nd hk
  refine ⟨_, DPut.k (k := Sum.inl i) e (small1000 (by omega)), ⟨_, upd_same, ?_, ?_, fun j => ?_⟩, Frm.updK e⟩
  · rw [putK_keys]
    split
    · exact nd
    · rename_i hn
      rw [List.nodup_append]
      exact ⟨nd, by simp, fun x hx y hy => by simp at hy; subst hy; rintro rfl; exact hn (mem_key.mpr hx)⟩
  · intro kv hkv
    have hm : kv.1 ∈ (putK kvs (Sum.inl i : Key) v).map (·.1) := List.mem_map_of_mem hkv
    rw [putK_keys] at hm
    have hin : kv.1 ∈ kvs.map (·.1) ∨ kv.1 = Sum.inl i := by
      split at hm
      · exact .inl hm
      · rcases List.mem_append.mp hm with q | q
        · exact .inl q
        · exact .inr (by simpa using q)
    rcases hin with q | q
    · obtain ⟨p, hp, hpe⟩ := List.mem_map.mp q
      rw [← hpe]
      exact hk p hp
    · exact ⟨i, q, h1, h9⟩
  · rw [valV_put, hv]
    unfold setA
    by_cases q : j = i
    · subst q; simp
    · rw [if_neg (fun z => q (Sum.inl.inj z)), if_neg q]
theorem DictM.get {H : Hp} {a : Addr} {f : Int → Option V} (h : DictM H a f) (i : Int) : DGet H a (.int i) (f i) := by
  obtain ⟨kvs, e, nd, hk, hv⟩ := h
  rw [← hv i]
  exact DGet.k (k := Sum.inl i) e
theorem DictM.isD {H : Hp} {a : Addr} {f : Int → Option V} (h : DictM H a f) : IsD H a := by
  obtain ⟨kvs, e, _⟩ := h
  exact .inl ⟨kvs, Rd.of e⟩
theorem DictM.at_ {H : Hp} {a : Addr} {f : Int → Option V} (h : DictM H a f) : ∃ o, H a = some o := by
  obtain ⟨kvs, e, _⟩ := h
  exact ⟨_, e⟩
/-! ### marks in the heap -/
structure MAd where
  m : Addr
  w : Addr
  u : Addr
  r : Addr
  t : Addr
def MAd.all (a : MAd) : List Addr := [a.w, a.u, a.r, a.t]
abbrev mkN : List Str := ["waits", "until", "runs", "tries"]
theorem mkN_nd : mkN.Nodup := by decide +kernel
def mkV (a : MAd) : List V := [.ref a.w, .ref a.u, .ref a.r, .ref a.t]
/-- C: the class; Z: what may be written, of all that stands -/
structure MarksAt (C : Addr) (Z : List Addr) (H : Hp) (a : MAd) (s : MkS) : Prop where
  ob : ∃ dx, H a.m = some (.ins C dx (mkN.zip (mkV a)))
  w : DictM H a.w fun i => (s.wait i).map V.int
  u : DictM H a.u fun i => (s.untl i).map V.int
  r : DictM H a.r fun i => (s.run i).map V.int
  t : ∃ ta : Int → Option Addr, DictM H a.t (fun i => (ta i).map V.ref) ∧ ∀ i, (ta i = none ∧ s.tries i = none) ∨ ∃ l bs, ta i = some l ∧ s.tries i = some bs ∧ H l = some (.lst (bs.map V.bl)) ∧ l ∉ Z ∧ bs.length ≤ 6
  nd : a.w ≠ a.u ∧ a.w ≠ a.r ∧ a.w ≠ a.t ∧ a.u ≠ a.r ∧ a.u ≠ a.t ∧ a.r ≠ a.t
theorem MarksAt.frm {C : Addr} {Z S : List Addr} {H H' : Hp} {a : MAd} {s : MkS} (h : MarksAt C Z H a s) (e : Frm S H H') (hS : ∀ x ∈ S, x ∈ Z) (hm : a.m ∉ S) (hd : ∀ x ∈ a.all, x ∉ S) : MarksAt C Z H' a s := by
  obtain ⟨⟨dx, h0⟩, hw, hu, hr, ⟨ta, ht, hl⟩, nd⟩ := h
  refine ⟨⟨dx, e _ _ h0 hm⟩, hw.frm e (hd _ (by simp [MAd.all])), hu.frm e (hd _ (by simp [MAd.all])), hr.frm e (hd _ (by simp [MAd.all])), ⟨ta, ht.frm e (hd _ (by simp [MAd.all])), fun i => ?_⟩, nd⟩
  rcases hl i with q | ⟨l, bs, h1, h2, h3, h4⟩
  · exact .inl q
  · exact .inr ⟨l, bs, h1, h2, e _ _ h3 fun z => h4.1 (hS _ z), h4⟩
theorem MarksAt.same {C : Addr} {Z : List Addr} {H H' : Hp} {a : MAd} {s : MkS} (h : MarksAt C Z H a s) (e : Same H H') : MarksAt C Z H' a s := h.frm (S := []) (.of_same e) (by simp) (by simp) (by simp)
/-- something new may be written, too -/
theorem MarksAt.more {C : Addr} {Z Z' : List Addr} {H : Hp} {a : MAd} {s : MkS} (h : MarksAt C Z H a s) (hz : ∀ x ∈ Z', x ∈ Z ∨ ∀ bs, H x ≠ some (.lst bs)) : MarksAt C Z' H a s := by
  obtain ⟨h0, hw, hu, hr, ⟨ta, ht, hl⟩, nd⟩ := h
  refine ⟨h0, hw, hu, hr, ⟨ta, ht, fun i => ?_⟩, nd⟩
  rcases hl i with q | ⟨l, bs, h1, h2, h3, h4⟩
  · exact .inl q
  · exact .inr ⟨l, bs, h1, h2, h3, fun z => (hz l z).elim h4.1 fun q => q _ h3, h4.2⟩
theorem MarksAt.out {C : Addr} {Z : List Addr} {H : Hp} {a : MAd} {s : MkS} (h : MarksAt C Z H a s) : ∀ x ∈ a.all, x ≠ a.m ∧ ∃ o, H x = some o := by
  obtain ⟨⟨dx, h0⟩, ⟨_, hw, _⟩, ⟨_, hu, _⟩, ⟨_, hr, _⟩, ⟨ta, ⟨_, ht, _⟩, hl⟩, nd⟩ := h
  intro x hx
  simp [MAd.all] at hx
  rcases hx with rfl | rfl | rfl | rfl
  · exact ⟨ne_of hw h0 (by intro z; cases z), _, hw⟩
  · exact ⟨ne_of hu h0 (by intro z; cases z), _, hu⟩
  · exact ⟨ne_of hr h0 (by intro z; cases z), _, hr⟩
  · exact ⟨ne_of ht h0 (by intro z; cases z), _, ht⟩
theorem MAd.mem (a : MAd) : a.w ∈ a.all ∧ a.u ∈ a.all ∧ a.r ∈ a.all ∧ a.t ∈ a.all := by simp [MAd.all]
/-- one of the dicts is written -/
theorem MarksAt.lists {C : Addr} {Z : List Addr} {H H' : Hp} {a : MAd} {ta : Int → Option Addr} {tr : Int → Option (List Bool)} {d : Addr} (hl : ∀ i, (ta i = none ∧ tr i = none) ∨ ∃ l bs, ta i = some l ∧ tr i = some bs ∧ H l = some (.lst (bs.map V.bl)) ∧ l ∉ Z ∧ bs.length ≤ 6)
    (e : Frm [d] H H') {f : Int → Option V} (hd : DictM H d f) : ∀ i, (ta i = none ∧ tr i = none) ∨ ∃ l bs, ta i = some l ∧ tr i = some bs ∧ H' l = some (.lst (bs.map V.bl)) ∧ l ∉ Z ∧ bs.length ≤ 6 := fun i => by
  rcases hl i with q | ⟨l, bs, h1, h2, h3, h4⟩
  · exact .inl q
  · obtain ⟨kvs, h5, _⟩ := hd
    exact .inr ⟨l, bs, h1, h2, e _ _ h3 (by simp only [List.mem_singleton]; exact ne_of h3 h5 (by intro z; cases z)), h4⟩
theorem setA_map (f : Int → Option Int) (i v : Int) : (fun j => (setA f i v j).map V.int) = setA (fun j => (f j).map V.int) i (.int v) := by
  funext j
  unfold setA
  split <;> rfl
theorem MarksAt.obk {C : Addr} {Z : List Addr} {H H' : Hp} {a : MAd} {s : MkS} (h : MarksAt C Z H a s) {d : Addr} (hd : d ∈ a.all) (e : Frm [d] H H') : ∃ dx, H' a.m = some (.ins C dx (mkN.zip (mkV a))) := by
  have ho := (h.out d hd).1
  obtain ⟨⟨dx, h0⟩, _⟩ := h
  exact ⟨dx, e _ _ h0 (by simp only [List.mem_singleton]; exact Ne.symm ho)⟩
theorem Frm.sub {S : List Addr} {H H' : Hp} {d : Addr} (e : Frm [d] H H') (h : d ∈ S) : Frm S H H' := e.mono fun x hx => by simp at hx; subst hx; exact h
theorem MarksAt.put_w {C : Addr} {Z : List Addr} {H : Hp} {a : MAd} {s : MkS} (h : MarksAt C Z H a s) {i : Int} (h1 : 1 ≤ i) (h9 : i ≤ 9) (v : Int) : ∃ H', DPut H a.w (.int i) (.int v) H' ∧ MarksAt C Z H' a { s with wait := setA s.wait i v } ∧ Frm a.all H H' := by
  obtain ⟨H', h2, h3, h4⟩ := h.w.put h1 h9 (.int v)
  have ob := h.obk a.mem.1 h4
  obtain ⟨n1, n2, n3, n4, n5, n6⟩ := h.nd
  obtain ⟨ta, ht, hl⟩ := h.t
  refine ⟨H', h2, ⟨ob, by rw [setA_map]; exact h3, h.u.frm h4 (by simp [Ne.symm n1]), h.r.frm h4 (by simp [Ne.symm n2]), ⟨ta, ht.frm h4 (by simp [Ne.symm n3]), MarksAt.lists (C := C) (a := a) hl h4 h.w⟩, h.nd⟩, h4.sub a.mem.1⟩
theorem MarksAt.put_u {C : Addr} {Z : List Addr} {H : Hp} {a : MAd} {s : MkS} (h : MarksAt C Z H a s) {i : Int} (h1 : 1 ≤ i) (h9 : i ≤ 9) (v : Int) : ∃ H', DPut H a.u (.int i) (.int v) H' ∧ MarksAt C Z H' a { s with untl := setA s.untl i v } ∧ Frm a.all H H' := by
  obtain ⟨H', h2, h3, h4⟩ := h.u.put h1 h9 (.int v)
  have ob := h.obk a.mem.2.1 h4
  obtain ⟨n1, n2, n3, n4, n5, n6⟩ := h.nd
  obtain ⟨ta, ht, hl⟩ := h.t
  refine ⟨H', h2, ⟨ob, h.w.frm h4 (by simp [n1]), by rw [setA_map]; exact h3, h.r.frm h4 (by simp [Ne.symm n4]), ⟨ta, ht.frm h4 (by simp [Ne.symm n5]), MarksAt.lists (C := C) (a := a) hl h4 h.u⟩, h.nd⟩, h4.sub a.mem.2.1⟩
theorem MarksAt.put_r {C : Addr} {Z : List Addr} {H : Hp} {a : MAd} {s : MkS} (h : MarksAt C Z H a s) {i : Int} (h1 : 1 ≤ i) (h9 : i ≤ 9) (v : Int) : ∃ H', DPut H a.r (.int i) (.int v) H' ∧ MarksAt C Z H' a { s with run := setA s.run i v } ∧ Frm a.all H H' := by
  obtain ⟨H', h2, h3, h4⟩ := h.r.put h1 h9 (.int v)
  have ob := h.obk a.mem.2.2.1 h4
  obtain ⟨n1, n2, n3, n4, n5, n6⟩ := h.nd
  obtain ⟨ta, ht, hl⟩ := h.t
  refine ⟨H', h2, ⟨ob, h.w.frm h4 (by simp [n2]), h.u.frm h4 (by simp [n4]), by rw [setA_map]; exact h3, ⟨ta, ht.frm h4 (by simp [Ne.symm n6]), MarksAt.lists (C := C) (a := a) hl h4 h.r⟩, h.nd⟩, h4.sub a.mem.2.2.1⟩
/-- a list of tries, made since -/
theorem MarksAt.put_t {C : Addr} {Z : List Addr} {H : Hp} {a : MAd} {s : MkS} (h : MarksAt C Z H a s) {i : Int} (h1 : 1 ≤ i) (h9 : i ≤ 9) {l : Addr} {bs : List Bool} (hl : H l = some (.lst (bs.map V.bl))) (hz : l ∉ Z) (hb : bs.length ≤ 6) :
    ∃ H', DPut H a.t (.int i) (.ref l) H' ∧ MarksAt C Z H' a { s with tries := setA s.tries i bs } ∧ Frm a.all H H' ∧ H' l = some (.lst (bs.map V.bl)) := by
  obtain ⟨n1, n2, n3, n4, n5, n6⟩ := h.nd
  obtain ⟨ta, ht, hls⟩ := id h.t
  obtain ⟨H', h2, h3, h4⟩ := ht.put h1 h9 (.ref l)
  have ob := h.obk a.mem.2.2.2 h4
  have hl' : H' l = some (.lst (bs.map V.bl)) := h4 _ _ hl (by
    obtain ⟨kvs, h5, _⟩ := ht
    simp only [List.mem_singleton]
    exact ne_of hl h5 (by intro z; cases z))
  refine ⟨H', h2, ⟨ob, h.w.frm h4 (by simp [n3]), h.u.frm h4 (by simp [n5]), h.r.frm h4 (by simp [n6]), ⟨setA ta i l, ?_, fun j => ?_⟩, h.nd⟩, h4.sub a.mem.2.2.2, hl'⟩
  · have e : (fun j => (setA ta i l j).map V.ref) = setA (fun j => (ta j).map V.ref) i (.ref l) := by
      funext j
      unfold setA
      split <;> rfl
    rw [e]
    exact h3
  · show (setA ta i l j = none ∧ setA s.tries i bs j = none) ∨ ∃ l' bs', setA ta i l j = some l' ∧ setA s.tries i bs j = some bs' ∧ H' l' = some (.lst (bs'.map V.bl)) ∧ l' ∉ Z ∧ bs'.length ≤ 6
    by_cases q : j = i
    · have e1 : setA ta i l j = some l := if_pos q
      have e2 : setA s.tries i bs j = some bs := if_pos q
      rw [e1, e2]
      exact .inr ⟨l, bs, rfl, rfl, hl', hz, hb⟩
    · have e1 : setA ta i l j = ta j := if_neg q
      have e2 : setA s.tries i bs j = s.tries j := if_neg q
      rw [e1, e2]
      exact MarksAt.lists (C := C) (a := a) hls h4 ht j
theorem last6_len {α : Type} (l : List α) : (last6 l).length ≤ 6 := by
  unfold last6
  rw [List.length_drop]
  omega
theorem cut6 (xs : List V) : cutV xs (some (0 - 6)) none = last6 xs := by
  unfold cutV last6
  have e1 : HT.sIx xs.length 0 (some (0 - 6)) = xs.length - 6 := by
    show (if (0 - 6 : Int) < 0 then ((0 - 6 : Int) + (xs.length : Nat)).toNat else min (0 - 6 : Int).toNat xs.length) = _
    rw [if_pos (by decide)]
    omega
  rw [e1, HT.sIx_none]
  apply List.take_of_length_le
  rw [List.length_drop]
  omega
theorem last6_map {α β : Type} (f : α → β) (l : List α) : last6 (l.map f) = (last6 l).map f := by
  unfold last6
  rw [List.length_map, List.map_drop]
theorem count_bl (bs : List Bool) (b : Bool) : (bs.map V.bl).countP (fun z => eqV z (.bl b)) = bs.count b := by
  induction bs with
  | nil => rfl
  | cons a r ih =>
    rw [List.map_cons, List.countP_cons, ih, List.count_cons]
    rfl
theorem flat_bls (bs : List Bool) : (bs.map V.bl).all flatV = true := by
  rw [List.all_map, List.all_eq_true]
  intro _ _
  rfl
/-- the marked ones, rising -/
theorem until_keys {H : Hp} {a : Addr} {f : Int → Option Int} (h : DictM H a fun i => (f i).map V.int) : ∃ (kvs : List (Key × V)) (ks : List Int), H a = some (.dK kvs) ∧ kvs.map (·.1) = ks.map Sum.inl ∧ ks.length < 64 ∧
    ∀ ys : List Int, ys.Perm ks → ys.Pairwise (· ≤ ·) → ys = nine.filter fun i => (f i).isSome := by
  obtain ⟨kvs, e, nd, hk, hv⟩ := h
  obtain ⟨ks, ek, h19⟩ := keys_int hk
  have ndk := nodup_inl (by rw [← ek]; exact nd)
  refine ⟨kvs, ks, e, ek, by have := pig 9 ks ndk h19; omega, fun ys hp hs => ?_⟩
  have ndy := hp.nodup_iff.mpr ndk
  refine sorted_ext ?_ ?_ fun k => ?_
  · rw [List.nodup_iff_pairwise_ne] at ndy
    exact hs.imp₂ (fun _ _ h1 h2 => by omega) ndy
  · exact List.Pairwise.filter _ (by decide)
  · rw [hp.mem_iff, List.mem_filter]
    have h1 : k ∈ ks ↔ (f k).isSome = true := by
      have h2 : (Sum.inl k : Key) ∈ kvs.map (·.1) ↔ k ∈ ks := by
        rw [ek, List.mem_map]
        exact ⟨fun ⟨x, hx, q⟩ => by cases q; exact hx, fun hx => ⟨k, hx, rfl⟩⟩
      rw [← h2, ← mem_key, hv k]
      show ((f k).map V.int).isSome = true ↔ _
      cases f k <;> simp
    rw [h1]
    refine ⟨fun q => ⟨?_, q⟩, fun q => q.2⟩
    have := h19 k (h1.mpr q)
    have : k = 1 ∨ k = 2 ∨ k = 3 ∨ k = 4 ∨ k = 5 ∨ k = 6 ∨ k = 7 ∨ k = 8 ∨ k = 9 := by omega
    simp [nine, this]
end TL

namespace TL
open PySem PySem.Spec PyProof.Rows L2
/-! ### an own record of notes -/
abbrev Rec := List Bool × Int × Int × Int
def recO (R : Int → Option Rec) (m : Int) : Rec := (R m).getD ([], 0, 16, -1)
def rNotes (R : Int → Option Rec) (m : Int) (p : Bool) : List Bool := (recO R m).1 ++ [p]
def rRun (R : Int → Option Rec) (m : Int) (p : Bool) : Int := if p = true then (recO R m).2.1 + 1 else 0
def rWait (R : Int → Option Rec) (m : Int) (p : Bool) : Int := if rRun R m p = 32 then 16 else (recO R m).2.2.1
def rMark (R : Int → Option Rec) (m : Int) (p : Bool) : Bool := decide (2 < ((last6 (rNotes R m p)).count false : Int))
def recF (R : Int → Option Rec) (m : Int) (p : Bool) (f : Int) : Int → Option Rec :=
  if rMark R m p = true then setA R m ([], rRun R m p, min 256 (rWait R m p * 2), max (recO R m).2.2.2 (f + rWait R m p))
  else setA R m (rNotes R m p, rRun R m p, rWait R m p, (recO R m).2.2.2)
structure RecAt (Z : List Addr) (H : Hp) (a : Addr) (R : Int → Option Rec) : Prop where
  d : ∃ ta : Int → Option Addr, DictM H a (fun i => (ta i).map V.ref) ∧ ∀ i, (ta i = none ∧ R i = none) ∨ ∃ t l bs r w u, ta i = some t ∧ R i = some (bs, r, w, u) ∧ H t = some (.tup [.ref l, .int r, .int w, .int u]) ∧ H l = some (.lst (bs.map V.bl)) ∧ l ∉ Z
theorem RecAt.frm {Z S : List Addr} {H H' : Hp} {a : Addr} {R : Int → Option Rec} (h : RecAt Z H a R) (e : Frm S H H') (hS : ∀ x ∈ S, x ∈ Z) (ha : a ∉ S) : RecAt Z H' a R := by
  obtain ⟨ta, hd, hl⟩ := h
  refine ⟨ta, hd.frm e ha, fun i => ?_⟩
  rcases hl i with q | ⟨t, l, bs, r, w, u, h1, h2, h3, h4, h5⟩
  · exact .inl q
  · exact .inr ⟨t, l, bs, r, w, u, h1, h2, e.tups _ _ h3, e _ _ h4 (fun z => h5 (hS _ z)), h5⟩
theorem RecAt.same {Z : List Addr} {H H' : Hp} {a : Addr} {R : Int → Option Rec} (h : RecAt Z H a R) (e : Same H H') : RecAt Z H' a R := h.frm (S := []) (.of_same e) (by simp) (by simp)
theorem RecAt.more {Z Z' : List Addr} {H : Hp} {a : Addr} {R : Int → Option Rec} (h : RecAt Z H a R) (hz : ∀ x ∈ Z', x ∈ Z ∨ ∀ bs, H x ≠ some (.lst bs)) : RecAt Z' H a R := by
  obtain ⟨ta, hd, hl⟩ := h
  refine ⟨ta, hd, fun i => ?_⟩
  rcases hl i with q | ⟨t, l, bs, r, w, u, h1, h2, h3, h4, h5⟩
  · exact .inl q
  · exact .inr ⟨t, l, bs, r, w, u, h1, h2, h3, h4, fun z => (hz l z).elim h5 fun q => q _ h4⟩
theorem RecAt.at_ {Z : List Addr} {H : Hp} {a : Addr} {R : Int → Option Rec} (h : RecAt Z H a R) : ∃ kvs, H a = some (.dK kvs) := by
  obtain ⟨ta, ⟨kvs, e, _⟩, _⟩ := h
  exact ⟨kvs, e⟩
theorem RecAt.new {Z : List Addr} {H : Hp} {a : Addr} (h : H a = some (.dK [])) : RecAt Z H a fun _ => none := ⟨fun _ => none, DictM.new h, fun _ => .inl ⟨rfl, rfl⟩⟩
/-- a tuple is stored -/
theorem RecAt.put {Z : List Addr} {H : Hp} {a : Addr} {R : Int → Option Rec} (h : RecAt Z H a R) {m : Int} (h1 : 1 ≤ m) (h9 : m ≤ 9) {t l : Addr} {bs : List Bool} {r w u : Int} (ht : H t = some (.tup [.ref l, .int r, .int w, .int u])) (hl : H l = some (.lst (bs.map V.bl))) (lZ : l ∉ Z) :
    ∃ H', DPut H a (.int m) (.ref t) H' ∧ RecAt Z H' a (setA R m (bs, r, w, u)) ∧ Frm [a] H H' := by
  obtain ⟨ta, hd, hls⟩ := h
  obtain ⟨H', e1, e2, e3⟩ := hd.put h1 h9 (.ref t)
  have keep : ∀ {b : Addr} {xs : List V}, H b = some (.lst xs) → H' b = some (.lst xs) := fun {b xs} e => e3 _ _ e (by
    obtain ⟨kvs, h5, _⟩ := hd
    simp only [List.mem_singleton]
    exact ne_of e h5 (by intro z; cases z))
  refine ⟨H', e1, ⟨setA ta m t, ?_, fun j => ?_⟩, e3⟩
  · have e : (fun j => (setA ta m t j).map V.ref) = setA (fun j => (ta j).map V.ref) m (.ref t) := by
      funext j
      unfold setA
      split <;> rfl
    rw [e]
    exact e2
  · by_cases q : j = m
    · refine .inr ⟨t, l, bs, r, w, u, if_pos q, if_pos q, e3.tups _ _ ht, keep hl, lZ⟩
    · have q1 : setA ta m t j = ta j := if_neg q
      have q2 : setA R m (bs, r, w, u) j = R j := if_neg q
      rw [q1, q2]
      rcases hls j with z | ⟨t, l, bs, r, w, u, a1, a2, a3, a4, a5⟩
      · exact .inl z
      · exact .inr ⟨t, l, bs, r, w, u, a1, a2, e3.tups _ _ a3, keep a4, a5⟩
/-- the same told by both -/
def Rel (s : MkS) (R : Int → Option Rec) : Prop := ∀ m, match R m with
  | none => s.wait m = none ∧ s.untl m = none ∧ s.run m = none ∧ s.tries m = none
  | some (bs, r, w, u) => s.tries m = some (last6 bs) ∧ s.run m = some r ∧ (s.wait m).getD 16 = w ∧ ((s.untl m = none ∧ u = -1) ∨ (s.untl m = some u ∧ 0 ≤ u))
theorem Rel.new : Rel .new fun _ => none := fun _ => ⟨rfl, rfl, rfl, rfl⟩
theorem last6_snoc (l : List Bool) (p : Bool) : last6 (last6 l ++ [p]) = last6 (l ++ [p]) := by
  unfold last6
  simp only [List.length_append, List.length_drop, List.length_cons, List.length_nil]
  by_cases h : l.length ≤ 6
  · rw [show l.length - 6 = 0 by omega, List.drop_zero, Nat.sub_zero]
  · rw [List.drop_append_of_le_length (by rw [List.length_drop]; omega), List.drop_append_of_le_length (by omega), List.drop_drop]
    congr 2
    omega
theorem Rel.parts {s : MkS} {R : Int → Option Rec} (h : Rel s R) (m : Int) (p : Bool) : triesOf s m p = last6 (rNotes R m p) ∧ runOf s m p = rRun R m p ∧ ((waitsOf s m p) m).getD 16 = rWait R m p ∧ (∀ i, i ≠ m → (waitsOf s m p) i = s.wait i) := by
  have hm := h m
  have e : (s.tries m).getD [] = last6 (recO R m).1 ∧ (s.run m).getD 0 = (recO R m).2.1 ∧ (s.wait m).getD 16 = (recO R m).2.2.1 := by
    unfold recO
    cases hR : R m with
    | none =>
      rw [hR] at hm
      obtain ⟨h1, h2, h3, h4⟩ := hm
      rw [h1, h3, h4]
      exact ⟨rfl, rfl, rfl⟩
    | some q =>
      obtain ⟨bs, r, w, u⟩ := q
      rw [hR] at hm
      obtain ⟨h1, h2, h3, h4⟩ := hm
      rw [h1, h2, h3]
      exact ⟨rfl, rfl, rfl⟩
  have e2 : runOf s m p = rRun R m p := by unfold runOf rRun; rw [e.2.1]
  refine ⟨?_, e2, ?_, fun i hi => ?_⟩
  · unfold triesOf rNotes
    rw [e.1, last6_snoc]
  · unfold waitsOf rWait
    rw [e2]
    split
    · unfold setA
      rw [if_pos rfl]
      rfl
    · exact e.2.2
  · unfold waitsOf
    split
    · unfold setA
      rw [if_neg hi]
    · rfl
theorem Rel.note {s : MkS} {R : Int → Option Rec} (h : Rel s R) (m : Int) (p : Bool) {f : Int} (hf : 0 ≤ f) (hw : ∀ q, R m = some q → 0 ≤ q.2.2.1) : Rel (noteF s m p f) (recF R m p f) ∧ isMarked s m p = rMark R m p := by
  obtain ⟨e1, e2, e3, e4⟩ := h.parts m p
  have em : isMarked s m p = rMark R m p := by
    unfold isMarked rMark
    rw [e1]
    by_cases q : ((last6 (rNotes R m p)).count false : Int) < 3
    · rw [decide_eq_true q, decide_eq_false (by omega)]; rfl
    · rw [decide_eq_false q, decide_eq_true (by omega)]; rfl
  have w0 : 0 ≤ rWait R m p := by
    unfold rWait
    split
    · decide
    · unfold recO
      cases hR : R m with
      | none => decide
      | some q => exact hw q hR
  have uu : max ((s.untl m).getD 0) (f + rWait R m p) = max (recO R m).2.2.2 (f + rWait R m p) := by
    have hm := h m
    unfold recO
    cases hR : R m with
    | none =>
      rw [hR] at hm
      rw [hm.2.1]
      show max 0 _ = max (-1) _
      omega
    | some q =>
      obtain ⟨bs, r, w, u⟩ := q
      rw [hR] at hm
      rcases hm.2.2.2 with ⟨h1, h2⟩ | ⟨h1, h2⟩
      · rw [h1, h2]
        show max 0 _ = max (-1) _
        omega
      · rw [h1]
        rfl
  refine ⟨fun i => ?_, em⟩
  unfold noteF recF
  rw [em]
  by_cases hi : i = m
  · subst hi
    cases hk : rMark R i p with
    | true =>
      simp only [if_true, setA]
      refine ⟨rfl, by rw [e2], ?_, .inr ⟨by rw [e3, uu], ?_⟩⟩
      · show min 256 (2 * _) = _
        rw [e3, Int.mul_comm]
      · omega
    | false =>
      simp only [Bool.false_eq_true, if_false, setA, if_true]
      refine ⟨by rw [e1], by rw [e2], e3, ?_⟩
      have hm := h i
      unfold recO
      cases hR : R i with
      | none =>
        rw [hR] at hm
        exact .inl ⟨hm.2.1, rfl⟩
      | some q =>
        obtain ⟨bs, r, w, u⟩ := q
        rw [hR] at hm
        exact hm.2.2.2
  · have hm := h i
    cases hk : rMark R m p with
    | true =>
      simp only [if_true, setA, if_neg hi]
      cases hR : R i with
      | none =>
        rw [hR] at hm
        exact ⟨by rw [e4 i hi]; exact hm.1, hm.2⟩
      | some q =>
        obtain ⟨bs, r, w, u⟩ := q
        rw [hR] at hm
        exact ⟨hm.1, hm.2.1, by rw [e4 i hi]; exact hm.2.2.1, hm.2.2.2⟩
    | false =>
      simp only [Bool.false_eq_true, if_false, setA, if_neg hi]
      cases hR : R i with
      | none =>
        rw [hR] at hm
        exact ⟨by rw [e4 i hi]; exact hm.1, hm.2⟩
      | some q =>
        obtain ⟨bs, r, w, u⟩ := q
        rw [hR] at hm
        exact ⟨hm.1, hm.2.1, by rw [e4 i hi]; exact hm.2.2.1, hm.2.2.2⟩
theorem Rel.bad {s : MkS} {R : Int → Option Rec} (h : Rel s R) {f : Int} (hf : 0 ≤ f) : badF s f = nine.filter fun i => match R i with | some q => decide (f ≤ q.2.2.2) | none => false := by
  unfold badF
  apply List.filter_congr
  intro i _
  have hm := h i
  cases hR : R i with
  | none =>
    rw [hR] at hm
    rw [hm.2.1]
  | some q =>
    obtain ⟨bs, r, w, u⟩ := q
    rw [hR] at hm
    rcases hm.2.2.2 with ⟨h1, h2⟩ | ⟨h1, h2⟩
    · rw [h1]
      subst h2
      exact (decide_eq_false (by show ¬ f ≤ -1; omega)).symm
    · rw [h1]
theorem bad_le (s : MkS) (f : Int) : (badF s f).length ≤ 9 := List.length_filter_le _ _
theorem nd_snoc {L M : List Addr} {H : Hp} (a : L.Nodup) (al : Alloc L H) (b : M.Nodup) (n : ∀ y ∈ M, H y = none) : (L ++ M).Nodup := by
  rw [List.nodup_append]
  refine ⟨a, b, fun x hx y hy e => ?_⟩
  subst e
  obtain ⟨o, ho⟩ := al x hx
  rw [n x hy] at ho
  cases ho
theorem Alloc.app {L M : List Addr} {H : Hp} (a : Alloc L H) (b : Alloc M H) : Alloc (L ++ M) H := fun z hz => (List.mem_append.mp hz).elim (a z) (b z)
theorem lv_ints {ns : List Int} (h : ns.length ≤ 100000) : lv 1 (.list (ns.map .int)) := ⟨by rw [List.length_map]; exact h, fun d hd => by
  obtain ⟨i, _, rfl⟩ := List.mem_map.mp hd
  trivial⟩
/-- bounds of a record -/
structure RecOk (R : Int → Option Rec) (n : Nat) (f : Int) : Prop where
  b : ∀ m q, R m = some q → q.1.length ≤ n ∧ 1 ≤ q.2.2.1 ∧ q.2.2.1 ≤ 256 ∧ -1 ≤ q.2.2.2 ∧ q.2.2.2 ≤ f + 256
  d : ∀ m q, R m = some q → 1 ≤ m ∧ m ≤ 9
theorem RecOk.new (f : Int) : RecOk (fun _ => none) 0 f := ⟨fun _ _ e => (by cases e), fun _ _ e => (by cases e)⟩
theorem RecOk.mono {R : Int → Option Rec} {n n' : Nat} {f f' : Int} (h : RecOk R n f) (hn : n ≤ n') (hf : f ≤ f') : RecOk R n' f' := ⟨fun m q e => by
  obtain ⟨h1, h2, h3, h4, h5⟩ := h.b m q e
  exact ⟨by omega, h2, h3, h4, by omega⟩, h.d⟩
theorem RecOk.note {R : Int → Option Rec} {n : Nat} {f : Int} (h : RecOk R n f) {m : Int} (h1 : 1 ≤ m) (h9 : m ≤ 9) (p : Bool) (hf : 0 ≤ f) : RecOk (recF R m p f) (n + 1) f := by
  have b : (recO R m).1.length ≤ n ∧ 1 ≤ (recO R m).2.2.1 ∧ (recO R m).2.2.1 ≤ 256 ∧ -1 ≤ (recO R m).2.2.2 ∧ (recO R m).2.2.2 ≤ f + 256 := by
    unfold recO
    cases e : R m with
    | none => exact ⟨Nat.zero_le _, by decide, by decide, by decide, by show -1 ≤ f + 256; omega⟩
    | some q => exact h.b m q e
  have w : 1 ≤ rWait R m p ∧ rWait R m p ≤ 256 := by
    unfold rWait
    split
    · decide
    · exact ⟨b.2.1, b.2.2.1⟩
  have nl : (rNotes R m p).length ≤ n + 1 := by
    unfold rNotes
    rw [List.length_append, List.length_singleton]
    omega
  refine ⟨fun i q e => ?_, fun i q e => ?_⟩
  · unfold recF at e
    split at e
    · unfold setA at e
      split at e
      · cases e
        exact ⟨Nat.zero_le _, by simp only; omega, by simp only; omega, by simp only; omega, by simp only; omega⟩
      · obtain ⟨q1, q2⟩ := h.b i q e
        exact ⟨by omega, q2⟩
    · unfold setA at e
      split at e
      · cases e
        exact ⟨nl, w.1, w.2, b.2.2.2.1, b.2.2.2.2⟩
      · obtain ⟨q1, q2⟩ := h.b i q e
        exact ⟨by omega, q2⟩
  · unfold recF at e
    split at e <;> unfold setA at e <;> split at e
    · subst_vars; exact ⟨h1, h9⟩
    · exact h.d i q e
    · subst_vars; exact ⟨h1, h9⟩
    · exact h.d i q e
theorem recF_has (R : Int → Option Rec) (m : Int) (p : Bool) (f : Int) : ∃ q, recF R m p f m = some q := by
  unfold recF
  split <;> exact ⟨_, if_pos rfl⟩
/-- the keys of a dict of manners -/
theorem dict_keys {H : Hp} {a : Addr} {g : Int → Option V} (h : DictM H a g) : ∃ (kvs : List (Key × V)) (ks : List Int), H a = some (.dK kvs) ∧ kvs.map (·.1) = ks.map Sum.inl ∧ ks.length < 64 ∧
    (∀ ys : List Int, ys.Perm ks → ys.Pairwise (· ≤ ·) → ys = nine.filter fun i => (g i).isSome) ∧ ∀ (i : Nat) (k : Key) (v : V), kvs[i]? = some (k, v) → ∃ m : Int, g m = some v := by
  obtain ⟨kvs, e, nd, hk, hv⟩ := h
  obtain ⟨ks, ek, h19⟩ := keys_int hk
  have ndk := nodup_inl (by rw [← ek]; exact nd)
  refine ⟨kvs, ks, e, ek, by have := pig 9 ks ndk h19; omega, fun ys hp hs => ?_, fun i k v hi => ?_⟩
  · have ndy := hp.nodup_iff.mpr ndk
    refine sorted_ext ?_ ?_ fun k => ?_
    · rw [List.nodup_iff_pairwise_ne] at ndy
      exact hs.imp₂ (fun _ _ h1 h2 => by omega) ndy
    · exact List.Pairwise.filter _ (by decide)
    · rw [hp.mem_iff, List.mem_filter]
      have h1 : k ∈ ks ↔ (g k).isSome = true := by
        have h2 : (Sum.inl k : Key) ∈ kvs.map (·.1) ↔ k ∈ ks := by
          rw [ek, List.mem_map]
          exact ⟨fun ⟨x, hx, q⟩ => by cases q; exact hx, fun hx => ⟨k, hx, rfl⟩⟩
        rw [← h2, ← mem_key, hv k]
      rw [h1]
      refine ⟨fun q => ⟨?_, q⟩, fun q => q.2⟩
      have := h19 k (h1.mpr q)
      have : k = 1 ∨ k = 2 ∨ k = 3 ∨ k = 4 ∨ k = 5 ∨ k = 6 ∨ k = 7 ∨ k = 8 ∨ k = 9 := by omega
      simp [nine, this]
  · obtain ⟨m, hm, _⟩ := hk (k, v) (List.mem_of_getElem? hi)
    refine ⟨m, ?_⟩
    rw [← hv m]
    have hm' : k = .inl m := hm
    subst hm'
    clear hv hk e ek h19 ndk ks
    induction kvs generalizing i with
    | nil => simp at hi
    | cons p r ih =>
      obtain ⟨k0, v0⟩ := p
      rw [List.map_cons, List.nodup_cons] at nd
      cases i with
      | zero =>
        simp at hi
        obtain ⟨rfl, rfl⟩ := hi
        simp [valV, List.find?]
      | succ i =>
        have hi' : r[i]? = some (.inl m, v) := by simpa using hi
        have hne : k0 ≠ .inl m := fun z => nd.1 (by
          rw [z, List.mem_map]
          exact ⟨(.inl m, v), List.mem_of_getElem? hi', rfl⟩)
        have := ih nd.2 i hi'
        rw [← this]
        simp [valV, List.find?, hne]
end TL

namespace TL
open PySem PySem.Spec PyProof.Rows L2
def top (i : Nat) : Stmt := PySem.Challenge.pw_trainline_k03_marks.main.body.getD i (.Pass ⟨0, 0, 0, 0⟩)
abbrev s_is_between : Stmt := top 6
abbrev N_is_between : List Str := ["part", "low", "high"]
abbrev P_is_between : List Str := ["part", "low", "high"]
theorem sc_is_between : FnScope N_is_between P_is_between (defScope s_is_between) := ⟨rfl, rfl, rfl, by decide +kernel, rfl, by decide +kernel, by decide +kernel⟩
abbrev s_need_manner : Stmt := top 14
abbrev N_need_manner : List Str := ["manner"]
abbrev P_need_manner : List Str := ["manner"]
theorem sc_need_manner : FnScope N_need_manner P_need_manner (defScope s_need_manner) := ⟨rfl, rfl, rfl, by decide +kernel, rfl, by decide +kernel, by decide +kernel⟩
abbrev s__law_dice : Stmt := top 17
abbrev N__law_dice : List Str := ["_law_script", "_law_k", "_law_found", "_law_cell"]
abbrev P__law_dice : List Str := ["_law_script", "_law_k"]
theorem sc__law_dice : FnScope N__law_dice P__law_dice (defScope s__law_dice) := ⟨rfl, rfl, rfl, by decide +kernel, rfl, by decide +kernel, by decide +kernel⟩
abbrev s__law_off : Stmt := top 18
abbrev N__law_off : List Str := ["_law_d", "_law_most", "_law_found"]
abbrev P__law_off : List Str := ["_law_d", "_law_most"]
theorem sc__law_off : FnScope N__law_off P__law_off (defScope s__law_off) := ⟨rfl, rfl, rfl, by decide +kernel, rfl, by decide +kernel, by decide +kernel⟩
abbrev s__law_alike : Stmt := top 19
abbrev N__law_alike : List Str := ["_law_found", "_law_due", "_law_k"]
abbrev P__law_alike : List Str := ["_law_found", "_law_due"]
theorem sc__law_alike : FnScope N__law_alike P__law_alike (defScope s__law_alike) := ⟨rfl, rfl, rfl, by decide +kernel, rfl, by decide +kernel, by decide +kernel⟩
abbrev s__law_is_marked : Stmt := top 20
abbrev N__law_is_marked : List Str := ["_law_k", "_law_manner", "_law_passed", "_law_frame", "_law_notes", "_law_run", "_law_wait", "_law_until", "_law_marked"]
abbrev P__law_is_marked : List Str := ["_law_k", "_law_manner", "_law_passed", "_law_frame"]
theorem sc__law_is_marked : FnScope N__law_is_marked P__law_is_marked (defScope s__law_is_marked) := ⟨rfl, rfl, rfl, by decide +kernel, rfl, by decide +kernel, by decide +kernel⟩
abbrev s_law : Stmt := top 21
abbrev N_law : List Str := ["_law_script", "_law_d", "_law_both", "_law_records", "_law_frame", "_law_few", "_law_runs", "_law_far", "_law_passed", "_law_turn", "_law_k", "_law_manner", "_law_until", "_law_row", "_law_later", "_law_when", "_law_found", "_law_one"]
abbrev P_law : List Str := ["_law_script"]
theorem sc_law : FnScope N_law P_law (defScope s_law) := ⟨rfl, rfl, rfl, by decide +kernel, rfl, by decide +kernel, by decide +kernel⟩
abbrev s_Marks_init : Stmt := inClass (top 15) 0
abbrev N_Marks_init : List Str := ["self"]
abbrev P_Marks_init : List Str := ["self"]
theorem sc_Marks_init : FnScope N_Marks_init P_Marks_init (defScope s_Marks_init) := ⟨rfl, rfl, rfl, by decide +kernel, rfl, by decide +kernel, by decide +kernel⟩
abbrev s_Marks_note : Stmt := inClass (top 15) 1
abbrev N_Marks_note : List Str := ["self", "manner", "passed", "frame", "wait"]
abbrev P_Marks_note : List Str := ["self", "manner", "passed", "frame"]
theorem sc_Marks_note : FnScope N_Marks_note P_Marks_note (defScope s_Marks_note) := ⟨rfl, rfl, rfl, by decide +kernel, rfl, by decide +kernel, by decide +kernel⟩
abbrev s_Marks_bad : Stmt := inClass (top 15) 2
abbrev N_Marks_bad : List Str := ["self", "frame", "manner"]
abbrev P_Marks_bad : List Str := ["self", "frame"]
theorem sc_Marks_bad : FnScope N_Marks_bad P_Marks_bad (defScope s_Marks_bad) := ⟨rfl, rfl, rfl, by decide +kernel, rfl, by decide +kernel, by decide +kernel⟩
/-- what the top has written -/
structure Txt (K : PySem.W.Frag) (mg : Str → Option Value) where
  a_is_between : Addr
  fd_is_between : FuncData
  F_is_between : Fun K "is_between" "is_between" s_is_between a_is_between fd_is_between
  g_is_between : mg "is_between" = some (.ref a_is_between)
  b_is_between : Binds K fd_is_between P_is_between []
  a_need_manner : Addr
  fd_need_manner : FuncData
  F_need_manner : Fun K "need_manner" "need_manner" s_need_manner a_need_manner fd_need_manner
  g_need_manner : mg "need_manner" = some (.ref a_need_manner)
  b_need_manner : Binds K fd_need_manner P_need_manner []
  a__law_dice : Addr
  fd__law_dice : FuncData
  F__law_dice : Fun K "_law_dice" "_law_dice" s__law_dice a__law_dice fd__law_dice
  g__law_dice : mg "_law_dice" = some (.ref a__law_dice)
  b__law_dice : Binds K fd__law_dice P__law_dice []
  a__law_off : Addr
  fd__law_off : FuncData
  F__law_off : Fun K "_law_off" "_law_off" s__law_off a__law_off fd__law_off
  g__law_off : mg "_law_off" = some (.ref a__law_off)
  b__law_off : Binds K fd__law_off P__law_off []
  a__law_alike : Addr
  fd__law_alike : FuncData
  F__law_alike : Fun K "_law_alike" "_law_alike" s__law_alike a__law_alike fd__law_alike
  g__law_alike : mg "_law_alike" = some (.ref a__law_alike)
  b__law_alike : Binds K fd__law_alike P__law_alike []
  a__law_is_marked : Addr
  fd__law_is_marked : FuncData
  F__law_is_marked : Fun K "_law_is_marked" "_law_is_marked" s__law_is_marked a__law_is_marked fd__law_is_marked
  g__law_is_marked : mg "_law_is_marked" = some (.ref a__law_is_marked)
  b__law_is_marked : Binds K fd__law_is_marked P__law_is_marked []
  a_law : Addr
  fd_law : FuncData
  F_law : Fun K "law" "law" s_law a_law fd_law
  g_law : mg "law" = some (.ref a_law)
  b_law : Binds K fd_law P_law []
  a_Marks_init : Addr
  fd_Marks_init : FuncData
  F_Marks_init : Fun K "__init__" "Marks.__init__" s_Marks_init a_Marks_init fd_Marks_init
  b_Marks_init : Binds K fd_Marks_init P_Marks_init []
  a_Marks_note : Addr
  fd_Marks_note : FuncData
  F_Marks_note : Fun K "note" "Marks.note" s_Marks_note a_Marks_note fd_Marks_note
  b_Marks_note : Binds K fd_Marks_note P_Marks_note []
  a_Marks_bad : Addr
  fd_Marks_bad : FuncData
  F_Marks_bad : Fun K "bad" "Marks.bad" s_Marks_bad a_Marks_bad fd_Marks_bad
  b_Marks_bad : Binds K fd_Marks_bad P_Marks_bad []
  C_Marks : Addr
  c_Marks : mg "Marks" = some (.ref C_Marks)
  cl_Marks : Cls K C_Marks
  no_Marks_waits : NoAttr K C_Marks "waits"
  no_Marks_until : NoAttr K C_Marks "until"
  no_Marks_runs : NoAttr K C_Marks "runs"
  no_Marks_tries : NoAttr K C_Marks "tries"
  M_Marks : Mk K C_Marks a_Marks_init
  m_Marks_note : Meth K C_Marks "note" a_Marks_note
  m_Marks_bad : Meth K C_Marks "bad" a_Marks_bad
  C_LineError : Addr
  c_LineError : mg "LineError" = some (.ref C_LineError)
  x_LineError : PySem.W.excIn K C_LineError [.type "ValueError", .type "Exception", .type "BaseException", .type "object"] "ValueError.__new__" = true
  k_LineError : PySem.W.keepIn K (.ref C_LineError) = true
  s_LineError : PySem.W.subIn K (.ref C_LineError) (.type "BaseException") = some true
  t_LineError : PySem.W.typeIn K (.ref C_LineError) = some (.type "type")
  C_BadManners : Addr
  c_BadManners : mg "BadManners" = some (.ref C_BadManners)
  x_BadManners : PySem.W.excIn K C_BadManners [.type "ValueError", .type "Exception", .type "BaseException", .type "object"] "ValueError.__new__" = true
  k_BadManners : PySem.W.keepIn K (.ref C_BadManners) = true
  s_BadManners : PySem.W.subIn K (.ref C_BadManners) (.type "BaseException") = some true
  t_BadManners : PySem.W.typeIn K (.ref C_BadManners) = some (.type "type")
  C_BadCount : Addr
  c_BadCount : mg "BadCount" = some (.ref C_BadCount)
  x_BadCount : PySem.W.excIn K C_BadCount [.type "ValueError", .type "Exception", .type "BaseException", .type "object"] "ValueError.__new__" = true
  k_BadCount : PySem.W.keepIn K (.ref C_BadCount) = true
  s_BadCount : PySem.W.subIn K (.ref C_BadCount) (.type "BaseException") = some true
  t_BadCount : PySem.W.typeIn K (.ref C_BadCount) = some (.type "type")
  tk_MOST : Tok
  v_MOST : mg "MOST" = some (.int 9 tk_MOST)
  tk_FIRST : Tok
  v_FIRST : mg "FIRST" = some (.int 16 tk_FIRST)
  tk_LONGEST : Tok
  v_LONGEST : mg "LONGEST" = some (.int 256 tk_LONGEST)
  tk_STAYS : Tok
  v_STAYS : mg "STAYS" = some (.int 32 tk_STAYS)
  tk_LOST : Tok
  v_LOST : mg "LOST" = some (.int 3 tk_LOST)
  tk_LAST : Tok
  v_LAST : mg "LAST" = some (.int 6 tk_LAST)
  tk_MOST_FRAME : Tok
  v_MOST_FRAME : mg "MOST_FRAME" = some (.int 1000000 tk_MOST_FRAME)
  n_abs : mg "abs" = none
  n_all : mg "all" = none
  n_bool : mg "bool" = none
  n_int : mg "int" = none
  n_isinstance : mg "isinstance" = none
  n_len : mg "len" = none
  n_list : mg "list" = none
  n_max : mg "max" = none
  n_min : mg "min" = none
  n_range : mg "range" = none
  n_sorted : mg "sorted" = none
  n_str : mg "str" = none
  n_tuple : mg "tuple" = none
end TL

namespace TL
open PySem PySem.Spec PyProof.Rows L2
section
variable {P : Program} {w : World} {K : PySem.W.Frag} {mg : Str → Option Value} {base : Heap}
def sp_is_between (T : Txt K mg) : Sp := fun vs H Q _ => ∃ (x : V) (d : PyData) (lo hi : Int), vs = [x, .int lo, .int hi] ∧ Dp K H x d ∧ (∀ ds, d ≠ .list ds) ∧ Q (.bl (between d lo hi)) H
theorem ok_is_between (T : Txt K mg) : FnOk P w K mg base CX0 1 T.a_is_between T.fd_is_between P_is_between (sp_is_between T) := by
  skip
  refine T.F_is_between.ok sc_is_between (fun vs H Q E h => ?_) (fun cdv A outer s H vs Q E hr h => ?_)
  · obtain ⟨x, d, lo, hi, rfl, _⟩ := h
    rfl
  · obtain ⟨x, d, lo, hi, rfl, hd, nl, k⟩ := h
    refine ⟨_, (pss_one (ps_ret (pe_and (pe_callB call_isi (by rfl) T.n_isinstance (by decide +kernel) (pa_cons (pv 0) (pa_cons (pe_bltn (v := .ty "int") (u := .type "int") (by rfl) T.n_int (by decide +kernel) rfl) pa_nil))) (pe_and (pe_not (pe_callB call_isi (by rfl) T.n_isinstance (by decide +kernel) (pa_cons (pv 0) (pa_cons (pe_bltn (v := .ty "bool") (u := .type "bool") (by rfl) T.n_bool (by decide +kernel) rfl) pa_nil)))) (pe_one (pe_chain op_le op_le (pv 1) (pv 0) (pv 2))))))), ?_⟩
    have k0 : ∀ {b : Bool}, between d lo hi = b → Q (.bl b) H := fun e => by rw [← e]; exact k
    cases d with
    | int i =>
      cases hd
      refine ⟨_, rfl, _, _, _, _, _, rfl, .ty _, tyx_D (.int i), kit_ty kb_ii, _, rfl, iteT ?_⟩
      refine ⟨_, rfl, _, _, _, _, _, rfl, .ty _, tyx_D (.int i), kit_ty kb_ib, _, rfl, _, rfl, iteT ?_⟩
      refine ⟨_, rfl, _, rfl, _, _, rfl, rfl, _, rfl, ?_⟩
      refine iteD (fun h1 => ⟨_, rfl, _, _, rfl, rfl, k0 ?_⟩) (fun h1 => k0 ?_)
      · simp [between, h1]
      · simp [between, h1]
    | bool b =>
      cases hd
      refine ⟨_, rfl, _, _, _, _, _, rfl, .ty _, tyx_D (.bl b), kit_ty kb_bi, _, rfl, iteT ?_⟩
      refine ⟨_, rfl, _, _, _, _, _, rfl, .ty _, tyx_D (.bl b), kit_ty kb_bb, _, rfl, _, rfl, iteF ?_⟩
      exact k0 rfl
    | none =>
      cases hd
      refine ⟨_, rfl, _, _, _, _, _, rfl, .ty _, tyx_D .non, kit_ty kb_ni, _, rfl, iteF ?_⟩
      exact k0 rfl
    | str z =>
      cases hd
      refine ⟨_, rfl, _, _, _, _, _, rfl, .ty _, tyx_D (.str z), kit_ty kb_si, _, rfl, iteF ?_⟩
      exact k0 rfl
    | tuple ds =>
      refine ⟨_, rfl, _, _, _, _, _, rfl, .ty _, tyx_D hd, kit_ty kb_ti, _, rfl, iteF ?_⟩
      exact k0 rfl
    | list ds => exact (nl ds rfl).elim
    | dict _ => cases hd

end
end TL

namespace TL
open PySem PySem.Spec PyProof.Rows L2
section
variable {P : Program} {w : World} {K : PySem.W.Frag} {mg : Str → Option Value} {base : Heap}
def sp_need_manner (T : Txt K mg) : Sp := fun vs H Q E => ∃ (x : V) (d : PyData), vs = [x] ∧ Dp K H x d ∧ (∀ ds, d ≠ .list ds) ∧ (between d 1 9 = true → Q .non H) ∧ (between d 1 9 = false → E (.ref T.C_BadManners) none H)
theorem ok_need_manner (T : Txt K mg) : FnOk P w K mg base (L2.CX P w) 2 T.a_need_manner T.fd_need_manner P_need_manner (sp_need_manner T) := by
  have G_is_between := ok_is_between (P := P) (w := w) (base := base) T
  refine T.F_need_manner.okX sc_need_manner (fun vs H Q E h => ?_) (fun cdv A outer s H vs Q E hr h => ?_)
  · obtain ⟨x, d, rfl, _⟩ := h
    rfl
  · obtain ⟨x, d, rfl, hd, nl, k1, k2⟩ := h
    refine ⟨_, (pss_one (ps_if (pt_not (pt_val (pe_call G_is_between (hr.mono (by decide)) rfl T.g_is_between T.F_is_between.kp T.b_is_between .nil pass0 (pa_cons (pv 0) (pa_cons pe_int (pa_cons (pe_glob (v := .int 9) rfl T.v_MOST ⟨_, rfl⟩) pa_nil))))))
      (pss_one (ps_raise rfl (takes_of rfl rfl rfl rfl) (pmk_own PySem.F.excBase_ValueError T.x_BadManners T.c_BadManners T.k_BadManners (raises_own T.s_BadManners T.t_BadManners) rfl)))
      pss_nil)), ?_⟩
    refine ⟨_, rfl, x, d, 1, 9, rfl, hd, nl, _, rfl, ?_⟩
    refine iteB (fun hb => k2 (by simpa using hb)) (fun hb => k1 (by simpa using hb))

end
end TL

namespace TL
open PySem PySem.Spec PyProof.Rows L2
section
variable {P : Program} {w : World} {K : PySem.W.Frag} {mg : Str → Option Value} {base : Heap}
def sp__law_dice (T : Txt K mg) : Sp := fun vs H Q _ => ∃ (a : Addr) (ns : List Int) (k : Int), vs = [.ref a, .int k] ∧ SqL K H a (ns.map V.int) ∧ ns.length ≤ 63 ∧
  ∀ (p : Addr) (H' : Hp), H p = none → DiceAt H' p → Same H H' → Q (.ref p) H'
theorem ok__law_dice (T : Txt K mg) : FnOk P w K mg base CX0 1 T.a__law_dice T.fd__law_dice P__law_dice (sp__law_dice T) := by
  skip
  refine T.F__law_dice.ok sc__law_dice (fun vs H Q E h => ?_) (fun cdv A outer s H vs Q E hr h => ?_)
  · obtain ⟨a, ns, k, rfl, _⟩ := h
    rfl
  · obtain ⟨a, ns, kz, rfl, hS, hl, k⟩ := h
    refine ⟨_, (pss_cons (ps_set (i := 2) sc__law_dice.nd rfl (by first | exact Or.inl rfl | exact Or.inr rfl) (pv 1))
    (pss_cons (ps_for PassesOwn.never rfl (pi_list (pv 0)) (pg_name (i := 3) sc__law_dice.nd rfl (by first | exact Or.inl rfl | exact Or.inr rfl))
      (pss_one (ps_set (i := 2) sc__law_dice.nd rfl (by first | exact Or.inl rfl | exact Or.inr rfl) (pe_op op_mod (pe_op op_add (pe_op op_mul (pv 2) pe_int) (pe_callB call_abs (by rfl) T.n_abs (by decide +kernel) (pa_cons (pv 3) pa_nil))) pe_int))))
    (pss_one (ps_ret (pe_op op_cat (pe_lst (pa_cons (pv 2) (pa_cons pe_int pa_nil))) (pe_lc (own := [("_law_cell", 3)]) (g := (gName 3)) (tt := (tTest (tOp (rI0 fun i j => .bl (decide (j ≤ i))) (tVar 3) (tOp (rI CPow fun i j => .int (i ^ j.toNat)) (tC (.int 10)) (tC (.int 18)))))) (te := (tVar 3)) rfl sc__law_dice.nd (pi_list (pv 0)) (blkOk_by (own := [("_law_cell", 3)]) (N := N__law_dice) (sc := defScope s__law_dice) (by decide +kernel)) (fun _ _ _ _ _ => (pg_name (i := 3) sc__law_dice.nd rfl (by first | exact Or.inl rfl | exact Or.inr rfl))) (fun _ _ _ _ _ => (pts_one (pt_cmpR op_ge (pv 3) (pe_op op_pow pe_int pe_int) (nomark _)))) (fun _ _ _ _ _ => (pv 3)))))))), ?_⟩
    refine ⟨_, rfl, ?_⟩
    refine ⟨_, rfl, a, rfl, ⟨_, hS⟩, for_list (K := K) (a := a) (xs := ns.map V.int) (fun i σ H2 => H2 = H ∧ ∃ (f : Int) (v : Option V), σ = [some (.ref a), some (.int kz), some (.int f), v])
      ⟨rfl, _, _, rfl⟩ (fun i σ H2 _ ⟨e, _⟩ => by rw [e]; exact hS) ?_ ?_⟩
    · rintro i y σ H2 hi ⟨rfl, f, v, rfl⟩
      obtain ⟨z, hz, rfl⟩ := getmap hi
      exact ⟨_, rfl, _, _, rfl, rfl, .inr (by decide), _, rfl, _, rfl, _, _, rfl, rfl, _, _, rfl, rfl, (by show (0 : Int) < 2147483647; decide), rfl, _, _, rfl⟩
    · rintro σ H2 ⟨rfl, f, v, rfl⟩
      refine ⟨_, rfl, (by show 2 ≤ sizeLine; decide), fun l hlz => ?_⟩
      have s1 : Same H2 (upd H2 l (.lst [.int f, .int 0])) := Same.upd_new hlz
      refine ⟨_, rfl, a, rfl, ⟨_, s1.seq hS⟩, fun D hD => ?_⟩
      refine lc_list (K := K) (a := a) (xs := ns.map V.int) (fun i H3 => ∃ ms : List Int, H3 D = some (.lst (ms.map V.int)) ∧ ms.length ≤ i ∧ Same (upd H2 l (.lst [.int f, .int 0])) H3)
        ⟨[], upd_same, Nat.le_refl _, Same.upd_new hD⟩ (fun i H3 _ ⟨_, _, _, s3⟩ => s3.seq (s1.seq hS)) ?_ ?_
      · rintro i y H3 hi ⟨ms, hm, hml, s3⟩
        obtain ⟨z, hz, rfl⟩ := getmap hi
        have hil : i < ns.length := (List.getElem?_eq_some_iff.mp hz).1
        refine ⟨rfl, _, rfl, _, _, rfl, rfl, ⟨by decide, by decide, by decide⟩, _, _, rfl, rfl, _, rfl, ?_⟩
        refine iteD (fun h0 => ?_) (fun h0 => ⟨ms, hm, Nat.le_succ_of_le hml, s3⟩)
        refine ⟨_, rfl, _, hm, by rw [List.length_map]; exact small1000 (by omega), ms ++ [z], by rw [upd_same, List.map_append]; rfl, by simp; omega, fun b o e => ?_⟩
        rw [upd_ne (fun q => ?_)]
        · exact s3 b o e
        · subst q
          rw [hD] at e
          cases e
      · rintro H3 ⟨ms, hm, hml, s3⟩
        rw [List.length_map] at hml
        have hlH : H3 l = some (.lst [.int f, .int 0]) := s3 _ _ upd_same
        refine ⟨l, D, _, _, rfl, rfl, hlH, hm, by rw [List.length_map]; exact Nat.le_of_lt (small1000 (by simp; omega)), fun p hp => ?_⟩
        refine k p _ ((s1.trans s3).free hp) ⟨f :: 0 :: ms, by rw [upd_same]; rfl, by simp, by simp; omega⟩ ((s1.trans s3).trans (Same.upd_new hp))

end
end TL

namespace TL
open PySem PySem.Spec PyProof.Rows L2
section
variable {P : Program} {w : World} {K : PySem.W.Frag} {mg : Str → Option Value} {base : Heap}
def sp__law_off (T : Txt K mg) : Sp := fun vs H Q _ => ∃ (d : Addr) (m : Int), vs = [.ref d, .int m] ∧ DiceAt H d ∧ 0 < m ∧ m < 1073741824 ∧
  ∀ (r : Int) (H' : Hp), 0 ≤ r → r < m → DiceAt H' d → Frm [d] H H' → Q (.int r) H'
theorem ok__law_off (T : Txt K mg) : FnOk P w K mg base CX0 1 T.a__law_off T.fd__law_off P__law_off (sp__law_off T) := by
  skip
  refine T.F__law_off.ok sc__law_off (fun vs H Q E h => ?_) (fun cdv A outer s H vs Q E hr h => ?_)
  · obtain ⟨d, m, rfl, _⟩ := h
    rfl
  · obtain ⟨d, m, rfl, ⟨ns, hd, hl, hl2⟩, hm0, hm1, k⟩ := h
    obtain ⟨a, b, r, rfl⟩ : ∃ a b r, ns = a :: b :: r := by
      match ns, hl with
      | a :: b :: r, _ => exact ⟨a, b, r, rfl⟩
    refine ⟨_, (pss_cons (ps_if (PW.pt (pw_and (pt_cmpR op_eq (pe_ix ix_list (pv 0) pe_int (fun _ _ => rfl)) pe_int (nomark _)) (pw_and1 (pt_cmpR op_gt (pe_callB call_len_seq (by rfl) T.n_len (by decide +kernel) (pa_cons (pv 0) pa_nil)) pe_int (nomark _)))))
      (pss_one (ps_asg (pe_bm PySem.F.plainAttrs_list PySem.F.slot_list_pop PySem.F.type_list_pop mt_popAt (pv 0) (pa_cons pe_int pa_nil)) (pg_sub (pv 0) pe_int set_list)))
      pss_nil)
    (pss_cons (ps_if (pt_cmpR op_gt (pe_ix ix_list (pv 0) pe_int (fun _ _ => rfl)) pe_int (nomark _))
      (pss_cons (ps_set (i := 2) sc__law_off.nd rfl (by first | exact Or.inl rfl | exact Or.inr rfl) (pe_op op_mod (pe_ix ix_list (pv 0) pe_int (fun _ _ => rfl)) (pv 1)))
      (pss_cons (ps_asg (pe_op op_fdiv (pe_ix ix_list (pv 0) pe_int (fun _ _ => rfl)) (pv 1)) (pg_sub (pv 0) pe_int set_list))
      (pss_one (ps_ret (pv 2)))))
      pss_nil)
    (pss_cons (ps_asg (pe_op op_mod (pe_op op_add (pe_op op_mul (pe_ix ix_list (pv 0) pe_int (fun _ _ => rfl)) pe_int) pe_int) pe_int) (pg_sub (pv 0) pe_int set_list))
    (pss_one (ps_ret (pe_op op_mod (pe_op op_fdiv (pe_ix ix_list (pv 0) pe_int (fun _ _ => rfl)) pe_int) (pv 1))))))), ?_⟩
    have key : ∀ (H1 : Hp) (a b : Int) (r : List Int), H1 d = some (.lst ((a :: b :: r).map V.int)) → (a :: b :: r).length ≤ 65 → Frm [d] H H1 → tSeq (tIfS (tTest (tOp (rI0 fun i j => .bl (decide (j < i))) (tOp (rIxL K) (tVar 0) (tC (.int 1))) (tC (.int 0)))) (tSeq (tAsg (tOp (rI (fun _ j => 0 < j) fun i j => .int (i % j)) (tOp (rIxL K) (tVar 0) (tC (.int 1))) (tVar 1)) (gName 2)) (tSeq (tAsg (tOp (rI CDiv fun i j => .int (i / j)) (tOp (rIxL K) (tVar 0) (tC (.int 1))) (tVar 1)) (gSub (tVar 0) (tC (.int 1)) rSetL)) (tRet (tVar 2)))) tNext)
        (tSeq (tAsg (tOp (rI (fun _ j => 0 < j) fun i j => .int (i % j)) (tOp (rI0 fun i j => .int (i + j)) (tOp (rI CMul fun i j => .int (i * j)) (tOp (rIxL K) (tVar 0) (tC (.int 0))) (tC (.int 48271))) (tC (.int 11))) (tC (.int 2147483647))) (gSub (tVar 0) (tC (.int 0)) rSetL))
          (tRet (tOp (rI (fun _ j => 0 < j) fun i j => .int (i % j)) (tOp (rI CDiv fun i j => .int (i / j)) (tOp (rIxL K) (tVar 0) (tC (.int 0))) (tC (.int 64))) (tVar 1))))
        { nx := fun _ H' => Q .non H', rt := Q } [some (.ref d), some (.int m), none] H1 := by
      intro H1 a b r h1 hl e1
      have dz : (ixN ((a :: b :: r).map V.int).length 1) = some 1 := by
        unfold ixN
        simp only [List.length_map, List.length_cons]
        rw [if_pos (by omega), if_pos (by omega)]
        rfl
      have dz0 : (ixN ((a :: b :: r).map V.int).length 0) = some 0 := by
        unfold ixN
        simp only [List.length_map, List.length_cons]
        rw [if_pos (by omega), if_pos (by omega)]
        rfl
      refine ⟨_, rfl, d, _, _, .int b, rfl, rfl, SqL.of h1, atI_nat (j := 1) rfl, _, _, rfl, rfl, _, rfl, ?_⟩
      refine iteD (fun h0 => ?_) (fun h0 => ?_)
      · refine ⟨_, rfl, d, _, _, .int b, rfl, rfl, SqL.of h1, atI_nat (j := 1) rfl, _, rfl, _, _, rfl, rfl, hm0, ?_⟩
        refine ⟨_, rfl, d, _, _, .int b, rfl, rfl, SqL.of h1, atI_nat (j := 1) rfl, _, rfl, _, _, rfl, rfl, ⟨hm0, hm1⟩, ?_⟩
        refine ⟨_, rfl, d, _, _, 1, rfl, rfl, h1, dz, _, rfl, ?_⟩
        refine k _ _ (Int.emod_nonneg _ (by omega)) (Int.emod_lt_of_pos _ hm0) ⟨a :: (b / m) :: r, upd_same, by simp, hl⟩ (e1.trans (Frm.updL h1))
      · refine ⟨_, rfl, d, _, _, .int a, rfl, rfl, SqL.of h1, atI_nat (j := 0) rfl, _, _, rfl, rfl, .inr (by decide), _, _, rfl, rfl, _, _, rfl, rfl, (by show (0 : Int) < 2147483647; decide), ?_⟩
        refine ⟨_, rfl, d, _, _, 0, rfl, rfl, h1, dz0, ?_⟩
        refine ⟨_, rfl, d, _, _, .int ((a * 48271 + 11) % 2147483647), rfl, rfl, SqL.of upd_same, atI_nat (j := 0) rfl, _, _, rfl, rfl, ⟨by decide, by decide⟩, _, rfl, _, _, rfl, rfl, hm0, ?_⟩
        exact k _ _ (Int.emod_nonneg _ (by omega)) (Int.emod_lt_of_pos _ hm0) ⟨((a * 48271 + 11) % 2147483647) :: b :: r, upd_same, by simp, hl⟩ (e1.trans (Frm.updL h1))
    -- d[1] == 0 and len(d) > 2
    refine ⟨_, rfl, d, _, _, .int b, rfl, rfl, SqL.of hd, atI_nat (j := 1) rfl, rfl, _, rfl, ?_⟩
    refine iteD (fun h0 => ?_) (fun h0 => iteF (key H a b r hd hl2 (.refl _ _)))
    refine ⟨_, rfl, d, _, rfl, .inl (SqL.of hd), _, _, rfl, rfl, _, rfl, ?_⟩
    refine iteD (fun h1 => ?_) (fun h1 => key H a b r hd hl2 (.refl _ _))
    obtain ⟨c, r', rfl⟩ : ∃ c r', r = c :: r' := by
      match r, h1 with
      | c :: r', _ => exact ⟨c, r', rfl⟩
      | [], h1 => exact absurd h1 (by simp)
    have s2 : seqIndex? 2 ((a :: b :: c :: r').map V.int).length = some 2 := by
      have e : ixN ((a :: b :: c :: r').map V.int).length 2 = some 2 := by
        unfold ixN
        simp only [List.length_map, List.length_cons]
        rw [if_pos (by omega), if_pos (by omega)]
        rfl
      exact (ixN_seq e).1
    refine ⟨_, rfl, .inl ⟨rfl, _, SqL.of hd⟩, d, _, _, 2, .int c, rfl, rfl, hd, by decide, by decide, s2, rfl, ?_⟩
    have dz : (ixN (((a :: b :: c :: r').map V.int).eraseIdx 2).length 1) = some 1 := by
      unfold ixN
      show (if (0 : Int) ≤ 1 then (if (1 : Int) < ((V.int a :: V.int b :: r'.map V.int).length : Nat) then _ else _) else _) = _
      simp only [List.length_cons]
      rw [if_pos (by omega), if_pos (by omega)]
      rfl
    refine ⟨_, rfl, d, _, _, 1, rfl, rfl, upd_same, dz, ?_⟩
    refine key _ a c r' (by rw [upd_same]; rfl) (by simp only [List.length_cons] at hl2 ⊢; omega) ((Frm.updL hd).trans (Frm.updL upd_same))

end
end TL

namespace TL
open PySem PySem.Spec PyProof.Rows L2
section
variable {P : Program} {w : World} {K : PySem.W.Frag} {mg : Str → Option Value} {base : Heap}
/-- of two things that are the same data True is told; n: how deep they may be, and one more -/
def sp__law_alike (T : Txt K mg) : Nat → Sp
  | 0 => fun _ _ _ _ => False
  | n + 1 => fun vs H Q _ => ∃ (x y : V) (d : PyData), vs = [x, y] ∧ Dp K H x d ∧ Dp K H y d ∧ lv n d ∧ ∀ H', Same H H' → Q (.bl true) H'
theorem rix_of {H : Hp} {p : Addr} {xs : List V} {i : Int} {v : V} {Q : VK} (h : SqL K H p xs ∨ SqT K H p xs) (e : atI xs i = some v) (q : Q v H) : rIx K (.ref p) (.int i) H Q := by
  rcases h with h | h
  · exact .inl ⟨p, xs, i, v, rfl, rfl, h, e, q⟩
  · exact .inr (.inl ⟨p, xs, i, v, rfl, rfl, h, e, q⟩)
theorem ok__law_alike_step (T : Txt K mg) (n : Nat) (G__law_alike : FnOk P w K mg base CX0 n T.a__law_alike T.fd__law_alike P__law_alike (sp__law_alike T n)) : FnOk P w K mg base CX0 (n + 1) T.a__law_alike T.fd__law_alike P__law_alike (sp__law_alike T (n + 1)) := by
  refine T.F__law_alike.ok sc__law_alike (fun vs H Q E h => ?_) (fun cdv A outer s H vs Q E hr h => ?_)
  · obtain ⟨x, y, d, rfl, _⟩ := h
    rfl
  · obtain ⟨x, y, d, rfl, hx, hy, hl, k⟩ := h
    have hrS := hr
    refine ⟨_, (pss_cons (ps_if (pt_cmpR op_isN1 (pv 1) pe_non (nomark _))
      (pss_one (ps_ret (pe_cmpR op_isN1 (pv 0) pe_non (nomark _))))
      pss_nil)
    (pss_cons (ps_if (pt_val (pe_callB call_isi (by rfl) T.n_isinstance (by decide +kernel) (pa_cons (pv 1) (pa_cons (pe_bltn (v := .ty "bool") (u := .type "bool") (by rfl) T.n_bool (by decide +kernel) rfl) pa_nil))))
      (pss_one (ps_ret (pe_and (pe_callB call_isi (by rfl) T.n_isinstance (by decide +kernel) (pa_cons (pv 0) (pa_cons (pe_bltn (v := .ty "bool") (u := .type "bool") (by rfl) T.n_bool (by decide +kernel) rfl) pa_nil))) (pe_one (pe_cmpR op_eq (pv 0) (pv 1) (nomark _))))))
      pss_nil)
    (pss_cons (ps_if (pt_val (pe_callB call_isi (by rfl) T.n_isinstance (by decide +kernel) (pa_cons (pv 1) (pa_cons (pe_bltn (v := .ty "int") (u := .type "int") (by rfl) T.n_int (by decide +kernel) rfl) pa_nil))))
      (pss_one (ps_ret (pe_and (pe_callB call_isi (by rfl) T.n_isinstance (by decide +kernel) (pa_cons (pv 0) (pa_cons (pe_bltn (v := .ty "int") (u := .type "int") (by rfl) T.n_int (by decide +kernel) rfl) pa_nil))) (pe_and (pe_not (pe_callB call_isi (by rfl) T.n_isinstance (by decide +kernel) (pa_cons (pv 0) (pa_cons (pe_bltn (v := .ty "bool") (u := .type "bool") (by rfl) T.n_bool (by decide +kernel) rfl) pa_nil)))) (pe_one (pe_cmpR op_eq (pv 0) (pv 1) (nomark _)))))))
      pss_nil)
    (pss_cons (ps_if (pt_val (pe_callB call_isi (by rfl) T.n_isinstance (by decide +kernel) (pa_cons (pv 1) (pa_cons (pe_bltn (v := .ty "str") (u := .type "str") (by rfl) T.n_str (by decide +kernel) rfl) pa_nil))))
      (pss_one (ps_ret (pe_and (pe_callB call_isi (by rfl) T.n_isinstance (by decide +kernel) (pa_cons (pv 0) (pa_cons (pe_bltn (v := .ty "str") (u := .type "str") (by rfl) T.n_str (by decide +kernel) rfl) pa_nil))) (pe_one (pe_cmpR op_eq (pv 0) (pv 1) (nomark _))))))
      pss_nil)
    (pss_cons (ps_if (PW.pt (pw_or (pt_cmpR op_ne (pe_callB call_isi (by rfl) T.n_isinstance (by decide +kernel) (pa_cons (pv 1) (pa_cons (pe_bltn (v := .ty "tuple") (u := .type "tuple") (by rfl) T.n_tuple (by decide +kernel) rfl) pa_nil))) (pe_callB call_isi (by rfl) T.n_isinstance (by decide +kernel) (pa_cons (pv 0) (pa_cons (pe_bltn (v := .ty "tuple") (u := .type "tuple") (by rfl) T.n_tuple (by decide +kernel) rfl) pa_nil))) (nomark _)) (pw_or1 (pt_cmpR op_ne (pe_callB call_isi (by rfl) T.n_isinstance (by decide +kernel) (pa_cons (pv 1) (pa_cons (pe_bltn (v := .ty "list") (u := .type "list") (by rfl) T.n_list (by decide +kernel) rfl) pa_nil))) (pe_callB call_isi (by rfl) T.n_isinstance (by decide +kernel) (pa_cons (pv 0) (pa_cons (pe_bltn (v := .ty "list") (u := .type "list") (by rfl) T.n_list (by decide +kernel) rfl) pa_nil))) (nomark _)))))
      (pss_one (ps_ret pe_bl))
      pss_nil)
    (pss_cons (ps_if (pt_cmpR op_ne (pe_callB call_len_seq (by rfl) T.n_len (by decide +kernel) (pa_cons (pv 0) pa_nil)) (pe_callB call_len_seq (by rfl) T.n_len (by decide +kernel) (pa_cons (pv 1) pa_nil)) (nomark _))
      (pss_one (ps_ret pe_bl))
      pss_nil)
    (pss_one (ps_ret (pe_callB (cr_all rfl) (by rfl) T.n_all (by decide +kernel) (pa_cons (pe_lc (own := [("_law_k", 2)]) (g := (gName 2)) (tt := tYes) (te := (tCall _ [] E0 (tCons (tOp (rIx K) (tVar 0) (tVar 2)) (tCons (tOp (rIx K) (tVar 1) (tVar 2)) tNil)))) rfl sc__law_alike.nd (pi_range1 rfl T.n_range (pa_cons (pe_callB call_len_seq (by rfl) T.n_len (by decide +kernel) (pa_cons (pv 1) pa_nil)) pa_nil)) (blkOk_by (own := [("_law_k", 2)]) (N := N__law_alike) (sc := defScope s__law_alike) (by decide +kernel)) (fun _ _ _ _ _ => (pg_name (i := 2) sc__law_alike.nd rfl (by first | exact Or.inl rfl | exact Or.inr rfl))) (fun _ _ _ _ _ => pts_nil) (fun _ _ _ _ _ => (pe_call G__law_alike hrS rfl T.g__law_alike T.F__law_alike.kp T.b__law_alike .nil pass0 (pa_cons (pe_ix ix_seq (pv 0) (pv 2) (fun _ _ => rfl)) (pa_cons (pe_ix ix_seq (pv 1) (pv 2) (fun _ _ => rfl)) pa_nil))))) pa_nil)))))))))), ?_⟩
    have kk : ∀ {p : Prop} [Decidable p], p → Q (.bl (decide p)) H := fun hp => by rw [decide_eq_true hp]; exact k _ (.refl _)
    cases d with
    | none =>
      cases hx; cases hy
      exact ⟨_, rfl, rfl, _, rfl, iteT ⟨_, rfl, rfl, k _ (.refl _)⟩⟩
    | bool b =>
      cases hx; cases hy
      refine ⟨_, rfl, rfl, _, rfl, iteF ?_⟩
      refine ⟨_, rfl, _, _, _, _, _, rfl, .ty _, tyx_D (.bl b), kit_ty kb_bb, _, rfl, iteT ?_⟩
      exact ⟨_, rfl, _, _, _, _, _, rfl, .ty _, tyx_D (.bl b), kit_ty kb_bb, _, rfl, iteT ⟨_, rfl, _, rfl, rfl, kk rfl⟩⟩
    | int i =>
      cases hx; cases hy
      refine ⟨_, rfl, rfl, _, rfl, iteF ?_⟩
      refine ⟨_, rfl, _, _, _, _, _, rfl, .ty _, tyx_D (.int i), kit_ty kb_ib, _, rfl, iteF ?_⟩
      refine ⟨_, rfl, _, _, _, _, _, rfl, .ty _, tyx_D (.int i), kit_ty kb_ii, _, rfl, iteT ?_⟩
      refine ⟨_, rfl, _, _, _, _, _, rfl, .ty _, tyx_D (.int i), kit_ty kb_ii, _, rfl, iteT ?_⟩
      exact ⟨_, rfl, _, _, _, _, _, rfl, .ty _, tyx_D (.int i), kit_ty kb_ib, _, rfl, _, rfl, iteT ⟨_, rfl, _, rfl, rfl, kk rfl⟩⟩
    | str z =>
      cases hx; cases hy
      refine ⟨_, rfl, rfl, _, rfl, iteF ?_⟩
      refine ⟨_, rfl, _, _, _, _, _, rfl, .ty _, tyx_D (.str z), kit_ty kb_sb, _, rfl, iteF ?_⟩
      refine ⟨_, rfl, _, _, _, _, _, rfl, .ty _, tyx_D (.str z), kit_ty kb_si, _, rfl, iteF ?_⟩
      refine ⟨_, rfl, _, _, _, _, _, rfl, .ty _, tyx_D (.str z), kit_ty kb_ss, _, rfl, iteT ?_⟩
      exact ⟨_, rfl, _, _, _, _, _, rfl, .ty _, tyx_D (.str z), kit_ty kb_ss, _, rfl, iteT ⟨_, rfl, _, rfl, rfl, kk rfl⟩⟩
    | dict _ => cases hx
    | list ds =>
      have hx' := hx
      have hy' := hy
      cases hx' with
      | lst hLx hAx =>
      rename_i a xs
      cases hy' with
      | lst hLy hAy =>
      rename_i b ys
      refine ⟨_, rfl, rfl, _, rfl, iteF ?_⟩
      refine ⟨_, rfl, _, _, _, _, _, rfl, .ty _, tyx_D hy, kit_ty kb_lb, _, rfl, iteF ?_⟩
      refine ⟨_, rfl, _, _, _, _, _, rfl, .ty _, tyx_D hy, kit_ty kb_li, _, rfl, iteF ?_⟩
      refine ⟨_, rfl, _, _, _, _, _, rfl, .ty _, tyx_D hy, kit_ty kb_ls, _, rfl, iteF ?_⟩
      refine ⟨_, rfl, _, _, _, _, _, rfl, .ty _, tyx_D hy, kit_ty kb_lt, _, rfl, _, _, _, _, _, rfl, .ty _, tyx_D hx, kit_ty kb_lt, rfl, _, rfl, iteF ?_⟩
      refine ⟨_, rfl, _, _, _, _, _, rfl, .ty _, tyx_D hy, kit_ty kb_ll, _, rfl, _, _, _, _, _, rfl, .ty _, tyx_D hx, kit_ty kb_ll, rfl, _, rfl, iteF ?_⟩
      obtain ⟨m, rfl⟩ : ∃ m, n = m + 1 := by
        cases n with
        | zero => simp [lv] at hl
        | succ m => exact ⟨m, rfl⟩
      simp only [lv] at hl
      have hLx : SqL K H a xs ∨ SqT K H a xs := .inl hLx
      have hLy : SqL K H b ys ∨ SqT K H b ys := .inl hLy
      have lx := hAx.length
      have ly := hAy.length
      have sq : ∀ {H' : Hp} {c : Addr} {zs : List V}, Same H H' → (SqL K H c zs ∨ SqT K H c zs) → (SqL K H' c zs ∨ SqT K H' c zs) := fun s z => z.imp (fun q => s.seq q) fun q => SqT_same s q
      refine ⟨_, rfl, a, _, rfl, hLx, _, rfl, b, _, rfl, hLy, rfl, _, rfl, iteNS (by rw [lx, ly]) ?_⟩
      refine ⟨_, rfl, b, _, rfl, hLy, _, rfl, by omega, by omega, fun D hD => ?_⟩
      have hn : ((ys.length : Nat) : Int).toNat = ds.length := by omega
      rw [hn]
      refine lc_range (lo := 0) (n := ds.length) (fun i H2 => Same H H2 ∧ H2 D = some (.lst ((List.replicate i true).map V.bl)))
        ⟨Same.upd_new hD, upd_same⟩ ?_ ?_
      · rintro i H2 hi ⟨s2, h2⟩
        obtain ⟨u, hu, hdu⟩ := hAx.get (i := i) (d := ds[i]) (List.getElem?_eq_getElem hi)
        obtain ⟨v, hv, hdv⟩ := hAy.get (i := i) (d := ds[i]) (List.getElem?_eq_getElem hi)
        have e0 : (0 : Int) + (i : Int) = (i : Int) := by omega
        refine ⟨rfl, ?_⟩
        refine ⟨_, rfl, _, rfl, rix_of (sq s2 hLx) (at_of e0 hu) ?_⟩
        refine ⟨_, rfl, _, rfl, rix_of (sq s2 hLy) (at_of e0 hv) ?_⟩
        refine ⟨_, _, ds[i], rfl, hdu.same s2, hdv.same s2, hl.2 _ (List.getElem_mem hi), fun H3 s3 => ?_⟩
        refine ⟨_, s3 _ _ h2, by simp only [List.length_map, List.length_replicate]; exact Nat.lt_of_lt_of_le (Nat.lt_of_lt_of_le hi hl.1) (by decide), fun c o e => ?_, ?_⟩
        · rw [upd_ne (fun q => by rw [q, hD] at e; cases e)]
          exact s3 _ _ (s2 c o e)
        · rw [upd_same, List.replicate_succ', List.map_append]
          rfl
      · rintro H2 ⟨s2, h2⟩
        refine ⟨D, List.replicate ds.length true, rfl, SqL.of h2, ?_⟩
        have : (List.replicate ds.length true).all id = true := by simp
        rw [this]
        exact k _ s2
    | tuple ds =>
      have hx' := hx
      have hy' := hy
      cases hx' with
      | tup hLx hAx =>
      rename_i a xs
      cases hy' with
      | tup hLy hAy =>
      rename_i b ys
      refine ⟨_, rfl, rfl, _, rfl, iteF ?_⟩
      refine ⟨_, rfl, _, _, _, _, _, rfl, .ty _, tyx_D hy, kit_ty kb_tb, _, rfl, iteF ?_⟩
      refine ⟨_, rfl, _, _, _, _, _, rfl, .ty _, tyx_D hy, kit_ty kb_ti, _, rfl, iteF ?_⟩
      refine ⟨_, rfl, _, _, _, _, _, rfl, .ty _, tyx_D hy, kit_ty kb_ts, _, rfl, iteF ?_⟩
      refine ⟨_, rfl, _, _, _, _, _, rfl, .ty _, tyx_D hy, kit_ty kb_tt, _, rfl, _, _, _, _, _, rfl, .ty _, tyx_D hx, kit_ty kb_tt, rfl, _, rfl, iteF ?_⟩
      refine ⟨_, rfl, _, _, _, _, _, rfl, .ty _, tyx_D hy, kit_ty kb_tl, _, rfl, _, _, _, _, _, rfl, .ty _, tyx_D hx, kit_ty kb_tl, rfl, _, rfl, iteF ?_⟩
      obtain ⟨m, rfl⟩ : ∃ m, n = m + 1 := by
        cases n with
        | zero => simp [lv] at hl
        | succ m => exact ⟨m, rfl⟩
      simp only [lv] at hl
      have hLx : SqL K H a xs ∨ SqT K H a xs := .inr hLx
      have hLy : SqL K H b ys ∨ SqT K H b ys := .inr hLy
      have lx := hAx.length
      have ly := hAy.length
      have sq : ∀ {H' : Hp} {c : Addr} {zs : List V}, Same H H' → (SqL K H c zs ∨ SqT K H c zs) → (SqL K H' c zs ∨ SqT K H' c zs) := fun s z => z.imp (fun q => s.seq q) fun q => SqT_same s q
      refine ⟨_, rfl, a, _, rfl, hLx, _, rfl, b, _, rfl, hLy, rfl, _, rfl, iteNS (by rw [lx, ly]) ?_⟩
      refine ⟨_, rfl, b, _, rfl, hLy, _, rfl, by omega, by omega, fun D hD => ?_⟩
      have hn : ((ys.length : Nat) : Int).toNat = ds.length := by omega
      rw [hn]
      refine lc_range (lo := 0) (n := ds.length) (fun i H2 => Same H H2 ∧ H2 D = some (.lst ((List.replicate i true).map V.bl)))
        ⟨Same.upd_new hD, upd_same⟩ ?_ ?_
      · rintro i H2 hi ⟨s2, h2⟩
        obtain ⟨u, hu, hdu⟩ := hAx.get (i := i) (d := ds[i]) (List.getElem?_eq_getElem hi)
        obtain ⟨v, hv, hdv⟩ := hAy.get (i := i) (d := ds[i]) (List.getElem?_eq_getElem hi)
        have e0 : (0 : Int) + (i : Int) = (i : Int) := by omega
        refine ⟨rfl, ?_⟩
        refine ⟨_, rfl, _, rfl, rix_of (sq s2 hLx) (at_of e0 hu) ?_⟩
        refine ⟨_, rfl, _, rfl, rix_of (sq s2 hLy) (at_of e0 hv) ?_⟩
        refine ⟨_, _, ds[i], rfl, hdu.same s2, hdv.same s2, hl.2 _ (List.getElem_mem hi), fun H3 s3 => ?_⟩
        refine ⟨_, s3 _ _ h2, by simp only [List.length_map, List.length_replicate]; exact Nat.lt_of_lt_of_le (Nat.lt_of_lt_of_le hi hl.1) (by decide), fun c o e => ?_, ?_⟩
        · rw [upd_ne (fun q => by rw [q, hD] at e; cases e)]
          exact s3 _ _ (s2 c o e)
        · rw [upd_same, List.replicate_succ', List.map_append]
          rfl
      · rintro H2 ⟨s2, h2⟩
        refine ⟨D, List.replicate ds.length true, rfl, SqL.of h2, ?_⟩
        have : (List.replicate ds.length true).all id = true := by simp
        rw [this]
        exact k _ s2
theorem ok__law_alike (T : Txt K mg) : ∀ n, FnOk P w K mg base CX0 n T.a__law_alike T.fd__law_alike P__law_alike (sp__law_alike T n)
  | 0 => ⟨fun _ _ _ _ h => h.elim, fun _ _ _ _ _ _ _ _ _ _ _ _ _ h => h.elim⟩
  | n + 1 => ok__law_alike_step T n (ok__law_alike T n)

end
end TL

namespace TL
open PySem PySem.Spec PyProof.Rows L2
section
variable {P : Program} {w : World} {K : PySem.W.Frag} {mg : Str → Option Value} {base : Heap}
def sp__law_is_marked (T : Txt K mg) : Sp := fun vs H Q _ => ∃ (Z : List Addr) (a : Addr) (R : Int → Option Rec) (m f : Int) (p : Bool) (n : Nat), vs = [.ref a, .int m, .bl p, .int f] ∧ RecAt Z H a R ∧ Alloc Z H ∧ a ∈ Z ∧ 1 ≤ m ∧ m ≤ 9 ∧ RecOk R n f ∧ n < 900 ∧ 0 ≤ f ∧
  ∀ H', RecAt Z H' a (recF R m p f) → Frm [a] H H' → Q (.bl (rMark R m p)) H'
theorem ok__law_is_marked (T : Txt K mg) : FnOk P w K mg base CX0 1 T.a__law_is_marked T.fd__law_is_marked P__law_is_marked (sp__law_is_marked T) := by
  skip
  refine T.F__law_is_marked.ok sc__law_is_marked (fun vs H Q E h => ?_) (fun cdv A outer s H vs Q E hr h => ?_)
  · obtain ⟨Z, a, R, m, f, p, n, rfl, _⟩ := h
    rfl
  · obtain ⟨Z, a, R, m, f, p, n, rfl, M, AZ, aZ, hm1, hm9, ok, hn, hf, k⟩ := h
    have hu := hu_of hr
    refine ⟨_, (pss_cons (ps_asg (pe_dget2 hu (pv 0) (pv 1) (pe_tup (pa_cons (pe_lst pa_nil) (pa_cons pe_int (pa_cons pe_int (pa_cons (pe_un un_neg pe_int) pa_nil))))) ⟨rfl, rfl, rfl, rfl⟩) (pg_tup rfl (pgs_cons (pg_name (i := 4) sc__law_is_marked.nd rfl (by first | exact Or.inl rfl | exact Or.inr rfl)) (pgs_cons (pg_name (i := 5) sc__law_is_marked.nd rfl (by first | exact Or.inl rfl | exact Or.inr rfl)) (pgs_cons (pg_name (i := 6) sc__law_is_marked.nd rfl (by first | exact Or.inl rfl | exact Or.inr rfl)) (pgs_cons (pg_name (i := 7) sc__law_is_marked.nd rfl (by first | exact Or.inl rfl | exact Or.inr rfl)) pgs_nil))))))
    (pss_cons (ps_set (i := 4) sc__law_is_marked.nd rfl (by first | exact Or.inl rfl | exact Or.inr rfl) (pe_op op_cat (pv 4) (pe_lst (pa_cons (pv 2) pa_nil))))
    (pss_cons (ps_set (i := 5) sc__law_is_marked.nd rfl (by first | exact Or.inl rfl | exact Or.inr rfl) (pe_cut (pe_ifExp (pt_val (pv 2)) (pe_op op_add (pv 5) pe_int) pe_int)))
    (pss_cons (ps_set (i := 6) sc__law_is_marked.nd rfl (by first | exact Or.inl rfl | exact Or.inr rfl) (pe_cut (pe_ifExp (pt_cmpR op_eq (pv 5) pe_int (nomark _)) pe_int (pv 6))))
    (pss_cons (ps_set (i := 8) sc__law_is_marked.nd rfl (by first | exact Or.inl rfl | exact Or.inr rfl) (pe_cmpR op_gt (pe_bm PySem.F.plainAttrs_list PySem.F.slot_list_count PySem.F.type_list_count mt_countF (pe_slice sl_list (pv 4) (po_some (pe_un un_neg pe_int)) po_none) (pa_cons pe_bl pa_nil)) pe_int (nomark _)))
    (pss_cons (ps_if (pt_val (pv 8))
      (pss_one (ps_dput hu (pv 0) (pv 1) (pe_tup (pa_cons (pe_lst pa_nil) (pa_cons (pv 5) (pa_cons (pe_callB (call_min2 rfl) (by rfl) T.n_min (by decide +kernel) (pa_cons pe_int (pa_cons (pe_op op_mul (pv 6) pe_int) pa_nil))) (pa_cons (pe_callB (call_max2 rfl) (by rfl) T.n_max (by decide +kernel) (pa_cons (pv 7) (pa_cons (pe_op op_add (pv 3) (pv 6)) pa_nil))) pa_nil))))) rfl))
      (pss_one (ps_dput hu (pv 0) (pv 1) (pe_tup (pa_cons (pv 4) (pa_cons (pv 5) (pa_cons (pv 6) (pa_cons (pv 7) pa_nil))))) rfl)))
    (pss_one (ps_ret (pv 8))))))))), ?_⟩
    obtain ⟨ta, hd, hls⟩ := id M.d
    refine ⟨_, rfl, a, rfl, hd.isD, _, rfl, (by show 0 ≤ sizeLine; decide), fun e he => ⟨_, rfl, (by show 4 ≤ sizeLine; decide), fun t0 ht0 => ?_⟩⟩
    have s1 : Same H (upd H e (.lst [])) := Same.upd_new he
    have s2 := s1.trans (Same.upd_new (o := .tup [.ref e, .int 0, .int 16, .int (-1)]) ht0)
    have he2 : (upd (upd H e (.lst [])) t0 (.tup [.ref e, .int 0, .int 16, .int (-1)])) e = some (.lst []) := by rw [upd_ne (ne_of_none upd_same ht0)]; exact upd_same
    have ht2 : (upd (upd H e (.lst [])) t0 (.tup [.ref e, .int 0, .int 16, .int (-1)])) t0 = some (.tup [.ref e, .int 0, .int 16, .int (-1)]) := upd_same
    have aH : ∃ o, H a = some o := let ⟨kvs, q⟩ := M.at_; ⟨_, q⟩
    have dg := (hd.frm (Frm.of_same (S := []) s2) (by simp)).get m
    refine ⟨_, dg, ?_⟩
    obtain ⟨t, l, hget, ht, hl⟩ : ∃ t l : Addr, ((ta m).map V.ref).getD (.ref t0) = .ref t ∧ (upd (upd H e (.lst [])) t0 (.tup [.ref e, .int 0, .int 16, .int (-1)])) t = some (.tup [.ref l, .int (recO R m).2.1, .int (recO R m).2.2.1, .int (recO R m).2.2.2]) ∧ (upd (upd H e (.lst [])) t0 (.tup [.ref e, .int 0, .int 16, .int (-1)])) l = some (.lst ((recO R m).1.map V.bl)) := by
      rcases hls m with ⟨q1, q2⟩ | ⟨t, l, bs, r, w, u, q1, q2, q3, q4, q5⟩
      · exact ⟨t0, e, by rw [q1]; rfl, by unfold recO; rw [q2]; exact ht2, by unfold recO; rw [q2]; exact he2⟩
      · exact ⟨t, l, by rw [q1]; rfl, by unfold recO; rw [q2]; exact s2 _ _ q3, by unfold recO; rw [q2]; exact s2 _ _ q4⟩
    generalize (upd (upd H e (.lst [])) t0 (.tup [.ref e, .int 0, .int 16, .int (-1)])) = H2 at s2 ht hl dg ⊢
    rw [hget]
    refine ⟨t, _, rfl, SqT.of ht, rfl, _, _, rfl, _, _, rfl, _, _, rfl, _, _, rfl, rfl, ?_⟩
    have bl : (recO R m).1.length ≤ n := by
      unfold recO
      cases q : R m with
      | none => exact Nat.zero_le _
      | some v => exact (ok.b m v q).1
    refine ⟨_, rfl, _, rfl, (by show 1 ≤ sizeLine; decide), fun q hq => ⟨l, q, _, _, rfl, rfl, Same.upd_new hq _ _ hl, upd_same, by rw [List.length_map]; exact Nat.le_of_lt (small1000 (by simp; omega)), fun c hc => ?_⟩⟩
    have s3 := s2.trans ((Same.upd_new (o := .lst [.bl p]) hq).trans (Same.upd_new (o := .lst ((recO R m).1.map V.bl ++ [.bl p])) hc))
    have hc3 : (upd (upd H2 q (.lst [.bl p])) c (.lst ((recO R m).1.map V.bl ++ [.bl p]))) c = some (.lst ((rNotes R m p).map V.bl)) := by
      rw [upd_same]
      unfold rNotes
      rw [List.map_append]
      rfl
    have cH : H c = none := by
      refine (Frm.of_same (S := []) (s2.trans (Same.upd_new (o := .lst [.bl p]) hq))).free hc
    generalize (upd (upd H2 q (.lst [.bl p])) c (.lst ((recO R m).1.map V.bl ++ [.bl p]))) = H3 at s3 hc3 ⊢
    refine ⟨fun v H' => v = .int (rRun R m p) ∧ H' = H3, ⟨_, rfl, p, rfl, iteB (fun z => ⟨_, rfl, _, _, rfl, rfl, by unfold rRun; rw [if_pos z], rfl⟩) (fun z => ⟨by unfold rRun; rw [if_neg (by rw [z]; simp)], rfl⟩)⟩, ?_⟩
    rintro v H' ⟨rfl, rfl⟩
    refine ⟨fun v H'' => v = .int (rWait R m p) ∧ H'' = H', ⟨_, rfl, rfl, _, rfl, iteD (fun z => ⟨by unfold rWait; rw [if_pos (vint_inj.mp z)], rfl⟩) (fun z => ⟨_, rfl, by unfold rWait; rw [if_neg (fun y => z (by rw [y]))], rfl⟩)⟩, ?_⟩
    rintro v H'' ⟨rfl, rfl⟩
    -- marked?
    refine ⟨_, rfl, _, rfl, _, rfl, c, _, rfl, SqL.of hc3, fun g hg => ?_⟩
    have e6 : cutV ((rNotes R m p).map V.bl) (some (-6)) none = (last6 (rNotes R m p)).map V.bl := by rw [← last6_map]; exact cut6 _
    have s4 := s3.trans (Same.upd_new (o := .lst (cutV ((rNotes R m p).map V.bl) (some (-6)) none)) hg)
    have hg4 : (upd H'' g (.lst (cutV ((rNotes R m p).map V.bl) (some (-6)) none))) g = some (.lst ((last6 (rNotes R m p)).map V.bl)) := by rw [upd_same, e6]
    have hc4 := Same.upd_new (o := .lst (cutV ((rNotes R m p).map V.bl) (some (-6)) none)) hg _ _ hc3
    generalize (upd H'' g (.lst (cutV ((rNotes R m p).map V.bl) (some (-6)) none))) = H4 at s4 hg4 hc4 ⊢
    refine ⟨.inl ⟨rfl, _, SqL.of hg4⟩, g, _, _, rfl, rfl, SqL.of hg4, rfl, flat_bls _, _, _, rfl, rfl, ?_⟩
    have eM : decide ((2 : Int) < (((last6 (rNotes R m p)).map V.bl).countP (fun z => eqV z (.bl false)) : Nat)) = rMark R m p := by rw [count_bl]; rfl
    have M4 := M.same s4
    cases hk : rMark R m p with
    | true =>
      refine ⟨_, rfl, true, congrArg V.bl (eM.trans hk), iteT ?_⟩
      refine ⟨(by show 0 ≤ sizeLine; decide), fun z hz => ⟨_, rfl, _, rfl, _, _, rfl, rfl, .inr ⟨by decide, by decide⟩, _, _, rfl, ?_⟩⟩
      have s5 := s4.trans (Same.upd_new (o := .lst []) hz)
      have zH : H z = none := (Frm.of_same (S := []) s4).free hz
      have emin : ∀ i j : Int, (if j < i then j else i) = min i j := fun i j => by split <;> omega
      have emax : ∀ i j : Int, (if j > i then j else i) = max i j := fun i j => by split <;> omega
      rw [emin]
      refine ⟨_, rfl, _, rfl, _, rfl, _, _, rfl, rfl, _, _, rfl, ?_⟩
      rw [emax]
      refine ⟨(by show 4 ≤ sizeLine; decide), fun t6 ht6 => ?_⟩
      have s6 := s5.trans (Same.upd_new (o := .tup [.ref z, .int (rRun R m p), .int (min 256 (rWait R m p * 2)), .int (max (recO R m).2.2.2 (f + rWait R m p))]) ht6)
      have hz6 := Same.upd_new (o := .tup [.ref z, .int (rRun R m p), .int (min 256 (rWait R m p * 2)), .int (max (recO R m).2.2.2 (f + rWait R m p))]) ht6 _ _ (upd_same (H := H4) (a := z) (o := .lst []))
      obtain ⟨H7, d7, M7, f7⟩ := (M.same s6).put (bs := []) hm1 hm9 upd_same hz6 (AZ.not zH)
      refine ⟨_, rfl, _, rfl, a, H7, rfl, d7, _, rfl, ?_⟩
      show Q (.bl (decide ((2 : Int) < (((last6 (rNotes R m p)).map V.bl).countP (fun z => eqV z (.bl false)) : Nat)))) H7
      rw [eM]
      exact k H7 (by unfold recF; rw [hk, if_pos rfl]; exact M7) ((Frm.of_same s6).trans f7)
    | false =>
      refine ⟨_, rfl, false, congrArg V.bl (eM.trans hk), iteF ?_⟩
      refine ⟨_, rfl, _, rfl, _, rfl, _, rfl, (by show 4 ≤ sizeLine; decide), fun t6 ht6 => ?_⟩
      have s6 := s4.trans (Same.upd_new (o := .tup [.ref c, .int (rRun R m p), .int (rWait R m p), .int (recO R m).2.2.2]) ht6)
      obtain ⟨H7, d7, M7, f7⟩ := (M.same s6).put (bs := rNotes R m p) hm1 hm9 upd_same (Same.upd_new (o := .tup [.ref c, .int (rRun R m p), .int (rWait R m p), .int (recO R m).2.2.2]) ht6 _ _ hc4) (AZ.not cH)
      refine ⟨_, rfl, _, rfl, a, H7, rfl, d7, _, rfl, ?_⟩
      show Q (.bl (decide ((2 : Int) < (((last6 (rNotes R m p)).map V.bl).countP (fun z => eqV z (.bl false)) : Nat)))) H7
      rw [eM]
      exact k H7 (by unfold recF; rw [hk, if_neg (by simp)]; exact M7) ((Frm.of_same s6).trans f7)

end
end TL

namespace TL
open PySem PySem.Spec PyProof.Rows L2
section
variable {P : Program} {w : World} {K : PySem.W.Frag} {mg : Str → Option Value} {base : Heap}
def sp_Marks_init (T : Txt K mg) : Sp := fun vs H Q _ => ∃ (p dx : Addr), vs = [.ref p] ∧ H p = some (.ins T.C_Marks dx []) ∧
  ∀ (ad : MAd) (H' : Hp), ad.m = p → (∀ Z, MarksAt T.C_Marks Z H' ad .new) → (∀ x ∈ ad.all, H x = none) → Frm [p] H H' → Q .non H'
theorem ok_Marks_init (T : Txt K mg) : FnOk P w K mg base CX0 1 T.a_Marks_init T.fd_Marks_init P_Marks_init (sp_Marks_init T) := by
  skip
  refine T.F_Marks_init.ok sc_Marks_init (fun vs H Q E h => ?_) (fun cdv A outer s H vs Q E hr h => ?_)
  · obtain ⟨p, dx, rfl, _⟩ := h
    rfl
  · obtain ⟨p, dx, rfl, hp, k⟩ := h
    refine ⟨_, (pss_cons (ps_fld (pv 0) pe_dnewK rfl)
    (pss_cons (ps_fld (pv 0) pe_dnewK rfl)
    (pss_cons (ps_fld (pv 0) pe_dnewK rfl)
    (pss_one (ps_fld (pv 0) pe_dnewK rfl))))), ?_⟩
    intro w hw
    have npw := ne_of_none hp hw
    have p1 : (upd H w (.dK [])) p = some (.ins T.C_Marks dx (mkN.zip [])) := by rw [upd_ne npw]; exact hp
    refine ⟨_, rfl, p, _, dx, _, rfl, p1, T.cl_Marks, T.no_Marks_waits, (by decide), ?_⟩
    rw [zip_add mkN_nd rfl]
    intro u hu
    have npu : p ≠ u := ne_of_none upd_same hu
    refine ⟨_, rfl, p, _, dx, _, rfl, (by rw [upd_ne npu]; exact upd_same), T.cl_Marks, T.no_Marks_until, zip_small (by decide), ?_⟩
    rw [zip_add mkN_nd rfl]
    intro r hr
    have npr : p ≠ r := ne_of_none upd_same hr
    refine ⟨_, rfl, p, _, dx, _, rfl, (by rw [upd_ne npr]; exact upd_same), T.cl_Marks, T.no_Marks_runs, zip_small (by decide), ?_⟩
    rw [zip_add mkN_nd rfl]
    intro t ht
    have npt : p ≠ t := ne_of_none upd_same ht
    refine ⟨_, rfl, p, _, dx, _, rfl, (by rw [upd_ne npt]; exact upd_same), T.cl_Marks, T.no_Marks_tries, zip_small (by decide), ?_⟩
    rw [zip_add mkN_nd rfl]
    -- what stands now
    have f1 : Frm [p] H (upd H w (.dK [])) := Frm.new hw
    have f2 := f1.trans (Frm.updI (o := .ins T.C_Marks dx (mkN.zip [.ref w])) p1)
    have f3 := f2.trans (Frm.new (o := .dK []) hu)
    have p3 : (upd (upd (upd H w (.dK [])) p (.ins T.C_Marks dx (mkN.zip [.ref w]))) u (.dK [])) p = some (.ins T.C_Marks dx (mkN.zip [.ref w])) := by rw [upd_ne npu]; exact upd_same
    have f4 := f3.trans (Frm.updI (o := .ins T.C_Marks dx (mkN.zip [.ref w, .ref u])) p3)
    have f5 := f4.trans (Frm.new (o := .dK []) hr)
    have p5 : (upd (upd (upd (upd (upd H w (.dK [])) p (.ins T.C_Marks dx (mkN.zip [.ref w]))) u (.dK [])) p (.ins T.C_Marks dx (mkN.zip [.ref w, .ref u]))) r (.dK [])) p = some (.ins T.C_Marks dx (mkN.zip [.ref w, .ref u])) := by rw [upd_ne npr]; exact upd_same
    have f6 := f5.trans (Frm.updI (o := .ins T.C_Marks dx (mkN.zip [.ref w, .ref u, .ref r])) p5)
    have f7 := f6.trans (Frm.new (o := .dK []) ht)
    have p7 : (upd (upd (upd (upd (upd (upd (upd H w (.dK [])) p (.ins T.C_Marks dx (mkN.zip [.ref w]))) u (.dK [])) p (.ins T.C_Marks dx (mkN.zip [.ref w, .ref u]))) r (.dK [])) p (.ins T.C_Marks dx (mkN.zip [.ref w, .ref u, .ref r]))) t (.dK [])) p = some (.ins T.C_Marks dx (mkN.zip [.ref w, .ref u, .ref r])) := by rw [upd_ne npt]; exact upd_same
    have f8 := f7.trans (Frm.updI (o := .ins T.C_Marks dx (mkN.zip [.ref w, .ref u, .ref r, .ref t])) p7)
    -- the four are different
    have huw : (upd (upd H w (.dK [])) p (.ins T.C_Marks dx (mkN.zip [.ref w]))) w = some (.dK []) := by rw [upd_ne (Ne.symm npw)]; exact upd_same
    have nwu : w ≠ u := ne_of_none huw hu
    have g3w : (upd (upd (upd (upd H w (.dK [])) p (.ins T.C_Marks dx (mkN.zip [.ref w]))) u (.dK [])) p (.ins T.C_Marks dx (mkN.zip [.ref w, .ref u]))) w = some (.dK []) := by rw [upd_ne (Ne.symm npw), upd_ne nwu]; exact huw
    have g3u : (upd (upd (upd (upd H w (.dK [])) p (.ins T.C_Marks dx (mkN.zip [.ref w]))) u (.dK [])) p (.ins T.C_Marks dx (mkN.zip [.ref w, .ref u]))) u = some (.dK []) := by rw [upd_ne (Ne.symm npu)]; exact upd_same
    have nwr : w ≠ r := ne_of_none g3w hr
    have nur : u ≠ r := ne_of_none g3u hr
    have g5w : (upd (upd (upd (upd (upd (upd H w (.dK [])) p (.ins T.C_Marks dx (mkN.zip [.ref w]))) u (.dK [])) p (.ins T.C_Marks dx (mkN.zip [.ref w, .ref u]))) r (.dK [])) p (.ins T.C_Marks dx (mkN.zip [.ref w, .ref u, .ref r]))) w = some (.dK []) := by rw [upd_ne (Ne.symm npw), upd_ne nwr]; exact g3w
    have g5u : (upd (upd (upd (upd (upd (upd H w (.dK [])) p (.ins T.C_Marks dx (mkN.zip [.ref w]))) u (.dK [])) p (.ins T.C_Marks dx (mkN.zip [.ref w, .ref u]))) r (.dK [])) p (.ins T.C_Marks dx (mkN.zip [.ref w, .ref u, .ref r]))) u = some (.dK []) := by rw [upd_ne (Ne.symm npu), upd_ne nur]; exact g3u
    have g5r : (upd (upd (upd (upd (upd (upd H w (.dK [])) p (.ins T.C_Marks dx (mkN.zip [.ref w]))) u (.dK [])) p (.ins T.C_Marks dx (mkN.zip [.ref w, .ref u]))) r (.dK [])) p (.ins T.C_Marks dx (mkN.zip [.ref w, .ref u, .ref r]))) r = some (.dK []) := by rw [upd_ne (Ne.symm npr)]; exact upd_same
    have nwt := ne_of_none g5w ht
    have nut := ne_of_none g5u ht
    have nrt := ne_of_none g5r ht
    refine k ⟨p, w, u, r, t⟩ _ rfl (fun Z => ⟨⟨dx, upd_same⟩, DictM.new ?_, DictM.new ?_, DictM.new ?_, ⟨fun _ => none, DictM.new ?_, fun _ => .inl ⟨rfl, rfl⟩⟩, nwu, nwr, nwt, nur, nut, nrt⟩) ?_ f8
    · show upd _ p _ w = _
      rw [upd_ne (Ne.symm npw), upd_ne nwt]; exact g5w
    · show upd _ p _ u = _
      rw [upd_ne (Ne.symm npu), upd_ne nut]; exact g5u
    · show upd _ p _ r = _
      rw [upd_ne (Ne.symm npr), upd_ne nrt]; exact g5r
    · show upd _ p _ t = _
      rw [upd_ne (Ne.symm npt)]; exact upd_same
    · intro x hx
      simp [MAd.all] at hx
      rcases hx with rfl | rfl | rfl | rfl
      · exact hw
      · exact f2.free hu
      · exact f4.free hr
      · exact f6.free ht

end
end TL

namespace TL
open PySem PySem.Spec PyProof.Rows L2
section
variable {P : Program} {w : World} {K : PySem.W.Frag} {mg : Str → Option Value} {base : Heap}
def sp_Marks_bad (T : Txt K mg) : Sp := fun vs H Q E => ∃ (Z : List Addr) (ad : MAd) (s : MkS) (y : V) (dy : PyData), vs = [.ref ad.m, y] ∧ MarksAt T.C_Marks Z H ad s ∧ Dp K H y dy ∧ (∀ ds, dy ≠ .list ds) ∧
  (between dy 0 1000000 = false → E (.ref T.C_BadCount) none H) ∧
  (∀ f, dy = .int f → 0 ≤ f → f ≤ 1000000 → ∀ (p : Addr) (H' : Hp), H p = none → H' p = some (.lst ((badF s f).map V.int)) → Same H H' → Q (.ref p) H')
theorem ok_Marks_bad (T : Txt K mg) : FnOk P w K mg base (L2.CX P w) 2 T.a_Marks_bad T.fd_Marks_bad P_Marks_bad (sp_Marks_bad T) := by
  have G_is_between := ok_is_between (P := P) (w := w) (base := base) T
  refine T.F_Marks_bad.okX sc_Marks_bad (fun vs H Q E h => ?_) (fun cdv A outer s H vs Q E hr h => ?_)
  · obtain ⟨Z, ad, s, y, dy, rfl, _⟩ := h
    rfl
  · obtain ⟨Z, ad, sk, y, dy, rfl, M, hy, nl, k1, k2⟩ := h
    have hu := hu_of hr
    refine ⟨_, (pss_cons (ps_if (pt_not (pt_val (pe_call G_is_between (hr.mono (by decide)) rfl T.g_is_between T.F_is_between.kp T.b_is_between .nil pass0 (pa_cons (pv 1) (pa_cons pe_int (pa_cons (pe_glob (v := .int 1000000) rfl T.v_MOST_FRAME ⟨_, rfl⟩) pa_nil))))))
      (pss_one (ps_raise rfl (takes_of rfl rfl rfl rfl) (pmk_own PySem.F.excBase_ValueError T.x_BadCount T.c_BadCount T.k_BadCount (raises_own T.s_BadCount T.t_BadCount) rfl)))
      pss_nil)
    (pss_one (ps_ret (pe_lc (own := [("manner", 2)]) (g := (gName 2)) (tt := (tTest (tOp (rI0 fun i j => .bl (decide (i ≤ j))) (tVar 1) (tDGet (tFld K (tVar 0) "until") (tVar 2))))) (te := (tVar 2)) rfl sc_Marks_bad.nd (pi_list (pe_callB (call_sortedDI rfl) (by rfl) T.n_sorted (by decide +kernel) (pa_cons (pe_fld (pv 0) rfl) pa_nil))) (blkOk_by (own := [("manner", 2)]) (N := N_Marks_bad) (sc := defScope s_Marks_bad) (by decide +kernel)) (fun _ _ _ _ _ => (pg_name (i := 2) sc_Marks_bad.nd rfl (by first | exact Or.inl rfl | exact Or.inr rfl))) (fun _ _ _ _ _ => (pts_one (pt_cmpR op_le (pv 1) (pe_dget hu (pe_fld (pv 0) rfl) (pv 2) (fun _ _ => rfl)) (nomark _)))) (fun _ _ _ _ _ => (pv 2)))))), ?_⟩
    refine ⟨_, rfl, y, dy, 0, 1000000, rfl, hy, nl, _, rfl, ?_⟩
    refine iteB (fun hb => k1 (by simpa using hb)) (fun hb => ?_)
    have hb : between dy 0 1000000 = true := by simpa using hb
    cases dy with
    | int f =>
      cases hy
      have hf : 0 ≤ f ∧ f ≤ 1000000 := by simpa [between] using hb
      obtain ⟨⟨dx, ho⟩, _⟩ := id M
      obtain ⟨kvs, ks, hd, hks, hlt, hsort⟩ := until_keys M.u
      refine ⟨_, rfl, _, T.C_Marks, _, _, _, rfl, ho, T.cl_Marks, T.no_Marks_until, zip_lookup mkN_nd (i := 1) rfl rfl, ad.u, kvs, ks, rfl, Rd.of hd, hks, hlt, fun ys q hp hs hq => ?_⟩
      have e1 := hsort ys hp hs
      have s1 : Same H (upd H q (.lst (ys.map V.int))) := Same.upd_new hq
      refine ⟨q, rfl, ⟨_, SqL.of upd_same⟩, fun D hD => ?_⟩
      have s2 := s1.trans (Same.upd_new (o := .lst []) hD)
      have hDH := s1.free hD
      have nqD : q ≠ D := fun e => by rw [← e, upd_same] at hD; cases hD
      refine lc_list (K := K) (a := q) (xs := ys.map V.int) (fun i H2 => Same H H2 ∧ H2 q = some (.lst (ys.map V.int)) ∧ H2 D = some (.lst (((ys.take i).filter fun i => match sk.untl i with | some u => decide (f ≤ u) | none => false).map V.int)))
        ⟨s2, by rw [upd_ne nqD]; exact upd_same, upd_same⟩ (fun i H2 _ ⟨_, h2, _⟩ => SqL.of h2) ?_ ?_
      · rintro i v H2 hi ⟨s3, hq2, hD2⟩
        obtain ⟨m, hm, rfl⟩ := getmap hi
        have hil : i < ys.length := (List.getElem?_eq_some_iff.mp hm).1
        have hmy : m ∈ ys := List.mem_of_getElem? hm
        rw [e1, List.mem_filter] at hmy
        obtain ⟨u, hu2⟩ := Option.isSome_iff_exists.mp hmy.2
        have M2 := M.same s3
        obtain ⟨⟨dx2, ho2⟩, _⟩ := id M2
        have hg := M2.u.get m
        rw [hu2] at hg
        have hyl : ys.length ≤ 9 := by rw [e1]; exact List.length_filter_le _ _
        refine ⟨rfl, _, rfl, _, rfl, _, T.C_Marks, _, _, _, rfl, ho2, T.cl_Marks, T.no_Marks_until, zip_lookup mkN_nd (i := 1) rfl rfl, _, rfl, ad.u, .int u, rfl, hg, _, _, rfl, rfl, _, rfl, ?_⟩
        have htk := take_more hm
        refine iteD (fun hle => ?_) (fun hle => ⟨s3, hq2, ?_⟩)
        · refine ⟨_, rfl, _, hD2, ?_, ((Frm.of_same s3).own hDH (Frm.updL hD2)).same, by rw [upd_ne nqD]; exact hq2, ?_⟩
          · rw [List.length_map]
            have := List.length_filter_le (fun i => match sk.untl i with | some u => decide (f ≤ u) | none => false) (ys.take i)
            have := List.length_take_le i ys
            exact small1000 (by omega)
          · rw [upd_same, htk, List.filter_append, List.map_append]
            simp [List.filter, hu2, hle]
        · rw [hD2, htk, List.filter_append]
          simp [List.filter, hu2, hle]
      · rintro H2 ⟨s3, hq2, hD2⟩
        rw [List.length_map, List.take_length] at hD2
        refine k2 f rfl hf.1 hf.2 D H2 hDH ?_ s3
        rw [hD2, e1]
        congr 3
        unfold badF
        rw [List.filter_filter]
        apply List.filter_congr
        intro x _
        cases sk.untl x <;> simp
    | _ => exact absurd hb (by simp [between])

end
end TL

namespace TL
open PySem PySem.Spec PyProof.Rows L2
section
variable {P : Program} {w : World} {K : PySem.W.Frag} {mg : Str → Option Value} {base : Heap}
def sp_Marks_note (T : Txt K mg) : Sp := fun vs H Q E => ∃ (Z : List Addr) (ad : MAd) (s : MkS) (x y : V) (dx dy : PyData) (b : Bool), vs = [.ref ad.m, x, .bl b, y] ∧ MarksAt T.C_Marks Z H ad s ∧ Alloc Z H ∧ (∀ z ∈ ad.all, z ∈ Z) ∧ Dp K H x dx ∧ (∀ ds, dx ≠ .list ds) ∧ Dp K H y dy ∧ (∀ ds, dy ≠ .list ds) ∧
  (between dx 1 9 = false → E (.ref T.C_BadManners) none H) ∧ (between dx 1 9 = true → between dy 0 1000000 = false → E (.ref T.C_BadCount) none H) ∧
  (∀ m f, dx = .int m → dy = .int f → 1 ≤ m → m ≤ 9 → 0 ≤ f → f ≤ 1000000 → ∀ H', MarksAt T.C_Marks Z H' ad (noteF s m b f) → Frm ad.all H H' → Q (.bl (isMarked s m b)) H')
theorem ok_Marks_note (T : Txt K mg) : FnOk P w K mg base (L2.CX P w) 3 T.a_Marks_note T.fd_Marks_note P_Marks_note (sp_Marks_note T) := by
  have G_need_manner := ok_need_manner (P := P) (w := w) (base := base) T
  have G_is_between := ok_is_between (P := P) (w := w) (base := base) T
  refine T.F_Marks_note.okX sc_Marks_note (fun vs H Q E h => ?_) (fun cdv A outer s H vs Q E hr h => ?_)
  · obtain ⟨Z, ad, s, x, y, dx, dy, b, rfl, _⟩ := h
    rfl
  · obtain ⟨Z, ad, sk, x, y, dx, dy, b, rfl, M, AZ, hsub, hx, nlx, hy, nly, k1, k2, k3⟩ := h
    have hu := hu_of hr
    refine ⟨_, (pss_cons (ps_expr (pe_call G_need_manner (hr.mono (by decide)) rfl T.g_need_manner T.F_need_manner.kp T.b_need_manner .nil (passes_call (takes_of rfl rfl rfl rfl) (fun _ _ _ _ h => h)) (pa_cons (pv 1) pa_nil)))
    (pss_cons (ps_if (pt_not (pt_val (pe_call G_is_between (hr.mono (by decide)) rfl T.g_is_between T.F_is_between.kp T.b_is_between .nil pass0 (pa_cons (pv 3) (pa_cons pe_int (pa_cons (pe_glob (v := .int 1000000) rfl T.v_MOST_FRAME ⟨_, rfl⟩) pa_nil))))))
      (pss_one (ps_raise rfl (takes_of rfl rfl rfl rfl) (pmk_own PySem.F.excBase_ValueError T.x_BadCount T.c_BadCount T.k_BadCount (raises_own T.s_BadCount T.t_BadCount) rfl)))
      pss_nil)
    (pss_cons (ps_dput hu (pe_fld (pv 0) rfl) (pv 1) (pe_slice sl_list (pe_op op_cat (pe_dget2 hu (pe_fld (pv 0) rfl) (pv 1) (pe_lst pa_nil) ⟨rfl, rfl, rfl, rfl⟩) (pe_lst (pa_cons (pv 2) pa_nil))) (po_some (pe_op op_sub pe_int (pe_glob (v := .int 6) rfl T.v_LAST ⟨_, rfl⟩))) po_none) rfl)
    (pss_cons (ps_cut (ps_dput hu (pe_fld (pv 0) rfl) (pv 1) (pe_ifExp (pt_val (pv 2)) (pe_op op_add (pe_dget2 hu (pe_fld (pv 0) rfl) (pv 1) pe_int ⟨rfl, rfl, rfl, rfl⟩) pe_int) pe_int) rfl))
    (pss_cons (ps_cut (ps_if (pt_cmpR op_eq (pe_dget hu (pe_fld (pv 0) rfl) (pv 1) (fun _ _ => rfl)) (pe_glob (v := .int 32) rfl T.v_STAYS ⟨_, rfl⟩) (nomark _))
      (pss_one (ps_dput hu (pe_fld (pv 0) rfl) (pv 1) (pe_glob (v := .int 16) rfl T.v_FIRST ⟨_, rfl⟩) rfl))
      pss_nil))
    (pss_cons (ps_if (pt_cmpR op_lt (pe_bm PySem.F.plainAttrs_list PySem.F.slot_list_count PySem.F.type_list_count mt_countF (pe_dget hu (pe_fld (pv 0) rfl) (pv 1) (fun _ _ => rfl)) (pa_cons pe_bl pa_nil)) (pe_glob (v := .int 3) rfl T.v_LOST ⟨_, rfl⟩) (nomark _))
      (pss_one (ps_ret pe_bl))
      pss_nil)
    (pss_cons (ps_set (i := 4) sc_Marks_note.nd rfl (by first | exact Or.inl rfl | exact Or.inr rfl) (pe_dget2 hu (pe_fld (pv 0) rfl) (pv 1) (pe_glob (v := .int 16) rfl T.v_FIRST ⟨_, rfl⟩) ⟨rfl, rfl, rfl, rfl⟩))
    (pss_cons (ps_dput hu (pe_fld (pv 0) rfl) (pv 1) (pe_callB (call_max2 rfl) (by rfl) T.n_max (by decide +kernel) (pa_cons (pe_dget2 hu (pe_fld (pv 0) rfl) (pv 1) pe_int ⟨rfl, rfl, rfl, rfl⟩) (pa_cons (pe_op op_add (pv 3) (pv 4)) pa_nil))) rfl)
    (pss_cons (ps_dput hu (pe_fld (pv 0) rfl) (pv 1) (pe_callB (call_min2 rfl) (by rfl) T.n_min (by decide +kernel) (pa_cons (pe_glob (v := .int 256) rfl T.v_LONGEST ⟨_, rfl⟩) (pa_cons (pe_op op_mul pe_int (pv 4)) pa_nil))) rfl)
    (pss_cons (ps_dput hu (pe_fld (pv 0) rfl) (pv 1) (pe_lst pa_nil) rfl)
    (pss_one (ps_ret pe_bl)))))))))))), ?_⟩
    refine ⟨_, rfl, x, dx, rfl, hx, nlx, fun gx => ?_, k1⟩
    refine ⟨_, rfl, y, dy, 0, 1000000, rfl, hy, nly, _, rfl, ?_⟩
    refine iteB (fun hb => k2 gx (by simpa using hb)) (fun hb => ?_)
    have gy : between dy 0 1000000 = true := by simpa using hb
    obtain ⟨m, rfl, hm1, hm9⟩ : ∃ m, dx = .int m ∧ 1 ≤ m ∧ m ≤ 9 := by
      cases dx with
      | int m => exact ⟨m, rfl, by simpa [between] using gx⟩
      | _ => exact absurd gx (by simp [between])
    obtain ⟨f, rfl, hf0, hf1⟩ : ∃ f, dy = .int f ∧ 0 ≤ f ∧ f ≤ 1000000 := by
      cases dy with
      | int f => exact ⟨f, rfl, by simpa [between] using gy⟩
      | _ => exact absurd gy (by simp [between])
    cases hx; cases hy
    have k := k3 m f rfl rfl hm1 hm9 hf0 hf1
    -- tries
    obtain ⟨⟨dm, ho⟩, _⟩ := id M
    refine ⟨_, rfl, _, T.C_Marks, _, _, _, rfl, ho, T.cl_Marks, T.no_Marks_tries, zip_lookup mkN_nd (i := 3) rfl rfl, ad.t, rfl, (by obtain ⟨ta, ht, _⟩ := M.t; exact ht.isD), _, rfl, (by show 0 ≤ sizeLine; decide), fun e he => ?_⟩
    have s1 : Same H (upd H e (.lst [])) := Same.upd_new he
    have M1 := M.same s1
    obtain ⟨ta, ht, hls⟩ := id M1.t
    refine ⟨_, ht.get m, ?_⟩
    obtain ⟨l0, hl0, hc0, hb0⟩ : ∃ l0, ((fun i => (ta i).map V.ref) m).getD (.ref e) = .ref l0 ∧ (upd H e (.lst [])) l0 = some (.lst (((sk.tries m).getD []).map V.bl)) ∧ ((sk.tries m).getD []).length ≤ 6 := by
      rcases hls m with ⟨q1, q2⟩ | ⟨l, bs, q1, q2, q3, _, q4⟩
      · refine ⟨e, by simp [q1], ?_, ?_⟩
        · rw [q2]; exact upd_same
        · rw [q2]; exact Nat.zero_le _
      · refine ⟨l, by simp [q1], ?_, ?_⟩
        · rw [q2]; exact q3
        · rw [q2]; exact q4
    rw [hl0]
    refine ⟨_, rfl, (by show 1 ≤ sizeLine; decide), fun q hq => ?_⟩
    have s2 := Same.upd_new (o := .lst [.bl b]) hq
    refine ⟨l0, q, _, _, rfl, rfl, s2 _ _ hc0, upd_same, by rw [List.length_map]; exact Nat.le_of_lt (small1000 (by simp; omega)), fun c hc => ?_⟩
    have s3 := Same.upd_new (o := .lst (((sk.tries m).getD []).map V.bl ++ [.bl b])) hc
    refine ⟨_, _, rfl, rfl, _, rfl, c, _, rfl, SqL.of upd_same, fun l hl => ?_⟩
    have s4 := Same.upd_new (o := .lst (cutV (((sk.tries m).getD []).map V.bl ++ [.bl b]) (some (0 - 6)) none)) hl
    have s14 := ((s1.trans s2).trans s3).trans s4
    have M4 := M.same s14
    have hl4 : (upd (upd (upd (upd H e (.lst [])) q (.lst [.bl b])) c (.lst (((sk.tries m).getD []).map V.bl ++ [.bl b]))) l (.lst (cutV (((sk.tries m).getD []).map V.bl ++ [.bl b]) (some (0 - 6)) none))) l = some (.lst ((triesOf sk m b).map V.bl)) := by
      rw [upd_same, cut6]
      have e1 : ((sk.tries m).getD []).map V.bl ++ [.bl b] = ((sk.tries m).getD [] ++ [b]).map V.bl := by simp
      rw [e1, last6_map]
      rfl
    have hlZ : l ∉ Z := AZ.not (((s1.trans s2).trans s3).free hl)
    obtain ⟨H5, d5, M5, f5, hl5⟩ := M4.put_t hm1 hm9 hl4 hlZ (last6_len _)
    obtain ⟨⟨dm4, ho4⟩, _⟩ := id M4
    refine ⟨_, rfl, _, T.C_Marks, _, _, _, rfl, ho4, T.cl_Marks, T.no_Marks_tries, zip_lookup mkN_nd (i := 3) rfl rfl, _, rfl, ad.t, H5, rfl, d5, ?_⟩
    have F5 : Frm ad.all H H5 := (Frm.of_same s14).trans f5
    -- runs
    obtain ⟨⟨dm5, ho5⟩, _⟩ := id M5
    obtain ⟨H6, d6, M6, f6⟩ := M5.put_r hm1 hm9 (runOf sk m b)
    refine ⟨fun σ' H' => σ' = [some (.ref ad.m), some (.int m), some (.bl b), some (.int f), none] ∧ H' = H6, ?_, ?_⟩
    · refine ⟨_, rfl, ?_⟩
      cases b with
      | false =>
        refine ⟨_, rfl, ?_⟩
        refine iteB (fun z => by cases z) fun _ => ?_
        exact ⟨_, rfl, _, T.C_Marks, _, _, _, rfl, ho5, T.cl_Marks, T.no_Marks_runs, zip_lookup mkN_nd (i := 2) rfl rfl, _, rfl, ad.r, H6, rfl, d6, rfl, rfl⟩
      | true =>
        refine ⟨_, rfl, ?_⟩
        refine iteB (fun _ => ?_) fun z => by cases z
        refine ⟨_, rfl, _, T.C_Marks, _, _, _, rfl, ho5, T.cl_Marks, T.no_Marks_runs, zip_lookup mkN_nd (i := 2) rfl rfl, ad.r, rfl, M5.r.isD, _, rfl, _, M5.r.get m, ?_⟩
        have er : ((fun i => (sk.run i).map V.int) m).getD (.int 0) = .int ((sk.run m).getD 0) := by
          show ((sk.run m).map V.int).getD (.int 0) = _
          cases sk.run m <;> rfl
        refine ⟨_, _, er, rfl, ?_⟩
        exact ⟨_, rfl, _, T.C_Marks, _, _, _, rfl, ho5, T.cl_Marks, T.no_Marks_runs, zip_lookup mkN_nd (i := 2) rfl rfl, _, rfl, ad.r, H6, rfl, d6, rfl, rfl⟩
    rintro σ' H' ⟨rfl, rfl⟩
    have F6 := F5.trans f6
    -- the wait is sixteen again
    refine ⟨fun σ' H' => σ' = [some (.ref ad.m), some (.int m), some (.bl b), some (.int f), none] ∧ MarksAt T.C_Marks Z H' ad ⟨waitsOf sk m b, sk.untl, setA sk.run m (runOf sk m b), setA sk.tries m (triesOf sk m b)⟩ ∧ Frm ad.all H H', ?_, ?_⟩
    · obtain ⟨⟨dm6, ho6⟩, _⟩ := id M6
      have hg : DGet H' ad.r (.int m) (some (.int (runOf sk m b))) := by
        have q := M6.r.get m
        simpa [setA] using q
      refine ⟨_, rfl, _, T.C_Marks, _, _, _, rfl, ho6, T.cl_Marks, T.no_Marks_runs, zip_lookup mkN_nd (i := 2) rfl rfl, _, rfl, ad.r, _, rfl, hg, rfl, _, rfl, ?_⟩
      refine iteD (fun h32 => ?_) (fun h32 => ⟨rfl, ?_, F6⟩)
      · obtain ⟨H7, d7, M7, f7⟩ := M6.put_w hm1 hm9 16
        refine ⟨_, rfl, _, T.C_Marks, _, _, _, rfl, ho6, T.cl_Marks, T.no_Marks_waits, zip_lookup mkN_nd (i := 0) rfl rfl, _, rfl, ad.w, H7, rfl, d7, rfl, ?_, F6.trans f7⟩
        have : waitsOf sk m b = setA sk.wait m 16 := by unfold waitsOf; rw [if_pos (vint_inj.mp h32)]
        rw [this]
        exact M7
      · have : waitsOf sk m b = sk.wait := by unfold waitsOf; rw [if_neg fun z => h32 (by rw [z])]
        rw [this]
        exact M6
    rintro σ' H7 ⟨rfl, M7, F7⟩
    -- marked?
    obtain ⟨⟨dm7, ho7⟩, _⟩ := id M7
    obtain ⟨ta7, ht7, hls7⟩ := id M7.t
    obtain ⟨l7, hl7a, hl7⟩ : ∃ l, ta7 m = some l ∧ H7 l = some (.lst ((triesOf sk m b).map V.bl)) := by
      rcases hls7 m with ⟨_, q⟩ | ⟨l, bs, q1, q2, q3, _⟩
      · simp [setA] at q
      · simp [setA] at q2
        subst q2
        exact ⟨l, q1, q3⟩
    have hg7 : DGet H7 ad.t (.int m) (some (.ref l7)) := by
      have q := ht7.get m
      simpa [hl7a] using q
    refine ⟨_, rfl, _, T.C_Marks, _, _, _, rfl, ho7, T.cl_Marks, T.no_Marks_tries, zip_lookup mkN_nd (i := 3) rfl rfl, _, rfl, ad.t, _, rfl, hg7, .inl ⟨rfl, _, SqL.of hl7⟩, l7, _, _, rfl, rfl, SqL.of hl7, rfl, flat_bls _, _, _, rfl, rfl, _, rfl, ?_⟩
    rw [count_bl]
    have eM : isMarked sk m b = !decide (((triesOf sk m b).count false : Int) < 3) := rfl
    refine iteD (fun hlt => ?_) (fun hge => ?_)
    · have e0 : isMarked sk m b = false := by rw [eM, decide_eq_true hlt]; rfl
      have q := k H7 (by unfold noteF; rw [e0, if_neg (by simp)]; exact M7) F7
      rw [e0] at q
      exact q
    have e1 : isMarked sk m b = true := by rw [eM, decide_eq_false hge]; rfl
    -- the mark
    have ew : ((fun i => ((waitsOf sk m b) i).map V.int) m).getD (.int 16) = .int (((waitsOf sk m b) m).getD 16) := by
      show (((waitsOf sk m b) m).map V.int).getD (.int 16) = _
      cases (waitsOf sk m b) m <;> rfl
    refine ⟨_, rfl, _, T.C_Marks, _, _, _, rfl, ho7, T.cl_Marks, T.no_Marks_waits, zip_lookup mkN_nd (i := 0) rfl rfl, ad.w, rfl, M7.w.isD, _, rfl, _, M7.w.get m, ?_⟩
    rw [ew]
    have eu : ((fun i => (sk.untl i).map V.int) m).getD (.int 0) = .int ((sk.untl m).getD 0) := by
      show ((sk.untl m).map V.int).getD (.int 0) = _
      cases sk.untl m <;> rfl
    refine ⟨_, rfl, _, T.C_Marks, _, _, _, rfl, ho7, T.cl_Marks, T.no_Marks_until, zip_lookup mkN_nd (i := 1) rfl rfl, ad.u, rfl, M7.u.isD, _, rfl, _, M7.u.get m, ?_⟩
    rw [eu]
    refine ⟨_, rfl, _, rfl, _, _, rfl, rfl, _, _, rfl, ?_⟩
    have emax : ∀ i j : Int, (if j > i then j else i) = max i j := fun i j => by split <;> omega
    rw [emax]
    obtain ⟨H8, d8, M8, f8⟩ := M7.put_u hm1 hm9 (max ((sk.untl m).getD 0) (f + ((waitsOf sk m b) m).getD 16))
    refine ⟨_, rfl, _, T.C_Marks, _, _, _, rfl, ho7, T.cl_Marks, T.no_Marks_until, zip_lookup mkN_nd (i := 1) rfl rfl, _, rfl, ad.u, H8, rfl, d8, ?_⟩
    obtain ⟨⟨dm8, ho8⟩, _⟩ := id M8
    refine ⟨_, rfl, _, _, rfl, rfl, .inl ⟨by decide, by decide⟩, _, _, rfl, ?_⟩
    have emin : ∀ i j : Int, (if j < i then j else i) = min i j := fun i j => by split <;> omega
    rw [emin]
    obtain ⟨H9, d9, M9, f9⟩ := M8.put_w hm1 hm9 (min 256 (2 * ((waitsOf sk m b) m).getD 16))
    refine ⟨_, rfl, _, T.C_Marks, _, _, _, rfl, ho8, T.cl_Marks, T.no_Marks_waits, zip_lookup mkN_nd (i := 0) rfl rfl, _, rfl, ad.w, H9, rfl, d9, ?_⟩
    obtain ⟨⟨dm9, ho9⟩, _⟩ := id M9
    have F9 := (F7.trans f8).trans f9
    refine ⟨(by show 0 ≤ sizeLine; decide), fun n hn => ?_⟩
    have M10 := M9.same (Same.upd_new (o := .lst []) hn)
    obtain ⟨H11, d11, M11, f11, _⟩ := M10.put_t (bs := []) hm1 hm9 (l := n) upd_same (AZ.not (F9.free hn)) (Nat.zero_le _)
    obtain ⟨⟨dm10, ho10⟩, _⟩ := id M10
    refine ⟨_, rfl, _, T.C_Marks, _, _, _, rfl, ho10, T.cl_Marks, T.no_Marks_tries, zip_lookup mkN_nd (i := 3) rfl rfl, _, rfl, ad.t, H11, rfl, d11, ?_⟩
    have q := k H11 (by
      unfold noteF
      rw [e1, if_pos rfl]
      have e2 : setA (setA sk.tries m (triesOf sk m b)) m [] = setA sk.tries m [] := by
        funext j
        unfold setA
        split <;> rfl
      have M12 := M11
      simp only [e2] at M12
      exact M12) ((F9.trans (Frm.new hn)).trans f11)
    rw [e1] at q
    exact q

end
end TL

namespace TL
open PySem PySem.Spec PyProof.Rows L2
section
variable {P : Program} {w : World} {K : PySem.W.Frag} {mg : Str → Option Value} {base : Heap}
def spLaw (K : PySem.W.Frag) : Sp := fun vs H Q _ => ∃ (a : Addr) (ns : List Int), vs = [.ref a] ∧ SqL K H a (ns.map V.int) ∧ ns.length ≤ 63 ∧ ∀ H', Q (.bl true) H'
abbrev sp_law (T : Txt K mg) : Sp := spLaw K
/-- marks and an own record of the same notes -/
structure Half (C : Addr) (Z : List Addr) (H : Hp) (m : MAd) (s : MkS) (r : Addr) (R : Int → Option Rec) (n : Nat) (f : Int) : Prop where
  M : MarksAt C Z H m s
  A : RecAt Z H r R
  L : Rel s R
  ok : RecOk R n f
theorem Half.same {C : Addr} {Z : List Addr} {H H' : Hp} {m : MAd} {s : MkS} {r : Addr} {R : Int → Option Rec} {n : Nat} {f : Int} (h : Half C Z H m s r R n f) (e : Same H H') : Half C Z H' m s r R n f := ⟨h.M.same e, h.A.same e, h.L, h.ok⟩
theorem Half.frm {C : Addr} {Z S : List Addr} {H H' : Hp} {m : MAd} {s : MkS} {r : Addr} {R : Int → Option Rec} {n : Nat} {f : Int} (h : Half C Z H m s r R n f) (e : Frm S H H') (hS : ∀ x ∈ S, x ∈ Z) (h1 : m.m ∉ S) (h2 : ∀ x ∈ m.all, x ∉ S) (h3 : r ∉ S) : Half C Z H' m s r R n f :=
  ⟨h.M.frm e hS h1 h2, h.A.frm e hS h3, h.L, h.ok⟩
theorem Half.mono {C : Addr} {Z : List Addr} {H : Hp} {m : MAd} {s : MkS} {r : Addr} {R : Int → Option Rec} {n n' : Nat} {f f' : Int} (h : Half C Z H m s r R n f) (hn : n ≤ n') (hf : f ≤ f') : Half C Z H m s r R n' f' := ⟨h.M, h.A, h.L, h.ok.mono hn hf⟩
/-- what always stands -/
structure Fix (Z : List Addr) (H : Hp) (d B L : Addr) (m0 m1 : MAd) (r0 r1 : Addr) : Prop where
  D : DiceAt H d
  hB : H B = some (.lst [.ref m0.m, .ref m1.m])
  hL : H L = some (.lst [.ref r0, .ref r1])
  nB : B ∉ Z
  nL : L ∉ Z
  al : Alloc Z H
theorem Fix.same {Z : List Addr} {H H' : Hp} {d B L : Addr} {m0 m1 : MAd} {r0 r1 : Addr} (h : Fix Z H d B L m0 m1 r0 r1) (e : Same H H') : Fix Z H' d B L m0 m1 r0 r1 := ⟨h.D.same e, e _ _ h.hB, e _ _ h.hL, h.nB, h.nL, h.al.frm (Frm.of_same (S := []) e)⟩
theorem Fix.frm {Z S : List Addr} {H H' : Hp} {d B L : Addr} {m0 m1 : MAd} {r0 r1 : Addr} (h : Fix Z H d B L m0 m1 r0 r1) (e : Frm S H H') (hS : ∀ x ∈ S, x ∈ Z) (D : DiceAt H' d) : Fix Z H' d B L m0 m1 r0 r1 := ⟨D, e _ _ h.hB fun z => h.nB (hS _ z), e _ _ h.hL fun z => h.nL (hS _ z), h.nB, h.nL, h.al.frm e⟩
/-- the chosen ones, the others -/
structure Sel (Z : List Addr) (d : Addr) (mk : MAd) (rk : Addr) (mo : MAd) (ro : Addr) : Prop where
  sub : ∀ z ∈ mk.all, z ∈ Z
  rZ : rk ∈ Z
  dZ : d ∈ Z
  a1 : rk ∉ mk.all
  a2 : mo.m ∉ mk.all
  a3 : ∀ x ∈ mo.all, x ∉ mk.all
  a4 : ro ∉ mk.all
  a5 : d ∉ mk.all
  b1 : mk.m ≠ rk
  b3 : mo.m ≠ rk
  b4 : rk ∉ mo.all
  b5 : ro ≠ rk
  b6 : d ≠ rk
  c1 : mk.m ≠ d
  c4 : mo.m ≠ d
  c5 : d ∉ mo.all
  c6 : ro ≠ d
  m0 : mk.m ∉ mk.all
theorem ok_law (T : Txt K mg) : FnOk P w K mg base CX0 5 T.a_law T.fd_law P_law (sp_law T) := by
  have G__law_dice := ok__law_dice (P := P) (w := w) (base := base) T
  have G_Marks_init := ok_Marks_init (P := P) (w := w) (base := base) T
  have G__law_off := ok__law_off (P := P) (w := w) (base := base) T
  have G__law_alike := ok__law_alike (P := P) (w := w) (base := base) T 4
  have G_Marks_bad := ok_Marks_bad (P := P) (w := w) (base := base) T
  have G_Marks_note := ok_Marks_note (P := P) (w := w) (base := base) T
  have G__law_is_marked := ok__law_is_marked (P := P) (w := w) (base := base) T
  refine T.F_law.ok sc_law (fun vs H Q E h => ?_) (fun cdv A outer s H vs Q E hr h => ?_)
  · obtain ⟨a, ns, rfl, _⟩ := h
    rfl
  · obtain ⟨a, ns, rfl, hS, hlen, kq⟩ := h
    have hu64 := hr.units
    have hu := hu_of hr
    refine ⟨_, (pss_cons (ps_set (i := 1) sc_law.nd rfl (by first | exact Or.inl rfl | exact Or.inr rfl) (pe_call G__law_dice (hr.mono (by decide)) rfl T.g__law_dice T.F__law_dice.kp T.b__law_dice .nil pass0 (pa_cons (pv 0) (pa_cons pe_int pa_nil))))
    (pss_cons (ps_set (i := 2) sc_law.nd rfl (by first | exact Or.inl rfl | exact Or.inr rfl) (pe_lst (pa_cons (pe_make0 T.M_Marks G_Marks_init (hr.mono (by decide)) rfl T.c_Marks T.b_Marks_init .nil pass0) (pa_cons (pe_make0 T.M_Marks G_Marks_init (hr.mono (by decide)) rfl T.c_Marks T.b_Marks_init .nil pass0) pa_nil))))
    (pss_cons (ps_set (i := 3) sc_law.nd rfl (by first | exact Or.inl rfl | exact Or.inr rfl) (pe_lst (pa_cons pe_dnewK (pa_cons pe_dnewK pa_nil))))
    (pss_cons (ps_set (i := 4) sc_law.nd rfl (by first | exact Or.inl rfl | exact Or.inr rfl) pe_int)
    (pss_cons (ps_set (i := 5) sc_law.nd rfl (by first | exact Or.inl rfl | exact Or.inr rfl) (pe_ix ix_list (pe_lst (pa_cons pe_int (pa_cons pe_int (pa_cons pe_int pa_nil)))) (pe_call G__law_off (hr.mono (by decide)) rfl T.g__law_off T.F__law_off.kp T.b__law_off .nil pass0 (pa_cons (pv 1) (pa_cons pe_int pa_nil))) (fun _ _ => rfl)))
    (pss_cons (ps_set (i := 6) sc_law.nd rfl (by first | exact Or.inl rfl | exact Or.inr rfl) (pe_ix ix_list (pe_lst (pa_cons pe_int (pa_cons pe_int (pa_cons pe_int pa_nil)))) (pe_call G__law_off (hr.mono (by decide)) rfl T.g__law_off T.F__law_off.kp T.b__law_off .nil pass0 (pa_cons (pv 1) (pa_cons pe_int pa_nil))) (fun _ _ => rfl)))
    (pss_cons (ps_set (i := 7) sc_law.nd rfl (by first | exact Or.inl rfl | exact Or.inr rfl) (pe_ix ix_list (pe_lst (pa_cons pe_int (pa_cons pe_int (pa_cons pe_int pa_nil)))) (pe_call G__law_off (hr.mono (by decide)) rfl T.g__law_off T.F__law_off.kp T.b__law_off .nil pass0 (pa_cons (pv 1) (pa_cons pe_int pa_nil))) (fun _ _ => rfl)))
    (pss_cons (ps_set (i := 8) sc_law.nd rfl (by first | exact Or.inl rfl | exact Or.inr rfl) pe_bl)
    (pss_cons (ps_for PassesOwn.never rfl (pi_range1 rfl T.n_range (pa_cons (pe_call G__law_off (hr.mono (by decide)) rfl T.g__law_off T.F__law_off.kp T.b__law_off .nil pass0 (pa_cons (pv 1) (pa_cons (pe_ix ix_list (pe_lst (pa_cons pe_int (pa_cons pe_int pa_nil))) (pe_call G__law_off (hr.mono (by decide)) rfl T.g__law_off T.F__law_off.kp T.b__law_off .nil pass0 (pa_cons (pv 1) (pa_cons pe_int pa_nil))) (fun _ _ => rfl)) pa_nil))) pa_nil)) (pg_name (i := 9) sc_law.nd rfl (by first | exact Or.inl rfl | exact Or.inr rfl))
      (pss_cons (ps_set (i := 10) sc_law.nd rfl (by first | exact Or.inl rfl | exact Or.inr rfl) (pe_cut (pe_callTy call_int1 (by rfl) T.n_int (by decide +kernel) (pa_cons (pe_cmpR op_eq (pe_call G__law_off (hr.mono (by decide)) rfl T.g__law_off T.F__law_off.kp T.b__law_off .nil pass0 (pa_cons (pv 1) (pa_cons pe_int pa_nil))) pe_int (nomark _)) pa_nil))))
      (pss_cons (ps_set (i := 11) sc_law.nd rfl (by first | exact Or.inl rfl | exact Or.inr rfl) (pe_cut (pe_op op_add pe_int (pe_op op_mod (pe_op op_mul (pe_call G__law_off (hr.mono (by decide)) rfl T.g__law_off T.F__law_off.kp T.b__law_off .nil pass0 (pa_cons (pv 1) (pa_cons (pv 5) pa_nil))) pe_int) pe_int))))
      (pss_cons (ps_set (i := 8) sc_law.nd rfl (by first | exact Or.inl rfl | exact Or.inr rfl) (pe_cut (pe_ifExp (pt_cmpR op_eq (pe_call G__law_off (hr.mono (by decide)) rfl T.g__law_off T.F__law_off.kp T.b__law_off .nil pass0 (pa_cons (pv 1) (pa_cons (pv 6) pa_nil))) pe_int (nomark _)) (pe_not (pv 8)) (pv 8))))
      (pss_cons (ps_set (i := 4) sc_law.nd rfl (by first | exact Or.inl rfl | exact Or.inr rfl) (pe_cut (pe_op op_add (pv 4) (pe_call G__law_off (hr.mono (by decide)) rfl T.g__law_off T.F__law_off.kp T.b__law_off .nil pass0 (pa_cons (pv 1) (pa_cons (pe_op op_add pe_int (pv 7)) pa_nil))))))
      (pss_cons (ps_cut (ps_if (pt_not (pt_val (pe_call G__law_alike (hr.mono (by decide)) rfl T.g__law_alike T.F__law_alike.kp T.b__law_alike .nil pass0 (pa_cons (pe_meth (pe_ix ix_list (pv 2) (pv 10) (fun _ _ => rfl)) T.cl_Marks T.m_Marks_note G_Marks_note (hr.mono (by decide)) T.b_Marks_note .nil passL (pa_cons (pv 11) (pa_cons (pv 8) (pa_cons (pv 4) pa_nil)))) (pa_cons (pe_call G__law_is_marked (hr.mono (by decide)) rfl T.g__law_is_marked T.F__law_is_marked.kp T.b__law_is_marked .nil pass0 (pa_cons (pe_ix ix_list (pv 3) (pv 10) (fun _ _ => rfl)) (pa_cons (pv 11) (pa_cons (pv 8) (pa_cons (pv 4) pa_nil))))) pa_nil)))))
        (pss_one (ps_ret pe_bl))
        pss_nil))
      (pss_cons (ps_cut (ps_lock (ps_setLc (i := 12) (own := [("_law_row", 13)]) (g := (gName 13)) (tt := tYes) (te := (tOp (rIxT K) (tVar 13) (tC (.int 3)))) rfl sc_law.nd rfl rfl (sw_true rfl rfl rfl (by decide +kernel)) (pi_values (pe_ix ix_list (pv 3) (pv 10) (fun _ _ => rfl))) (blkOk_by (own := [("_law_row", 13)]) (N := N_law) (sc := defScope s_law) (by decide +kernel)) (fun _ _ _ _ _ => (pg_name (i := 13) sc_law.nd rfl (by first | exact Or.inl rfl | exact Or.inr rfl))) (fun _ _ _ _ _ => pts_nil) (fun _ _ _ _ _ => (pe_ix ix_tup (pv 13) pe_int (fun _ _ => rfl))))))
      (pss_cons (ps_set (i := 14) sc_law.nd rfl (by first | exact Or.inl rfl | exact Or.inr rfl) (pe_cut (pe_callB (call_max2 rfl) (by rfl) T.n_max (by decide +kernel) (pa_cons (pv 4) (pa_cons (pe_ix ix_list (pe_lst (pa_cons (pv 4) (pa_cons (pe_op op_add (pv 4) (pe_call G__law_off (hr.mono (by decide)) rfl T.g__law_off T.F__law_off.kp T.b__law_off .nil pass0 (pa_cons (pv 1) (pa_cons pe_int pa_nil)))) (pa_cons (pe_callB (cr_max rfl) (by rfl) T.n_max (by decide +kernel) (pa_cons (pv 12) pa_nil)) (pa_cons (pe_op op_add (pe_callB (cr_max rfl) (by rfl) T.n_max (by decide +kernel) (pa_cons (pv 12) pa_nil)) pe_int) pa_nil))))) (pe_call G__law_off (hr.mono (by decide)) rfl T.g__law_off T.F__law_off.kp T.b__law_off .nil pass0 (pa_cons (pv 1) (pa_cons pe_int pa_nil))) (fun _ _ => rfl)) pa_nil)))))
      (pss_one (ps_for PassesOwn.never rfl (pi_list (pe_lst (pa_cons (pv 4) (pa_cons (pv 14) pa_nil)))) (pg_name (i := 15) sc_law.nd rfl (by first | exact Or.inl rfl | exact Or.inr rfl))
        (pss_cons (ps_set (i := 16) sc_law.nd rfl (by first | exact Or.inl rfl | exact Or.inr rfl) (pe_meth (pe_ix ix_list (pv 2) (pv 10) (fun _ _ => rfl)) T.cl_Marks T.m_Marks_bad G_Marks_bad (hr.mono (by decide)) T.b_Marks_bad .nil passL (pa_cons (pv 15) pa_nil)))
        (pss_cons (ps_if (pt_not (pt_val (pe_call G__law_alike (hr.mono (by decide)) rfl T.g__law_alike T.F__law_alike.kp T.b__law_alike .nil pass0 (pa_cons (pv 16) (pa_cons (pe_lc (own := [("_law_one", 17)]) (g := (gName 17)) (tt := (tTest (tOp (rI0 fun i j => .bl (decide (i ≤ j))) (tVar 15) (tOp (rIxT K) (tDGet (tOp (rIxL K) (tVar 3) (tVar 10)) (tVar 17)) (tC (.int 3)))))) (te := (tVar 17)) rfl sc_law.nd (pi_list (pe_callB (call_sortedDI rfl) (by rfl) T.n_sorted (by decide +kernel) (pa_cons (pe_ix ix_list (pv 3) (pv 10) (fun _ _ => rfl)) pa_nil))) (blkOk_by (own := [("_law_one", 17)]) (N := N_law) (sc := defScope s_law) (by decide +kernel)) (fun _ _ _ _ _ => (pg_name (i := 17) sc_law.nd rfl (by first | exact Or.inl rfl | exact Or.inr rfl))) (fun _ _ _ _ _ => (pts_one (pt_cmpR op_le (pv 15) (pe_ix ix_tup (pe_dget hu (pe_ix ix_list (pv 3) (pv 10) (fun _ _ => rfl)) (pv 17) (fun _ _ => rfl)) pe_int (fun _ _ => rfl)) (nomark _)))) (fun _ _ _ _ _ => (pv 17))) pa_nil)))))
          (pss_one (ps_ret pe_bl))
          pss_nil)
        (pss_one (ps_expr (pe_bm PySem.F.plainAttrs_list PySem.F.slot_list_append PySem.F.type_list_append mt_append (pv 16) (pa_cons pe_int pa_nil))))))))))))))))
    (pss_one (ps_ret pe_bl))))))))))), ?_⟩
    refine ⟨_, rfl, a, ns, 0, rfl, hS, hlen, fun d H0 hd D0 s0 => ?_⟩
    have dH : ∃ o, H0 d = some o := let ⟨_, e, _⟩ := D0; ⟨_, e⟩
    -- the marks
    intro p0 x0 hp0 hx0 nd0
    have sa : Same H0 (upd (upd H0 x0 (.own p0)) p0 (.ins T.C_Marks x0 [])) := (Same.upd_new hx0).trans (Same.upd_new (by rw [upd_ne (Ne.symm nd0)]; exact hp0))
    refine ⟨p0, x0, rfl, upd_same, fun m0 H1 hm0 Mm0 hfr0 f1 => ⟨rfl, ?_⟩⟩
    subst hm0
    have s1 : Same H0 H1 := ((Frm.of_same (S := []) sa).own hp0 f1).same
    have fr0 : ∀ y ∈ m0.all, H0 y = none := fun y hy => (Frm.of_same (S := []) sa).free (hfr0 y hy)
    intro p1 x1 hp1 hx1 nd1
    have sb : Same H1 (upd (upd H1 x1 (.own p1)) p1 (.ins T.C_Marks x1 [])) := (Same.upd_new hx1).trans (Same.upd_new (by rw [upd_ne (Ne.symm nd1)]; exact hp1))
    refine ⟨p1, x1, rfl, upd_same, fun m1 H2 hm1 Mm1 hfr1 f2 => ⟨rfl, ?_⟩⟩
    subst hm1
    have s2 : Same H1 H2 := ((Frm.of_same (S := []) sb).own hp1 f2).same
    have fr1 : ∀ y ∈ m1.all, H1 y = none := fun y hy => (Frm.of_same (S := []) sb).free (hfr1 y hy)
    have nall : ∀ (m : MAd) (H : Hp) (s : MkS), MarksAt T.C_Marks [] H m s → (m.m :: m.all).Nodup := fun m H s M => by
      obtain ⟨n1, n2, n3, n4, n5, n6⟩ := M.nd
      have o := fun x hx => (M.out x hx).1
      rw [List.nodup_cons]
      exact ⟨fun z => o _ z rfl, by simp [MAd.all, n1, n2, n3, n4, n5, n6]⟩
    have al0 : ∀ (m : MAd) (H : Hp) (s : MkS), MarksAt T.C_Marks [] H m s → Alloc (m.m :: m.all) H := fun m H s M z hz => by
      rcases List.mem_cons.mp hz with rfl | hz
      · obtain ⟨⟨dx, e⟩, _⟩ := M
        exact ⟨_, e⟩
      · exact (M.out z hz).2
    have N0 : ([d] ++ (m0.m :: m0.all)).Nodup := nd_snoc (by simp) (H := H0) (fun z hz => by simp at hz; rw [hz]; exact dH) (nall _ _ _ (Mm0 [])) fun y hy => by
      rcases List.mem_cons.mp hy with rfl | hy
      · exact hp0
      · exact fr0 y hy
    have A0 : Alloc ([d] ++ (m0.m :: m0.all)) H1 := Alloc.app (fun z hz => by simp at hz; rw [hz]; obtain ⟨o, e⟩ := dH; exact ⟨o, s1 _ _ e⟩) (al0 _ _ _ (Mm0 []))
    have N1 : (([d] ++ (m0.m :: m0.all)) ++ (m1.m :: m1.all)).Nodup := nd_snoc N0 A0 (nall _ _ _ (Mm1 [])) fun y hy => by
      rcases List.mem_cons.mp hy with rfl | hy
      · exact hp1
      · exact fr1 y hy
    have A1 : Alloc (([d] ++ (m0.m :: m0.all)) ++ (m1.m :: m1.all)) H2 := Alloc.app (A0.frm (Frm.of_same (S := []) s2)) (al0 _ _ _ (Mm1 []))
    refine ⟨(by show 2 ≤ sizeLine; decide), fun B hB => ?_⟩
    -- the records
    intro r0 hr0
    intro r1 hr1
    refine ⟨(by show 2 ≤ sizeLine; decide), fun L hL => ?_⟩
    have t3 := Same.upd_new (o := .lst [.ref m0.m, .ref m1.m]) hB
    have t4 := Same.upd_new (o := .dK []) hr0
    have t5 := Same.upd_new (o := .dK []) hr1
    have t6 := Same.upd_new (o := .lst [.ref r0, .ref r1]) hL
    have s26 := ((t3.trans t4).trans t5).trans t6
    have h2r0 : H2 r0 = none := (Frm.of_same (S := []) t3).free hr0
    have n01 : r0 ≠ r1 := ne_of_none upd_same hr1
    have h2r1 : H2 r1 = none := (Frm.of_same (S := []) (t3.trans t4)).free hr1
    have h2L : H2 L = none := (Frm.of_same (S := []) ((t3.trans t4).trans t5)).free hL
    have eB := t6 _ _ (t5 _ _ (t4 _ _ (upd_same (H := H2) (a := B) (o := .lst [.ref m0.m, .ref m1.m]))))
    have er0 := t6 _ _ (t5 _ _ (upd_same (H := upd H2 B (.lst [.ref m0.m, .ref m1.m])) (a := r0) (o := .dK [])))
    have er1 := t6 _ _ (upd_same (H := upd (upd H2 B (.lst [.ref m0.m, .ref m1.m])) r0 (.dK [])) (a := r1) (o := .dK []))
    have eL := upd_same (H := upd (upd (upd H2 B (.lst [.ref m0.m, .ref m1.m])) r0 (.dK [])) r1 (.dK [])) (a := L) (o := .lst [.ref r0, .ref r1])
    generalize (upd (upd (upd (upd H2 B (.lst [.ref m0.m, .ref m1.m])) r0 (.dK [])) r1 (.dK [])) L (.lst [.ref r0, .ref r1])) = H6 at s26 eB er0 er1 eL ⊢
    have N2 : ((([d] ++ (m0.m :: m0.all)) ++ (m1.m :: m1.all)) ++ [r0, r1]).Nodup := nd_snoc N1 A1 (by simp [n01]) fun y hy => by
      simp at hy
      rcases hy with rfl | rfl
      · exact h2r0
      · exact h2r1
    obtain ⟨Z, hZ⟩ : ∃ Z : List Addr, Z = d :: r0 :: r1 :: (m0.all ++ m1.all) := ⟨_, rfl⟩
    have ZH : ∀ z ∈ Z, (∃ o, H2 z = some o) ∨ z = r0 ∨ z = r1 := fun z hz => by
      rw [hZ] at hz
      simp only [List.mem_cons, List.mem_append] at hz
      rcases hz with rfl | rfl | rfl | hz | hz
      · exact .inl (A1 _ (by simp))
      · exact .inr (.inl rfl)
      · exact .inr (.inr rfl)
      · exact .inl (A1 _ (by simp [hz]))
      · exact .inl (A1 _ (by simp [hz]))
    have nBZ : B ∉ Z := fun z => by
      rcases ZH B z with ⟨o, e⟩ | e | e
      · rw [hB] at e; cases e
      · rw [e, er0] at eB; cases eB
      · rw [e, er1] at eB; cases eB
    have nLZ : L ∉ Z := fun z => by
      rcases ZH L z with ⟨o, e⟩ | e | e
      · rw [h2L] at e; cases e
      · rw [e, er0] at eL; cases eL
      · rw [e, er1] at eL; cases eL
    have alZ : Alloc Z H6 := fun z hz => by
      rcases ZH z hz with ⟨o, e⟩ | rfl | rfl
      · exact ⟨o, s26 _ _ e⟩
      · exact ⟨_, er0⟩
      · exact ⟨_, er1⟩
    have F6 : Fix Z H6 d B L m0 m1 r0 r1 := ⟨D0.same ((s1.trans s2).trans s26), eB, eL, nBZ, nLZ, alZ⟩
    have h06 : Half T.C_Marks Z H6 m0 .new r0 (fun _ => none) 0 0 := ⟨((Mm0 Z).same s2).same s26, RecAt.new er0, Rel.new, RecOk.new 0⟩
    have h16 : Half T.C_Marks Z H6 m1 .new r1 (fun _ => none) 0 0 := ⟨(Mm1 Z).same s26, RecAt.new er1, Rel.new, RecOk.new 0⟩
    have nd : (d :: r0 :: r1 :: m0.m :: m1.m :: (m0.all ++ m1.all)).Nodup := by
      refine (List.Perm.nodup_iff ?_).mp N2
      have e1 : [d] ++ (m0.m :: m0.all) ++ (m1.m :: m1.all) ++ [r0, r1] = d :: m0.m :: (m0.all ++ m1.m :: (m1.all ++ [r0, r1])) := by simp [List.append_assoc]
      rw [e1]
      refine List.Perm.cons d ?_
      have e2 : (m0.m :: (m0.all ++ m1.m :: (m1.all ++ [r0, r1]))).Perm (m0.m :: m1.m :: (m0.all ++ (m1.all ++ [r0, r1]))) := List.Perm.cons _ List.perm_middle
      refine e2.trans ?_
      have e3 : m0.m :: m1.m :: (m0.all ++ (m1.all ++ [r0, r1])) = (m0.m :: m1.m :: (m0.all ++ m1.all)) ++ [r0, r1] := by simp [List.append_assoc]
      rw [e3]
      exact List.perm_append_comm
    have sel0 : Sel Z d m0 r0 m1 r1 := by
      subst hZ
      simp only [List.nodup_cons, List.nodup_append, List.mem_cons, List.mem_append, not_or] at nd
      obtain ⟨⟨a1, a2, a3, a4, a5, a6⟩, ⟨b1, b2, b3, b4, b5⟩, ⟨c1, c2, c3, c4⟩, ⟨e1, e2, e3⟩, ⟨g1, g2⟩, i1, i2, i3⟩ := nd
      exact ⟨fun z hz => by simp [hz], by simp, by simp, b4, g1, fun x hx z => i3 x z x hx rfl, c3, a5, Ne.symm b2, Ne.symm b3, b5, Ne.symm b1, a1, Ne.symm a3, Ne.symm a4, a6, Ne.symm a2, e2⟩
    have sel1 : Sel Z d m1 r1 m0 r0 := by
      subst hZ
      simp only [List.nodup_cons, List.nodup_append, List.mem_cons, List.mem_append, not_or] at nd
      obtain ⟨⟨a1, a2, a3, a4, a5, a6⟩, ⟨b1, b2, b3, b4, b5⟩, ⟨c1, c2, c3, c4⟩, ⟨e1, e2, e3⟩, ⟨g1, g2⟩, i1, i2, i3⟩ := nd
      exact ⟨fun z hz => by simp [hz], by simp, by simp, c4, e3, fun x hx z => i3 x hx x z rfl, b5, a6, Ne.symm c2, Ne.symm c1, c3, b1, a2, Ne.symm a4, Ne.symm a3, a5, Ne.symm a1, g2⟩
    clear hZ N0 N1 N2 A0 A1 nd alZ ZH
    have frmD : ∀ {H H' : Hp} {s0 s1 : MkS} {R0 R1 : Int → Option Rec} {n : Nat} {f : Int}, Fix Z H d B L m0 m1 r0 r1 → Half T.C_Marks Z H m0 s0 r0 R0 n f → Half T.C_Marks Z H m1 s1 r1 R1 n f → DiceAt H' d → Frm [d] H H' → Fix Z H' d B L m0 m1 r0 r1 ∧ Half T.C_Marks Z H' m0 s0 r0 R0 n f ∧ Half T.C_Marks Z H' m1 s1 r1 R1 n f := fun {H H' s0 s1 R0 R1 n f} X h0 h1 D F => by
      have dz : ∀ x ∈ [d], x ∈ Z := fun x hx => by simp at hx; rw [hx]; exact sel0.dZ
      exact ⟨X.frm F dz D, h0.frm F dz (by simpa using sel0.c1) (fun x hx z => by simp at z; subst z; exact sel0.a5 hx) (by simpa using Ne.symm sel0.b6), h1.frm F dz (by simpa using sel1.c1) (fun x hx z => by simp at z; subst z; exact sel1.a5 hx) (by simpa using Ne.symm sel1.b6)⟩
    refine ⟨(by show 3 ≤ sizeLine; decide), fun q hq => ?_⟩
    have t := Same.upd_new (o := .lst [.int 1, .int 2, .int 9]) hq
    have nqd := F6.D.ne_new hq
    refine ⟨_, rfl, d, 3, rfl, (F6.same t).D, by decide, by decide, fun r H7 r00 r03 D f => ?_⟩
    have hq' : H7 q = some (.lst [.int 1, .int 2, .int 9]) := f _ _ upd_same (by simp [nqd])
    obtain ⟨F7, h07, h17⟩ := frmD (F6.same t) (h06.same t) (h16.same t) D f
    obtain ⟨few, hfew, few0, few1⟩ : ∃ m : Int, atI [V.int 1, V.int 2, V.int 9] r = some (.int m) ∧ 0 < m ∧ m ≤ 9 := by
      have : r = 0 ∨ r = 1 ∨ r = 2 := by omega
      rcases this with rfl | rfl | rfl
      · exact ⟨1, rfl, by decide, by decide⟩
      · exact ⟨2, rfl, by decide, by decide⟩
      · exact ⟨9, rfl, by decide, by decide⟩
    refine ⟨q, _, r, _, rfl, rfl, SqL.of hq', hfew, ?_⟩
    clear t nqd D f hq'
    refine ⟨(by show 3 ≤ sizeLine; decide), fun q hq => ?_⟩
    have t := Same.upd_new (o := .lst [.int 2, .int 3, .int 40]) hq
    have nqd := F7.D.ne_new hq
    refine ⟨_, rfl, d, 3, rfl, (F7.same t).D, by decide, by decide, fun r H8 r00 r03 D f => ?_⟩
    have hq' : H8 q = some (.lst [.int 2, .int 3, .int 40]) := f _ _ upd_same (by simp [nqd])
    obtain ⟨F8, h08, h18⟩ := frmD (F7.same t) (h07.same t) (h17.same t) D f
    obtain ⟨runs, hruns, runs0, runs1⟩ : ∃ m : Int, atI [V.int 2, V.int 3, V.int 40] r = some (.int m) ∧ 0 < m ∧ m ≤ 40 := by
      have : r = 0 ∨ r = 1 ∨ r = 2 := by omega
      rcases this with rfl | rfl | rfl
      · exact ⟨2, rfl, by decide, by decide⟩
      · exact ⟨3, rfl, by decide, by decide⟩
      · exact ⟨40, rfl, by decide, by decide⟩
    refine ⟨q, _, r, _, rfl, rfl, SqL.of hq', hruns, ?_⟩
    clear t nqd D f hq'
    refine ⟨(by show 3 ≤ sizeLine; decide), fun q hq => ?_⟩
    have t := Same.upd_new (o := .lst [.int 1, .int 2, .int 30]) hq
    have nqd := F8.D.ne_new hq
    refine ⟨_, rfl, d, 3, rfl, (F8.same t).D, by decide, by decide, fun r H9 r00 r03 D f => ?_⟩
    have hq' : H9 q = some (.lst [.int 1, .int 2, .int 30]) := f _ _ upd_same (by simp [nqd])
    obtain ⟨F9, h09, h19⟩ := frmD (F8.same t) (h08.same t) (h18.same t) D f
    obtain ⟨far, hfar, far0, far1⟩ : ∃ m : Int, atI [V.int 1, V.int 2, V.int 30] r = some (.int m) ∧ 0 < m ∧ m ≤ 30 := by
      have : r = 0 ∨ r = 1 ∨ r = 2 := by omega
      rcases this with rfl | rfl | rfl
      · exact ⟨1, rfl, by decide, by decide⟩
      · exact ⟨2, rfl, by decide, by decide⟩
      · exact ⟨30, rfl, by decide, by decide⟩
    refine ⟨q, _, r, _, rfl, rfl, SqL.of hq', hfar, ?_⟩
    clear t nqd D f hq'
    -- how many turns
    refine ⟨_, rfl, (by show 2 ≤ sizeLine; decide), fun q hq => ?_⟩
    have t := Same.upd_new (o := .lst [.int 60, .int 301]) hq
    have nqd := F9.D.ne_new hq
    refine ⟨_, rfl, d, 2, rfl, (F9.same t).D, by decide, by decide, fun r H10 r00 r03 D f => ?_⟩
    have hq' : H10 q = some (.lst [.int 60, .int 301]) := f _ _ upd_same (by simp [nqd])
    obtain ⟨F10, h010, h110⟩ := frmD (F9.same t) (h09.same t) (h19.same t) D f
    obtain ⟨N, hN, N0, N1⟩ : ∃ m : Int, atI [V.int 60, V.int 301] r = some (.int m) ∧ 0 < m ∧ m ≤ 301 := by
      have : r = 0 ∨ r = 1 := by omega
      rcases this with rfl | rfl
      · exact ⟨60, rfl, by decide, by decide⟩
      · exact ⟨301, rfl, by decide, by decide⟩
    refine ⟨q, _, r, _, rfl, rfl, SqL.of hq', hN, d, N, rfl, D, N0, by omega, fun n H11 n0 nN D f => ?_⟩
    obtain ⟨F11, h011, h111⟩ := frmD F10 h010 h110 D f
    refine ⟨n, rfl, by omega, by omega, for_range (lo := 0) (n := n.toNat) (fun i σ H => ∃ (f : Int) (p : Bool) (s0 s1 : MkS) (R0 R1 : Int → Option Rec) (v9 v10 v11 v12 v14 v15 v16 : Option V), σ = [some (V.ref a), some (.ref d), some (.ref B), some (.ref L), some (.int f), some (.int few), some (.int runs), some (.int far), some (.bl p), v9, v10, v11, v12, none, v14, v15, v16, none] ∧ 0 ≤ f ∧ f ≤ 30 * (i : Nat) ∧ Fix Z H d B L m0 m1 r0 r1 ∧ Half T.C_Marks Z H m0 s0 r0 R0 i f ∧ Half T.C_Marks Z H m1 s1 r1 R1 i f)
      ⟨0, true, _, _, _, _, _, _, _, _, _, _, _, rfl, by decide, by decide, F11, h011, h111⟩ ?_ (fun σ H _ => kq _)⟩
    clear t nqd D f hq'
    rintro i σ H12 hi ⟨f, p, s0, s1, R0, R1, v9, v10, v11, v12, v14, v15, v16, rfl, f0, f1, X, h0, h1⟩
    -- which one
    refine ⟨fun v H' => ∃ kk : Int, v = .int kk ∧ (kk = 0 ∨ kk = 1) ∧ Fix Z H' d B L m0 m1 r0 r1 ∧ Half T.C_Marks Z H' m0 s0 r0 R0 i f ∧ Half T.C_Marks Z H' m1 s1 r1 R1 i f, ?_, ?_⟩
    · refine ⟨_, rfl, d, 9, rfl, X.D, by decide, by decide, fun r H13 r00 r09 D F => ⟨rfl, .inr ⟨_, rfl, ?_⟩⟩⟩
      obtain ⟨X, h0, h1⟩ := frmD X h0 h1 D F
      refine ⟨_, rfl, ?_, X, h0, h1⟩
      split <;> simp
    rintro v H13 ⟨kk, rfl, hkk, X, h0, h1⟩
    -- the manner
    refine ⟨fun v H' => ∃ m : Int, v = .int m ∧ (1 ≤ m ∧ m ≤ 9) ∧ Fix Z H' d B L m0 m1 r0 r1 ∧ Half T.C_Marks Z H' m0 s0 r0 R0 i f ∧ Half T.C_Marks Z H' m1 s1 r1 R1 i f, ?_, ?_⟩
    · refine ⟨_, rfl, _, rfl, d, few, rfl, X.D, few0, by omega, fun q H14 q0 q1 D F => ⟨_, _, rfl, rfl, .inr ⟨by decide, by decide⟩, _, _, rfl, rfl, (by show (0 : Int) < 9; decide), _, _, rfl, rfl, ?_⟩⟩
      obtain ⟨X, h0, h1⟩ := frmD X h0 h1 D F
      refine ⟨1 + q * 4 % 9, rfl, ?_, X, h0, h1⟩
      omega
    rintro v H14 ⟨m, rfl, hm, X, h0, h1⟩
    -- passed
    refine ⟨fun v H' => ∃ p : Bool, v = .bl p ∧ Fix Z H' d B L m0 m1 r0 r1 ∧ Half T.C_Marks Z H' m0 s0 r0 R0 i f ∧ Half T.C_Marks Z H' m1 s1 r1 R1 i f, ?_, ?_⟩
    · refine ⟨_, rfl, _, rfl, d, runs, rfl, X.D, runs0, by omega, fun q H15 q0 q1 D F => ⟨rfl, _, rfl, ?_⟩⟩
      obtain ⟨X, h0, h1⟩ := frmD X h0 h1 D F
      exact iteD (fun _ => ⟨_, rfl, p, rfl, !p, rfl, X, h0, h1⟩) (fun _ => ⟨_, rfl, p, rfl, X, h0, h1⟩)
    rintro v H15 ⟨p, rfl, X, h0, h1⟩
    -- the frame
    refine ⟨fun v H' => ∃ f' : Int, v = .int f' ∧ 0 ≤ f' ∧ f' ≤ 30 * ((i : Nat) + 1) ∧ Fix Z H' d B L m0 m1 r0 r1 ∧ Half T.C_Marks Z H' m0 s0 r0 R0 i f' ∧ Half T.C_Marks Z H' m1 s1 r1 R1 i f', ?_, ?_⟩
    · refine ⟨_, rfl, _, rfl, _, rfl, _, _, rfl, rfl, d, 1 + far, rfl, X.D, by omega, by omega, fun q H16 q0 q1 D F => ⟨_, _, rfl, rfl, ?_⟩⟩
      obtain ⟨X, h0, h1⟩ := frmD X h0 h1 D F
      exact ⟨f + q, rfl, by omega, by omega, X, h0.mono (Nat.le_refl i) (show f ≤ f + q by omega), h1.mono (Nat.le_refl i) (show f ≤ f + q by omega)⟩
    rintro v H16 ⟨f', rfl, g0, g1, X, h0, h1⟩
    clear f1 f0
    obtain ⟨mk, sk, rk, Rk, mo, so, ro, Ro, hmk, hrk, sel, hk, ho, back⟩ : ∃ (mk : MAd) (sk : MkS) (rk : Addr) (Rk : Int → Option Rec) (mo : MAd) (so : MkS) (ro : Addr) (Ro : Int → Option Rec), atI [V.ref m0.m, V.ref m1.m] kk = some (.ref mk.m) ∧ atI [V.ref r0, V.ref r1] kk = some (.ref rk) ∧ Sel Z d mk rk mo ro ∧
        Half T.C_Marks Z H16 mk sk rk Rk i f' ∧ Half T.C_Marks Z H16 mo so ro Ro i f' ∧ ∀ (H' : Hp) (sk' : MkS) (Rk' : Int → Option Rec), Half T.C_Marks Z H' mk sk' rk Rk' (i + 1) f' → Half T.C_Marks Z H' mo so ro Ro (i + 1) f' → ∃ s0 s1 R0 R1, Half T.C_Marks Z H' m0 s0 r0 R0 (i + 1) f' ∧ Half T.C_Marks Z H' m1 s1 r1 R1 (i + 1) f' := by
      rcases hkk with rfl | rfl
      · exact ⟨m0, s0, r0, R0, m1, s1, r1, R1, rfl, rfl, sel0, h0, h1, fun H' sk' Rk' a b => ⟨_, _, _, _, a, b⟩⟩
      · exact ⟨m1, s1, r1, R1, m0, s0, r0, R0, rfl, rfl, sel1, h1, h0, fun H' sk' Rk' a b => ⟨_, _, _, _, b, a⟩⟩
    clear h0 h1 frmD
    have hw : ∀ q, Rk m = some q → 0 ≤ q.2.2.1 := fun q e => by have := (hk.ok.b m q e).2.1; omega
    obtain ⟨rel', eqm⟩ := hk.L.note m p g0 hw
    have ok' := hk.ok.note hm.1 hm.2 p g0
    -- the note
    refine ⟨fun σ' H' => σ' = [some (V.ref a), some (.ref d), some (.ref B), some (.ref L), some (.int f'), some (.int few), some (.int runs), some (.int far), some (.bl p), some (.int (0 + (i : Nat))), some (.int kk), some (.int m), v12, none, v14, v15, v16, none] ∧ Fix Z H' d B L m0 m1 r0 r1 ∧ Half T.C_Marks Z H' mk (noteF sk m p f') rk (recF Rk m p f') (i + 1) f' ∧ Half T.C_Marks Z H' mo so ro Ro (i + 1) f', ?_, ?_⟩
    · obtain ⟨⟨dx, hob⟩, _⟩ := id hk.M
      refine ⟨_, rfl, _, rfl, B, _, kk, .ref mk.m, rfl, rfl, SqL.of X.hB, hmk, mk.m, dx, _, rfl, hob, zip_no (by decide), _, rfl, _, rfl, _, rfl, Z, mk, sk, .int m, .int f', .int m, .int f', p, rfl, hk.M, X.al, sel.sub, .int m, (fun ds z => by cases z), .int f', (fun ds z => by cases z), (fun z => ?_), (fun _ z => ?_), fun m' f'' e1 e2 _ _ _ _ H17 M17 F17 => ?_⟩
      · exact absurd z (by simp [between, hm.1, hm.2])
      · exact absurd z (by simp [between, g0]; omega)
      cases e1
      cases e2
      have X17 := X.frm F17 sel.sub (X.D.frm F17 sel.a5)
      have A17 := hk.A.frm F17 sel.sub sel.a1
      have ho17 := ho.frm F17 sel.sub sel.a2 sel.a3 sel.a4
      refine ⟨_, rfl, _, rfl, L, _, kk, .ref rk, rfl, rfl, SqL.of X17.hL, hrk, _, rfl, _, rfl, _, rfl, Z, rk, Rk, m, f', p, i, rfl, A17, X17.al, sel.rZ, hm.1, hm.2, hk.ok, by omega, g0, fun H18 A18 F18 => ?_⟩
      have rz : ∀ x ∈ [rk], x ∈ Z := fun x hx => by simp at hx; rw [hx]; exact sel.rZ
      have X18 := X17.frm F18 rz (X17.D.frm F18 (by simpa using sel.b6))
      have M18 := M17.frm F18 rz (by simpa using sel.b1) (fun x hx z => by simp at z; subst z; exact sel.a1 hx)
      have ho18 := ho17.frm F18 rz (by simpa using sel.b3) (fun x hx z => by simp at z; subst z; exact sel.b4 hx) (by simpa using sel.b5)
      refine ⟨_, _, .bool (isMarked sk m p), rfl, .bl _, by rw [eqm]; exact .bl _, trivial, fun H19 s19 => ?_⟩
      exact ⟨true, rfl, iteF ⟨rfl, X18.same s19, ⟨M18.same s19, A18.same s19, rel', ok'⟩, (ho18.same s19).mono (by omega) (Int.le_refl _)⟩⟩
    rintro σ' H17 ⟨rfl, X, hk, ho⟩
    clear hw rel' eqm ok'
    generalize hRk : recF Rk m p f' = R' at hk
    have hhas : ∃ q, R' m = some q := by rw [← hRk]; exact recF_has _ _ _ _
    generalize noteF sk m p f' = s' at hk
    -- up to when
    refine ⟨fun σ' H' => ∃ (U : Addr) (us : List Int), σ' = [some (V.ref a), some (.ref d), some (.ref B), some (.ref L), some (.int f'), some (.int few), some (.int runs), some (.int far), some (.bl p), some (.int (0 + (i : Nat))), some (.int kk), some (.int m), some (.ref U), none, v14, v15, v16, none] ∧ Fix Z H' d B L m0 m1 r0 r1 ∧ Half T.C_Marks Z H' mk s' rk R' (i + 1) f' ∧ Half T.C_Marks Z H' mo so ro Ro (i + 1) f' ∧ H' U = some (.lst (us.map V.int)) ∧ U ∉ Z ∧ 0 < us.length ∧ ∀ u ∈ us, -1 ≤ u ∧ u ≤ f' + 256, ?_, ?_⟩
    · obtain ⟨ta, hd, hls⟩ := id hk.A
      obtain ⟨kvs, ks, e, eks, hks, _, hval⟩ := dict_keys hd
      have kl : kvs.length = ks.length := by simpa using congrArg List.length eks
      have kpos : 0 < kvs.length := by
        obtain ⟨kvs', e', nd', hk', hv'⟩ := hd
        rw [e] at e'
        cases e'
        obtain ⟨q, hq⟩ := hhas
        have : (ta m).isSome = true := by
          rcases hls m with ⟨_, z⟩ | ⟨t, l, bs, r, w, u, z, _⟩
          · rw [hq] at z; cases z
          · rw [z]; rfl
        have h2 := hv' m
        cases kvs with
        | nil =>
          have h3 : (none : Option V) = (ta m).map V.ref := h2
          cases h4 : ta m with
          | none => rw [h4] at this; cases this
          | some t => rw [h4] at h3; cases h3
        | cons a r => simp
      refine ⟨rk, _, e, trivial, fun od => ?_⟩
      have lk : ∀ {b : Addr} {o : HO}, b ≠ rk → H17 b = some o → (upd H17 rk (.frz od (.dK kvs))) b = some o := fun n e => by rw [upd_ne n]; exact e
      have nLr : L ≠ rk := fun z => X.nL (by rw [z]; exact sel.rZ)
      refine ⟨_, rfl, _, rfl, L, _, kk, .ref rk, rfl, rfl, SqL.of (lk nLr X.hL), hrk, rk, od, kvs, rfl, upd_same, fun D hD => ?_⟩
      have nDr : D ≠ rk := fun z => by rw [z, upd_same] at hD; cases hD
      have hD17 : H17 D = none := by rw [upd_ne nDr] at hD; exact hD
      refine ⟨fun j n H' => n = kvs.length - j ∧ j ≤ kvs.length ∧ Same (upd H17 rk (.frz od (.dK kvs))) H' ∧ ∃ us : List Int, H' D = some (.lst (us.map V.int)) ∧ us.length = j ∧ ∀ u ∈ us, -1 ≤ u ∧ u ≤ f' + 256, ⟨_, rfl, Nat.zero_le _, Same.upd_new hD, [], upd_same, rfl, by simp⟩, fun j n H' hw => ?_⟩
      obtain ⟨rfl, hj, s8, us, hus, hul, hub⟩ := hw
      have hrk' := s8 _ _ (upd_same (H := H17) (a := rk) (o := .frz od (.dK kvs)))
      rcases Nat.lt_or_ge j kvs.length with hlt | hge
      · refine .inr ⟨⟨hrk', hlt⟩, fun H' => Same (upd H17 rk (.frz od (.dK kvs))) H' ∧ ∃ us : List Int, H' D = some (.lst (us.map V.int)) ∧ us.length = j + 1 ∧ ∀ u ∈ us, -1 ≤ u ∧ u ≤ f' + 256, fun H2 h2 => ⟨_, by omega, rfl, hlt, h2⟩, fun v H2 y => ?_⟩
        obtain ⟨rfl, key, hkey⟩ := y
        obtain ⟨m', hm'⟩ := hval j key v hkey
        rcases hls m' with ⟨z, _⟩ | ⟨t, l, bs, r, w, u, z, zR, zt, zl, _⟩
        · have hm' : (ta m').map V.ref = some v := hm'
          rw [z] at hm'; cases hm'
        · have hm' : (ta m').map V.ref = some v := hm'
          rw [z] at hm'
          have ev : V.ref t = v := Option.some.inj hm'
          subst ev
          have ntr : t ≠ rk := ne_of zt e (by intro q; cases q)
          have bu := hk.ok.b m' _ zR
          refine ⟨rfl, _, rfl, t, _, 3, .int u, rfl, rfl, SqT.of (s8 _ _ (lk ntr zt)), rfl, _, hus, by rw [List.length_map]; exact small1000 (by omega), ?_⟩
          refine ⟨((Frm.of_same (S := []) s8).own hD (Frm.updL hus)).same, us ++ [u], by rw [upd_same, List.map_append]; rfl, by simp [hul], fun x hx => ?_⟩
          rcases List.mem_append.mp hx with q | q
          · exact hub x q
          · simp at q; subst q; exact bu.2.2.2
      · refine .inl ⟨⟨hrk', hge⟩, hrk', D, us, rfl, ?_⟩
        have s9 : Same H17 (upd H' rk (.dK kvs)) := fun b o q => by
          by_cases z : b = rk
          · subst z
            rw [upd_same, ← q, e]
          · rw [upd_ne z]
            exact s8 _ _ (lk z q)
        refine ⟨X.same s9, hk.same s9, ho.same s9, by rw [upd_ne nDr]; exact hus, ?_, by omega, hub⟩
        exact X.al.not hD17
    rintro σ' H18 ⟨U, us, rfl, X, hk, ho, hU, nU, upos, ub⟩
    -- a later frame
    refine ⟨fun v H' => ∃ later : Int, v = .int later ∧ 0 ≤ later ∧ later ≤ 100000 ∧ Fix Z H' d B L m0 m1 r0 r1 ∧ Half T.C_Marks Z H' mk s' rk R' (i + 1) f' ∧ Half T.C_Marks Z H' mo so ro Ro (i + 1) f', ?_, ?_⟩
    · refine ⟨_, rfl, _, rfl, _, rfl, _, rfl, d, 300, rfl, X.D, by decide, by decide, fun q H19 q0 q1 D19 F19 => ⟨_, _, rfl, rfl, ?_⟩⟩
      have dz : ∀ x ∈ [d], x ∈ Z := fun x hx => by simp at hx; rw [hx]; exact sel.dZ
      have goD : ∀ {H H' : Hp}, Fix Z H d B L m0 m1 r0 r1 → Half T.C_Marks Z H mk s' rk R' (i + 1) f' → Half T.C_Marks Z H mo so ro Ro (i + 1) f' → H U = some (.lst (us.map V.int)) → DiceAt H' d → Frm [d] H H' → Fix Z H' d B L m0 m1 r0 r1 ∧ Half T.C_Marks Z H' mk s' rk R' (i + 1) f' ∧ Half T.C_Marks Z H' mo so ro Ro (i + 1) f' ∧ H' U = some (.lst (us.map V.int)) := fun {H H'} X hk ho hU D F =>
        ⟨X.frm F dz D, hk.frm F dz (by simpa using sel.c1) (fun x hx z => by simp at z; subst z; exact sel.a5 hx) (by simpa using Ne.symm sel.b6), ho.frm F dz (by simpa using sel.c4) (fun x hx z => by simp at z; subst z; exact sel.c5 hx) (by simpa using sel.c6), F _ _ hU fun z => nU (dz _ z)⟩
      obtain ⟨X, hk, ho, hU⟩ := goD X hk ho hU D19 F19
      refine ⟨_, rfl, U, us, rfl, SqL.of hU, upos, fun mx hmx1 _ => ⟨_, rfl, U, us, rfl, SqL.of hU, upos, fun mx2 hmx2 _ => ⟨_, _, rfl, rfl, (by show 4 ≤ sizeLine; decide), fun z hz => ?_⟩⟩⟩
      have t := Same.upd_new (o := .lst [.int f', .int (f' + q), .int mx, .int (mx2 + 1)]) hz
      have nzd := X.D.ne_new hz
      refine ⟨_, rfl, d, 4, rfl, (X.same t).D, by decide, by decide, fun r H20 r00 r04 D20 F20 => ?_⟩
      have hz20 : H20 z = some (.lst [.int f', .int (f' + q), .int mx, .int (mx2 + 1)]) := F20 _ _ upd_same (by simp [nzd])
      obtain ⟨X, hk, ho, hU⟩ := goD (X.same t) (hk.same t) (ho.same t) (t _ _ hU) D20 F20
      obtain ⟨v, hv, v1⟩ : ∃ v : Int, atI [V.int f', V.int (f' + q), V.int mx, V.int (mx2 + 1)] r = some (.int v) ∧ v ≤ f' + 600 := by
        have b1 := ub mx hmx1
        have b2 := ub mx2 hmx2
        have : r = 0 ∨ r = 1 ∨ r = 2 ∨ r = 3 := by omega
        rcases this with rfl | rfl | rfl | rfl
        · exact ⟨_, rfl, by omega⟩
        · exact ⟨_, rfl, by omega⟩
        · exact ⟨_, rfl, by omega⟩
        · exact ⟨_, rfl, by omega⟩
      refine ⟨z, _, r, _, rfl, rfl, SqL.of hz20, hv, _, _, rfl, ?_⟩
      exact ⟨_, rfl, by split <;> omega, by split <;> omega, X, hk, ho⟩
    rintro v H20 ⟨later, rfl, w0, w1, X, hk, ho⟩
    -- the bad ones
    refine ⟨_, rfl, _, rfl, (by show 2 ≤ sizeLine; decide), fun w hw => ⟨w, rfl, ⟨_, SqL.of upd_same⟩, ?_⟩⟩
    have t2 := Same.upd_new (o := .lst [.int f', .int later]) hw
    refine for_list (K := K) (a := w) (xs := [f', later].map V.int) (fun j σ H => (∃ v15 v16 : Option V, σ = [some (V.ref a), some (.ref d), some (.ref B), some (.ref L), some (.int f'), some (.int few), some (.int runs), some (.int far), some (.bl p), some (.int (0 + (i : Nat))), some (.int kk), some (.int m), some (.ref U), none, some (.int later), v15, v16, none]) ∧ Same (upd H20 w (.lst [.int f', .int later])) H) ⟨⟨_, _, rfl⟩, .refl _⟩ (fun j σ H _ h => h.2.seq (SqL.of upd_same)) ?_ ?_
    · rintro j x σ H21 hj ⟨⟨v15, v16, rfl⟩, s21⟩
      obtain ⟨g, hg, rfl⟩ := getmap hj
      have hgb : 0 ≤ g ∧ g ≤ 1000000 := by
        have : g ∈ [f', later] := List.mem_of_getElem? hg
        simp at this
        rcases this with rfl | rfl <;> omega
      have s20 := t2.trans s21
      have X := X.same s20
      have hk := hk.same s20
      obtain ⟨⟨dx, hob⟩, _⟩ := id hk.M
      refine ⟨_, rfl, _, rfl, B, _, kk, .ref mk.m, rfl, rfl, SqL.of X.hB, hmk, mk.m, dx, _, rfl, hob, zip_no (by decide), _, rfl, Z, mk, s', .int g, .int g, rfl, hk.M, .int g, (fun ds z => by cases z), (fun z => ?_), fun g' e1 _ _ u H22 hu22 eu s22 => ?_⟩
      · exact absurd z (by simp [between, hgb.1, hgb.2])
      cases e1
      have X := X.same s22
      have hk := hk.same s22
      obtain ⟨ta, hd, hls⟩ := id hk.A
      obtain ⟨kvs, ks, e, eks, hks, hsort, _⟩ := dict_keys hd
      refine ⟨_, rfl, _, rfl, _, rfl, L, _, kk, .ref rk, rfl, rfl, SqL.of X.hL, hrk, rk, kvs, ks, rfl, Rd.of e, eks, hks, fun ys y hp hs hy => ⟨y, rfl, ⟨_, SqL.of upd_same⟩, fun D hD => ?_⟩⟩
      have e1 := hsort ys hp hs
      have s23 : Same H22 (upd H22 y (.lst (ys.map V.int))) := Same.upd_new hy
      have s24 := s23.trans (Same.upd_new (o := .lst []) hD)
      have hDH := s23.free hD
      have nyD : y ≠ D := fun e => by rw [← e, upd_same] at hD; cases hD
      refine lc_list (K := K) (a := y) (xs := ys.map V.int) (fun i H2 => Same H22 H2 ∧ H2 y = some (.lst (ys.map V.int)) ∧ H2 D = some (.lst (((ys.take i).filter fun i => match R' i with | some q => decide (g ≤ q.2.2.2) | none => false).map V.int)))
        ⟨s24, by rw [upd_ne nyD]; exact upd_same, upd_same⟩ (fun i H2 _ ⟨_, h2, _⟩ => SqL.of h2) ?_ ?_
      · rintro c v H2 hc ⟨s3, hy2, hD2⟩
        obtain ⟨o, ho', rfl⟩ := getmap hc
        have hil : c < ys.length := (List.getElem?_eq_some_iff.mp ho').1
        have hmy : o ∈ ys := List.mem_of_getElem? ho'
        rw [e1, List.mem_filter] at hmy
        have X2 := X.same s3
        have A2 := hk.A.same s3
        obtain ⟨ta2, hd2, hls2⟩ := id A2
        obtain ⟨t, l, bs, rr, ww, uu, z1, zR, zt⟩ : ∃ t l bs r w u, ta2 o = some t ∧ R' o = some (bs, r, w, u) ∧ H2 t = some (.tup [.ref l, .int r, .int w, .int u]) := by
          rcases hls o with ⟨z, _⟩ | ⟨t, l, bs, r, w, u, z, zR, _⟩
          · rw [z] at hmy; exact absurd hmy.2 (by simp)
          · rcases hls2 o with ⟨_, z2⟩ | ⟨t2, l2, bs2, r2, w2, u2, y1, y2, y3, _⟩
            · rw [zR] at z2; cases z2
            · exact ⟨t2, l2, bs2, r2, w2, u2, y1, y2, y3⟩
        have hgo := hd2.get o
        rw [z1] at hgo
        have hyl : ys.length ≤ 9 := by rw [e1]; exact List.length_filter_le _ _
        refine ⟨rfl, _, rfl, _, rfl, _, rfl, L, _, kk, .ref rk, rfl, rfl, SqL.of X2.hL, hrk, _, rfl, rk, .ref t, rfl, hgo, t, _, 3, .int uu, rfl, rfl, SqT.of zt, rfl, _, _, rfl, rfl, _, rfl, ?_⟩
        have htk := take_more ho'
        refine iteD (fun hle => ?_) (fun hle => ⟨s3, hy2, ?_⟩)
        · refine ⟨_, rfl, _, hD2, ?_, ((Frm.of_same s3).own hDH (Frm.updL hD2)).same, by rw [upd_ne nyD]; exact hy2, ?_⟩
          · rw [List.length_map]
            have := List.length_filter_le (fun i => match R' i with | some q => decide (g ≤ q.2.2.2) | none => false) (ys.take c)
            have := List.length_take_le c ys
            exact small1000 (by omega)
          · rw [upd_same, htk, List.filter_append, List.map_append]
            simp [List.filter, zR, hle]
        · rw [hD2, htk, List.filter_append]
          simp [List.filter, zR, hle]
      · rintro H23 ⟨s3, hy3, hD3⟩
        rw [List.length_map, List.take_length] at hD3
        have eD : (ys.filter fun i => match R' i with | some q => decide (g ≤ q.2.2.2) | none => false) = badF s' g := by
          rw [hk.L.bad hgb.1, e1, List.filter_filter]
          apply List.filter_congr
          intro o _
          rcases hls o with ⟨z1, z2⟩ | ⟨t, l, bs, r, w, u, z1, z2, _⟩
          · rw [z2]; rfl
          · rw [z2, z1]; simp
        rw [eD] at hD3
        have eu3 := s3 _ _ eu
        refine ⟨_, _, .list ((badF s' g).map .int), rfl, .lst (SqL.of eu3) (dp_ints _), .lst (SqL.of hD3) (dp_ints _), lv_mono (lv_mono (lv_ints (Nat.le_trans (bad_le s' g) (by decide)))), fun H24 s4 => ?_⟩
        have eu4 := s4 _ _ eu3
        refine ⟨true, rfl, iteF ?_⟩
        refine ⟨_, rfl, .inl ⟨rfl, _, SqL.of eu4⟩, u, _, _, rfl, rfl, eu4, (by rw [List.length_map]; exact small1000 (Nat.le_trans (bad_le s' g) (by decide))), ⟨_, _, rfl⟩, ?_⟩
        exact s21.trans ((Frm.of_same (S := []) ((s22.trans s3).trans s4)).own hu22 (Frm.updL eu4)).same
    · rintro σ H21 ⟨⟨v15, v16, rfl⟩, s21⟩
      obtain ⟨s0, s1, R0, R1, q0, q1⟩ := back _ _ _ (hk.same (t2.trans s21)) (ho.same (t2.trans s21))
      exact ⟨f', p, s0, s1, R0, R1, _, _, _, _, _, _, _, rfl, g0, by omega, X.same (t2.trans s21), q0, q1⟩

end
end TL

namespace TL
open PySem L2
/-! ### what the top has written; the last theorem -/
theorem all_mk {l : PySem.W.OpenLaw} {w : World} {K : PySem.W.Frag} {h : Heap} {mg : Str → Option Value} {fa : Addr} (X : K.In h) (G : h.Ns mainGlobals mg) (hfa : mg "law" = some (.ref fa)) {C_LineError C_BadManners C_BadCount C_Marks a_is_between a_need_manner a__law_dice a__law_off a__law_alike a__law_is_marked a_law a_Marks_init a_Marks_note a_Marks_bad : Addr}
    {od_is_between an_is_between od_need_manner an_need_manner od__law_dice an__law_dice od__law_off an__law_off od__law_alike an__law_alike od__law_is_marked an__law_is_marked od_law an_law od_Marks_init an_Marks_init od_Marks_note an_Marks_note od_Marks_bad an_Marks_bad : Option Addr} {sl_is_between sl_need_manner sl__law_dice sl__law_off sl__law_alike sl__law_is_marked sl_law sl_Marks_init sl_Marks_note sl_Marks_bad : Array (Option Value)} {oc_is_between kV_is_between dc_is_between pm_is_between cd_is_between ct_is_between oc_need_manner kV_need_manner dc_need_manner pm_need_manner cd_need_manner ct_need_manner oc__law_dice kV__law_dice dc__law_dice pm__law_dice cd__law_dice ct__law_dice oc__law_off kV__law_off dc__law_off pm__law_off cd__law_off ct__law_off oc__law_alike kV__law_alike dc__law_alike pm__law_alike cd__law_alike ct__law_alike oc__law_is_marked kV__law_is_marked dc__law_is_marked pm__law_is_marked cd__law_is_marked ct__law_is_marked oc_law kV_law dc_law pm_law cd_law ct_law oc_Marks_init kV_Marks_init dc_Marks_init pm_Marks_init cd_Marks_init ct_Marks_init oc_Marks_note kV_Marks_note dc_Marks_note pm_Marks_note cd_Marks_note ct_Marks_note oc_Marks_bad kV_Marks_bad dc_Marks_bad pm_Marks_bad cd_Marks_bad ct_Marks_bad : Value} {tk_MOST tk_FIRST tk_LONGEST tk_STAYS tk_LOST tk_LAST tk_MOST_FRAME : Tok}
    (hC_LineError : PySem.W.nsIn K mainGlobals "LineError" = some (some (.ref C_LineError)))
    (hC_BadManners : PySem.W.nsIn K mainGlobals "BadManners" = some (some (.ref C_BadManners)))
    (hC_BadCount : PySem.W.nsIn K mainGlobals "BadCount" = some (some (.ref C_BadCount)))
    (hC_Marks : PySem.W.nsIn K mainGlobals "Marks" = some (some (.ref C_Marks)))
    (hg_is_between : PySem.W.nsIn K mainGlobals "is_between" = some (some (.ref a_is_between)))
    (hl_is_between : K.lookup a_is_between = some ⟨oc_is_between, od_is_between, .func (PySem.W.fnOf "is_between" "is_between" (defArgs s_is_between) (defBody s_is_between) (defScope s_is_between) .none kV_is_between dc_is_between pm_is_between an_is_between cd_is_between ct_is_between), sl_is_between⟩)
    (hc_is_between : PySem.W.codeIn K cd_is_between "is_between" = true)
    (hk_is_between : PySem.W.keepIn K (.ref a_is_between) = true)
    (hg_need_manner : PySem.W.nsIn K mainGlobals "need_manner" = some (some (.ref a_need_manner)))
    (hl_need_manner : K.lookup a_need_manner = some ⟨oc_need_manner, od_need_manner, .func (PySem.W.fnOf "need_manner" "need_manner" (defArgs s_need_manner) (defBody s_need_manner) (defScope s_need_manner) .none kV_need_manner dc_need_manner pm_need_manner an_need_manner cd_need_manner ct_need_manner), sl_need_manner⟩)
    (hc_need_manner : PySem.W.codeIn K cd_need_manner "need_manner" = true)
    (hk_need_manner : PySem.W.keepIn K (.ref a_need_manner) = true)
    (hg__law_dice : PySem.W.nsIn K mainGlobals "_law_dice" = some (some (.ref a__law_dice)))
    (hl__law_dice : K.lookup a__law_dice = some ⟨oc__law_dice, od__law_dice, .func (PySem.W.fnOf "_law_dice" "_law_dice" (defArgs s__law_dice) (defBody s__law_dice) (defScope s__law_dice) .none kV__law_dice dc__law_dice pm__law_dice an__law_dice cd__law_dice ct__law_dice), sl__law_dice⟩)
    (hc__law_dice : PySem.W.codeIn K cd__law_dice "_law_dice" = true)
    (hk__law_dice : PySem.W.keepIn K (.ref a__law_dice) = true)
    (hg__law_off : PySem.W.nsIn K mainGlobals "_law_off" = some (some (.ref a__law_off)))
    (hl__law_off : K.lookup a__law_off = some ⟨oc__law_off, od__law_off, .func (PySem.W.fnOf "_law_off" "_law_off" (defArgs s__law_off) (defBody s__law_off) (defScope s__law_off) .none kV__law_off dc__law_off pm__law_off an__law_off cd__law_off ct__law_off), sl__law_off⟩)
    (hc__law_off : PySem.W.codeIn K cd__law_off "_law_off" = true)
    (hk__law_off : PySem.W.keepIn K (.ref a__law_off) = true)
    (hg__law_alike : PySem.W.nsIn K mainGlobals "_law_alike" = some (some (.ref a__law_alike)))
    (hl__law_alike : K.lookup a__law_alike = some ⟨oc__law_alike, od__law_alike, .func (PySem.W.fnOf "_law_alike" "_law_alike" (defArgs s__law_alike) (defBody s__law_alike) (defScope s__law_alike) .none kV__law_alike dc__law_alike pm__law_alike an__law_alike cd__law_alike ct__law_alike), sl__law_alike⟩)
    (hc__law_alike : PySem.W.codeIn K cd__law_alike "_law_alike" = true)
    (hk__law_alike : PySem.W.keepIn K (.ref a__law_alike) = true)
    (hg__law_is_marked : PySem.W.nsIn K mainGlobals "_law_is_marked" = some (some (.ref a__law_is_marked)))
    (hl__law_is_marked : K.lookup a__law_is_marked = some ⟨oc__law_is_marked, od__law_is_marked, .func (PySem.W.fnOf "_law_is_marked" "_law_is_marked" (defArgs s__law_is_marked) (defBody s__law_is_marked) (defScope s__law_is_marked) .none kV__law_is_marked dc__law_is_marked pm__law_is_marked an__law_is_marked cd__law_is_marked ct__law_is_marked), sl__law_is_marked⟩)
    (hc__law_is_marked : PySem.W.codeIn K cd__law_is_marked "_law_is_marked" = true)
    (hk__law_is_marked : PySem.W.keepIn K (.ref a__law_is_marked) = true)
    (hg_law : PySem.W.nsIn K mainGlobals "law" = some (some (.ref a_law)))
    (hl_law : K.lookup a_law = some ⟨oc_law, od_law, .func (PySem.W.fnOf "law" "law" (defArgs s_law) (defBody s_law) (defScope s_law) .none kV_law dc_law pm_law an_law cd_law ct_law), sl_law⟩)
    (hc_law : PySem.W.codeIn K cd_law "law" = true)
    (hk_law : PySem.W.keepIn K (.ref a_law) = true)
    (hg_Marks_init : PySem.W.findIn K (.ref C_Marks) "__init__" = some (some (.ref a_Marks_init)))
    (hi_Marks_init : PySem.W.isFn K (.ref a_Marks_init) = true)
    (hl_Marks_init : K.lookup a_Marks_init = some ⟨oc_Marks_init, od_Marks_init, .func (PySem.W.fnOf "__init__" "Marks.__init__" (defArgs s_Marks_init) (defBody s_Marks_init) (defScope s_Marks_init) .none kV_Marks_init dc_Marks_init pm_Marks_init an_Marks_init cd_Marks_init ct_Marks_init), sl_Marks_init⟩)
    (hc_Marks_init : PySem.W.codeIn K cd_Marks_init "Marks.__init__" = true)
    (hk_Marks_init : PySem.W.keepIn K (.ref a_Marks_init) = true)
    (hg_Marks_note : PySem.W.findIn K (.ref C_Marks) "note" = some (some (.ref a_Marks_note)))
    (hi_Marks_note : PySem.W.isFn K (.ref a_Marks_note) = true)
    (hl_Marks_note : K.lookup a_Marks_note = some ⟨oc_Marks_note, od_Marks_note, .func (PySem.W.fnOf "note" "Marks.note" (defArgs s_Marks_note) (defBody s_Marks_note) (defScope s_Marks_note) .none kV_Marks_note dc_Marks_note pm_Marks_note an_Marks_note cd_Marks_note ct_Marks_note), sl_Marks_note⟩)
    (hc_Marks_note : PySem.W.codeIn K cd_Marks_note "Marks.note" = true)
    (hk_Marks_note : PySem.W.keepIn K (.ref a_Marks_note) = true)
    (hg_Marks_bad : PySem.W.findIn K (.ref C_Marks) "bad" = some (some (.ref a_Marks_bad)))
    (hi_Marks_bad : PySem.W.isFn K (.ref a_Marks_bad) = true)
    (hl_Marks_bad : K.lookup a_Marks_bad = some ⟨oc_Marks_bad, od_Marks_bad, .func (PySem.W.fnOf "bad" "Marks.bad" (defArgs s_Marks_bad) (defBody s_Marks_bad) (defScope s_Marks_bad) .none kV_Marks_bad dc_Marks_bad pm_Marks_bad an_Marks_bad cd_Marks_bad ct_Marks_bad), sl_Marks_bad⟩)
    (hc_Marks_bad : PySem.W.codeIn K cd_Marks_bad "Marks.bad" = true)
    (hk_Marks_bad : PySem.W.keepIn K (.ref a_Marks_bad) = true)
    (pg_Marks : PySem.W.plainGet K C_Marks Str.empty = true)
    (hd_Marks : PySem.W.hasDictIn K C_Marks = true)
    (po_Marks : PySem.W.plainOver K C_Marks = true)
    (mk_Marks : PySem.W.makesIn K C_Marks = true)
    (kc_Marks : PySem.W.keepIn K (.ref C_Marks) = true)
    (sa_Marks : PySem.W.findIn K (.ref C_Marks) "__setattr__" = some (some (.builtin "object.__setattr__")))
    (no_Marks_waits : PySem.W.findIn K (.ref C_Marks) "waits" = some none)
    (no_Marks_until : PySem.W.findIn K (.ref C_Marks) "until" = some none)
    (no_Marks_runs : PySem.W.findIn K (.ref C_Marks) "runs" = some none)
    (no_Marks_tries : PySem.W.findIn K (.ref C_Marks) "tries" = some none)
    (x_LineError : PySem.W.excIn K C_LineError [.type "ValueError", .type "Exception", .type "BaseException", .type "object"] "ValueError.__new__" = true)
    (k_LineError : PySem.W.keepIn K (.ref C_LineError) = true)
    (s_LineError : PySem.W.subIn K (.ref C_LineError) (.type "BaseException") = some true)
    (t_LineError : PySem.W.typeIn K (.ref C_LineError) = some (.type "type"))
    (x_BadManners : PySem.W.excIn K C_BadManners [.type "ValueError", .type "Exception", .type "BaseException", .type "object"] "ValueError.__new__" = true)
    (k_BadManners : PySem.W.keepIn K (.ref C_BadManners) = true)
    (s_BadManners : PySem.W.subIn K (.ref C_BadManners) (.type "BaseException") = some true)
    (t_BadManners : PySem.W.typeIn K (.ref C_BadManners) = some (.type "type"))
    (x_BadCount : PySem.W.excIn K C_BadCount [.type "ValueError", .type "Exception", .type "BaseException", .type "object"] "ValueError.__new__" = true)
    (k_BadCount : PySem.W.keepIn K (.ref C_BadCount) = true)
    (s_BadCount : PySem.W.subIn K (.ref C_BadCount) (.type "BaseException") = some true)
    (t_BadCount : PySem.W.typeIn K (.ref C_BadCount) = some (.type "type"))
    (hv_MOST : PySem.W.nsIn K mainGlobals "MOST" = some (some (.int 9 tk_MOST)))
    (hv_FIRST : PySem.W.nsIn K mainGlobals "FIRST" = some (some (.int 16 tk_FIRST)))
    (hv_LONGEST : PySem.W.nsIn K mainGlobals "LONGEST" = some (some (.int 256 tk_LONGEST)))
    (hv_STAYS : PySem.W.nsIn K mainGlobals "STAYS" = some (some (.int 32 tk_STAYS)))
    (hv_LOST : PySem.W.nsIn K mainGlobals "LOST" = some (some (.int 3 tk_LOST)))
    (hv_LAST : PySem.W.nsIn K mainGlobals "LAST" = some (some (.int 6 tk_LAST)))
    (hv_MOST_FRAME : PySem.W.nsIn K mainGlobals "MOST_FRAME" = some (some (.int 1000000 tk_MOST_FRAME)))
    (z_abs : PySem.W.nsIn K mainGlobals "abs" = some none)
    (z_all : PySem.W.nsIn K mainGlobals "all" = some none)
    (z_bool : PySem.W.nsIn K mainGlobals "bool" = some none)
    (z_int : PySem.W.nsIn K mainGlobals "int" = some none)
    (z_isinstance : PySem.W.nsIn K mainGlobals "isinstance" = some none)
    (z_len : PySem.W.nsIn K mainGlobals "len" = some none)
    (z_list : PySem.W.nsIn K mainGlobals "list" = some none)
    (z_max : PySem.W.nsIn K mainGlobals "max" = some none)
    (z_min : PySem.W.nsIn K mainGlobals "min" = some none)
    (z_range : PySem.W.nsIn K mainGlobals "range" = some none)
    (z_sorted : PySem.W.nsIn K mainGlobals "sorted" = some none)
    (z_str : PySem.W.nsIn K mainGlobals "str" = some none)
    (z_tuple : PySem.W.nsIn K mainGlobals "tuple" = some none) :
    ∃ fd : FuncData, (∀ (s : Shared) (v : Value), BindsTo s fd ⟨[v], []⟩ [("_law_script", v)]) ∧ ∀ base : Heap, K.In base → base.Ns mainGlobals mg → FnOk l.prog w K mg base CX0 5 fa fd ["_law_script"] (spLaw K) := by
  have e := hfa.symm.trans (PySem.W.mg_of X G hg_law)
  cases e
  let T : Txt K mg := {
    a_is_between := a_is_between
    fd_is_between := _
    F_is_between := fun_mk (st := s_is_between) hl_is_between hc_is_between hk_is_between
    g_is_between := PySem.W.mg_of X G hg_is_between
    b_is_between := (fun_mk (st := s_is_between) hl_is_between hc_is_between hk_is_between).binds (ps := P_is_between) (fun _ _ _ _ _ _ us hl => match us, hl with | [_, _, _], _ => rfl)
    a_need_manner := a_need_manner
    fd_need_manner := _
    F_need_manner := fun_mk (st := s_need_manner) hl_need_manner hc_need_manner hk_need_manner
    g_need_manner := PySem.W.mg_of X G hg_need_manner
    b_need_manner := (fun_mk (st := s_need_manner) hl_need_manner hc_need_manner hk_need_manner).binds (ps := P_need_manner) (fun _ _ _ _ _ _ us hl => match us, hl with | [_], _ => rfl)
    a__law_dice := a__law_dice
    fd__law_dice := _
    F__law_dice := fun_mk (st := s__law_dice) hl__law_dice hc__law_dice hk__law_dice
    g__law_dice := PySem.W.mg_of X G hg__law_dice
    b__law_dice := (fun_mk (st := s__law_dice) hl__law_dice hc__law_dice hk__law_dice).binds (ps := P__law_dice) (fun _ _ _ _ _ _ us hl => match us, hl with | [_, _], _ => rfl)
    a__law_off := a__law_off
    fd__law_off := _
    F__law_off := fun_mk (st := s__law_off) hl__law_off hc__law_off hk__law_off
    g__law_off := PySem.W.mg_of X G hg__law_off
    b__law_off := (fun_mk (st := s__law_off) hl__law_off hc__law_off hk__law_off).binds (ps := P__law_off) (fun _ _ _ _ _ _ us hl => match us, hl with | [_, _], _ => rfl)
    a__law_alike := a__law_alike
    fd__law_alike := _
    F__law_alike := fun_mk (st := s__law_alike) hl__law_alike hc__law_alike hk__law_alike
    g__law_alike := PySem.W.mg_of X G hg__law_alike
    b__law_alike := (fun_mk (st := s__law_alike) hl__law_alike hc__law_alike hk__law_alike).binds (ps := P__law_alike) (fun _ _ _ _ _ _ us hl => match us, hl with | [_, _], _ => rfl)
    a__law_is_marked := a__law_is_marked
    fd__law_is_marked := _
    F__law_is_marked := fun_mk (st := s__law_is_marked) hl__law_is_marked hc__law_is_marked hk__law_is_marked
    g__law_is_marked := PySem.W.mg_of X G hg__law_is_marked
    b__law_is_marked := (fun_mk (st := s__law_is_marked) hl__law_is_marked hc__law_is_marked hk__law_is_marked).binds (ps := P__law_is_marked) (fun _ _ _ _ _ _ us hl => match us, hl with | [_, _, _, _], _ => rfl)
    a_law := fa
    fd_law := _
    F_law := fun_mk (st := s_law) hl_law hc_law hk_law
    g_law := PySem.W.mg_of X G hg_law
    b_law := (fun_mk (st := s_law) hl_law hc_law hk_law).binds (ps := P_law) (fun _ _ _ _ _ _ us hl => match us, hl with | [_], _ => rfl)
    a_Marks_init := a_Marks_init
    fd_Marks_init := _
    F_Marks_init := fun_mk (st := s_Marks_init) hl_Marks_init hc_Marks_init hk_Marks_init
    b_Marks_init := (fun_mk (st := s_Marks_init) hl_Marks_init hc_Marks_init hk_Marks_init).binds (ps := P_Marks_init) (fun _ _ _ _ _ _ us hl => match us, hl with | [_], _ => rfl)
    a_Marks_note := a_Marks_note
    fd_Marks_note := _
    F_Marks_note := fun_mk (st := s_Marks_note) hl_Marks_note hc_Marks_note hk_Marks_note
    b_Marks_note := (fun_mk (st := s_Marks_note) hl_Marks_note hc_Marks_note hk_Marks_note).binds (ps := P_Marks_note) (fun _ _ _ _ _ _ us hl => match us, hl with | [_, _, _, _], _ => rfl)
    a_Marks_bad := a_Marks_bad
    fd_Marks_bad := _
    F_Marks_bad := fun_mk (st := s_Marks_bad) hl_Marks_bad hc_Marks_bad hk_Marks_bad
    b_Marks_bad := (fun_mk (st := s_Marks_bad) hl_Marks_bad hc_Marks_bad hk_Marks_bad).binds (ps := P_Marks_bad) (fun _ _ _ _ _ _ us hl => match us, hl with | [_, _], _ => rfl)
    C_Marks := C_Marks
    c_Marks := PySem.W.mg_of X G hC_Marks
    cl_Marks := ⟨pg_Marks, hd_Marks, po_Marks, sa_Marks⟩
    no_Marks_waits := no_Marks_waits
    no_Marks_until := no_Marks_until
    no_Marks_runs := no_Marks_runs
    no_Marks_tries := no_Marks_tries
    M_Marks := ⟨mk_Marks, hg_Marks_init, hi_Marks_init, kc_Marks⟩
    m_Marks_note := ⟨hg_Marks_note, hi_Marks_note, hk_Marks_note⟩
    m_Marks_bad := ⟨hg_Marks_bad, hi_Marks_bad, hk_Marks_bad⟩
    C_LineError := C_LineError
    c_LineError := PySem.W.mg_of X G hC_LineError
    k_LineError := k_LineError
    s_LineError := s_LineError
    t_LineError := t_LineError
    x_LineError := x_LineError
    C_BadManners := C_BadManners
    c_BadManners := PySem.W.mg_of X G hC_BadManners
    k_BadManners := k_BadManners
    s_BadManners := s_BadManners
    t_BadManners := t_BadManners
    x_BadManners := x_BadManners
    C_BadCount := C_BadCount
    c_BadCount := PySem.W.mg_of X G hC_BadCount
    k_BadCount := k_BadCount
    s_BadCount := s_BadCount
    t_BadCount := t_BadCount
    x_BadCount := x_BadCount
    tk_MOST := tk_MOST
    v_MOST := PySem.W.mg_of X G hv_MOST
    tk_FIRST := tk_FIRST
    v_FIRST := PySem.W.mg_of X G hv_FIRST
    tk_LONGEST := tk_LONGEST
    v_LONGEST := PySem.W.mg_of X G hv_LONGEST
    tk_STAYS := tk_STAYS
    v_STAYS := PySem.W.mg_of X G hv_STAYS
    tk_LOST := tk_LOST
    v_LOST := PySem.W.mg_of X G hv_LOST
    tk_LAST := tk_LAST
    v_LAST := PySem.W.mg_of X G hv_LAST
    tk_MOST_FRAME := tk_MOST_FRAME
    v_MOST_FRAME := PySem.W.mg_of X G hv_MOST_FRAME
    n_abs := PySem.W.mg_none_of X G z_abs
    n_all := PySem.W.mg_none_of X G z_all
    n_bool := PySem.W.mg_none_of X G z_bool
    n_int := PySem.W.mg_none_of X G z_int
    n_isinstance := PySem.W.mg_none_of X G z_isinstance
    n_len := PySem.W.mg_none_of X G z_len
    n_list := PySem.W.mg_none_of X G z_list
    n_max := PySem.W.mg_none_of X G z_max
    n_min := PySem.W.mg_none_of X G z_min
    n_range := PySem.W.mg_none_of X G z_range
    n_sorted := PySem.W.mg_none_of X G z_sorted
    n_str := PySem.W.mg_none_of X G z_str
    n_tuple := PySem.W.mg_none_of X G z_tuple }
  exact ⟨_, fun s v => .of_eq rfl, fun base _ _ => ok_law T⟩
theorem walk {l : PySem.W.OpenLaw} {q : Program} {loose : List Str} {XP : (Str → Option Value) → Heap → Prop} {YP : World → Heap → Prop} {d : DefRec} {K : Params → PySem.W.Frag} (hn : l.most = some 63) (hdf : d.params.defaults = [])
    (hY : ∀ (w : World) (h : Heap), YP w h → (K w.params).In h)
    (F : ∀ (w : World) (mg : Str → Option Value) (fa : Addr) (h : Heap), (K w.params).In h → h.Ns mainGlobals mg → mg d.name = some (.ref fa) →
      ∃ fd : FuncData, (∀ (s : Shared) (u : Value), BindsTo s fd ⟨[u], []⟩ [("_law_script", u)]) ∧ ∀ base : Heap, (K w.params).In base → base.Ns mainGlobals mg → FnOk l.prog w (K w.params) mg base CX0 5 fa fd ["_law_script"] (spLaw (K w.params))) :
    PySem.W.WalkO q loose XP YP l.row.toRowW d [] (fun f vs => PySem.call f vs) :=
  L2.walk_of (n := 63) (k := 5) (x := "_law_script") (CX := fun _ => CX0) (sp := fun w => spLaw (K w.params)) hn (by decide) hdf ⟨rfl, by decide, by decide⟩ hY F (fun _ _ a ns hl _ hS => ⟨a, ns, rfl, hS, hl, fun _ => rfl⟩) fun _ _ _ _ _ z => z
end TL
open PySem PySem.W PyProof.Rows
set_option maxRecDepth 100000 in
set_option maxHeartbeats 0 in
theorem PySem.Challenge.cw_trainline_k03_marks_holds : PySem.Challenge.rw_trainline_k03_marks.Holds := by
  w_on; o_law; k_head; (case hw => w_witness2)
  k_fill
  refine TL.walk (l := PySem.Challenge.rw_trainline_k03_marks) rfl rfl (fun w h Y => PySem.W.kIn_of Y) ?F
  case F =>
    intro w mg fa h KX G hmg
    refine' TL.all_mk KX G hmg ?hC_LineError ?hC_BadManners ?hC_BadCount ?hC_Marks ?hg_is_between ?hl_is_between ?hc_is_between ?hk_is_between ?hg_need_manner ?hl_need_manner ?hc_need_manner ?hk_need_manner ?hg__law_dice ?hl__law_dice ?hc__law_dice ?hk__law_dice ?hg__law_off ?hl__law_off ?hc__law_off ?hk__law_off ?hg__law_alike ?hl__law_alike ?hc__law_alike ?hk__law_alike ?hg__law_is_marked ?hl__law_is_marked ?hc__law_is_marked ?hk__law_is_marked ?hg_law ?hl_law ?hc_law ?hk_law ?hg_Marks_init ?hi_Marks_init ?hl_Marks_init ?hc_Marks_init ?hk_Marks_init ?hg_Marks_note ?hi_Marks_note ?hl_Marks_note ?hc_Marks_note ?hk_Marks_note ?hg_Marks_bad ?hi_Marks_bad ?hl_Marks_bad ?hc_Marks_bad ?hk_Marks_bad ?pg_Marks ?hd_Marks ?po_Marks ?mk_Marks ?kc_Marks ?sa_Marks ?no_Marks_waits ?no_Marks_until ?no_Marks_runs ?no_Marks_tries ?x_LineError ?k_LineError ?s_LineError ?t_LineError ?x_BadManners ?k_BadManners ?s_BadManners ?t_BadManners ?x_BadCount ?k_BadCount ?s_BadCount ?t_BadCount ?hv_MOST ?hv_FIRST ?hv_LONGEST ?hv_STAYS ?hv_LOST ?hv_LAST ?hv_MOST_FRAME ?z_abs ?z_all ?z_bool ?z_int ?z_isinstance ?z_len ?z_list ?z_max ?z_min ?z_range ?z_sorted ?z_str ?z_tuple
    (case hC_LineError => first | k_is | rfl)
    (case hC_BadManners => first | k_is | rfl)
    (case hC_BadCount => first | k_is | rfl)
    (case hC_Marks => first | k_is | rfl)
    (case hg_is_between => first | k_is | rfl)
    (case hl_is_between => first | k_is | rfl)
    (case hc_is_between => first | k_is | rfl)
    (case hk_is_between => first | k_is | rfl)
    (case hg_need_manner => first | k_is | rfl)
    (case hl_need_manner => first | k_is | rfl)
    (case hc_need_manner => first | k_is | rfl)
    (case hk_need_manner => first | k_is | rfl)
    (case hg__law_dice => first | k_is | rfl)
    (case hl__law_dice => first | k_is | rfl)
    (case hc__law_dice => first | k_is | rfl)
    (case hk__law_dice => first | k_is | rfl)
    (case hg__law_off => first | k_is | rfl)
    (case hl__law_off => first | k_is | rfl)
    (case hc__law_off => first | k_is | rfl)
    (case hk__law_off => first | k_is | rfl)
    (case hg__law_alike => first | k_is | rfl)
    (case hl__law_alike => first | k_is | rfl)
    (case hc__law_alike => first | k_is | rfl)
    (case hk__law_alike => first | k_is | rfl)
    (case hg__law_is_marked => first | k_is | rfl)
    (case hl__law_is_marked => first | k_is | rfl)
    (case hc__law_is_marked => first | k_is | rfl)
    (case hk__law_is_marked => first | k_is | rfl)
    (case hg_law => first | k_is | rfl)
    (case hl_law => first | k_is | rfl)
    (case hc_law => first | k_is | rfl)
    (case hk_law => first | k_is | rfl)
    (case hg_Marks_init => first | k_is | rfl)
    (case hi_Marks_init => first | k_is | rfl)
    (case hl_Marks_init => first | k_is | rfl)
    (case hc_Marks_init => first | k_is | rfl)
    (case hk_Marks_init => first | k_is | rfl)
    (case hg_Marks_note => first | k_is | rfl)
    (case hi_Marks_note => first | k_is | rfl)
    (case hl_Marks_note => first | k_is | rfl)
    (case hc_Marks_note => first | k_is | rfl)
    (case hk_Marks_note => first | k_is | rfl)
    (case hg_Marks_bad => first | k_is | rfl)
    (case hi_Marks_bad => first | k_is | rfl)
    (case hl_Marks_bad => first | k_is | rfl)
    (case hc_Marks_bad => first | k_is | rfl)
    (case hk_Marks_bad => first | k_is | rfl)
    (case pg_Marks => first | k_is | rfl)
    (case hd_Marks => first | k_is | rfl)
    (case po_Marks => first | k_is | rfl)
    (case mk_Marks => first | k_is | rfl)
    (case kc_Marks => first | k_is | rfl)
    (case sa_Marks => first | k_is | rfl)
    (case no_Marks_waits => first | k_is | rfl)
    (case no_Marks_until => first | k_is | rfl)
    (case no_Marks_runs => first | k_is | rfl)
    (case no_Marks_tries => first | k_is | rfl)
    (case x_LineError => k_exc)
    (case k_LineError => first | k_is | rfl)
    (case s_LineError => first | k_is | rfl)
    (case t_LineError => first | k_is | rfl)
    (case x_BadManners => k_exc)
    (case k_BadManners => first | k_is | rfl)
    (case s_BadManners => first | k_is | rfl)
    (case t_BadManners => first | k_is | rfl)
    (case x_BadCount => k_exc)
    (case k_BadCount => first | k_is | rfl)
    (case s_BadCount => first | k_is | rfl)
    (case t_BadCount => first | k_is | rfl)
    (case hv_MOST => first | k_is | rfl)
    (case hv_FIRST => first | k_is | rfl)
    (case hv_LONGEST => first | k_is | rfl)
    (case hv_STAYS => first | k_is | rfl)
    (case hv_LOST => first | k_is | rfl)
    (case hv_LAST => first | k_is | rfl)
    (case hv_MOST_FRAME => first | k_is | rfl)
    (case z_abs => first | k_is | rfl)
    (case z_all => first | k_is | rfl)
    (case z_bool => first | k_is | rfl)
    (case z_int => first | k_is | rfl)
    (case z_isinstance => first | k_is | rfl)
    (case z_len => first | k_is | rfl)
    (case z_list => first | k_is | rfl)
    (case z_max => first | k_is | rfl)
    (case z_min => first | k_is | rfl)
    (case z_range => first | k_is | rfl)
    (case z_sorted => first | k_is | rfl)
    (case z_str => first | k_is | rfl)
    (case z_tuple => first | k_is | rfl)
