import PyProof.Rows.All
import Wide.All
import OpenK.AllK
import Wide.FinOn
import HandS.ForMost
import HandS.Exc
import HandS.TryOnly
import HandS.ExcOwn
import HandS.WordsExc
import HandS.IsInst
import HandS.TupAny
import HandS.SetFor
import HandS.Strs
import HandS.Steps
import HandS.Style
import HandS.Deep
import HandS.Conv
import HandS.More
import HandS.HeadHook3
import KE.GoesNew
import KE.KExcIs
import HandS.ExcIs
import HandS.ExcField
import HandS.ExcInit
import HandS.Lambda
import HandS.EndOwn
import PySem.Challenge.RW_trainline_k14_texts_refused
set_option Elab.async false
set_option linter.all false
set_option maxRecDepth 100000
set_option maxHeartbeats 4000000
namespace TL
open PySem PySem.Spec PyProof.Rows L2
/-! ### heaps -/
/-- what was tracked and isn't in S stays; tuples stay; nothing goes -/
structure Frm (S : List Addr) (H H' : Hp) : Prop where
  keep : ∀ b o, H b = some o → b ∉ S → H' b = some o
  tups : ∀ b ys, H b = some (.tup ys) → H' b = some (.tup ys)
  there : ∀ b o, H b = some o → ∃ o', H' b = some o'
instance {S : List Addr} {H H' : Hp} : CoeFun (Frm S H H') (fun _ => ∀ b o, H b = some o → b ∉ S → H' b = some o) := ⟨Frm.keep⟩
theorem Frm.refl (S : List Addr) (H : Hp) : Frm S H H := ⟨fun _ _ e _ => e, fun _ _ e => e, fun _ o e => ⟨o, e⟩⟩
theorem Frm.trans {S : List Addr} {H H1 H2 : Hp} (a : Frm S H H1) (b : Frm S H1 H2) : Frm S H H2 := ⟨fun c o e h => b.keep c o (a.keep c o e h) h, fun c o e => b.tups c o (a.tups c o e), fun c o e => let ⟨o', e'⟩ := a.there c o e; b.there c o' e'⟩
theorem Frm.mono {S S' : List Addr} {H H1 : Hp} (a : Frm S H H1) (h : ∀ x ∈ S, x ∈ S') : Frm S' H H1 := ⟨fun c o e hn => a.keep c o e fun z => hn (h _ z), a.tups, a.there⟩
theorem Frm.of_same {S : List Addr} {H H1 : Hp} (a : Same H H1) : Frm S H H1 := ⟨fun c o e _ => a c o e, fun c o e => a c _ e, fun c o e => ⟨o, a c o e⟩⟩
theorem Frm.same {H H1 : Hp} (a : Frm [] H H1) : Same H H1 := fun c o e => a.keep c o e (by simp)
theorem upd_there {H : Hp} {d b : Addr} {o u : HO} (e : H b = some u) : ∃ o', L2.upd H d o b = some o' := by
  by_cases h : b = d
  · subst h; exact ⟨o, upd_same⟩
  · exact ⟨u, by rw [upd_ne h]; exact e⟩
/-- something that is no tuple is written -/
theorem Frm.updN {H : Hp} {d : Addr} {o : HO} (n : ∀ ys, H d ≠ some (.tup ys)) : Frm [d] H (L2.upd H d o) := ⟨fun b u e h => by
  rw [upd_ne (fun z => h (by simp [z]))]
  exact e, fun b ys e => by
  rw [upd_ne (fun z => by rw [z] at e; exact n ys e)]
  exact e, fun b u e => upd_there e⟩
theorem Frm.updL {H : Hp} {d : Addr} {o : HO} {xs : List V} (h : H d = some (.lst xs)) : Frm [d] H (L2.upd H d o) := Frm.updN fun ys z => by rw [h] at z; cases z
theorem Frm.updI {H : Hp} {d C dx : Addr} {o : HO} {fs : List (Str × V)} (h : H d = some (.ins C dx fs)) : Frm [d] H (L2.upd H d o) := Frm.updN fun ys z => by rw [h] at z; cases z
theorem Frm.updK {H : Hp} {d : Addr} {o : HO} {kvs : List (Key × V)} (h : H d = some (.dK kvs)) : Frm [d] H (L2.upd H d o) := Frm.updN fun ys z => by rw [h] at z; cases z
theorem Frm.new {S : List Addr} {H : Hp} {p : Addr} {o : HO} (n : H p = none) : Frm S H (L2.upd H p o) := ⟨fun b u e _ => by
  rw [upd_ne (ne_of_none e n)]
  exact e, fun b u e => by
  rw [upd_ne (ne_of_none e n)]
  exact e, fun b u e => upd_there e⟩
/-- what is written was made since: all that stood ahead stands -/
theorem Frm.own {S : List Addr} {H H1 H2 : Hp} (a : Frm S H H1) {l : Addr} (hl : H l = none) (b : Frm [l] H1 H2) : Frm S H H2 := ⟨fun c o e h => b.keep c o (a.keep c o e h) (by
  simp only [List.mem_singleton]
  exact ne_of_none e hl), fun c o e => b.tups c o (a.tups c o e), fun c o e => let ⟨o', e'⟩ := a.there c o e; b.there c o' e'⟩
theorem Frm.free {S : List Addr} {H H1 : Hp} (a : Frm S H H1) {l : Addr} (h : H1 l = none) : H l = none := by
  cases q : H l with
  | none => rfl
  | some o =>
    obtain ⟨o', e⟩ := a.there l o q
    rw [e] at h
    cases h
/-- all that S names stands -/
def Alloc (S : List Addr) (H : Hp) : Prop := ∀ z ∈ S, ∃ o, H z = some o
theorem Alloc.frm {S Z : List Addr} {H H' : Hp} (a : Alloc Z H) (f : Frm S H H') : Alloc Z H' := fun z hz => let ⟨o, e⟩ := a z hz; f.there z o e
theorem Alloc.not {Z : List Addr} {H : Hp} (a : Alloc Z H) {l : Addr} (h : H l = none) : l ∉ Z := fun z => by
  obtain ⟨o, e⟩ := a l z
  rw [h] at e
  cases e
/-! ### attributes by their places -/
theorem zip_lookup : ∀ {N : List Str} {vs : List V} {i : Nat} {f : Str} {v : V}, N.Nodup → N[i]? = some f → vs[i]? = some v → (N.zip vs).lookup f = some v
  | [], _, _, _, _, _, h, _ => by simp at h
  | _ :: _, [], _, _, _, _, _, h => by simp at h
  | n :: N, x :: vs, 0, f, v, nd, h, g => by
    simp at h g
    subst h g
    simp [List.lookup]
  | n :: N, x :: vs, i + 1, f, v, nd, h, g => by
    rw [List.nodup_cons] at nd
    simp at h g
    have hne : (f == n) = false := by
      rw [beq_eq_false_iff_ne]
      rintro rfl
      exact nd.1 (List.mem_of_getElem? h)
    rw [List.zip_cons_cons, List.lookup, hne]
    exact zip_lookup nd.2 h g
theorem zip_no : ∀ {N : List Str} {vs : List V} {f : Str}, f ∉ N → (N.zip vs).lookup f = none
  | [], _, _, _ => rfl
  | _ :: _, [], _, _ => rfl
  | n :: N, x :: vs, f, h => by
    simp at h
    have hne : (f == n) = false := by rw [beq_eq_false_iff_ne]; exact h.1
    rw [List.zip_cons_cons, List.lookup, hne]
    exact zip_no h.2
/-- an attribute is stored again -/
theorem zip_put : ∀ {N : List Str} {vs : List V} {i : Nat} {f : Str} {v : V}, N.Nodup → N[i]? = some f → i < vs.length → putF f v (N.zip vs) = N.zip (vs.set i v)
  | [], _, _, _, _, _, h, _ => by simp at h
  | _ :: _, [], _, _, _, _, _, h => by simp at h
  | n :: N, x :: vs, 0, f, v, nd, h, g => by
    simp at h
    subst h
    simp [putF]
  | n :: N, x :: vs, i + 1, f, v, nd, h, g => by
    rw [List.nodup_cons] at nd
    simp at h g
    have hne : ¬ n = f := by
      rintro rfl
      exact nd.1 (List.mem_of_getElem? h)
    rw [List.zip_cons_cons]
    show (if n = f then _ else _) = _
    rw [if_neg hne, zip_put nd.2 h g]
    rfl
/-- an attribute is stored for the first time, the next by its place -/
theorem zip_add : ∀ {N : List Str} {vs : List V} {f : Str} {v : V}, N.Nodup → N[vs.length]? = some f → putF f v (N.zip vs) = N.zip (vs ++ [v])
  | [], _, _, _, _, h => by simp at h
  | n :: N, [], f, v, nd, h => by
    simp at h
    subst h
    simp [putF]
  | n :: N, x :: vs, f, v, nd, h => by
    rw [List.nodup_cons] at nd
    simp at h
    have hne : ¬ n = f := by
      rintro rfl
      exact nd.1 (List.mem_of_getElem? h)
    rw [List.zip_cons_cons]
    show (if n = f then _ else _) = _
    rw [if_neg hne, zip_add nd.2 h]
    rfl
theorem zip_small {N : List Str} {vs : List V} (h : N.length < 1000) : (N.zip vs).length < 1000 := by
  rw [List.length_zip]
  omega
theorem Same.upd_new {H : Hp} {p : Addr} {o : HO} (n : H p = none) : Same H (L2.upd H p o) := fun b u e => by
  rw [upd_ne (ne_of_none e n)]
  exact e
/-- a tuple isn't among what may be written -/
theorem iteD {p A B : Prop} [Decidable p] (h1 : p → A) (h2 : ¬ p → B) : if decide p = true then A else B := by
  by_cases h : p
  · rw [if_pos (decide_eq_true h)]
    exact h1 h
  · rw [if_neg (by simp [h])]
    exact h2 h
theorem iteN {p A B : Prop} [Decidable p] (h1 : ¬ p → A) (h2 : p → B) : if (!decide p) = true then A else B := by
  by_cases h : p
  · rw [if_neg (by simp [h])]
    exact h2 h
  · rw [if_pos (by simp [h])]
    exact h1 h
theorem iteB {b : Bool} {A B : Prop} (h1 : b = true → A) (h2 : b = false → B) : if b = true then A else B := by
  cases b
  · rw [if_neg (by simp)]; exact h2 rfl
  · rw [if_pos rfl]; exact h1 rfl
theorem vint_inj {i j : Int} : (V.int i = V.int j) ↔ i = j := ⟨fun h => by cases h; rfl, fun h => by rw [h]⟩
theorem getmap {α : Type} {f : α → V} {ns : List α} {i : Nat} {y : V} (h : (ns.map f)[i]? = some y) : ∃ z, ns[i]? = some z ∧ y = f z := by
  rw [List.getElem?_map] at h
  cases e : ns[i]? with
  | none => rw [e] at h; cases h
  | some z => rw [e] at h; exact ⟨z, rfl, (Option.some.inj h).symm⟩
theorem take_more {α : Type} : ∀ {l : List α} {i : Nat} {x : α}, l[i]? = some x → l.take (i + 1) = l.take i ++ [x]
  | [], i, x, h => by simp at h
  | a :: l, 0, x, h => by
    have e : a = x := Option.some.inj h
    subst e
    rfl
  | a :: l, i + 1, x, h => by
    have ih := take_more (l := l) (i := i) (x := x) h
    show a :: l.take (i + 1) = a :: l.take i ++ [x]
    rw [ih]
    rfl
/-! ### loops over enumerate(..) -/
/-- the invariant of a for over J -/
abbrev ForW (J : It) (g : TG) (tb : TS) (D : Ends) (σ : L2.St) (H : Hp) : Prop :=
  ∃ W : Nat → Nat → L2.St → Hp → Prop, (∃ m, W 0 m σ H) ∧ ∀ i m σ H, W i m σ H → (J.stop i H ∧ D.nx σ H) ∨
    (J.go i H ∧ ∃ N : L2.St → Hp → Prop, (∀ σ' H', N σ' H' → ∃ m', m' < m ∧ W (i + 1) m' σ' H') ∧ ∀ x H', J.yld i H x H' → g x σ H' fun σ2 H2 => tb { D with nx := N, ct := N, bk := D.nx } σ2 H2)
abbrev LcW (J : It) (g : TG) (tt : TT) (te : TE) (vs : List Nat) (σ : L2.St) (H1 : Hp) (D : Addr) (Qd : Hp → Prop) : Prop :=
  ∃ W : Nat → Nat → Hp → Prop, (∃ m, W 0 m (upd H1 D (.lst []))) ∧ ∀ i m H, W i m H → (J.stop i H ∧ Qd H) ∨
    (J.go i H ∧ ∃ Nx : Hp → Prop, (∀ H', Nx H' → ∃ m', m' < m ∧ W (i + 1) m' H') ∧ ∀ x H', J.yld i H x H' → g x (wipe σ vs) H' fun σ2 H2 => wipe σ2 vs = wipe σ vs ∧ tt σ2 H2 fun b H3 =>
      if b = true then te σ2 H3 fun y H4 => ∃ acc, H4 D = some (.lst acc) ∧ acc.length < sizeLine ∧ Nx (upd H4 D (.lst (acc ++ [y]))) else Nx H3)
theorem for_enum {K : PySem.W.Frag} {a : Addr} {xs : List V} {g : TG} {tb : TS} {D : Ends} {σ : L2.St} {H : Hp} (Pv : Nat → L2.St → Hp → Prop) (h0 : Pv 0 σ H) (hl : ∀ i σ H, i ≤ xs.length → Pv i σ H → SqL K H a xs)
    (hs : ∀ (i : Nat) (x : V) (T : Addr) (σ : L2.St) (H : Hp), xs[i]? = some x → Pv i σ H → H T = none → g (.ref T) σ (upd H T (.tup [.int (i : Nat), x])) fun σ2 H2 => tb { D with nx := Pv (i + 1), ct := Pv (i + 1), bk := D.nx } σ2 H2)
    (hd : ∀ σ H, Pv xs.length σ H → D.nx σ H) : ForW (Ite K a) g tb D σ H := by
  refine ⟨fun i m σ H => m = xs.length - i ∧ i ≤ xs.length ∧ Pv i σ H, ⟨_, rfl, Nat.zero_le _, h0⟩, fun i m σ H hw => ?_⟩
  obtain ⟨rfl, hi, p⟩ := hw
  have q := hl i σ H hi p
  rcases Nat.lt_or_ge i xs.length with hlt | hge
  · refine .inr ⟨⟨xs, xs[i], q, by simp [hlt]⟩, Pv (i + 1), fun σ' H' p' => ⟨xs.length - (i + 1), by omega, rfl, hlt, p'⟩, fun v H' y => ?_⟩
    obtain ⟨T, x, rfl, hT, rfl, hx⟩ := y
    exact hs i x T σ H (hx xs q) p hT
  · have e : i = xs.length := by omega
    subst e
    exact .inl ⟨⟨xs, q, Nat.le_refl _⟩, hd σ H p⟩
theorem lc_enum {K : PySem.W.Frag} {a : Addr} {xs : List V} {g : TG} {tt : TT} {te : TE} {vs : List Nat} {σ : L2.St} {H1 : Hp} {D : Addr} {Qd : Hp → Prop} (Pv : Nat → Hp → Prop) (h0 : Pv 0 (upd H1 D (.lst []))) (hl : ∀ i H, i ≤ xs.length → Pv i H → SqL K H a xs)
    (hs : ∀ (i : Nat) (x : V) (T : Addr) (H : Hp), xs[i]? = some x → Pv i H → H T = none → g (.ref T) (wipe σ vs) (upd H T (.tup [.int (i : Nat), x])) fun σ2 H2 => wipe σ2 vs = wipe σ vs ∧ tt σ2 H2 fun b H3 =>
      if b = true then te σ2 H3 fun y H4 => ∃ acc, H4 D = some (.lst acc) ∧ acc.length < sizeLine ∧ Pv (i + 1) (upd H4 D (.lst (acc ++ [y]))) else Pv (i + 1) H3)
    (hd : ∀ H, Pv xs.length H → Qd H) : LcW (Ite K a) g tt te vs σ H1 D Qd := by
  refine ⟨fun i m H => m = xs.length - i ∧ i ≤ xs.length ∧ Pv i H, ⟨_, rfl, Nat.zero_le _, h0⟩, fun i m H hw => ?_⟩
  obtain ⟨rfl, hi, p⟩ := hw
  have q := hl i H hi p
  rcases Nat.lt_or_ge i xs.length with hlt | hge
  · refine .inr ⟨⟨xs, xs[i], q, by simp [hlt]⟩, Pv (i + 1), fun H' p' => ⟨xs.length - (i + 1), by omega, rfl, hlt, p'⟩, fun v H' y => ?_⟩
    obtain ⟨T, x, rfl, hT, rfl, hx⟩ := y
    exact hs i x T H (hx xs q) p hT
  · have e : i = xs.length := by omega
    subst e
    exact .inl ⟨⟨xs, q, Nat.le_refl _⟩, hd H p⟩
/-! ### o.f as one of several targets -/
def gFld (K : PySem.W.Frag) (to : TE) (f : Str) : TG := fun v σ H Q => to σ H fun x H1 => ∃ a C dx fs, x = .ref a ∧ H1 a = some (.ins C dx fs) ∧ Cls K C ∧ NoAttr K C f ∧ fs.length < 1000 ∧ Q σ (upd H1 a (.ins C dx (putF f v fs)))
theorem pg_fld {X : Cx} {o : Expr} {f : Str} {pos : Pos} {to : TE} (ho : PE X o to) : PG X (.Attribute o f pos) (gFld X.K to f) := by
  refine ⟨fun pins s σ H v u Q I r h => ?_⟩
  rw [assign_Attribute]
  refine wpAny_bind (wpAny_holding (thn (ho.run pins s σ H _ I h) fun ov s1 ⟨x, H1, I1, rx, a, C, dx, fs, ex, ea, c, n, l, q⟩ => ?_))
  subst ex
  obtain rfl : ov = Value.ref a := rx
  refine wpAny_bind (wpAny_standAt (wpAny_bind (wpAny_holding (setattr_ok I1 ea c n l r fun s2 I2 => ?_))))
  exact wpAny_release ⟨σ, _, I2, q⟩
/-! ### a comprehension within a comprehension -/
def FrIn (sc : Scope) : List Str → Prop
  | [] => True
  | n :: r => (sc.names.lookup n = some .cell ∨ sc.names.lookup n = some .free) ∧ FrIn sc r
def frees (scope : Scope) : List Str := (scope.names.filter fun y => y.2 == .free).map (·.1)
def blkD (N : List Str) (scope : Scope) (own : List (Str × Nat)) : Bool :=
  (match scope.kind with | .function => true | _ => false) && (scope.names.all fun y => decide (scope.names.lookup y.1 = some y.2)) && (own.all fun p => decide (N[p.2]? = some p.1)) &&
    (scope.names.all fun y => match y.2 with
      | .local => decide (y.1 ∈ own.map (·.1)) || decide (y.1 ∉ N)
      | .cell => decide (y.1 ∈ own.map (·.1)) || decide (y.1 ∉ N)
      | _ => true)
theorem FrIn.of {sc : Scope} : ∀ {l : List Str} {n : Str}, FrIn sc l → n ∈ l → sc.names.lookup n = some .cell ∨ sc.names.lookup n = some .free
  | [], _, _, h => by simp at h
  | a :: r, n, f, h => by
    rcases List.mem_cons.mp h with rfl | h
    · exact f.1
    · exact FrIn.of f.2 h
theorem blkOk_in {N : List Str} {sc scope : Scope} {own : List (Str × Nat)} (h : blkD N scope own = true) (hf : FrIn sc (frees scope)) : BlkOk N sc scope own := by
  unfold blkD at h
  simp only [Bool.and_eq_true, List.all_eq_true, decide_eq_true_eq] at h
  obtain ⟨⟨⟨h1, h2⟩, h3⟩, h4⟩ := h
  refine ⟨?_, h2, h3, fun y hy e => ?_, fun y hy e => ?_⟩
  · split at h1
    · assumption
    · cases h1
  · refine hf.of ?_
    unfold frees
    rw [List.mem_map]
    exact ⟨y, by rw [List.mem_filter]; exact ⟨hy, by rw [e]; rfl⟩, rfl⟩
  · have q := h4 y hy
    rcases e with e | e
    · rw [e] at q
      simpa using q
    · rw [e] at q
      simpa using q
/-- a comprehension over a list of two -/
theorem lc_two {K : PySem.W.Frag} {a : Addr} {v0 v1 : V} {g : TG} {tt : TT} {te : TE} {vs : List Nat} {σ : L2.St} {H1 : Hp} {D : Addr} {Qd : Hp → Prop} (P0 P1 P2 : Hp → Prop) (h0 : P0 (upd H1 D (.lst []))) (l0 : ∀ H, P0 H → SqL K H a [v0, v1]) (l1 : ∀ H, P1 H → SqL K H a [v0, v1]) (l2 : ∀ H, P2 H → SqL K H a [v0, v1])
    (s0 : ∀ H, P0 H → g v0 (wipe σ vs) H fun σ2 H2 => wipe σ2 vs = wipe σ vs ∧ tt σ2 H2 fun b H3 => if b = true then te σ2 H3 fun y H4 => ∃ acc, H4 D = some (.lst acc) ∧ acc.length < sizeLine ∧ P1 (upd H4 D (.lst (acc ++ [y]))) else P1 H3)
    (s1 : ∀ H, P1 H → g v1 (wipe σ vs) H fun σ2 H2 => wipe σ2 vs = wipe σ vs ∧ tt σ2 H2 fun b H3 => if b = true then te σ2 H3 fun y H4 => ∃ acc, H4 D = some (.lst acc) ∧ acc.length < sizeLine ∧ P2 (upd H4 D (.lst (acc ++ [y]))) else P2 H3)
    (hd : ∀ H, P2 H → Qd H) : LcW (Itl K a) g tt te vs σ H1 D Qd := by
  refine lc_list (K := K) (a := a) (xs := [v0, v1]) (fun i H => match i with | 0 => P0 H | 1 => P1 H | _ => P2 H) h0 ?_ ?_ hd
  · intro i H hi p
    match i, p with
    | 0, p => exact l0 H p
    | 1, p => exact l1 H p
    | _ + 2, p => exact l2 H p
  · intro i x H hx p
    match i, hx, p with
    | 0, hx, p =>
      have e : v0 = x := Option.some.inj hx
      subst e
      exact s0 H p
    | 1, hx, p =>
      have e : v1 = x := Option.some.inj hx
      subst e
      exact s1 H p
    | n + 2, hx, p => simp at hx
/-- a loop over 0, 1 -/
theorem for_two {g : TG} {tb : TS} {D : Ends} {σ : L2.St} {H : Hp} (P0 P1 P2 : L2.St → Hp → Prop) (h0 : P0 σ H)
    (s0 : ∀ σ H, P0 σ H → g (.int 0) σ H fun σ2 H2 => tb { D with nx := P1, ct := P1, bk := D.nx } σ2 H2)
    (s1 : ∀ σ H, P1 σ H → g (.int 1) σ H fun σ2 H2 => tb { D with nx := P2, ct := P2, bk := D.nx } σ2 H2)
    (hd : ∀ σ H, P2 σ H → D.nx σ H) : ForW (Itr 0 2) g tb D σ H := by
  refine for_range (lo := 0) (n := 2) (fun i σ H => match i with | 0 => P0 σ H | 1 => P1 σ H | _ => P2 σ H) h0 ?_ hd
  intro i σ H hi p
  match i, hi, p with
  | 0, _, p => exact s0 σ H p
  | 1, _, p => exact s1 σ H p
/-! ### where ways come together -/
/-- behind t N holds, and from N on the rest goes -/
def tCut (t : TS) : TS := fun D σ H => ∃ N : L2.St → Hp → Prop, t { D with nx := N } σ H ∧ ∀ σ' H', N σ' H' → D.nx σ' H'
theorem ps_cut {X : Cx} {st : Stmt} {t : TS} (h : PS X st t) : PS X st (tCut t) := ⟨fun pins s σ H D I ⟨N, h1, h2⟩ => thn (h.run pins s σ H { D with nx := N } I h1) fun f s' q => by
  cases f with
  | next =>
    obtain ⟨σ', H', I', n⟩ := q
    exact ⟨σ', H', I', h2 _ _ n⟩
  | brk => exact q
  | cont => exact q
  | ret u => exact q⟩
/-- the same of an expression: its value, and of a test -/
def tCutE (t : TE) : TE := fun σ H Q => ∃ N : VK, t σ H N ∧ ∀ v H', N v H' → Q v H'
theorem pe_cut {X : Cx} {e : Expr} {t : TE} (h : PE X e t) : PE X e (tCutE t) := ⟨fun pins s σ H Q I ⟨N, h1, h2⟩ => thn (h.run pins s σ H N I h1) fun u s' ⟨x, H', I', r, n⟩ => ⟨x, H', I', r, h2 _ _ n⟩⟩
def tCutT (t : TT) : TT := fun σ H Q => ∃ N : Bool → Hp → Prop, t σ H N ∧ ∀ b H', N b H' → Q b H'
theorem pt_cut {X : Cx} {e : Expr} {t : TT} (h : PT X e t) : PT X e (tCutT t) := ⟨fun pins s σ H Q I ⟨N, h1, h2⟩ => thn (h.run pins s σ H N I h1) fun c s' ⟨H', I', n⟩ => ⟨H', I', h2 _ _ n⟩⟩
/-! ### set(t), t a tuple of whole numbers -/
section
variable {X : Cx}
def rSetT (K : PySem.W.Frag) (w : World) : List V → Hp → VK → Prop := fun xs H Q => ∃ (p : Addr) (ns : List Int), xs = [.ref p] ∧ SqT K H p (ns.map V.int) ∧ ns.length ≤ 1000 ∧
  ∀ (q : Addr) (c : Nat), H q = none → c ≤ ns.length → Q (.ref q) (upd H q (SetO w q (fun j => decide (j ∈ ns)) c))
theorem cr_setT (hc : X.calm = true) : CallR X (.type "set") (rSetT X.K X.w) := by
  intro pins s σ H xs us Q I rv h
  obtain ⟨p0, ns, rfl, hq, hl, q⟩ := h
  cases rv with
  | cons r rr =>
    cases rr
    cases r
    obtain ⟨its, rv, pt, hz⟩ := I.tuple hq
    have hi : IntsAre its.toArray.toList ns := ints_of_vals rv
    refine call_set_tupI ns (I.ok.hd hc) (show s.heap.IsTuple p0 its.toArray from pt) hi (by unfold scanBound; omega) fun h' tk c R1 hcn k => ?_
    exact ⟨.ref _, upd H s.heap.objs.size (SetO X.w s.heap.objs.size (fun j => decide (j ∈ ns)) c), I.laid (t' := tk) k (Nat.le_refl _) (setO_new R1), rfl, q _ _ (I.hok.fresh (Nat.le_refl _)) hcn⟩
/-! ### xs.count(y), flat items -/
def rCountF (K : PySem.W.Frag) : V → List V → Hp → VK → Prop := fun x xs H Q => ∃ (p : Addr) (ys : List V) (y : V), x = .ref p ∧ xs = [y] ∧ SqL K H p ys ∧ flatV y = true ∧ ys.all flatV = true ∧ Q (.int (ys.countP (fun z => eqV z y) : Nat)) H
theorem countP_eqU {y : V} : ∀ {ys : List V} {us : List Value}, Vals ys us → ys.all flatV = true → us.countP (eqU y) = ys.countP (fun z => eqV z y)
  | _, _, .nil, _ => rfl
  | _, _, .cons r t, f => by
    simp only [List.all_cons, Bool.and_eq_true] at f
    rw [List.countP_cons, List.countP_cons, countP_eqU t f.2, eqU_of r f.1]
theorem mt_countF : MtR X "list.count" (rCountF X.K) := by
  intro pins s σ H x xs v us Q I rx rxs h
  obtain ⟨p, ys, y, rfl, rfl, hs, fy, fys, q⟩ := h
  cases rx
  obtain ⟨u, rfl, ru⟩ := rxs.one
  obtain ⟨its, rv, ⟨⟨cls, dd, data, sl⟩, n, ho, hc, hdn, hd⟩, hlen⟩ := I.list hs
  simp only at hc hd
  subst hc hd
  refine call_meets PySem.F.slot_list_count ⟨_, ho, rfl⟩ PySem.F.entry_list_count (PySem.F.args_list_count_2 _ _)
    (SeqAt.list_countAt p its.toArray n dd sl u (eqU y)) ⟨ho, fun z hz => mem_eqAt ru fy rv fys z (by simpa using hz), ?_⟩
  have ec : its.toArray.toList.countP (eqU y) = ys.countP (fun z => eqV z y) := countP_eqU rv fys
  refine ⟨.int (ys.countP (fun z => eqV z y) : Nat), H, I.tok _, ⟨s.toks, ?_⟩, q⟩
  show Value.int ((its.toArray.toList.countP (eqU y) : Nat) : Int) s.toks = Value.int ((ys.countP (fun z => eqV z y) : Nat) : Int) s.toks
  rw [ec]
end
theorem count_int (ns : List Int) (k : Int) : (ns.map V.int).countP (fun z => eqV z (.int k)) = ns.count k := by
  induction ns with
  | nil => rfl
  | cons a r ih =>
    rw [List.map_cons, List.countP_cons, ih, List.count_cons]
    rfl
/-! ### data and ints -/
theorem flat_ints (ns : List Int) : (ns.map V.int).all flatV = true := by
  rw [List.all_map, List.all_eq_true]
  intro _ _
  rfl
theorem inV_int (k : Int) (ns : List Int) : inV (.int k) (ns.map V.int) = decide (k ∈ ns) := by
  unfold inV
  rw [List.any_map]
  induction ns with
  | nil => rfl
  | cons a r ih =>
    rw [List.any_cons, ih]
    show (a == k || decide (k ∈ r)) = _
    by_cases e : a = k
    · subst e; simp
    · have e' : ¬ k = a := fun z => e z.symm
      simp [e, e']
end TL

namespace L2
open PySem PySem.Spec PyProof.Rows
mutual
theorem Dp.same {K : PySem.W.Frag} {H H' : Hp} (e : Same H H') : ∀ {x : V} {d : PyData}, Dp K H x d → Dp K H' x d
  | _, _, .non => .non
  | _, _, .bl b => .bl b
  | _, _, .int i => .int i
  | _, _, .str z => .str z
  | _, _, .lst h a => .lst (e.seq h) (DpAll.same e a)
  | _, _, .tup h a => .tup (by
      rcases h with (h | ⟨o, h⟩) | h
      · exact .inl (.inl (e _ _ h))
      · exact .inl (.inr ⟨o, e _ _ h⟩)
      · exact .inr h) (DpAll.same e a)
theorem DpAll.same {K : PySem.W.Frag} {H H' : Hp} (e : Same H H') : ∀ {xs : List V} {ds : List PyData}, DpAll K H xs ds → DpAll K H' xs ds
  | _, _, .nil => .nil
  | _, _, .cons h t => .cons (Dp.same e h) (DpAll.same e t)
end
theorem SqT_same {K : PySem.W.Frag} {H H' : Hp} {a : Addr} {xs : List V} (e : Same H H') (h : SqT K H a xs) : SqT K H' a xs := by
  rcases h with (h | ⟨o, h⟩) | h
  · exact .inl (.inl (e _ _ h))
  · exact .inl (.inr ⟨o, e _ _ h⟩)
  · exact .inr h
theorem DpAll.length {K : PySem.W.Frag} {H : Hp} : ∀ {xs : List V} {ds : List PyData}, DpAll K H xs ds → xs.length = ds.length
  | _, _, .nil => rfl
  | _, _, .cons _ t => by rw [List.length_cons, List.length_cons, DpAll.length t]
theorem DpAll.get {K : PySem.W.Frag} {H : Hp} : ∀ {xs : List V} {ds : List PyData} {i : Nat} {d : PyData}, DpAll K H xs ds → ds[i]? = some d → ∃ x, xs[i]? = some x ∧ Dp K H x d
  | _, _, i, d, .nil, e => by simp at e
  | _, _, 0, d, .cons h t, e => by simp at e; subst e; exact ⟨_, rfl, h⟩
  | _, _, i + 1, d, .cons h t, e => by
    obtain ⟨x, h1, h2⟩ := DpAll.get (i := i) (d := d) t (by simpa using e)
    exact ⟨x, by simpa using h1, h2⟩
theorem dp_ints {K : PySem.W.Frag} {H : Hp} : ∀ ns : List Int, DpAll K H (ns.map V.int) (ns.map PyData.int)
  | [] => .nil
  | n :: r => .cons (.int n) (dp_ints r)
theorem DpAll.append {K : PySem.W.Frag} {H : Hp} : ∀ {xs ys : List V} {ds es : List PyData}, DpAll K H xs ds → DpAll K H ys es → DpAll K H (xs ++ ys) (ds ++ es)
  | _, _, _, _, .nil, b => b
  | _, _, _, _, .cons h t, b => .cons h (DpAll.append t b)
theorem DpAll.get' {K : PySem.W.Frag} {H : Hp} : ∀ {xs : List V} {ds : List PyData} {i : Nat} {x : V}, DpAll K H xs ds → xs[i]? = some x → ∃ d, ds[i]? = some d ∧ Dp K H x d
  | _, _, i, d, .nil, e => by simp at e
  | _, _, 0, d, .cons h t, e => by simp at e; subst e; exact ⟨_, rfl, h⟩
  | _, _, i + 1, d, .cons h t, e => by
    obtain ⟨x, h1, h2⟩ := DpAll.get' (i := i) (x := d) t (by simpa using e)
    exact ⟨x, by simpa using h1, h2⟩
theorem DpAll.ints_inv {K : PySem.W.Frag} {H : Hp} : ∀ {xs : List V} {ns : List Int}, DpAll K H xs (ns.map .int) → xs = ns.map V.int
  | _, [], .nil => rfl
  | _, n :: r, .cons h t => by
    cases h
    rw [List.map_cons, DpAll.ints_inv t]
end L2
namespace TL
open PySem PySem.Spec PyProof.Rows L2
/-! ### isinstance, by the kinds -/
theorem kb_ii : kitB "int" "int" = some true := by decide +kernel
theorem kb_ib : kitB "int" "bool" = some false := by decide +kernel
theorem kb_is : kitB "int" "str" = some false := by decide +kernel
theorem kb_it : kitB "int" "tuple" = some false := by decide +kernel
theorem kb_il : kitB "int" "list" = some false := by decide +kernel
theorem kb_bi : kitB "bool" "int" = some true := by decide +kernel
theorem kb_bb : kitB "bool" "bool" = some true := by decide +kernel
theorem kb_bt : kitB "bool" "tuple" = some false := by decide +kernel
theorem kb_bs : kitB "bool" "str" = some false := by decide +kernel
theorem kb_si : kitB "str" "int" = some false := by decide +kernel
theorem kb_sb : kitB "str" "bool" = some false := by decide +kernel
theorem kb_ss : kitB "str" "str" = some true := by decide +kernel
theorem kb_st : kitB "str" "tuple" = some false := by decide +kernel
theorem kb_ni : kitB "NoneType" "int" = some false := by decide +kernel
theorem kb_nb : kitB "NoneType" "bool" = some false := by decide +kernel
theorem kb_nt : kitB "NoneType" "tuple" = some false := by decide +kernel
theorem kb_ns : kitB "NoneType" "str" = some false := by decide +kernel
theorem kb_ti : kitB "tuple" "int" = some false := by decide +kernel
theorem kb_tb : kitB "tuple" "bool" = some false := by decide +kernel
theorem kb_ts : kitB "tuple" "str" = some false := by decide +kernel
theorem kb_tt : kitB "tuple" "tuple" = some true := by decide +kernel
theorem kb_tl : kitB "tuple" "list" = some false := by decide +kernel
theorem kb_li : kitB "list" "int" = some false := by decide +kernel
theorem kb_lb : kitB "list" "bool" = some false := by decide +kernel
theorem kb_ls : kitB "list" "str" = some false := by decide +kernel
theorem kb_lt : kitB "list" "tuple" = some false := by decide +kernel
theorem kb_ll : kitB "list" "list" = some true := by decide +kernel
theorem tyx_L {K : PySem.W.Frag} {H : Hp} {a : Addr} {xs : List V} (h : SqL K H a xs) : TyX K H (.ref a) (.type "list") := by
  rcases h with (h | ⟨o, h⟩) | ⟨o, its, n, hk, hc, _⟩
  · exact .base (.lst h)
  · exact .base (.frz h)
  · exact .kList hk hc
theorem tyx_T {K : PySem.W.Frag} {H : Hp} {a : Addr} {xs : List V} (h : SqT K H a xs) : TyX K H (.ref a) (.type "tuple") := by
  rcases h with (h | ⟨o, h⟩) | ⟨o, its, n, hk, hc, _⟩
  · exact .base (.tup h)
  · exact .fTuple h
  · exact .kTuple hk hc
/-- what is, by its kind: the type that isinstance asks -/
def kty : PyData → String
  | .none => "NoneType" | .bool _ => "bool" | .int _ => "int" | .str _ => "str" | .list _ => "list" | .tuple _ => "tuple" | .dict _ => "dict"
theorem tyx_D {K : PySem.W.Frag} {H : Hp} {x : V} {d : PyData} (h : Dp K H x d) : TyX K H x (.type (kty d)) := by
  cases h with
  | non => exact .base .non
  | bl b => exact .base (.bl b)
  | int i => exact .base (.int i)
  | str z => exact .base (.str z)
  | lst h _ => exact tyx_L h
  | tup h _ => exact tyx_T h
/-- isinstance(x, c) of data -/
theorem isi_D {K : PySem.W.Frag} {H : Hp} {x : V} {d : PyData} {c : String} {b : Bool} {Q : VK} (h : Dp K H x d) (k : kitB (kty d) c = some b) (q : Q (.bl b) H) : rIsi K [x, .ty c] H Q :=
  ⟨x, .ty c, _, _, b, rfl, .ty c, tyx_D h, kit_ty k, q⟩
/-- numbers, texts, truths, None, lists and tuples of these, nested no more than n deep -/
def lv : Nat → PyData → Prop
  | _, .none => True | _, .bool _ => True | _, .int _ => True | _, .str x => (PyData.str x).canLay0 = true
  | n + 1, .list ds => ds.length ≤ 100000 ∧ ∀ d ∈ ds, lv n d
  | n + 1, .tuple ds => ds.length ≤ 100000 ∧ ∀ d ∈ ds, lv n d
  | _, _ => False
/-- such data are laid out and compared -/
theorem lv_ok : ∀ (n : Nat) (d : PyData), lv n d → d.canLay0 = true ∧ d.depth ≤ n
  | _, .none, _ => ⟨rfl, by simp [PyData.depth]⟩
  | _, .bool _, _ => ⟨rfl, by simp [PyData.depth]⟩
  | _, .int _, _ => ⟨rfl, by simp [PyData.depth]⟩
  | _, .str _, h => ⟨by simpa [lv] using h, by simp [PyData.depth]⟩
  | 0, .list _, h => by simp [lv] at h
  | 0, .tuple _, h => by simp [lv] at h
  | n + 1, .list ds, h => by
    simp only [lv] at h
    have q : ∀ es : List PyData, (∀ d ∈ es, lv n d) → PyData.canLayAll0 es = true ∧ PyData.depthAll es ≤ n := by
      intro es
      induction es with
      | nil => intro _; exact ⟨rfl, by simp [PyData.depthAll]⟩
      | cons e r ih =>
        intro z
        obtain ⟨a1, a2⟩ := lv_ok n e (z e (by simp))
        obtain ⟨b1, b2⟩ := ih fun d hd => z d (by simp [hd])
        exact ⟨by simp [PyData.canLayAll0, a1, b1], by simp only [PyData.depthAll]; omega⟩
    obtain ⟨q1, q2⟩ := q ds h.2
    exact ⟨by simpa [PyData.canLay0] using q1, by simp only [PyData.depth]; omega⟩
  | n + 1, .tuple ds, h => by
    simp only [lv] at h
    have q : ∀ es : List PyData, (∀ d ∈ es, lv n d) → PyData.canLayAll0 es = true ∧ PyData.depthAll es ≤ n := by
      intro es
      induction es with
      | nil => intro _; exact ⟨rfl, by simp [PyData.depthAll]⟩
      | cons e r ih =>
        intro z
        obtain ⟨a1, a2⟩ := lv_ok n e (z e (by simp))
        obtain ⟨b1, b2⟩ := ih fun d hd => z d (by simp [hd])
        exact ⟨by simp [PyData.canLayAll0, a1, b1], by simp only [PyData.depthAll]; omega⟩
    obtain ⟨q1, q2⟩ := q ds h.2
    exact ⟨by simpa [PyData.canLay0] using q1, by simp only [PyData.depth]; omega⟩
  | 0, .dict _, h => by simp [lv] at h
  | _ + 1, .dict _, h => by simp [lv] at h
theorem shaped_lv {n : Nat} {d : PyData} (h : lv n d) (hn : n ≤ 64) : SeqAt.shaped d = true := by
  obtain ⟨a, b⟩ := lv_ok n d h
  unfold SeqAt.shaped
  rw [a, decide_eq_true (Nat.le_trans b hn)]
  rfl
theorem eqvAll_ints : ∀ ns ms : List Int, PyData.eqvAll (ns.map .int) (ms.map .int) = decide (ns = ms)
  | [], [] => rfl
  | [], _ :: _ => rfl
  | _ :: _, [] => rfl
  | a :: r, b :: s => by
    rw [List.map_cons, List.map_cons]
    show (PyData.eqv (.int a) (.int b) && PyData.eqvAll _ _) = _
    rw [eqvAll_ints r s]
    show ((a == b) && decide (r = s)) = _
    by_cases h : a = b
    · subst h; simp
    · simp [h]
theorem canLay_ints (ns : List Int) : (PyData.list (ns.map .int)).canLay0 = true := by
  induction ns with
  | nil => rfl
  | cons a r ih => exact ih
theorem depth_ints (ns : List Int) : (PyData.list (ns.map .int)).depth ≤ 2 := by
  induction ns with
  | nil => decide
  | cons a r ih =>
    revert ih
    simp only [PyData.depth, PyData.depthAll, List.map_cons]
    omega
theorem shaped_ints (ns : List Int) : SeqAt.shaped (.list (ns.map .int)) = true := by
  unfold SeqAt.shaped
  rw [canLay_ints, decide_eq_true (Nat.le_trans (depth_ints ns) (by decide))]
  rfl
/-! ### what can't be changed: numbers, texts, truths, None, tuples of these -/
mutual
inductive Im (H : Hp) : V → PyData → Prop
  | non : Im H .non .none
  | bl (b : Bool) : Im H (.bl b) (.bool b)
  | int (i : Int) : Im H (.int i) (.int i)
  | str (x : Str) : Im H (.str x) (.str x)
  | tup {a : Addr} {xs : List V} {ds : List PyData} : H a = some (.tup xs) → ImAll H xs ds → Im H (.ref a) (.tuple ds)
inductive ImAll (H : Hp) : List V → List PyData → Prop
  | nil : ImAll H [] []
  | cons {v : V} {vs : List V} {d : PyData} {ds : List PyData} : Im H v d → ImAll H vs ds → ImAll H (v :: vs) (d :: ds)
end
mutual
theorem Im.dp {K : PySem.W.Frag} {H : Hp} : ∀ {x : V} {d : PyData}, Im H x d → Dp K H x d
  | _, _, .non => .non
  | _, _, .bl b => .bl b
  | _, _, .int i => .int i
  | _, _, .str z => .str z
  | _, _, .tup h a => .tup (SqT.of h) (ImAll.dp a)
theorem ImAll.dp {K : PySem.W.Frag} {H : Hp} : ∀ {xs : List V} {ds : List PyData}, ImAll H xs ds → DpAll K H xs ds
  | _, _, .nil => .nil
  | _, _, .cons h t => .cons (Im.dp h) (ImAll.dp t)
end
mutual
theorem Im.frm {S : List Addr} {H H' : Hp} (e : Frm S H H') : ∀ {x : V} {d : PyData}, Im H x d → Im H' x d
  | _, _, .non => .non
  | _, _, .bl b => .bl b
  | _, _, .int i => .int i
  | _, _, .str z => .str z
  | _, _, .tup h a => .tup (e.tups _ _ h) (ImAll.frm e a)
theorem ImAll.frm {S : List Addr} {H H' : Hp} (e : Frm S H H') : ∀ {xs : List V} {ds : List PyData}, ImAll H xs ds → ImAll H' xs ds
  | _, _, .nil => .nil
  | _, _, .cons h t => .cons (Im.frm e h) (ImAll.frm e t)
end
theorem ImAll.same {H H' : Hp} {xs : List V} {ds : List PyData} (h : ImAll H xs ds) (e : Same H H') : ImAll H' xs ds := h.frm (S := []) (.of_same e)
theorem Im.same {H H' : Hp} {x : V} {d : PyData} (h : Im H x d) (e : Same H H') : Im H' x d := h.frm (S := []) (.of_same e)
theorem ImAll.new {H : Hp} {xs : List V} {ds : List PyData} {p : Addr} {o : HO} (h : ImAll H xs ds) (n : H p = none) : ImAll (upd H p o) xs ds := h.same (Same.upd_new n)
theorem Im.new {H : Hp} {x : V} {d : PyData} {p : Addr} {o : HO} (h : Im H x d) (n : H p = none) : Im (upd H p o) x d := h.same (Same.upd_new n)
theorem ImAll.updL {H : Hp} {xs : List V} {ds : List PyData} {p : Addr} {o : HO} {ys : List V} (h : ImAll H xs ds) (n : H p = some (.lst ys)) : ImAll (upd H p o) xs ds := h.frm (Frm.updL n)
theorem Im.updL {H : Hp} {x : V} {d : PyData} {p : Addr} {o : HO} {ys : List V} (h : Im H x d) (n : H p = some (.lst ys)) : Im (upd H p o) x d := h.frm (Frm.updL n)
theorem ImAll.length {H : Hp} : ∀ {xs : List V} {ds : List PyData}, ImAll H xs ds → xs.length = ds.length
  | _, _, .nil => rfl
  | _, _, .cons _ t => by rw [List.length_cons, List.length_cons, ImAll.length t]
theorem ImAll.append {H : Hp} : ∀ {xs ys : List V} {ds es : List PyData}, ImAll H xs ds → ImAll H ys es → ImAll H (xs ++ ys) (ds ++ es)
  | _, _, _, _, .nil, b => b
  | _, _, _, _, .cons h t, b => .cons h (ImAll.append t b)
theorem ImAll.get {H : Hp} : ∀ {xs : List V} {ds : List PyData} {i : Nat} {d : PyData}, ImAll H xs ds → ds[i]? = some d → ∃ x, xs[i]? = some x ∧ Im H x d
  | _, _, i, d, .nil, e => by simp at e
  | _, _, 0, d, .cons h t, e => by simp at e; subst e; exact ⟨_, rfl, h⟩
  | _, _, i + 1, d, .cons h t, e => by
    obtain ⟨x, h1, h2⟩ := ImAll.get (i := i) (d := d) t (by simpa using e)
    exact ⟨x, by simpa using h1, h2⟩
theorem ImAll.get' {H : Hp} : ∀ {xs : List V} {ds : List PyData} {i : Nat} {x : V}, ImAll H xs ds → xs[i]? = some x → ∃ d, ds[i]? = some d ∧ Im H x d
  | _, _, i, d, .nil, e => by simp at e
  | _, _, 0, d, .cons h t, e => by simp at e; subst e; exact ⟨_, rfl, h⟩
  | _, _, i + 1, d, .cons h t, e => by
    obtain ⟨x, h1, h2⟩ := ImAll.get' (i := i) (x := d) t (by simpa using e)
    exact ⟨x, by simpa using h1, h2⟩
theorem ImAll.take {H : Hp} : ∀ {xs : List V} {ds : List PyData} (n : Nat), ImAll H xs ds → ImAll H (xs.take n) (ds.take n)
  | _, _, 0, _ => .nil
  | _, _, n + 1, .nil => .nil
  | _, _, n + 1, .cons h t => .cons h (ImAll.take n t)
theorem ImAll.drop {H : Hp} : ∀ {xs : List V} {ds : List PyData} (n : Nat), ImAll H xs ds → ImAll H (xs.drop n) (ds.drop n)
  | _, _, 0, h => h
  | _, _, n + 1, .nil => .nil
  | _, _, n + 1, .cons h t => ImAll.drop n t
theorem ImAll.set {H : Hp} {x : V} {d : PyData} (h : Im H x d) : ∀ {xs : List V} {ds : List PyData} (n : Nat), ImAll H xs ds → ImAll H (xs.set n x) (ds.set n d)
  | _, _, _, .nil => .nil
  | _, _, 0, .cons _ t => .cons h t
  | _, _, n + 1, .cons g t => .cons g (ImAll.set h n t)
theorem ImAll.rep {H : Hp} {xs : List V} {ds : List PyData} (h : ImAll H xs ds) : ∀ n : Nat, ImAll H (List.replicate n xs).flatten (List.replicate n ds).flatten
  | 0 => .nil
  | n + 1 => by
    rw [List.replicate_succ, List.replicate_succ, List.flatten_cons, List.flatten_cons]
    exact h.append (ImAll.rep h n)
theorem im_ints {H : Hp} : ∀ ns : List Int, ImAll H (ns.map V.int) (ns.map PyData.int)
  | [] => .nil
  | n :: r => .cons (.int n) (im_ints r)
mutual
theorem eqv_refl : ∀ {n : Nat} {d : PyData}, lv n d → PyData.eqv d d = true
  | _, .none, _ => rfl
  | _, .bool b, _ => by simp [PyData.eqv]
  | _, .int i, _ => by simp [PyData.eqv]
  | _, .str z, _ => by simp [PyData.eqv]
  | 0, .list _, h => by simp [lv] at h
  | 0, .tuple _, h => by simp [lv] at h
  | n + 1, .list ds, h => by
    simp only [lv] at h
    simp only [PyData.eqv]
    exact eqvAll_refl h.2
  | n + 1, .tuple ds, h => by
    simp only [lv] at h
    simp only [PyData.eqv]
    exact eqvAll_refl h.2
  | 0, .dict _, h => by simp [lv] at h
  | _ + 1, .dict _, h => by simp [lv] at h
theorem eqvAll_refl : ∀ {n : Nat} {ds : List PyData}, (∀ d ∈ ds, lv n d) → PyData.eqvAll ds ds = true
  | _, [], _ => rfl
  | n, d :: r, h => by
    simp only [PyData.eqvAll, Bool.and_eq_true]
    exact ⟨eqv_refl (h d (by simp)), eqvAll_refl (n := n) fun x hx => h x (by simp [hx])⟩
end
theorem lv_mono : ∀ {n : Nat} {d : PyData}, lv n d → lv (n + 1) d
  | _, .none, _ => by simp [lv]
  | _, .bool b, _ => by simp [lv]
  | _, .int i, _ => by simp [lv]
  | _, .str z, h => by simpa [lv] using h
  | 0, .list _, h => by simp [lv] at h
  | 0, .tuple _, h => by simp [lv] at h
  | n + 1, .list ds, h => by
    simp only [lv] at h ⊢
    exact ⟨h.1, fun d hd => lv_mono (h.2 d hd)⟩
  | n + 1, .tuple ds, h => by
    simp only [lv] at h ⊢
    exact ⟨h.1, fun d hd => lv_mono (h.2 d hd)⟩
  | 0, .dict _, h => by simp [lv] at h
  | _ + 1, .dict _, h => by simp [lv] at h
end TL

namespace TL
open PySem PySem.Spec PyProof.Rows L2
/-- the dice: a list of whole numbers, two at least -/
def DiceAt (H : Hp) (d : Addr) : Prop := ∃ ns : List Int, H d = some (.lst (ns.map V.int)) ∧ 2 ≤ ns.length ∧ ns.length ≤ 65
theorem DiceAt.frm {S : List Addr} {H H' : Hp} {d : Addr} (h : DiceAt H d) (e : Frm S H H') (n : d ∉ S) : DiceAt H' d := by
  obtain ⟨ns, h1, h2⟩ := h
  exact ⟨ns, e _ _ h1 n, h2⟩
theorem DiceAt.upd_ne {H : Hp} {d l : Addr} {o : HO} (h : DiceAt H d) (n : d ≠ l) : DiceAt (upd H l o) d := by
  obtain ⟨ns, h1, h2⟩ := h
  exact ⟨ns, by rw [L2.upd_ne n]; exact h1, h2⟩
theorem DiceAt.same {H H' : Hp} {d : Addr} (h : DiceAt H d) (e : Same H H') : DiceAt H' d := by
  obtain ⟨ns, h1, h2⟩ := h
  exact ⟨ns, e _ _ h1, h2⟩
theorem DiceAt.new {H : Hp} {d l : Addr} {o : HO} (h : DiceAt H d) (n : H l = none) : DiceAt (upd H l o) d := h.same (Same.upd_new n)
theorem DiceAt.ne_new {H : Hp} {d l : Addr} (h : DiceAt H d) (n : H l = none) : l ≠ d := by
  obtain ⟨ns, h1, h2⟩ := h
  exact fun e => by rw [e, h1] at n; cases n
theorem DiceAt.ne_tup {H : Hp} {d t : Addr} {xs : List V} (h : DiceAt H d) (e : H t = some (.tup xs)) : t ≠ d := by
  obtain ⟨ns, h1, h2⟩ := h
  exact ne_of e h1 (by intro q; cases q)
/-! ### manners -/
def intOf : PyData → Int
  | .int i => i
  | _ => 0
/-- a number within bounds -/
def between : PyData → Int → Int → Bool
  | .int i, lo, hi => decide (lo ≤ i) && decide (i ≤ hi)
  | _, _, _ => false
def isMan : PyData → Bool
  | .tuple ds => ds.all (fun e => between e 0 9) && (decide ((ds.map intOf).Pairwise (· < ·)) && decide (0 ∈ ds.map intOf))
  | _ => false
/-- what may be handed in in the place of manners -/
def mdat : PyData → Prop
  | .list _ => False
  | .dict _ => False
  | .str x => (PyData.str x).canLay0 = true
  | .tuple ds => ds.length ≤ 60 ∧ ∀ e ∈ ds, (∀ l, e ≠ .list l) ∧ lv 1 e
  | _ => True
theorem mdat.nolist {d : PyData} (h : mdat d) : ∀ ds, d ≠ .list ds := fun ds e => by subst e; exact h
theorem ints_of_between : ∀ {ds : List PyData}, ds.all (fun e => between e 0 9) = true → ds = (ds.map intOf).map .int
  | [], _ => rfl
  | d :: r, h => by
    rw [List.all_cons, Bool.and_eq_true] at h
    rw [List.map_cons, List.map_cons, ← ints_of_between h.2]
    cases d with
    | int i => rfl
    | _ => exact absurd h.1 (by simp [between])
theorem between_of {ds : List PyData} (h : ds.all (fun e => between e 0 9) = true) : ∀ i ∈ ds.map intOf, 0 ≤ i ∧ i ≤ 9 := fun i hi => by
  obtain ⟨d, hd, rfl⟩ := List.mem_map.mp hi
  have q := List.all_eq_true.mp h d hd
  cases d with
  | int j => simpa [between, intOf] using q
  | _ => exact absurd q (by simp [between])
/-- manners as numbers -/
def Can (ms : List Int) : Prop := (∀ i ∈ ms, 0 ≤ i ∧ i ≤ 9) ∧ ms.Pairwise (· < ·) ∧ 0 ∈ ms ∧ ms.length ≤ 60
theorem isMan_ints {ms : List Int} (h : Can ms) : isMan (.tuple (ms.map .int)) = true := by
  have e : (ms.map PyData.int).map intOf = ms := by
    rw [List.map_map]
    have : (intOf ∘ PyData.int) = id := rfl
    rw [this, List.map_id]
  simp only [isMan]
  rw [e, decide_eq_true h.2.1, decide_eq_true h.2.2.1]
  simp only [Bool.and_true, List.all_map, List.all_eq_true]
  intro i hi
  have := h.1 i hi
  simp [between, this]
theorem mdat_ints {ms : List Int} (h : ms.length ≤ 60) : mdat (.tuple (ms.map .int)) := by
  refine ⟨by rw [List.length_map]; exact h, fun e he => ?_⟩
  obtain ⟨i, _, rfl⟩ := List.mem_map.mp he
  exact ⟨fun l z => PyData.noConfusion z, trivial⟩
theorem sorted_ext : ∀ {a b : List Int}, a.Pairwise (· < ·) → b.Pairwise (· < ·) → (∀ k, k ∈ a ↔ k ∈ b) → a = b
  | [], [], _, _, _ => rfl
  | [], y :: s, _, _, h => absurd ((h y).mpr (by simp)) (by simp)
  | x :: r, [], _, _, h => absurd ((h x).mp (by simp)) (by simp)
  | x :: r, y :: s, ha, hb, h => by
    rw [List.pairwise_cons] at ha hb
    have hxy : x = y := by
      rcases List.mem_cons.mp ((h x).mp (by simp)) with e | e
      · exact e
      · rcases List.mem_cons.mp ((h y).mpr (by simp)) with e' | e'
        · exact e'.symm
        · have := ha.1 y e'
          have := hb.1 x e
          omega
    subst hxy
    rw [sorted_ext ha.2 hb.2 fun k => ?_]
    constructor
    · intro hk
      rcases List.mem_cons.mp ((h k).mp (by simp [hk])) with e | e
      · have := ha.1 k hk
        omega
      · exact e
    · intro hk
      rcases List.mem_cons.mp ((h k).mpr (by simp [hk])) with e | e
      · have := hb.1 k hk
        omega
      · exact e
/-- the greatest that both can and that isn't bad -/
def chosenF (one other bad : List Int) : Int := (one.filter fun m => decide (m ∈ other) && !decide (m ∈ bad)).foldl max 0
def IsChosen (one other bad : List Int) (m : Int) : Prop := (m = 0 ∨ (m ∈ one ∧ m ∈ other ∧ m ∉ bad)) ∧ 0 ≤ m ∧ ∀ y ∈ one, y ∈ other → y ∉ bad → y ≤ m
theorem foldl_max : ∀ (l : List Int) (a : Int), a ≤ l.foldl max a ∧ (∀ y ∈ l, y ≤ l.foldl max a) ∧ (l.foldl max a = a ∨ l.foldl max a ∈ l)
  | [], a => ⟨Int.le_refl _, by simp, .inl rfl⟩
  | x :: r, a => by
    obtain ⟨h1, h2, h3⟩ := foldl_max r (max a x)
    rw [List.foldl_cons]
    refine ⟨by omega, fun y hy => ?_, ?_⟩
    · rcases List.mem_cons.mp hy with rfl | hy
      · omega
      · exact h2 y hy
    · rcases h3 with h3 | h3
      · rw [h3]
        by_cases hax : a ≤ x
        · right
          rw [Int.max_eq_right hax]
          simp
        · left
          exact Int.max_eq_left (by omega)
      · right
        exact List.mem_cons_of_mem _ h3
theorem isChosen_F (one other bad : List Int) : IsChosen one other bad (chosenF one other bad) := by
  obtain ⟨h1, h2, h3⟩ := foldl_max (one.filter fun m => decide (m ∈ other) && !decide (m ∈ bad)) 0
  refine ⟨?_, h1, fun y h4 h5 h6 => h2 y ?_⟩
  · rcases h3 with h3 | h3
    · exact .inl h3
    · right
      have := List.mem_filter.mp h3
      simp only [Bool.and_eq_true, decide_eq_true_eq, Bool.not_eq_true', decide_eq_false_iff_not] at this
      exact this
  · rw [List.mem_filter]
    simp [h4, h5, h6]
theorem IsChosen.unique {one other bad : List Int} {m k : Int} (a : IsChosen one other bad m) (b : IsChosen one other bad k) : m = k := by
  have h1 : m ≤ k := by
    rcases a.1 with e | ⟨e1, e2, e3⟩
    · rw [e]; exact b.2.1
    · exact b.2.2 m e1 e2 e3
  have h2 : k ≤ m := by
    rcases b.1 with e | ⟨e1, e2, e3⟩
    · rw [e]; exact a.2.1
    · exact a.2.2 k e1 e2 e3
  omega
theorem IsChosen.eq {one other bad : List Int} {m : Int} (a : IsChosen one other bad m) : m = chosenF one other bad := a.unique (isChosen_F _ _ _)
theorem IsChosen.symm {one other bad : List Int} {m : Int} (a : IsChosen one other bad m) : IsChosen other one bad m :=
  ⟨a.1.imp id fun h => ⟨h.2.1, h.1, h.2.2⟩, a.2.1, fun y h1 h2 h3 => a.2.2 y h2 h1 h3⟩
theorem IsChosen.congr {one other bad bad' : List Int} {m : Int} (a : IsChosen one other bad m) (h : ∀ x, x ∈ bad ↔ x ∈ bad') : IsChosen one other bad' m :=
  ⟨a.1.imp id fun z => ⟨z.1, z.2.1, fun q => z.2.2 ((h _).mpr q)⟩, a.2.1, fun y h1 h2 h3 => a.2.2 y h1 h2 fun q => h3 ((h _).mp q)⟩
theorem man_tuple {d : PyData} (h : isMan d = true) : ∃ ns : List Int, d = .tuple (ns.map .int) ∧ (∀ i ∈ ns, 0 ≤ i ∧ i ≤ 9) := by
  cases d with
  | tuple ds =>
    simp only [isMan, Bool.and_eq_true] at h
    exact ⟨ds.map intOf, by rw [← ints_of_between h.1], between_of h.1⟩
  | _ => exact absurd h (by simp [isMan])
end TL

namespace TL
open PySem PySem.Spec PyProof.Rows L2
/-! ### rows of a log -/
abbrev Row := Int × Bool × Int × Bool
def rowV (r : Row) : List V := [.int r.1, .bl r.2.1, .int r.2.2.1, .bl r.2.2.2]
def rowD (r : Row) : PyData := .tuple [.int r.1, .bool r.2.1, .int r.2.2.1, .bool r.2.2.2]
def okRow (r : Row) : Prop := (0 ≤ r.1 ∧ r.1 ≤ 9) ∧ 0 ≤ r.2.2.1 ∧ r.2.2.1 ≤ 9
theorem im_row {H : Hp} {t : Addr} {r : Row} (h : H t = some (.tup (rowV r))) : Im H (.ref t) (rowD r) :=
  .tup h (.cons (.int _) (.cons (.bl _) (.cons (.int _) (.cons (.bl _) .nil))))
theorem im_row_inv {H : Hp} {x : V} {r : Row} (h : Im H x (rowD r)) : ∃ t, x = .ref t ∧ H t = some (.tup (rowV r)) := by
  obtain ⟨a, b, c, d⟩ := r
  generalize e : rowD (a, b, c, d) = dd at h
  cases h with
  | tup ht ha =>
    rename_i t xs ds
    injection e with e
    subst e
    cases ha with
    | cons h1 ha => cases h1; cases ha with
      | cons h1 ha => cases h1; cases ha with
        | cons h1 ha => cases h1; cases ha with
          | cons h1 ha => cases h1; cases ha; exact ⟨t, rfl, ht⟩
  | _ => exact PyData.noConfusion e
theorem rows_get {H : Hp} {xs : List V} {rs : List Row} {i : Nat} {r : Row} (h : ImAll H xs (rs.map rowD)) (e : rs[i]? = some r) : ∃ t, xs[i]? = some (.ref t) ∧ H t = some (.tup (rowV r)) := by
  obtain ⟨x, h1, h2⟩ := h.get (i := i) (d := rowD r) (by rw [List.getElem?_map, e]; rfl)
  obtain ⟨t, rfl, h3⟩ := im_row_inv h2
  exact ⟨t, h1, h3⟩
theorem rows_get' {H : Hp} {xs : List V} {rs : List Row} {i : Nat} {x : V} (h : ImAll H xs (rs.map rowD)) (e : xs[i]? = some x) : ∃ t r, rs[i]? = some r ∧ x = .ref t ∧ H t = some (.tup (rowV r)) := by
  obtain ⟨d, h1, h2⟩ := h.get' e
  rw [List.getElem?_map] at h1
  cases q : rs[i]? with
  | none => rw [q] at h1; cases h1
  | some r =>
    rw [q] at h1
    have h1' : rowD r = d := Option.some.inj h1
    subst h1'
    obtain ⟨t, h3, h4⟩ := im_row_inv h2
    exact ⟨t, r, rfl, h3, h4⟩
theorem rows_len {H : Hp} {xs : List V} {rs : List Row} (h : ImAll H xs (rs.map rowD)) : xs.length = rs.length := by
  rw [h.length, List.length_map]
theorem lv_row (r : Row) : lv 1 (rowD r) := by
  refine ⟨by show 4 ≤ 100000; decide, fun d hd => ?_⟩
  simp at hd
  rcases hd with rfl | rfl | rfl | rfl <;> exact trivial
theorem lv_rows {rs : List Row} (h : rs.length ≤ 100000) : lv 2 (.list (rs.map rowD)) := by
  refine ⟨by rw [List.length_map]; exact h, fun d hd => ?_⟩
  obtain ⟨r, _, rfl⟩ := List.mem_map.mp hd
  exact lv_row r
theorem eqv_rows_nil (rs : List Row) : PyData.eqv (.list (rs.map rowD)) (.list []) = decide (rs = []) := by
  cases rs with
  | nil => rfl
  | cons a r => rfl
/-! ### what is a row -/
def isB : PyData → Bool
  | .bool _ => true
  | _ => false
def isRowD : PyData → Bool
  | .tuple [a, b, c, d] => between a 0 9 && (between c 0 9 && (isB b && isB d))
  | _ => false
theorem isRow_row {r : Row} (h : okRow r) : isRowD (rowD r) = true := by
  obtain ⟨⟨h1, h2⟩, h3, h4⟩ := h
  simp [isRowD, rowD, between, isB, h1, h2, h3, h4]
/-- what may be handed in as a row -/
def rdat : PyData → Prop
  | .list _ => False
  | .dict _ => False
  | .tuple ds => ∀ e ∈ ds, ∀ l, e ≠ .list l
  | _ => True
theorem rdat_row (r : Row) : rdat (rowD r) := by
  intro e he l
  simp at he
  rcases he with rfl | rfl | rfl | rfl <;> exact fun z => PyData.noConfusion z
theorem rdat.nolist {d : PyData} (h : rdat d) : ∀ ds, d ≠ .list ds := fun ds e => by subst e; exact h
/-! ### stretches -/
/-- the manner by which both were joined -/
def mark (r : Row) : Option Int := if r.2.1 = true ∧ r.2.2.2 = true ∧ r.1 = r.2.2.1 then some r.1 else none
abbrev Str3 := Int × Int × Int
def strV (s : Str3) : List V := [.int s.1, .int s.2.1, .int s.2.2]
def strD (s : Str3) : PyData := .tuple [.int s.1, .int s.2.1, .int s.2.2]
theorem im_str {H : Hp} {t : Addr} {s : Str3} (h : H t = some (.tup (strV s))) : Im H (.ref t) (strD s) := .tup h (.cons (.int _) (.cons (.int _) (.cons (.int _) .nil)))
theorem im_str_inv {H : Hp} {x : V} {s : Str3} (h : Im H x (strD s)) : ∃ t, x = .ref t ∧ H t = some (.tup (strV s)) := by
  obtain ⟨a, b, c⟩ := s
  generalize e : strD (a, b, c) = dd at h
  cases h with
  | tup ht ha =>
    rename_i t xs ds
    injection e with e
    subst e
    cases ha with
    | cons h1 ha => cases h1; cases ha with
      | cons h1 ha => cases h1; cases ha with
        | cons h1 ha => cases h1; cases ha; exact ⟨t, rfl, ht⟩
  | _ => exact PyData.noConfusion e
/-- one row more: the last stretch grows, or a new one begins -/
def stStep (acc : List Str3) (i : Nat) (m : Option Int) : List Str3 :=
  match m with
  | none => acc
  | some m => match acc.getLast? with
    | some (k, s, e) => if k = m ∧ e = (i : Int) then acc.dropLast ++ [(m, s, (i : Int) + 1)] else acc ++ [(m, (i : Int), (i : Int) + 1)]
    | none => acc ++ [(m, (i : Int), (i : Int) + 1)]
/-- the stretches of the first i rows -/
def stTo (ms : List (Option Int)) : Nat → List Str3
  | 0 => []
  | i + 1 => stStep (stTo ms i) i (ms.getD i none)
theorem stTo_len (ms : List (Option Int)) : ∀ i, (stTo ms i).length ≤ i
  | 0 => Nat.le_refl _
  | i + 1 => by
    have ih := stTo_len ms i
    unfold stTo stStep
    cases ms.getD i none with
    | none => exact Nat.le_succ_of_le ih
    | some m =>
      cases h : (stTo ms i).getLast? with
      | none => simp; omega
      | some k =>
        obtain ⟨k, s, e⟩ := k
        simp only
        split
        · simp; omega
        · simp; omega
/-- no stretch ends behind what was gone through -/
theorem stTo_end (ms : List (Option Int)) : ∀ i (x : Str3), (stTo ms i).getLast? = some x → x.2.2 ≤ i
  | 0, x, h => by simp [stTo] at h
  | i + 1, x, h => by
    have ih := stTo_end ms i
    unfold stTo stStep at h
    cases hm : ms.getD i none with
    | none =>
      rw [hm] at h
      have := ih x h
      omega
    | some m =>
      rw [hm] at h
      cases hl : (stTo ms i).getLast? with
      | none =>
        rw [hl] at h
        simp at h
        subst h
        simp
      | some k =>
        obtain ⟨k, s, e⟩ := k
        rw [hl] at h
        simp only at h
        split at h
        · simp at h
          subst h
          simp
        · simp at h
          subst h
          simp
/-- at i a new stretch begins, if one does -/
def Fresh (ms : List (Option Int)) (i : Nat) : Prop := ∀ k s e, (stTo ms i).getLast? = some (k, s, e) → e = (i : Int) → ms.getD i none ≠ some k
theorem stTo_none {ms : List (Option Int)} {i : Nat} (h : ms.getD i none = none) : stTo ms (i + 1) = stTo ms i := by
  show stStep _ _ _ = _
  rw [h]
  rfl
theorem stTo_first {ms : List (Option Int)} {i : Nat} {m : Int} (h : ms.getD i none = some m) (f : Fresh ms i) : stTo ms (i + 1) = stTo ms i ++ [(m, (i : Int), (i : Int) + 1)] := by
  show stStep _ _ _ = _
  rw [h]
  unfold stStep
  cases hl : (stTo ms i).getLast? with
  | none => rfl
  | some k =>
    obtain ⟨k, s, e⟩ := k
    simp only
    rw [if_neg]
    rintro ⟨rfl, h2⟩
    exact f _ _ _ hl h2 h
theorem stTo_more {ms : List (Option Int)} {a j : Nat} {m : Int} (h : ms.getD j none = some m) (e : stTo ms j = stTo ms a ++ [(m, (a : Int), (j : Int))]) : stTo ms (j + 1) = stTo ms a ++ [(m, (a : Int), (j : Int) + 1)] := by
  show stStep _ _ _ = _
  rw [h, e]
  unfold stStep
  simp
def markV : Option Int → V
  | none => .non
  | some m => .int m
theorem lv_strs (l : List Str3) (h : l.length ≤ 100000) : lv 3 (.list (l.map strD)) := by
  refine lv_mono ⟨by rw [List.length_map]; exact h, fun d hd => ?_⟩
  obtain ⟨s, _, rfl⟩ := List.mem_map.mp hd
  refine ⟨by show 3 ≤ 100000; decide, fun d hd => ?_⟩
  simp at hd
  rcases hd with rfl | rfl | rfl <;> exact trivial
/-- what stands within a turn: the dice, the rows at p -/
structure Got (H : Hp) (d p : Addr) (xs : List V) (rs : List Row) : Prop where
  D : DiceAt H d
  L : H p = some (.lst xs)
  A : ImAll H xs (rs.map rowD)
  ok : ∀ r ∈ rs, okRow r
  len : rs.length ≤ 300
  np : p ≠ d
theorem Got.same {H H' : Hp} {d p : Addr} {xs : List V} {rs : List Row} (g : Got H d p xs rs) (e : Same H H') : Got H' d p xs rs := ⟨g.D.same e, e _ _ g.L, g.A.same e, g.ok, g.len, g.np⟩
/-- another list is written -/
theorem Got.updL {H : Hp} {d p : Addr} {xs : List V} {rs : List Row} (g : Got H d p xs rs) {l : Addr} {ys : List V} {o : HO} (h : H l = some (.lst ys)) (n1 : l ≠ d) (n2 : l ≠ p) : Got (upd H l o) d p xs rs :=
  ⟨g.D.upd_ne (Ne.symm n1), by rw [upd_ne (Ne.symm n2)]; exact g.L, g.A.updL h, g.ok, g.len, g.np⟩
/-- whether a row can be -/
def unl (ca cb : List Int) (m : Int) : Bool := !decide (m ∈ ca) || !decide (m ∈ cb)
def goodRow (ca cb : List Int) (r : Row) : Bool := !(unl ca cb r.1) && (!(unl ca cb r.2.2.1) && !((r.2.1 || r.2.2.2) && !decide (r.1 = r.2.2.1)))
end TL

namespace TL
open PySem PySem.Spec PyProof.Rows L2
/-! ### rows as texts -/
def dgS (i : Int) : Str := Str.ofString (toString i)
def sgS (b : Bool) : Str := ⟨#[if b = true then 43 else 45]⟩
def wordOf (i : Int) (b : Bool) : Str := dgS i ++ sgS b
def lineOf (r : Row) : Str := dgS r.1 ++ sgS r.2.1 ++ " " ++ dgS r.2.2.1 ++ sgS r.2.2.2
def logText (rs : List Row) : Str := Txt.join "\n" (rs.map lineOf)
theorem tl_dg {i : Int} (h0 : 0 ≤ i) (h9 : i ≤ 9) : tl (dgS i) = [48 + i.toNat] := by
  obtain ⟨n, rfl⟩ : ∃ n : Nat, i = (n : Int) := ⟨i.toNat, by omega⟩
  have h := tl_num n
  rw [numL_lt (by omega)] at h
  exact h
theorem tl_sg (b : Bool) : tl (sgS b) = [if b = true then 43 else 45] := rfl
theorem tl_sp : tl (" " : Str) = [32] := by decide +kernel
theorem tl_nl : tl ("\n" : Str) = [10] := by decide +kernel
theorem tl_word {i : Int} {b : Bool} (h0 : 0 ≤ i) (h9 : i ≤ 9) : tl (wordOf i b) = [48 + i.toNat, if b = true then 43 else 45] := by
  unfold wordOf
  rw [tl_append, tl_dg h0 h9, tl_sg]
  rfl
theorem lineOf_join (r : Row) : lineOf r = Txt.join " " [wordOf r.1 r.2.1, wordOf r.2.2.1 r.2.2.2] := by
  apply ext_tl
  rw [join_eq, tl_join]
  unfold lineOf wordOf
  simp only [List.map, joinL, tl_append, List.append_assoc]
theorem tl_line {r : Row} (h : okRow r) : tl (lineOf r) = [48 + r.1.toNat, (if r.2.1 = true then 43 else 45), 32, 48 + r.2.2.1.toNat, (if r.2.2.2 = true then 43 else 45)] := by
  unfold lineOf
  rw [tl_append, tl_append, tl_append, tl_append, tl_dg h.1.1 h.1.2, tl_dg h.2.1 h.2.2, tl_sg, tl_sg, tl_sp]
  rfl
/-- a word's half: a manner, whether joined -/
def halfL : List Nat → Option (Int × Bool)
  | [a, b] => if (48 ≤ a ∧ a ≤ 57) ∧ (b = 43 ∨ b = 45) then some ((a : Int) - 48, decide (b = 43)) else none
  | _ => none
def rowHalves : List (Option (Int × Bool)) → Option Row
  | [some a, some b] => some (a.1, a.2, b.1, b.2)
  | _ => none
def halvesOf (line : Str) : List (Option (Int × Bool)) := (Txt.split line " ").map fun w => halfL (tl w)
def rowOfL (line : Str) : Option Row := rowHalves (halvesOf line)
theorem half_word {i : Int} {b : Bool} (h0 : 0 ≤ i) (h9 : i ≤ 9) : halfL (tl (wordOf i b)) = some (i, b) := by
  rw [tl_word h0 h9]
  have e1 : ((48 + i.toNat : Nat) : Int) - 48 = i := by omega
  cases b
  · simp only [halfL]
    rw [if_pos (by simp; omega), e1]
    rfl
  · simp only [halfL]
    rw [if_pos (by simp; omega), e1]
    rfl
theorem word_nosp {i : Int} {b : Bool} (h0 : 0 ≤ i) (h9 : i ≤ 9) : 32 ∉ tl (wordOf i b) := by
  rw [tl_word h0 h9]
  cases b <;> simp <;> omega
theorem rowOf_line {r : Row} (h : okRow r) : rowOfL (lineOf r) = some r := by
  unfold rowOfL halvesOf
  rw [lineOf_join, split_join (s := 32) (S := []) tl_sp (by decide +kernel) (by simp) (by
    intro p hp
    simp at hp
    rcases hp with rfl | rfl
    · exact word_nosp h.1.1 h.1.2
    · exact word_nosp h.2.1 h.2.2)]
  simp only [List.map, half_word h.1.1 h.1.2, half_word h.2.1 h.2.2, rowHalves]
theorem line_nonl {r : Row} (h : okRow r) : 10 ∉ tl (lineOf r) := by
  rw [tl_line h]
  obtain ⟨a, b, c, d⟩ := r
  cases b <;> cases d <;> simp <;> omega
theorem split_log {rs : List Row} (h : ∀ r ∈ rs, okRow r) (hne : rs ≠ []) : Txt.split (logText rs) "\n" = rs.map lineOf :=
  split_join (s := 10) (S := []) tl_nl (by decide +kernel) (by simpa using hne) (by
    intro p hp
    obtain ⟨r, hr, rfl⟩ := List.mem_map.mp hp
    exact line_nonl (h r hr))
theorem line_len {r : Row} (h : okRow r) : (lineOf r).length = 5 := by rw [len_tl, tl_line h]; rfl
theorem joinL_len (S : List Nat) : ∀ ps : List (List Nat), (joinL S ps).length ≤ (ps.map List.length).sum + ps.length * S.length
  | [] => by simp [joinL]
  | [p] => by simp [joinL]
  | p :: q :: r => by
    have ih := joinL_len S (q :: r)
    simp only [joinL, List.length_append, List.map_cons, List.sum_cons, List.length_cons] at ih ⊢
    have : (r.length + 1 + 1) * S.length = (r.length + 1) * S.length + S.length := Nat.succ_mul _ _
    omega
theorem lines_sum {rs : List Row} (h : ∀ r ∈ rs, okRow r) : ((rs.map lineOf).map (·.length)).sum = 5 * rs.length := by
  induction rs with
  | nil => rfl
  | cons a r ih =>
    simp only [List.map_cons, List.sum_cons, List.length_cons]
    rw [line_len (h a (by simp)), ih fun x hx => h x (by simp [hx])]
    omega
theorem log_len {rs : List Row} (h : ∀ r ∈ rs, okRow r) : (logText rs).length ≤ 6 * rs.length := by
  rw [len_tl]
  unfold logText
  rw [join_eq, tl_join, tl_nl]
  have h1 := joinL_len [10] ((rs.map lineOf).map tl)
  have h2 : (((rs.map lineOf).map tl).map List.length) = (rs.map lineOf).map (·.length) := by
    rw [List.map_map]
    exact List.map_congr_left fun x _ => (len_tl x).symm
  rw [h2, lines_sum h] at h1
  simp only [List.length_map, List.length_cons, List.length_nil] at h1
  omega
theorem log_ne {rs : List Row} (h : ∀ r ∈ rs, okRow r) (hne : rs ≠ []) : logText rs ≠ "" := by
  intro e
  have h1 := split_log h hne
  rw [e] at h1
  have h2 : Txt.split ("" : Str) "\n" = ([("" : Str)] : List Str) := by decide +kernel
  rw [h2] at h1
  match rs, hne with
  | a :: r, _ =>
    rw [List.map_cons] at h1
    injection h1 with h1 _
    have := line_len (h a (by simp))
    rw [← h1] at this
    exact absurd this (by decide +kernel)
theorem joinL_lt : ∀ ps : List (List Nat), (∀ p ∈ ps, ∀ c ∈ p, c < 0x110000) → ∀ c ∈ joinL [10] ps, c < 0x110000
  | [], _, c, hc => by simp [joinL] at hc
  | [p], z, c, hc => z p (by simp) c (by simpa [joinL] using hc)
  | p :: q :: r, z, c, hc => by
    simp only [joinL, List.mem_append] at hc
    rcases hc with hc | hc | hc
    · exact z p (by simp) c hc
    · simp at hc; omega
    · exact joinL_lt (q :: r) (fun x hx => z x (by simp at hx ⊢; exact .inr hx)) c hc
theorem strOk_log {rs : List Row} (h : ∀ r ∈ rs, okRow r) : (PyData.str (logText rs)).canLay0 = true := by
  have key : ∀ c ∈ tl (logText rs), c < 0x110000 := by
    intro c hc
    unfold logText at hc
    rw [join_eq, tl_join, tl_nl] at hc
    refine joinL_lt _ ?_ c hc
    intro p hp c hc
    simp only [List.map_map, List.mem_map, Function.comp] at hp
    obtain ⟨r, hr, rfl⟩ := hp
    have hok := h r hr
    rw [tl_line hok] at hc
    obtain ⟨⟨h1, h2⟩, h3, h4⟩ := hok
    simp at hc
    rcases hc with rfl | hc | rfl | rfl | hc
    · omega
    · split at hc <;> omega
    · omega
    · omega
    · split at hc <;> omega
  show (logText rs).cps.all (· < 0x110000) = true
  rw [Array.all_eq_true]
  intro i hi
  have := key ((logText rs).cps[i]) (by simp [tl])
  simpa using this
theorem spl_len (S : List Nat) : ∀ (l : List Nat) (k : Nat) (acc : List Nat), (spl S k acc l).length ≤ l.length + 1
  | [], k, acc => by rw [spl_nil]; simp
  | c :: r, 0, acc => by
    by_cases h : pre S (c :: r) = true
    · rw [spl_hit h]
      have := spl_len S r (S.length - 1) []
      simp only [List.length_cons]
      omega
    · rw [spl_miss (by simpa using h)]
      have := spl_len S r 0 (acc ++ [c])
      simp only [List.length_cons]
      omega
  | c :: r, k + 1, acc => by
    have := spl_len S r k acc
    show (spl S k acc r).length ≤ _
    simp only [List.length_cons]
    omega
theorem split_len (x y : Str) (hy : tl y ≠ []) (hk : y.cps.all (· < 256) = true) : (Txt.split x y).length ≤ x.length + 1 := by
  have h := congrArg List.length (split_spl x y hy (kind_ok hk))
  rw [List.length_map] at h
  rw [h, len_tl]
  exact spl_len _ _ _ _
theorem spl_word (S : List Nat) : ∀ (l : List Nat) (k : Nat) (acc : List Nat), ∀ p ∈ spl S k acc l, p.length ≤ acc.length + l.length
  | [], k, acc => by rw [spl_nil]; simp
  | c :: r, 0, acc => by
    intro p hp
    by_cases h : pre S (c :: r) = true
    · rw [spl_hit h] at hp
      rcases List.mem_cons.mp hp with rfl | hp
      · simp
      · have := spl_word S r (S.length - 1) [] p hp
        simp only [List.length_cons, List.length_nil] at this ⊢
        omega
    · rw [spl_miss (by simpa using h)] at hp
      have := spl_word S r 0 (acc ++ [c]) p hp
      simp only [List.length_append, List.length_cons, List.length_nil] at this ⊢
      omega
  | c :: r, k + 1, acc => by
    intro p hp
    have := spl_word S r k acc p hp
    simp only [List.length_cons]
    omega
theorem split_word (x y : Str) (hy : tl y ≠ []) (hk : y.cps.all (· < 256) = true) : ∀ w ∈ Txt.split x y, w.length ≤ x.length := by
  intro w hw
  have h := split_spl x y hy (kind_ok hk)
  have hm : tl w ∈ spl (tl y) 0 [] (tl x) := by rw [← h]; exact List.mem_map_of_mem hw
  have := spl_word _ _ _ _ _ hm
  rw [len_tl, len_tl]
  simpa using this
end TL

namespace TL
open PySem PySem.Spec PyProof.Rows L2
/-! ### lists of texts: how long they are when joined -/
def tot (ls : List Str) : Nat := (ls.map fun s => s.length + 1).sum
theorem tot_cons (s : Str) (ls : List Str) : tot (s :: ls) = s.length + 1 + tot ls := by
  unfold tot
  rw [List.map_cons, List.sum_cons]
theorem tot_app : ∀ xs ys : List Str, tot (xs ++ ys) = tot xs + tot ys
  | [], ys => by
    rw [List.nil_append]
    show _ = 0 + _
    omega
  | x :: r, ys => by
    rw [List.cons_append, tot_cons, tot_cons, tot_app r ys]
    omega
theorem tot_take : ∀ (n : Nat) (xs : List Str), tot (xs.take n) ≤ tot xs
  | 0, xs => by
    rw [List.take_zero]
    exact Nat.zero_le _
  | n + 1, [] => by simp
  | n + 1, x :: r => by
    rw [List.take_succ_cons, tot_cons, tot_cons]
    have := tot_take n r
    omega
theorem tot_drop : ∀ (n : Nat) (xs : List Str), tot (xs.drop n) ≤ tot xs
  | 0, xs => by rw [List.drop_zero]; exact Nat.le_refl _
  | n + 1, [] => by simp
  | n + 1, x :: r => by
    rw [List.drop_succ_cons, tot_cons]
    have := tot_drop n r
    omega
theorem tot_rev : ∀ xs : List Str, tot xs.reverse = tot xs
  | [] => rfl
  | x :: r => by
    rw [List.reverse_cons, tot_app, tot_rev r, tot_cons, tot_cons]
    show _ + (_ + 0) = _
    omega
theorem tot_mem {s : Str} : ∀ {xs : List Str}, s ∈ xs → s.length + 1 ≤ tot xs
  | x :: r, h => by
    rw [tot_cons]
    rcases List.mem_cons.mp h with rfl | h
    · omega
    · have := tot_mem h
      omega
theorem tot_len : ∀ xs : List Str, xs.length ≤ tot xs
  | [] => Nat.le_refl _
  | x :: r => by
    rw [tot_cons, List.length_cons]
    have := tot_len r
    omega
theorem tot_sum : ∀ xs : List Str, (xs.map (·.length)).sum + xs.length = tot xs
  | [] => rfl
  | x :: r => by
    have := tot_sum r
    rw [tot_cons, List.map_cons, List.sum_cons, List.length_cons]
    omega
/-- a slice -/
def cutL (ls : List Str) (lo hi : Option Int) : List Str := (ls.drop (HT.sIx ls.length 0 lo)).take (HT.sIx ls.length ls.length hi - HT.sIx ls.length 0 lo)
theorem cutV_map (ls : List Str) (lo hi : Option Int) : cutV (ls.map V.str) lo hi = (cutL ls lo hi).map V.str := by
  unfold cutV cutL
  rw [List.length_map, List.map_take, List.map_drop]
theorem tot_cut (ls : List Str) (lo hi : Option Int) : tot (cutL ls lo hi) ≤ tot ls := Nat.le_trans (tot_take _ _) (tot_drop _ _)
/-- joined by one sign -/
theorem join_len {y : Str} (hy : y.length = 1) (ls : List Str) : (Txt.join y ls).length ≤ tot ls := by
  rw [len_tl, join_eq, tl_join]
  have h1 := joinL_len (tl y) (ls.map tl)
  have e1 : (tl y).length = 1 := by
    rw [← len_tl]
    exact hy
  have e2 : ((ls.map tl).map List.length) = ls.map (·.length) := by
    rw [List.map_map]
    exact List.map_congr_left fun x _ => (len_tl x).symm
  rw [e1, e2, List.length_map] at h1
  have := tot_sum ls
  omega
theorem spl_tot (S : List Nat) : ∀ (l : List Nat) (k : Nat) (acc : List Nat), ((spl S k acc l).map fun p => p.length + 1).sum ≤ acc.length + l.length + 1
  | [], k, acc => by
    rw [spl_nil]
    simp
  | c :: r, 0, acc => by
    by_cases h : pre S (c :: r) = true
    · rw [spl_hit h, List.map_cons, List.sum_cons]
      have := spl_tot S r (S.length - 1) []
      simp only [List.length_cons, List.length_nil] at this ⊢
      omega
    · rw [spl_miss (by simpa using h)]
      have := spl_tot S r 0 (acc ++ [c])
      simp only [List.length_cons, List.length_append, List.length_nil] at this ⊢
      omega
  | c :: r, k + 1, acc => by
    have := spl_tot S r k acc
    show ((spl S k acc r).map fun p => p.length + 1).sum ≤ _
    simp only [List.length_cons]
    omega
theorem tot_split (x y : Str) (hy : tl y ≠ []) (hk : y.cps.all (· < 256) = true) : tot (Txt.split x y) ≤ x.length + 1 := by
  have h := split_spl x y hy (kind_ok hk)
  have h2 := spl_tot (tl y) (tl x) 0 []
  rw [← h, List.map_map] at h2
  rw [len_tl]
  have e : tot (Txt.split x y) = (List.map ((fun p => p.length + 1) ∘ tl) (Txt.split x y)).sum := by
    unfold tot
    congr 1
  rw [e]
  simpa using h2
theorem split_ne (x y : Str) (hy : tl y ≠ []) (hk : y.cps.all (· < 256) = true) : Txt.split x y ≠ [] := by
  intro e
  have h := split_spl x y hy (kind_ok hk)
  rw [e] at h
  have : ∀ (l : List Nat) (k : Nat) (acc : List Nat), spl (tl y) k acc l ≠ [] := by
    intro l
    induction l with
    | nil => intro k acc; rw [spl_nil]; simp
    | cons c r ih =>
      intro k acc
      cases k with
      | zero =>
        by_cases q : pre (tl y) (c :: r) = true
        · rw [spl_hit q]; simp
        · rw [spl_miss (by simpa using q)]; exact ih 0 _
      | succ k => exact ih k acc
  exact this _ _ _ h.symm
theorem cats (xs ys : List Str) : xs.map V.str ++ ys.map V.str = (xs ++ ys).map V.str := (List.map_append ..).symm
/-- an item at a place that is drawn -/
theorem at_get {α : Type} {l : List α} {r : Int} (h0 : 0 ≤ r) (h1 : r < l.length) : ∃ x, x ∈ l ∧ atI l r = some x := by
  obtain ⟨n, rfl⟩ : ∃ n : Nat, r = n := ⟨r.toNat, by omega⟩
  have hn : n < l.length := by omega
  exact ⟨l[n], List.getElem_mem hn, atI_nat (List.getElem?_eq_getElem hn)⟩
end TL

namespace TL
open PySem PySem.Spec PyProof.Rows L2
/-! ### the base class's __init__, called by its name -/
/-- what the written part says of the class at C, whose __init__ is ValueError's -/
structure BaseC (K : PySem.W.Frag) (C : Addr) : Prop where
  ga : PySem.W.specialIn K (.ref C) "__getattribute__" = some (some (.builtin "type.__getattribute__"))
  rd : PySem.W.readsIn K C (.type "type") = true
  fi : PySem.W.findCls K (.ref C) (.type "type") "__init__" = some (.val (.builtin "ValueError.__init__"))
  kp : PySem.W.keepIn K (.ref C) = true
theorem pe_basei {X : Cx} {x : Str} {C : Addr} {e : Expr} {es : List Expr} {ta : TA} {p1 p2 pos : Pos} {pl : Sem Bool} (hg : Gl X x) (hm : X.mg x = some (.ref C)) (B : BaseC X.K C) (ha : PA X (e :: es) ta) (hdb : (x == ("__debug__" : Str)) = false := by decide)
    (hc : eval (.Call (.Attribute (.Name x p1) "__init__" p2) (e :: es) [] pos) X.env = (do
      let ov ← eval (.Name x p1) X.env
      standAt p2.atName
      let (f, one) ← holding [ov] (getMethod ov "__init__" pl)
      callWith pos f one (backTo pos (starEach (e :: es) X.env)) (backToKw pos (keywordEach [] X.env))) := by rfl)
    (hst : starEach (e :: es) X.env = (false, eval e X.env) :: starEach es X.env := by rfl) (hno : (backTo pos (starEach es X.env)).any (·.1) = false := by rfl) :
    PE X (.Call (.Attribute (.Name x p1) "__init__" p2) (e :: es) [] pos) (tVeI X.K ta) := by
  constructor
  intro pins s σ H Q I h
  refine PySem.W.methodCall_KW (ld_glob I hg hm ?_ hdb) hc
  refine PySem.W.method_cls I.kIn B.ga (PySem.W.cls_value I.kIn B.rd B.fi rfl ?_)
  show wpAny _ _ (callWith pos (.builtin "ValueError.__init__") [] (backTo pos (starEach (e :: es) X.env)) []) _ _ _
  refine PyProof.Rows.callWith_method1 (thn (ha.run pos pins _ σ H _ (I.tok _) h) fun us s2 hh => ?_) hst hno
  obtain ⟨vs, H2, I2, rs, a, D, ws, rfl, hln, T, ea, q⟩ := hh
  cases rs with
  | cons ra rr =>
    rename_i u0 ur
    have e0 : u0 = Value.ref a := ra
    subst e0
    refine oinit_ok T I2 ea ?_ fun s' J => ⟨.non, H2, J, rfl, q⟩
    have := Paired.length rr
    rw [sizeLine_eq]
    omega
/-! ### what a suite asks of the exception that it holds -/
/-- isinstance(e, c), e the exception at a of the class cls, with the dict d -/
def rIsX (K : PySem.W.Frag) (cls : Value) (d : Option Addr) (a : Addr) : List V → Hp → VK → Prop := fun xs H Q =>
  ∃ (D : Addr) (c : V) (cv : Value) (b : Bool), xs = [.ref a, c] ∧ cls = .ref D ∧ (∀ u, RelV c u → u = cv) ∧ ExcC K D ∧ PySem.W.kitOne K (.ref D) cv = some b ∧ (d = none ∨ ∃ dd fs, d = some dd ∧ H dd = some (.xd fs)) ∧ Q (.bl b) H
theorem inst_xd {X : Cx} {pins : List (Addr × Obj)} {σ : L2.St} {H : Hp} {s : Shared} {a D : Addr} {oe : Obj} {cls : Value} {d : Option Addr} {vs : Array Value} (I : Inv X pins σ H s) (ha : s.heap.get? a = some oe) (hz : Zc cls d oe) (hv : oe.data = .fields vs) (hc : cls = .ref D)
    (hd : d = none ∨ ∃ dd fs, d = some dd ∧ H dd = some (.xd fs)) : ∃ od, PySem.W.InstAt s.heap a oe D od := by
  have no : PySem.W.notCls oe = true := by
    unfold PySem.W.notCls
    rw [hv] <;> rfl
  have hcl : oe.cls = .ref D := hz.1.trans hc
  have hdd : oe.dict = d := hz.2
  rcases hd with hd | ⟨dd, fs, hd, hx⟩
  · exact ⟨none, ha, hcl, no, by rw [hdd, hd]; trivial⟩
  · have hx' : ObjOk X.prog X.w H s.heap dd (.xd fs) := I.hok dd _ hx
    obtain ⟨mA, hns, _⟩ := hx'
    obtain ⟨od, ho, _⟩ := lookIn_ns hns
    exact ⟨some od, ha, hcl, no, by rw [hdd, hd]; exact ho⟩
theorem call_isX {X : Cx} {a : Addr} {oe : Obj} {cls : Value} {d : Option Addr} {pn : List (Addr × Obj)} (hz : Zc cls d oe) (hf : ∃ vs, oe.data = .fields vs) : CallR (X.suite a ((a, oe) :: pn)) (.builtin "isinstance") (rIsX X.K cls d a) := by
  intro pins s σ H xs us Q I rr h
  obtain ⟨D, c, cv, b, rfl, hcl, hcv, C, e, hd, q⟩ := h
  cases rr with
  | cons r0 rr =>
  cases rr with
  | cons r1 rr =>
  cases rr
  cases r0
  obtain rfl := hcv _ r1
  obtain ⟨hat, _⟩ := I.pin (a, oe) (List.mem_append_left _ (.head _))
  obtain ⟨vs, hv⟩ := hf
  obtain ⟨od, J⟩ := inst_xd I hat hz hv hcl hd
  have hcs : (PySem.W.clsIn X.K D).isSome = true := by
    obtain ⟨cd, hc, _⟩ := PySem.W.any_some C.hd
    rw [hc] <;> rfl
  exact PySem.W.kia_one (PySem.W.kitx_exc hcs C.hg C.hk C.hs C.ha C.hn C.ht C.hm) I.kIn J e (fun z => by cases z) fun tk => ⟨.bl b, H, I.kept (t' := tk) fun _ _ z => z, rfl, q⟩
/-- e.n -/
def tXg (K : PySem.W.Frag) (a : Addr) (cls : Value) (d : Option Addr) (n : Str) (te : TE) : TE := fun σ H Q => te σ H fun x H1 => x = .ref a ∧
  ∃ (C dd : Addr) (fs : List (Str × V)) (v : V), cls = .ref C ∧ XfC K C ∧ PySem.W.findIn K (.ref C) n = some none ∧ d = some dd ∧ H1 dd = some (.xd fs) ∧ fs.lookup n = some v ∧ Q v H1
theorem pe_xg {X : Cx} {a : Addr} {oe : Obj} {cls : Value} {d : Option Addr} {pn : List (Addr × Obj)} {e : Expr} {te : TE} {pos : Pos} {n : Str} (hz : Zc cls d oe) (hf : ∃ vs, oe.data = .fields vs) (he : PE (X.suite a ((a, oe) :: pn)) e te)
    (hb : attributeBase e n X.env (eval e X.env) = eval e X.env := by rfl) : PE (X.suite a ((a, oe) :: pn)) (.Attribute e n pos) (tXg X.K a cls d n te) := by
  constructor
  intro pins s σ H Q I h
  refine attr_of hb (thn (he.run pins s σ H _ I h) fun u s2 hh => ?_)
  obtain ⟨x, H2, I2, rx, rfl, C, dd, fs, v, hc, T, hno, rfl, hx, hl, q⟩ := hh
  have eu : u = Value.ref a := rx
  subst eu
  obtain ⟨hat, _⟩ := I2.pin (a, oe) (List.mem_append_left _ (.head _))
  obtain ⟨vs, hv⟩ := hf
  have hx' : ObjOk X.prog X.w H2 s2.heap dd (.xd fs) := I2.hok dd _ hx
  obtain ⟨mA, hns, hr⟩ := hx'
  obtain ⟨od, ho, hlk⟩ := lookIn_ns hns
  obtain ⟨w', hw, rw'⟩ := RelO.some_of (v := v) (o := mA n) (hl ▸ hr n)
  have no : PySem.W.notCls oe = true := by
    unfold PySem.W.notCls
    rw [hv] <;> rfl
  have J : PySem.W.InstAt s2.heap a oe C (some od) := ⟨hat, hz.1.trans hc, no, by rw [show oe.dict = some dd from hz.2]; exact ho⟩
  exact HandSPX.exc_get I2.kIn J T.ga T.gg T.exC (PySem.W.findObj_own T.hdC hno rfl (by rw [hlk, hw])) (handed_of rw') ⟨v, H2, I2.tok _, rw', q⟩
/-! ### a def whose code object is known -/
section
variable {P : Program} {w : World} {K : PySem.W.Frag} {mg : Str → Option Value} {base : Heap}
/-- the def at f: its code object stands at c -/
def FunC (K : PySem.W.Frag) (x qual : Str) (st : Stmt) (f : Addr) (fd : FuncData) (c : Addr) : Prop :=
  ∃ (oc : Value) (od : Option Addr) (kV doc pm : Value) (an : Option Addr) (ct : Value) (osl : Array (Option Value)), fd = PySem.W.fnOf x qual (defArgs st) (defBody st) (defScope st) .none kV doc pm an (.ref c) ct ∧ K.lookup f = some ⟨oc, od, .func fd, osl⟩ ∧ PySem.W.codeIn K (.ref c) qual = true
theorem FunC.ok {x qual : Str} {st : Stmt} {f c : Addr} {fd : FuncData} {N ps : List Str} {k : Nat} {sp : Sp} (F : FunC K x qual st f fd c) (S : FnScope N ps (defScope st)) (len : ∀ vs H Q E, sp vs H Q E → vs.length = ps.length)
    (body : ∀ (A : Around) (outer : List Env) (s : Shared) (H : Hp) (vs : List V) (Q : VK) (E : XK), Room k (A.deeper (envOfC qual (defScope st) s.heap.objs.size f (.ref c))) → sp vs H Q E →
      ∃ t, PSs (cxOf CX0 P w K mg base N qual (defScope st) f (.ref c) A outer s H E).nox (defBody st) t ∧ t { nx := fun _ H' => Q .non H', rt := Q } (start N vs) H) : FnOk P w K mg base CX0 (k + 1) f fd ps sp := by
  obtain ⟨oc, od, kV, doc, pm, an, ct, osl, rfl, lk, hcd⟩ := F
  exact fn_of lk hcd S len fun A outer s H vs Q E hr hsp => let ⟨t, h, q⟩ := body A outer s H vs Q E hr hsp; ⟨t, h.nox, q⟩
end
/-! ### a call within a lambda's body -/
theorem takes_lam {X : Cx} {A : Around} {outer : List Env} {s : Shared} {H : Hp} {E : XK} {scope : Scope} {f c' : Addr} : Takes (LamX.lamCx X A outer s H E scope f c') (fun cls d _ H => E cls d H) := takes_of rfl rfl rfl rfl
theorem pass_lam {X : Cx} {A : Around} {outer : List Env} {s : Shared} {H : Hp} {E : XK} {scope : Scope} {f c' : Addr} : Passes (L2.CX X.prog X.w) (LamX.lamCx X A outer s H E scope f c') E := passes_call takes_lam fun _ _ _ _ h => h
end TL
namespace TL
open PySem PySem.Spec PyProof.Rows L2
/-! ### a text, not at all or once -/
def rRepS : R2 := fun x y H Q => ∃ (z : Str) (k : Int), x = .str z ∧ y = .int k ∧ ((k = 0 ∧ Q (.str "") H) ∨ (k = 1 ∧ Q (.str z) H))
theorem op_repS {X : Cx} : OpR X (binaryOp .Mult) rRepS := by
  intro pins s σ H x y v u Q I rx ry h
  obtain ⟨z, k, rfl, rfl, h⟩ := h
  obtain ⟨t, rfl⟩ := rx
  obtain ⟨t2, rfl⟩ := ry
  rcases h with ⟨rfl, q⟩ | ⟨rfl, q⟩
  · exact PySem.P.mul_str_none (by decide) (by decide) ⟨.str "", H, I.tok _, ⟨_, rfl⟩, q⟩
  · refine PySem.P.mul_str (by decide) (fun _ z => absurd z (by simp)) (fun _ z => absurd z (by simp)) ?_
    rw [if_neg (by decide), if_pos (by simp)]
    exact ⟨.str z, H, I, ⟨_, rfl⟩, q⟩
/-! ### which of the kinds an exception is -/
/-- D: the class of the j-th kind -/
structure Kind (K : PySem.W.Frag) (CS : List Addr) (CL D : Addr) (j : Nat) : Prop where
  ec : ExcC K D
  ks : ∀ (i : Nat) (c : Addr), CS[i]? = some c → PySem.W.kitOne K (.ref D) (.ref c) = some (decide (i = j))
  iv : PySem.W.kitOne K (.ref D) (.type "ValueError") = some true
  xm : PySem.W.exmOne K (.ref D) (.ref CL) = some true
theorem kinds9 {K : PySem.W.Frag} {D : Addr} {j : Nat} {c0 c1 c2 c3 c4 c5 c6 c7 c8 : Addr} {b0 b1 b2 b3 b4 b5 b6 b7 b8 : Bool} (h0 : PySem.W.kitOne K (.ref D) (.ref c0) = some b0) (h1 : PySem.W.kitOne K (.ref D) (.ref c1) = some b1) (h2 : PySem.W.kitOne K (.ref D) (.ref c2) = some b2)
    (h3 : PySem.W.kitOne K (.ref D) (.ref c3) = some b3) (h4 : PySem.W.kitOne K (.ref D) (.ref c4) = some b4) (h5 : PySem.W.kitOne K (.ref D) (.ref c5) = some b5) (h6 : PySem.W.kitOne K (.ref D) (.ref c6) = some b6) (h7 : PySem.W.kitOne K (.ref D) (.ref c7) = some b7) (h8 : PySem.W.kitOne K (.ref D) (.ref c8) = some b8)
    (e : [b0, b1, b2, b3, b4, b5, b6, b7, b8] = (List.range 9).map fun i => decide (i = j)) : ∀ (i : Nat) (c : Addr), [c0, c1, c2, c3, c4, c5, c6, c7, c8][i]? = some c → PySem.W.kitOne K (.ref D) (.ref c) = some (decide (i = j)) := by
  intro i c hc
  have hl := (List.getElem?_eq_some_iff.mp hc).1
  have hl : i < 9 := hl
  have e' := congrArg (fun l : List Bool => l[i]?) e
  have er : (List.range 9)[i]? = some i := by rw [List.getElem?_eq_getElem (by simpa using hl), List.getElem_range]
  simp only [List.getElem?_map, er, Option.map_some] at e'
  have : i = 0 ∨ i = 1 ∨ i = 2 ∨ i = 3 ∨ i = 4 ∨ i = 5 ∨ i = 6 ∨ i = 7 ∨ i = 8 := by omega
  rcases this with rfl | rfl | rfl | rfl | rfl | rfl | rfl | rfl | rfl
  · cases hc; rw [h0]; exact e'
  · cases hc; rw [h1]; exact e'
  · cases hc; rw [h2]; exact e'
  · cases hc; rw [h3]; exact e'
  · cases hc; rw [h4]; exact e'
  · cases hc; rw [h5]; exact e'
  · cases hc; rw [h6]; exact e'
  · cases hc; rw [h7]; exact e'
  · cases hc; rw [h8]; exact e'
def wordN (j : Nat) : Str := (["manners", "count", "part", "item", "full", "log", "text", "end", "step"] : List Str).getD j ""
/-- what an exception's word and number are -/
def WordAt (K : PySem.W.Frag) (CS : List Addr) (CL : Addr) (cls : Value) (d : Option Addr) (H : Hp) (j : Nat) (num : Int) : Prop :=
  ∃ D, cls = .ref D ∧ j < 9 ∧ Kind K CS CL D j ∧ ((j ≠ 5 ∧ j ≠ 6 ∧ j ≠ 8 ∧ num = 0 ∧ d = none) ∨
    ∃ dd fs, d = some dd ∧ H dd = some (.xd fs) ∧ XfC K D ∧ (((j = 5 ∨ j = 6) ∧ PySem.W.findIn K (.ref D) "row" = some none ∧ fs.lookup ("row" : Str) = some (V.int num)) ∨ (j = 8 ∧ PySem.W.findIn K (.ref D) "at" = some none ∧ fs.lookup ("at" : Str) = some (V.int num))))
/-- of a work handed to _law_word: None, or the word and the number of what it raises -/
def TTw (K : PySem.W.Frag) (CS : List Addr) (CL : Addr) : (XK → Hp → VK → Prop) → Hp → VK → Prop := fun tl H Q => ∃ Ew : XK, tl Ew H (fun _ H' => Q .non H') ∧
  ∀ cls d H', Ew cls d H' → ∃ j num, WordAt K CS CL cls d H' j num ∧ ∀ t H2, Same H' H2 → H2 t = some (.tup [.str (wordN j), .int num]) → Q (.ref t) H2
end TL
namespace TL
open PySem PySem.Spec PyProof.Rows L2
/-- behind a made exception all else is as it was -/
theorem raised_same {H : Hp} {a dx : Addr} {fs : List (Str × V)} {o1 o2 o3 : HO} (ha : H a = none) (hd : H dx = none) : Same H (upd (del (upd (upd (upd H a o1) dx o2) a o3) a) dx (.xd fs)) := fun b o e => by
  have n1 : b ≠ dx := ne_of_none e hd
  have n2 : b ≠ a := ne_of_none e ha
  rw [upd_ne n1, del_ne n2, upd_ne n2, upd_ne n1, upd_ne n2]
  exact e
/-- a loop over a list of two -/
theorem for_pair {K : PySem.W.Frag} {a : Addr} {v0 v1 : V} {g : TG} {tb : TS} {D : Ends} {σ : L2.St} {H : Hp} (P0 P1 P2 : L2.St → Hp → Prop) (h0 : P0 σ H) (l0 : ∀ σ H, P0 σ H → SqL K H a [v0, v1]) (l1 : ∀ σ H, P1 σ H → SqL K H a [v0, v1]) (l2 : ∀ σ H, P2 σ H → SqL K H a [v0, v1])
    (s0 : ∀ σ H, P0 σ H → g v0 σ H fun σ2 H2 => tb { D with nx := P1, ct := P1, bk := D.nx } σ2 H2)
    (s1 : ∀ σ H, P1 σ H → g v1 σ H fun σ2 H2 => tb { D with nx := P2, ct := P2, bk := D.nx } σ2 H2)
    (hd : ∀ σ H, P2 σ H → D.nx σ H) : ForW (Itl K a) g tb D σ H := by
  refine for_list (K := K) (a := a) (xs := [v0, v1]) (fun i σ H => match i with | 0 => P0 σ H | 1 => P1 σ H | _ => P2 σ H) h0 ?_ ?_ hd
  · intro i σ H hi p
    match i, p with
    | 0, p => exact l0 σ H p
    | 1, p => exact l1 σ H p
    | _ + 2, p => exact l2 σ H p
  · intro i x σ H hx p
    match i, hx, p with
    | 0, hx, p =>
      have e : v0 = x := Option.some.inj hx
      subst e
      exact s0 σ H p
    | 1, hx, p =>
      have e : v1 = x := Option.some.inj hx
      subst e
      exact s1 σ H p
    | n + 2, hx, p => simp at hx
theorem log_small {i : Int} (h0 : 0 ≤ i) (h9 : i ≤ 9) : i.natAbs.log2 < 1920 := by
  have : i = 0 ∨ i = 1 ∨ i = 2 ∨ i = 3 ∨ i = 4 ∨ i = 5 ∨ i = 6 ∨ i = 7 ∨ i = 8 ∨ i = 9 := by omega
  rcases this with rfl | rfl | rfl | rfl | rfl | rfl | rfl | rfl | rfl | rfl <;> decide
end TL
namespace TL
open PySem PySem.Spec PyProof.Rows L2
/-! ### the table of the law's lambdas -/
def lamQ : Str := ("law" : Str) ++ ".<locals>." ++ "<lambda>"
theorem tab_frm {P R : Addr} {q : Str} {H H' : Hp} {xs : List V} (h : LamX.TabS H P q) (hR : H R = some (.lst xs)) (f : Frm [R] H H') : LamX.TabS H' P q := by
  obtain ⟨ps, h1, h2, h3⟩ := h
  have n1 : P ≠ R := fun e => by
    rw [e, hR] at h1
    cases h1
  refine ⟨ps, f _ _ h1 (by simp [n1]), h2, fun pos cv hc => ?_⟩
  obtain ⟨c, e1, e2⟩ := h3 pos cv hc
  have n2 : c ≠ R := fun e => by
    rw [e, hR] at e2
    unfold LamX.CodeO at e2
    cases e2
  exact ⟨c, e1, f _ _ e2 (by simp [n2])⟩
theorem tabs_frm {T : List (Addr × Str)} {R : Addr} {H H' : Hp} {xs : List V} (h : LamX.Tabs T H) (hR : H R = some (.lst xs)) (f : Frm [R] H H') : LamX.Tabs T H' := fun p hp => tab_frm (h p hp) hR f
theorem tabs_same {T : List (Addr × Str)} {H H' : Hp} (h : LamX.Tabs T H) (s : Same H H') : LamX.Tabs T H' := h.ext s
theorem tabs_dice {T : List (Addr × Str)} {d : Addr} {H H' : Hp} (h : LamX.Tabs T H) (D : DiceAt H d) (f : Frm [d] H H') : LamX.Tabs T H' := by
  obtain ⟨ns, h1, _⟩ := D
  exact tabs_frm h h1 f
theorem dice_ext {d : Addr} {H H' : Hp} (D : DiceAt H d) (e : LamX.ExtN H H') : DiceAt H' d := by
  obtain ⟨ns, h1, h2⟩ := D
  exact ⟨ns, e _ _ h1 (fun ps z => by cases z), h2⟩
theorem look1 {n : Str} {v : V} : List.lookup n [(n, v)] = some v := by simp [List.lookup]
theorem word6 : wordN 6 = "text" := rfl
theorem word5 : wordN 5 = "log" := rfl
theorem word8 : wordN 8 = "step" := rfl
theorem lv_word {z : Str} (hz : (PyData.str z).canLay0 = true) (n : Int) : lv 1 (.tuple [.str z, .int n]) := by
  refine ⟨(by show 2 ≤ 100000; decide), fun x hx => ?_⟩
  rcases List.mem_cons.mp hx with rfl | hx
  · simpa [lv] using hz
  · rcases List.mem_cons.mp hx with rfl | hx
    · simp [lv]
    · cases hx
theorem im_word {H : Hp} {u : Addr} {z : Str} {n : Int} (h : H u = some (.tup [.str z, .int n])) : Im H (.ref u) (.tuple [.str z, .int n]) := .tup h (.cons (.str _) (.cons (.int _) .nil))
end TL

namespace TL
open PySem PySem.Spec PyProof.Rows L2
def top (i : Nat) : Stmt := PySem.Challenge.pw_trainline_k14_texts_refused.main.body.getD i (.Pass ⟨0, 0, 0, 0⟩)
abbrev s_is_between : Stmt := top 13
abbrev N_is_between : List Str := ["part", "low", "high"]
abbrev P_is_between : List Str := ["part", "low", "high"]
theorem sc_is_between : FnScope N_is_between P_is_between (defScope s_is_between) := ⟨rfl, rfl, rfl, by decide +kernel, rfl, by decide +kernel, by decide +kernel⟩
abbrev s_is_row : Stmt := top 16
abbrev N_is_row : List Str := ["row"]
abbrev P_is_row : List Str := ["row"]
theorem sc_is_row : FnScope N_is_row P_is_row (defScope s_is_row) := ⟨rfl, rfl, rfl, by decide +kernel, rfl, by decide +kernel, by decide +kernel⟩
abbrev s_need_log : Stmt := top 17
abbrev N_need_log : List Str := ["rows", "number", "row"]
abbrev P_need_log : List Str := ["rows"]
theorem sc_need_log : FnScope N_need_log P_need_log (defScope s_need_log) := ⟨rfl, rfl, rfl, by decide +kernel, rfl, by decide +kernel, by decide +kernel⟩
abbrev s_written : Stmt := top 21
abbrev N_written : List Str := ["rows", "found", "mine", "joined", "yours", "likewise"]
abbrev P_written : List Str := ["rows"]
theorem sc_written : FnScope N_written P_written (defScope s_written) := ⟨rfl, rfl, rfl, by decide +kernel, rfl, by decide +kernel, by decide +kernel⟩
abbrev s_half_of : Stmt := top 22
abbrev N_half_of : List Str := ["word"]
abbrev P_half_of : List Str := ["word"]
theorem sc_half_of : FnScope N_half_of P_half_of (defScope s_half_of) := ⟨rfl, rfl, rfl, by decide +kernel, rfl, by decide +kernel, by decide +kernel⟩
abbrev s_row_of : Stmt := top 23
abbrev N_row_of : List Str := ["line", "halves", "word"]
abbrev P_row_of : List Str := ["line"]
theorem sc_row_of : FnScope N_row_of P_row_of (defScope s_row_of) := ⟨rfl, rfl, rfl, by decide +kernel, rfl, by decide +kernel, by decide +kernel⟩
abbrev s_read : Stmt := top 24
abbrev N_read : List Str := ["text", "found", "number", "line", "row"]
abbrev P_read : List Str := ["text"]
theorem sc_read : FnScope N_read P_read (defScope s_read) := ⟨rfl, rfl, rfl, by decide +kernel, rfl, by decide +kernel, by decide +kernel⟩
abbrev s__law_dice : Stmt := top 26
abbrev N__law_dice : List Str := ["_law_script", "_law_k", "_law_found", "_law_cell"]
abbrev P__law_dice : List Str := ["_law_script", "_law_k"]
theorem sc__law_dice : FnScope N__law_dice P__law_dice (defScope s__law_dice) := ⟨rfl, rfl, rfl, by decide +kernel, rfl, by decide +kernel, by decide +kernel⟩
abbrev s__law_off : Stmt := top 27
abbrev N__law_off : List Str := ["_law_d", "_law_most", "_law_found"]
abbrev P__law_off : List Str := ["_law_d", "_law_most"]
theorem sc__law_off : FnScope N__law_off P__law_off (defScope s__law_off) := ⟨rfl, rfl, rfl, by decide +kernel, rfl, by decide +kernel, by decide +kernel⟩
abbrev s__law_alike : Stmt := top 28
abbrev N__law_alike : List Str := ["_law_found", "_law_due", "_law_k"]
abbrev P__law_alike : List Str := ["_law_found", "_law_due"]
theorem sc__law_alike : FnScope N__law_alike P__law_alike (defScope s__law_alike) := ⟨rfl, rfl, rfl, by decide +kernel, rfl, by decide +kernel, by decide +kernel⟩
abbrev s__law_word : Stmt := top 29
abbrev N__law_word : List Str := ["_law_work", "e", "_law_kinds", "_law_word_here"]
abbrev P__law_word : List Str := ["_law_work"]
theorem sc__law_word : FnScope N__law_word P__law_word (defScope s__law_word) := ⟨rfl, rfl, rfl, by decide +kernel, rfl, by decide +kernel, by decide +kernel⟩
abbrev s__law_row : Stmt := top 30
abbrev N__law_row : List Str := ["_law_d", "_law_mine", "_law_yours"]
abbrev P__law_row : List Str := ["_law_d"]
theorem sc__law_row : FnScope N__law_row P__law_row (defScope s__law_row) := ⟨rfl, rfl, rfl, by decide +kernel, rfl, by decide +kernel, by decide +kernel⟩
abbrev s__law_log : Stmt := top 31
abbrev N__law_log : List Str := ["_law_d", "_law_found", "_law_turn"]
abbrev P__law_log : List Str := ["_law_d"]
theorem sc__law_log : FnScope N__law_log P__law_log (defScope s__law_log) := ⟨rfl, rfl, rfl, by decide +kernel, rfl, by decide +kernel, by decide +kernel⟩
abbrev s__law_half : Stmt := top 32
abbrev N__law_half : List Str := ["_law_word_here", "_law_manner", "_law_joined"]
abbrev P__law_half : List Str := ["_law_word_here"]
theorem sc__law_half : FnScope N__law_half P__law_half (defScope s__law_half) := ⟨rfl, rfl, rfl, by decide +kernel, rfl, by decide +kernel, by decide +kernel⟩
abbrev s__law_changed : Stmt := top 33
abbrev N__law_changed : List Str := ["_law_d", "_law_text", "_law_kind", "_law_at", "_law_signs", "_law_sign", "_law_rows", "_law_k", "_law_two", "_law_words", "_law_j", "_law_odd"]
abbrev P__law_changed : List Str := ["_law_d", "_law_text"]
theorem sc__law_changed : FnScope N__law_changed P__law_changed (defScope s__law_changed) := ⟨rfl, rfl, rfl, by decide +kernel, rfl, by decide +kernel, by decide +kernel⟩
abbrev s_law : Stmt := top 34
abbrev N_law : List Str := ["_law_script", "_law_d", "_law_some", "_law_turn", "_law_text", "_law_change", "_law_rows", "_law_due", "_law_number", "_law_line", "_law_halves", "_law_word_here"]
abbrev P_law : List Str := ["_law_script"]
theorem sc_law : FnScope N_law P_law (defScope s_law) := ⟨rfl, rfl, rfl, by decide +kernel, rfl, by decide +kernel, by decide +kernel⟩
abbrev s_BadText_init : Stmt := inClass (top 10) 0
abbrev N_BadText_init : List Str := ["self", "row"]
abbrev P_BadText_init : List Str := ["self", "row"]
theorem sc_BadText_init : FnScope N_BadText_init P_BadText_init (defScope s_BadText_init) := ⟨rfl, rfl, rfl, by decide +kernel, rfl, by decide +kernel, by decide +kernel⟩
/-- what the top has written -/
structure Txt (K : PySem.W.Frag) (mg : Str → Option Value) where
  a_is_between : Addr
  fd_is_between : FuncData
  F_is_between : Fun K "is_between" "is_between" s_is_between a_is_between fd_is_between
  g_is_between : mg "is_between" = some (.ref a_is_between)
  b_is_between : Binds K fd_is_between P_is_between []
  a_is_row : Addr
  fd_is_row : FuncData
  F_is_row : Fun K "is_row" "is_row" s_is_row a_is_row fd_is_row
  g_is_row : mg "is_row" = some (.ref a_is_row)
  b_is_row : Binds K fd_is_row P_is_row []
  a_need_log : Addr
  fd_need_log : FuncData
  F_need_log : Fun K "need_log" "need_log" s_need_log a_need_log fd_need_log
  g_need_log : mg "need_log" = some (.ref a_need_log)
  b_need_log : Binds K fd_need_log P_need_log []
  a_written : Addr
  fd_written : FuncData
  F_written : Fun K "written" "written" s_written a_written fd_written
  g_written : mg "written" = some (.ref a_written)
  b_written : Binds K fd_written P_written []
  a_half_of : Addr
  fd_half_of : FuncData
  F_half_of : Fun K "half_of" "half_of" s_half_of a_half_of fd_half_of
  g_half_of : mg "half_of" = some (.ref a_half_of)
  b_half_of : Binds K fd_half_of P_half_of []
  a_row_of : Addr
  fd_row_of : FuncData
  F_row_of : Fun K "row_of" "row_of" s_row_of a_row_of fd_row_of
  g_row_of : mg "row_of" = some (.ref a_row_of)
  b_row_of : Binds K fd_row_of P_row_of []
  a_read : Addr
  fd_read : FuncData
  F_read : Fun K "read" "read" s_read a_read fd_read
  g_read : mg "read" = some (.ref a_read)
  b_read : Binds K fd_read P_read []
  a__law_dice : Addr
  fd__law_dice : FuncData
  F__law_dice : Fun K "_law_dice" "_law_dice" s__law_dice a__law_dice fd__law_dice
  g__law_dice : mg "_law_dice" = some (.ref a__law_dice)
  b__law_dice : Binds K fd__law_dice P__law_dice []
  a__law_off : Addr
  fd__law_off : FuncData
  F__law_off : Fun K "_law_off" "_law_off" s__law_off a__law_off fd__law_off
  g__law_off : mg "_law_off" = some (.ref a__law_off)
  b__law_off : Binds K fd__law_off P__law_off []
  a__law_alike : Addr
  fd__law_alike : FuncData
  F__law_alike : Fun K "_law_alike" "_law_alike" s__law_alike a__law_alike fd__law_alike
  g__law_alike : mg "_law_alike" = some (.ref a__law_alike)
  b__law_alike : Binds K fd__law_alike P__law_alike []
  a__law_word : Addr
  fd__law_word : FuncData
  F__law_word : Fun K "_law_word" "_law_word" s__law_word a__law_word fd__law_word
  g__law_word : mg "_law_word" = some (.ref a__law_word)
  b__law_word : Binds K fd__law_word P__law_word []
  a__law_row : Addr
  fd__law_row : FuncData
  F__law_row : Fun K "_law_row" "_law_row" s__law_row a__law_row fd__law_row
  g__law_row : mg "_law_row" = some (.ref a__law_row)
  b__law_row : Binds K fd__law_row P__law_row []
  a__law_log : Addr
  fd__law_log : FuncData
  F__law_log : Fun K "_law_log" "_law_log" s__law_log a__law_log fd__law_log
  g__law_log : mg "_law_log" = some (.ref a__law_log)
  b__law_log : Binds K fd__law_log P__law_log []
  a__law_half : Addr
  fd__law_half : FuncData
  F__law_half : Fun K "_law_half" "_law_half" s__law_half a__law_half fd__law_half
  g__law_half : mg "_law_half" = some (.ref a__law_half)
  b__law_half : Binds K fd__law_half P__law_half []
  a__law_changed : Addr
  fd__law_changed : FuncData
  F__law_changed : Fun K "_law_changed" "_law_changed" s__law_changed a__law_changed fd__law_changed
  g__law_changed : mg "_law_changed" = some (.ref a__law_changed)
  b__law_changed : Binds K fd__law_changed P__law_changed []
  a_law : Addr
  fd_law : FuncData
  F_law : Fun K "law" "law" s_law a_law fd_law
  g_law : mg "law" = some (.ref a_law)
  b_law : Binds K fd_law P_law []
  a_BadText_init : Addr
  fd_BadText_init : FuncData
  F_BadText_init : Fun K "__init__" "BadText.__init__" s_BadText_init a_BadText_init fd_BadText_init
  b_BadText_init : Binds K fd_BadText_init P_BadText_init []
  C_LineError : Addr
  c_LineError : mg "LineError" = some (.ref C_LineError)
  x_LineError : PySem.W.excIn K C_LineError [.type "ValueError", .type "Exception", .type "BaseException", .type "object"] "ValueError.__new__" = true
  k_LineError : PySem.W.keepIn K (.ref C_LineError) = true
  s_LineError : PySem.W.subIn K (.ref C_LineError) (.type "BaseException") = some true
  t_LineError : PySem.W.typeIn K (.ref C_LineError) = some (.type "type")
  C_BadManners : Addr
  c_BadManners : mg "BadManners" = some (.ref C_BadManners)
  x_BadManners : PySem.W.excIn K C_BadManners [.type "ValueError", .type "Exception", .type "BaseException", .type "object"] "ValueError.__new__" = true
  k_BadManners : PySem.W.keepIn K (.ref C_BadManners) = true
  s_BadManners : PySem.W.subIn K (.ref C_BadManners) (.type "BaseException") = some true
  t_BadManners : PySem.W.typeIn K (.ref C_BadManners) = some (.type "type")
  C_BadItem : Addr
  c_BadItem : mg "BadItem" = some (.ref C_BadItem)
  x_BadItem : PySem.W.excIn K C_BadItem [.type "ValueError", .type "Exception", .type "BaseException", .type "object"] "ValueError.__new__" = true
  k_BadItem : PySem.W.keepIn K (.ref C_BadItem) = true
  s_BadItem : PySem.W.subIn K (.ref C_BadItem) (.type "BaseException") = some true
  t_BadItem : PySem.W.typeIn K (.ref C_BadItem) = some (.type "type")
  C_Full : Addr
  c_Full : mg "Full" = some (.ref C_Full)
  x_Full : PySem.W.excIn K C_Full [.type "ValueError", .type "Exception", .type "BaseException", .type "object"] "ValueError.__new__" = true
  k_Full : PySem.W.keepIn K (.ref C_Full) = true
  s_Full : PySem.W.subIn K (.ref C_Full) (.type "BaseException") = some true
  t_Full : PySem.W.typeIn K (.ref C_Full) = some (.type "type")
  C_BadPart : Addr
  c_BadPart : mg "BadPart" = some (.ref C_BadPart)
  x_BadPart : PySem.W.excIn K C_BadPart [.type "ValueError", .type "Exception", .type "BaseException", .type "object"] "ValueError.__new__" = true
  k_BadPart : PySem.W.keepIn K (.ref C_BadPart) = true
  s_BadPart : PySem.W.subIn K (.ref C_BadPart) (.type "BaseException") = some true
  t_BadPart : PySem.W.typeIn K (.ref C_BadPart) = some (.type "type")
  C_BadCount : Addr
  c_BadCount : mg "BadCount" = some (.ref C_BadCount)
  x_BadCount : PySem.W.excIn K C_BadCount [.type "ValueError", .type "Exception", .type "BaseException", .type "object"] "ValueError.__new__" = true
  k_BadCount : PySem.W.keepIn K (.ref C_BadCount) = true
  s_BadCount : PySem.W.subIn K (.ref C_BadCount) (.type "BaseException") = some true
  t_BadCount : PySem.W.typeIn K (.ref C_BadCount) = some (.type "type")
  C_BadEnd : Addr
  c_BadEnd : mg "BadEnd" = some (.ref C_BadEnd)
  x_BadEnd : PySem.W.excIn K C_BadEnd [.type "ValueError", .type "Exception", .type "BaseException", .type "object"] "ValueError.__new__" = true
  k_BadEnd : PySem.W.keepIn K (.ref C_BadEnd) = true
  s_BadEnd : PySem.W.subIn K (.ref C_BadEnd) (.type "BaseException") = some true
  t_BadEnd : PySem.W.typeIn K (.ref C_BadEnd) = some (.type "type")
  C_BadStep : Addr
  c_BadStep : mg "BadStep" = some (.ref C_BadStep)
  k_BadStep : PySem.W.keepIn K (.ref C_BadStep) = true
  s_BadStep : PySem.W.subIn K (.ref C_BadStep) (.type "BaseException") = some true
  t_BadStep : PySem.W.typeIn K (.ref C_BadStep) = some (.type "type")
  C_BadLog : Addr
  c_BadLog : mg "BadLog" = some (.ref C_BadLog)
  k_BadLog : PySem.W.keepIn K (.ref C_BadLog) = true
  s_BadLog : PySem.W.subIn K (.ref C_BadLog) (.type "BaseException") = some true
  t_BadLog : PySem.W.typeIn K (.ref C_BadLog) = some (.type "type")
  C_BadText : Addr
  c_BadText : mg "BadText" = some (.ref C_BadText)
  k_BadText : PySem.W.keepIn K (.ref C_BadText) = true
  s_BadText : PySem.W.subIn K (.ref C_BadText) (.type "BaseException") = some true
  t_BadText : PySem.W.typeIn K (.ref C_BadText) = some (.type "type")
  bc_LineError : BaseC K C_LineError
  ox_BadText : OexC K C_BadText
  iC_BadText : PySem.W.findIn K (.ref C_BadText) "__init__" = some (some (.ref a_BadText_init))
  tI_BadText : PySem.W.typeIn K (.ref a_BadText_init) = some (.type "function")
  nx_BadText_row : PySem.W.findIn K (.ref C_BadText) "row" = some none
  xf_BadText : XfC K C_BadText
  wk_BadText : Kind K [C_BadManners, C_BadCount, C_BadPart, C_BadItem, C_Full, C_BadLog, C_BadText, C_BadEnd, C_BadStep] C_LineError C_BadText 6
  lC : Addr
  lP : Addr
  fl : FunC K "law" "law" s_law a_law fd_law lC
  tk_MOST : Tok
  v_MOST : mg "MOST" = some (.int 9 tk_MOST)
  tk_MOST_ROWS : Tok
  v_MOST_ROWS : mg "MOST_ROWS" = some (.int 300 tk_MOST_ROWS)
  tk_MARKS : Tok
  v_MARKS : mg "MARKS" = some (.str "-+" tk_MARKS)
  tk_FIGURES : Tok
  v_FIGURES : mg "FIGURES" = some (.str "0123456789" tk_FIGURES)
  n_ValueError : mg "ValueError" = none
  n_abs : mg "abs" = none
  n_all : mg "all" = none
  n_bool : mg "bool" = none
  n_enumerate : mg "enumerate" = none
  n_int : mg "int" = none
  n_isinstance : mg "isinstance" = none
  n_len : mg "len" = none
  n_list : mg "list" = none
  n_range : mg "range" = none
  n_str : mg "str" = none
  n_tuple : mg "tuple" = none
end TL

namespace TL
open PySem PySem.Spec PyProof.Rows L2
section
variable {P : Program} {w : World} {K : PySem.W.Frag} {mg : Str → Option Value} {base : Heap}
def sp_is_between (T : Txt K mg) : Sp := fun vs H Q _ => ∃ (x : V) (d : PyData) (lo hi : Int), vs = [x, .int lo, .int hi] ∧ Dp K H x d ∧ (∀ ds, d ≠ .list ds) ∧ Q (.bl (between d lo hi)) H
theorem ok_is_between (T : Txt K mg) : FnOk P w K mg base CX0 1 T.a_is_between T.fd_is_between P_is_between (sp_is_between T) := by
  skip
  refine T.F_is_between.ok sc_is_between (fun vs H Q E h => ?_) (fun cdv A outer s H vs Q E hr h => ?_)
  · obtain ⟨x, d, lo, hi, rfl, _⟩ := h
    rfl
  · obtain ⟨x, d, lo, hi, rfl, hd, nl, k⟩ := h
    refine ⟨_, (pss_one (ps_ret (pe_and (pe_callB call_isi (by rfl) T.n_isinstance (by decide +kernel) (pa_cons (pv 0) (pa_cons (pe_bltn (v := .ty "int") (u := .type "int") (by rfl) T.n_int (by decide +kernel) rfl) pa_nil))) (pe_and (pe_not (pe_callB call_isi (by rfl) T.n_isinstance (by decide +kernel) (pa_cons (pv 0) (pa_cons (pe_bltn (v := .ty "bool") (u := .type "bool") (by rfl) T.n_bool (by decide +kernel) rfl) pa_nil)))) (pe_one (pe_chain op_le op_le (pv 1) (pv 0) (pv 2))))))), ?_⟩
    have k0 : ∀ {b : Bool}, between d lo hi = b → Q (.bl b) H := fun e => by rw [← e]; exact k
    cases d with
    | int i =>
      cases hd
      refine ⟨_, rfl, _, _, _, _, _, rfl, .ty _, tyx_D (.int i), kit_ty kb_ii, _, rfl, iteT ?_⟩
      refine ⟨_, rfl, _, _, _, _, _, rfl, .ty _, tyx_D (.int i), kit_ty kb_ib, _, rfl, _, rfl, iteT ?_⟩
      refine ⟨_, rfl, _, rfl, _, _, rfl, rfl, _, rfl, ?_⟩
      refine iteD (fun h1 => ⟨_, rfl, _, _, rfl, rfl, k0 ?_⟩) (fun h1 => k0 ?_)
      · simp [between, h1]
      · simp [between, h1]
    | bool b =>
      cases hd
      refine ⟨_, rfl, _, _, _, _, _, rfl, .ty _, tyx_D (.bl b), kit_ty kb_bi, _, rfl, iteT ?_⟩
      refine ⟨_, rfl, _, _, _, _, _, rfl, .ty _, tyx_D (.bl b), kit_ty kb_bb, _, rfl, _, rfl, iteF ?_⟩
      exact k0 rfl
    | none =>
      cases hd
      refine ⟨_, rfl, _, _, _, _, _, rfl, .ty _, tyx_D .non, kit_ty kb_ni, _, rfl, iteF ?_⟩
      exact k0 rfl
    | str z =>
      cases hd
      refine ⟨_, rfl, _, _, _, _, _, rfl, .ty _, tyx_D (.str z), kit_ty kb_si, _, rfl, iteF ?_⟩
      exact k0 rfl
    | tuple ds =>
      refine ⟨_, rfl, _, _, _, _, _, rfl, .ty _, tyx_D hd, kit_ty kb_ti, _, rfl, iteF ?_⟩
      exact k0 rfl
    | list ds => exact (nl ds rfl).elim
    | dict _ => cases hd

end
end TL

namespace TL
open PySem PySem.Spec PyProof.Rows L2
section
variable {P : Program} {w : World} {K : PySem.W.Frag} {mg : Str → Option Value} {base : Heap}
def sp_is_row (T : Txt K mg) : Sp := fun vs H Q _ => ∃ (x : V) (d : PyData), vs = [x] ∧ Dp K H x d ∧ rdat d ∧ Q (.bl (isRowD d)) H
theorem ok_is_row (T : Txt K mg) : FnOk P w K mg base CX0 2 T.a_is_row T.fd_is_row P_is_row (sp_is_row T) := by
  have G_is_between := ok_is_between (P := P) (w := w) (base := base) T
  refine T.F_is_row.ok sc_is_row (fun vs H Q E h => ?_) (fun cdv A outer s H vs Q E hr h => ?_)
  · obtain ⟨x, d, rfl, _⟩ := h
    rfl
  · obtain ⟨x, d, rfl, hd, hm, k⟩ := h
    refine ⟨_, (pss_cons (ps_if (PW.pt (pw_or (pt_not (pt_val (pe_callB call_isi (by rfl) T.n_isinstance (by decide +kernel) (pa_cons (pv 0) (pa_cons (pe_bltn (v := .ty "tuple") (u := .type "tuple") (by rfl) T.n_tuple (by decide +kernel) rfl) pa_nil))))) (pw_or1 (pt_cmpR op_ne (pe_callB call_len_seq (by rfl) T.n_len (by decide +kernel) (pa_cons (pv 0) pa_nil)) pe_int (nomark _)))))
      (pss_one (ps_ret pe_bl))
      pss_nil)
    (pss_cons (ps_if (PW.pt (pw_or (pt_not (pt_val (pe_call G_is_between (hr.mono (by decide)) rfl T.g_is_between T.F_is_between.kp T.b_is_between .nil pass0 (pa_cons (pe_ix ix_tup (pv 0) pe_int (fun _ _ => rfl)) (pa_cons pe_int (pa_cons (pe_glob (v := .int 9) rfl T.v_MOST ⟨_, rfl⟩) pa_nil)))))) (pw_or1 (pt_not (pt_val (pe_call G_is_between (hr.mono (by decide)) rfl T.g_is_between T.F_is_between.kp T.b_is_between .nil pass0 (pa_cons (pe_ix ix_tup (pv 0) pe_int (fun _ _ => rfl)) (pa_cons pe_int (pa_cons (pe_glob (v := .int 9) rfl T.v_MOST ⟨_, rfl⟩) pa_nil)))))))))
      (pss_one (ps_ret pe_bl))
      pss_nil)
    (pss_one (ps_ret (pe_and (pe_callB call_isi (by rfl) T.n_isinstance (by decide +kernel) (pa_cons (pe_ix ix_tup (pv 0) pe_int (fun _ _ => rfl)) (pa_cons (pe_bltn (v := .ty "bool") (u := .type "bool") (by rfl) T.n_bool (by decide +kernel) rfl) pa_nil))) (pe_one (pe_callB call_isi (by rfl) T.n_isinstance (by decide +kernel) (pa_cons (pe_ix ix_tup (pv 0) pe_int (fun _ _ => rfl)) (pa_cons (pe_bltn (v := .ty "bool") (u := .type "bool") (by rfl) T.n_bool (by decide +kernel) rfl) pa_nil))))))))), ?_⟩
    have k0 : ∀ {b : Bool}, isRowD d = b → Q (.bl b) H := fun e => by rw [← e]; exact k
    cases d with
    | none => cases hd; exact ⟨_, rfl, _, _, _, _, _, rfl, .ty _, tyx_D .non, kit_ty kb_nt, _, rfl, iteT (iteT (k0 rfl))⟩
    | bool b => cases hd; exact ⟨_, rfl, _, _, _, _, _, rfl, .ty _, tyx_D (.bl b), kit_ty kb_bt, _, rfl, iteT (iteT (k0 rfl))⟩
    | int i => cases hd; exact ⟨_, rfl, _, _, _, _, _, rfl, .ty _, tyx_D (.int i), kit_ty kb_it, _, rfl, iteT (iteT (k0 rfl))⟩
    | str z => cases hd; exact ⟨_, rfl, _, _, _, _, _, rfl, .ty _, tyx_D (.str z), kit_ty kb_st, _, rfl, iteT (iteT (k0 rfl))⟩
    | list ds => exact hm.elim
    | dict _ => cases hd
    | tuple ds =>
      have hd' := hd
      cases hd' with
      | tup hT hA =>
      rename_i a xs
      have hxl := hA.length
      refine ⟨_, rfl, _, _, _, _, _, rfl, .ty _, tyx_D hd, kit_ty kb_tt, _, rfl, iteF ?_⟩
      refine ⟨_, rfl, a, _, rfl, .inr hT, rfl, _, rfl, ?_⟩
      refine iteN (fun hne => k0 ?_) (fun he => ?_)
      · match ds, hxl with
        | [], _ => rfl
        | [_], _ => rfl
        | [_, _], _ => rfl
        | [_, _, _], _ => rfl
        | [_, _, _, _], hxl => exact (hne (by rw [hxl]; rfl)).elim
        | _ :: _ :: _ :: _ :: _ :: _, _ => rfl
      · have hl4 : ds.length = 4 := by
          have := vint_inj.mp he
          omega
        obtain ⟨d0, d1, d2, d3, rfl⟩ : ∃ d0 d1 d2 d3, ds = [d0, d1, d2, d3] := by
          match ds, hl4 with
          | [d0, d1, d2, d3], _ => exact ⟨d0, d1, d2, d3, rfl⟩
        cases hA with
        | cons h0 hA => cases hA with
          | cons h1 hA => cases hA with
            | cons h2 hA => cases hA with
              | cons h3 hA =>
              cases hA
              rename_i v0 v1 v2 v3
              have e : isRowD (.tuple [d0, d1, d2, d3]) = (between d0 0 9 && (between d2 0 9 && (isB d1 && isB d3))) := rfl
              refine ⟨_, rfl, a, _, _, _, rfl, rfl, hT, atI_nat (j := 0) rfl, ?_⟩
              refine ⟨v0, d0, 0, 9, rfl, h0, hm d0 (by simp), _, rfl, ?_⟩
              refine iteB (fun hb => ?_) (fun hb => ?_)
              · have hb : between d0 0 9 = false := by simpa using hb
                exact iteT (k0 (by rw [e, hb]; rfl))
              have hb : between d0 0 9 = true := by simpa using hb
              refine ⟨_, rfl, a, _, _, _, rfl, rfl, hT, atI_nat (j := 2) rfl, ?_⟩
              refine ⟨v2, d2, 0, 9, rfl, h2, hm d2 (by simp), _, rfl, ?_⟩
              refine iteB (fun hc => ?_) (fun hc => ?_)
              · have hc : between d2 0 9 = false := by simpa using hc
                exact k0 (by rw [e, hb, hc]; rfl)
              have hc : between d2 0 9 = true := by simpa using hc
              have isb : ∀ {d : PyData}, (∀ l, d ≠ .list l) → (∀ l, d ≠ .dict l) → kitB (kty d) "bool" = some (isB d) := by
                intro d n1 n2
                cases d with
                | none => exact kb_nb
                | bool b => exact kb_bb
                | int i => exact kb_ib
                | str z => exact kb_sb
                | tuple ds => exact kb_tb
                | list ds => exact (n1 ds rfl).elim
                | dict ds => exact (n2 ds rfl).elim
              have nd : ∀ {v : V} {d : PyData}, Dp K H v d → ∀ l, d ≠ .dict l := fun h l z => by subst z; cases h
              refine ⟨_, rfl, a, _, _, _, rfl, rfl, hT, atI_nat (j := 1) rfl, ?_⟩
              refine ⟨_, _, _, _, _, rfl, .ty _, tyx_D h1, kit_ty (isb (hm d1 (by simp)) (nd h1)), _, rfl, ?_⟩
              refine iteB (fun hx => ?_) (fun hx => k0 (by rw [e, hb, hc, hx]; rfl))
              refine ⟨_, rfl, a, _, _, _, rfl, rfl, hT, atI_nat (j := 3) rfl, ?_⟩
              refine ⟨_, _, _, _, _, rfl, .ty _, tyx_D h3, kit_ty (isb (hm d3 (by simp)) (nd h3)), k0 (by rw [e, hb, hc, hx]; rfl)⟩

end
end TL

namespace TL
open PySem PySem.Spec PyProof.Rows L2
section
variable {P : Program} {w : World} {K : PySem.W.Frag} {mg : Str → Option Value} {base : Heap}
/-- of a log, three hundred rows at most -/
def sp_need_log (T : Txt K mg) : Sp := fun vs H Q _ => ∃ (a : Addr) (xs : List V) (rs : List Row), vs = [.ref a] ∧ SqL K H a xs ∧ ImAll H xs (rs.map rowD) ∧ (∀ r ∈ rs, okRow r) ∧ rs.length ≤ 300 ∧ ∀ H', Same H H' → Q .non H'
theorem ok_need_log (T : Txt K mg) : FnOk P w K mg base CX0 3 T.a_need_log T.fd_need_log P_need_log (sp_need_log T) := by
  have G_is_row := ok_is_row (P := P) (w := w) (base := base) T
  refine T.F_need_log.ok sc_need_log (fun vs H Q E h => ?_) (fun cdv A outer s H vs Q E hr h => ?_)
  · obtain ⟨a, xs, rs, rfl, _⟩ := h
    rfl
  · obtain ⟨a, xs, rs, rfl, hL, hA, hok, hl, k⟩ := h
    refine ⟨_, (pss_one (ps_for PassesOwn.never rfl (pi_enum (by rfl) T.n_enumerate (pa_cons (pv 0) pa_nil)) (pg_tup rfl (pgs_cons (pg_name (i := 1) sc_need_log.nd rfl (by first | exact Or.inl rfl | exact Or.inr rfl)) (pgs_cons (pg_name (i := 2) sc_need_log.nd rfl (by first | exact Or.inl rfl | exact Or.inr rfl)) pgs_nil)))
      (pss_one (ps_if (PW.pt (pw_or (pt_cmpR op_ge (pv 1) (pe_glob (v := .int 300) rfl T.v_MOST_ROWS ⟨_, rfl⟩) (nomark _)) (pw_or1 (pt_not (pt_val (pe_call G_is_row (hr.mono (by decide)) rfl T.g_is_row T.F_is_row.kp T.b_is_row .nil pass0 (pa_cons (pv 2) pa_nil)))))))
        (pss_one ps_never)
        pss_nil)))), ?_⟩
    have hxl := rows_len hA
    refine ⟨_, rfl, a, xs, rfl, hL, for_enum (K := K) (a := a) (xs := xs) (fun i σ H2 => Same H H2 ∧ ∃ v1 v2 : Option V, σ = [some (.ref a), v1, v2])
      ⟨.refl _, _, _, rfl⟩ (fun i σ H2 _ ⟨s2, _⟩ => s2.seq hL) ?_ ?_⟩
    · rintro i x N σ H2 hi ⟨s2, v1, v2, rfl⟩ hN
      have s3 : Same H (upd H2 N (.tup [.int (i : Nat), x])) := s2.trans (Same.upd_new hN)
      obtain ⟨t, r, hr, rfl, ht⟩ := rows_get' hA hi
      have hil : i < rs.length := (List.getElem?_eq_some_iff.mp hr).1
      refine ⟨N, _, rfl, SqT.of upd_same, rfl, _, _, rfl, _, _, rfl, rfl, ?_⟩
      refine ⟨_, rfl, _, _, rfl, rfl, _, rfl, ?_⟩
      refine iteD (fun h => by omega) (fun _ => ?_)
      refine ⟨_, rfl, _, _, rfl, ((im_row ht).same s3).dp, rdat_row r, _, rfl, ?_⟩
      rw [isRow_row (hok r (List.mem_of_getElem? hr))]
      exact iteF ⟨s3, _, _, rfl⟩
    · rintro σ H2 ⟨s2, v1, v2, rfl⟩
      exact k H2 s2

end
end TL

namespace TL
open PySem PySem.Spec PyProof.Rows L2
section
variable {P : Program} {w : World} {K : PySem.W.Frag} {mg : Str → Option Value} {base : Heap}
def sp_written (T : Txt K mg) : Sp := fun vs H Q _ => ∃ (a : Addr) (xs : List V) (rs : List Row), vs = [.ref a] ∧ SqL K H a xs ∧ ImAll H xs (rs.map rowD) ∧ (∀ r ∈ rs, okRow r) ∧ rs.length ≤ 300 ∧ ∀ H', Same H H' → Q (.str (logText rs)) H'
theorem mark_at (b : Bool) : atI ("-+" : Str).cps.toList (if b = true then 1 else 0) = some (if b = true then 43 else 45) := by
  cases b <;> decide +kernel
theorem log2_small {i : Int} (h0 : 0 ≤ i) (h9 : i ≤ 9) : i.natAbs.log2 < 1920 := by
  have : i.natAbs < 2 ^ 1920 := Nat.lt_of_lt_of_le (show i.natAbs < 2 ^ 4 by omega) (Nat.pow_le_pow_right (by decide) (by decide))
  by_cases z : i.natAbs = 0
  · rw [z]; decide
  · exact (Nat.log2_lt z).mpr this
theorem ok_written (T : Txt K mg) : FnOk P w K mg base CX0 4 T.a_written T.fd_written P_written (sp_written T) := by
  have G_need_log := ok_need_log (P := P) (w := w) (base := base) T
  refine T.F_written.ok sc_written (fun vs H Q E h => ?_) (fun cdv A outer s H vs Q E hr h => ?_)
  · obtain ⟨a, xs, rs, rfl, _⟩ := h
    rfl
  · obtain ⟨a, xs, rs, rfl, hL, hA, hok, hl, k⟩ := h
    refine ⟨_, (pss_cons (ps_expr (pe_call G_need_log (hr.mono (by decide)) rfl T.g_need_log T.F_need_log.kp T.b_need_log .nil pass0 (pa_cons (pv 0) pa_nil)))
    (pss_cons (ps_set (i := 1) sc_written.nd rfl (by first | exact Or.inl rfl | exact Or.inr rfl) (pe_lst pa_nil))
    (pss_cons (ps_for PassesOwn.never rfl (pi_list (pv 0)) (pg_tup rfl (pgs_cons (pg_name (i := 2) sc_written.nd rfl (by first | exact Or.inl rfl | exact Or.inr rfl)) (pgs_cons (pg_name (i := 3) sc_written.nd rfl (by first | exact Or.inl rfl | exact Or.inr rfl)) (pgs_cons (pg_name (i := 4) sc_written.nd rfl (by first | exact Or.inl rfl | exact Or.inr rfl)) (pgs_cons (pg_name (i := 5) sc_written.nd rfl (by first | exact Or.inl rfl | exact Or.inr rfl)) pgs_nil)))))
      (pss_one (ps_expr (pe_bm PySem.F.plainAttrs_list PySem.F.slot_list_append PySem.F.type_list_append mt_append (pv 1) (pa_cons (pe_op op_add_str (pe_op op_add_str (pe_op op_add_str (pe_op op_add_str (pe_callTy call_str_int (by rfl) T.n_str (by decide +kernel) (pa_cons (pv 2) pa_nil)) (pe_ix ix_str (pe_glob (v := .str "-+") rfl T.v_MARKS ⟨_, rfl⟩) (pe_callTy call_int1 (by rfl) T.n_int (by decide +kernel) (pa_cons (pv 3) pa_nil)) (fun _ _ => rfl))) pe_str) (pe_callTy call_str_int (by rfl) T.n_str (by decide +kernel) (pa_cons (pv 4) pa_nil))) (pe_ix ix_str (pe_glob (v := .str "-+") rfl T.v_MARKS ⟨_, rfl⟩) (pe_callTy call_int1 (by rfl) T.n_int (by decide +kernel) (pa_cons (pv 5) pa_nil)) (fun _ _ => rfl))) pa_nil)))))
    (pss_one (ps_ret (pe_join pe_str (pv 1))))))), ?_⟩
    have hxl := rows_len hA
    refine ⟨_, rfl, a, xs, rs, rfl, hL, hA, hok, hl, fun H1 s1 => ?_⟩
    refine ⟨(by show 0 ≤ sizeLine; decide), fun p hp => ?_⟩
    have s2 := s1.trans (Same.upd_new (o := .lst []) hp)
    have hpH := s1.free hp
    refine ⟨_, rfl, a, rfl, ⟨_, s2.seq hL⟩, for_list (K := K) (a := a) (xs := xs) (fun i σ H2 => (∃ v2 v3 v4 v5 : Option V, σ = [some (.ref a), some (.ref p), v2, v3, v4, v5]) ∧ Same H H2 ∧ H2 p = some (.lst (((rs.take i).map lineOf).map V.str)))
      ⟨⟨_, _, _, _, rfl⟩, s2, upd_same⟩ (fun i σ H2 _ ⟨_, s3, _⟩ => s3.seq hL) ?_ ?_⟩
    · rintro i x σ H2 hi ⟨⟨v2, v3, v4, v5, rfl⟩, s3, hp3⟩
      obtain ⟨t, r, hr, rfl, ht⟩ := rows_get' hA hi
      have hil : i < rs.length := (List.getElem?_eq_some_iff.mp hr).1
      have hrok := hok r (List.mem_of_getElem? hr)
      have ht3 := s3 _ _ ht
      have l1 : (dgS r.1).length = 1 := by rw [len_tl, tl_dg hrok.1.1 hrok.1.2]; rfl
      have l2 : (dgS r.2.2.1).length = 1 := by rw [len_tl, tl_dg hrok.2.1 hrok.2.2]; rfl
      have l3 : ∀ b, (sgS b).length = 1 := fun b => by rw [len_tl]; rfl
      have l4 : (" " : Str).length = 1 := by decide +kernel
      have app : ∀ x y : Str, (x ++ y).length = x.length + y.length := fun x y => by rw [len_tl, len_tl, len_tl, tl_append, List.length_append]
      refine ⟨t, _, rfl, SqT.of ht3, rfl, _, _, rfl, _, _, rfl, _, _, rfl, _, _, rfl, rfl, ?_⟩
      refine ⟨_, rfl, .inl ⟨rfl, _, SqL.of hp3⟩, ?_⟩
      refine ⟨_, rfl, _, rfl, log2_small hrok.1.1 hrok.1.2, _, rfl, .inr ⟨_, rfl, ?_⟩⟩
      refine ⟨_, _, _, rfl, rfl, (by show 2 ≤ sizeLine; decide), mark_at r.2.1, dgS r.1, sgS r.2.1, rfl, rfl, ?_, ?_⟩
      · rw [l1, l3]; decide
      refine ⟨_, (" " : Str), rfl, rfl, ?_, ?_⟩
      · rw [app, l1, l3, l4]; decide
      refine ⟨_, rfl, _, rfl, log2_small hrok.2.1 hrok.2.2, _, dgS r.2.2.1, rfl, rfl, ?_, ?_⟩
      · rw [app, app, l1, l2, l3, l4]; decide
      refine ⟨_, rfl, .inr ⟨_, rfl, ?_⟩⟩
      refine ⟨_, _, _, rfl, rfl, (by show 2 ≤ sizeLine; decide), mark_at r.2.2.2, _, sgS r.2.2.2, rfl, rfl, ?_, ?_⟩
      · rw [app, app, app, l1, l2, l3, l3, l4]; decide
      refine ⟨p, _, _, rfl, rfl, hp3, by simp only [List.length_map, List.length_take]; exact small1000 (by omega), ⟨_, _, _, _, rfl⟩, ((Frm.of_same s3).own hpH (Frm.updL hp3)).same, ?_⟩
      rw [upd_same, take_more hr]
      simp only [List.map_append, List.map_cons, List.map_nil]
      rfl
    · rintro σ H2 ⟨⟨v2, v3, v4, v5, rfl⟩, s3, hp3⟩
      rw [hxl, List.take_length] at hp3
      refine ⟨⟨_, rfl⟩, _, rfl, _, p, _, rfl, rfl, .inl (SqL.of hp3), ?_, k H2 s3⟩
      rw [lines_sum hok, List.length_map]
      have : ("\n" : Str).length = 1 := by decide +kernel
      rw [this]
      omega

end
end TL

namespace TL
open PySem PySem.Spec PyProof.Rows L2
section
variable {P : Program} {w : World} {K : PySem.W.Frag} {mg : Str → Option Value} {base : Heap}
def sp_half_of (T : Txt K mg) : Sp := fun vs H Q _ => ∃ z : Str, vs = [.str z] ∧ z.length ≤ sizeLine ∧ (halfL (tl z) = none → Q .non H) ∧
  (∀ a b, halfL (tl z) = some (a, b) → ∀ t, H t = none → Q (.ref t) (upd H t (.tup [.int a, .bl b])))
theorem fig_mem {c : Nat} : c ∈ tl ("0123456789" : Str) ↔ 48 ≤ c ∧ c ≤ 57 := by
  have e : tl ("0123456789" : Str) = [48, 49, 50, 51, 52, 53, 54, 55, 56, 57] := by decide +kernel
  rw [e]
  simp only [List.mem_cons, List.not_mem_nil, or_false]
  omega
theorem mrk_mem {c : Nat} : c ∈ tl ("-+" : Str) ↔ c = 43 ∨ c = 45 := by
  have e : tl ("-+" : Str) = [45, 43] := by decide +kernel
  rw [e]
  simp only [List.mem_cons, List.not_mem_nil, or_false]
  omega
theorem one_sign {c k : Nat} {z : Str} (h : tl z = [k]) : (V.str ⟨#[c]⟩ = V.str z) ↔ c = k := by
  constructor
  · intro e
    have e' : (⟨#[c]⟩ : Str) = z := by injection e
    have e2 : [c] = [k] := by
      have := congrArg tl e'
      rw [h] at this
      exact this
    simpa using e2
  · rintro rfl
    have : (⟨#[c]⟩ : Str) = z := ext_tl (by rw [h])
    rw [this]
theorem int_sign {c : Nat} (h1 : 48 ≤ c) (h2 : c ≤ 57) : PySem.intText? ⟨#[c]⟩ = some ((c : Int) - 48) := by
  obtain ⟨n, rfl⟩ : ∃ n, c = 48 + n := ⟨c - 48, by omega⟩
  have e : (⟨#[48 + n]⟩ : Str) = Str.ofString (toString ((n : Nat) : Int)) := ext_tl (by rw [tl_num, numL_lt (by omega)])
  have e2 : (((48 + n : Nat) : Int) - 48) = ((n : Nat) : Int) := by omega
  rw [e, e2]
  exact int_num (by rw [numL_lt (by omega)]; show 1 ≤ 4300; decide)
theorem ok_half_of (T : Txt K mg) : FnOk P w K mg base CX0 1 T.a_half_of T.fd_half_of P_half_of (sp_half_of T) := by
  skip
  refine T.F_half_of.ok sc_half_of (fun vs H Q E h => ?_) (fun cdv A outer s H vs Q E hr h => ?_)
  · obtain ⟨z, rfl, _⟩ := h
    rfl
  · obtain ⟨z, rfl, hz, k1, k2⟩ := h
    refine ⟨_, (pss_cons (ps_if (PW.pt (pw_or (pt_cmpR op_ne (pe_callB call_len_str (by rfl) T.n_len (by decide +kernel) (pa_cons (pv 0) pa_nil)) pe_int (nomark _)) (pw_or (pt_cmpR op_notInS (pe_ix ix_str (pv 0) pe_int (fun _ _ => rfl)) (pe_glob (v := .str "0123456789") rfl T.v_FIGURES ⟨_, rfl⟩) (by rfl)) (pw_or1 (pt_cmpR op_notInS (pe_ix ix_str (pv 0) pe_int (fun _ _ => rfl)) (pe_glob (v := .str "-+") rfl T.v_MARKS ⟨_, rfl⟩) (by rfl))))))
      (pss_one (ps_ret pe_non))
      pss_nil)
    (pss_one (ps_ret (pe_tup (pa_cons (pe_callTy call_int_str (by rfl) T.n_int (by decide +kernel) (pa_cons (pe_ix ix_str (pv 0) pe_int (fun _ _ => rfl)) pa_nil)) (pa_cons (pe_cmpR op_eq (pe_ix ix_str (pv 0) pe_int (fun _ _ => rfl)) pe_str (nomark _)) pa_nil)))))), ?_⟩
    have hzl := len_tl z
    refine ⟨_, rfl, z, rfl, hz, rfl, _, rfl, ?_⟩
    refine iteN (fun hne => iteT (k1 ?_)) (fun he => ?_)
    · unfold halfL
      split
      · rename_i a b hab
        rw [hab] at hzl
        exact (hne (by rw [hzl]; rfl)).elim
      · rfl
    have hz2 : (tl z).length = 2 := by
      have := vint_inj.mp he
      omega
    obtain ⟨a, b, hab⟩ : ∃ a b, tl z = [a, b] := by
      match tl z, hz2 with
      | [a, b], _ => exact ⟨a, b, rfl⟩
    have at0 : atI z.cps.toList 0 = some a := atI_nat (j := 0) (by show (tl z)[0]? = _; rw [hab]; rfl)
    have at1 : atI z.cps.toList 1 = some b := atI_nat (j := 1) (by show (tl z)[1]? = _; rw [hab]; rfl)
    refine ⟨_, rfl, z, _, a, rfl, rfl, hz, at0, a, _, rfl, rfl, _, rfl, ?_⟩
    have ea : (!decide (a ∈ ("0123456789" : Str).cps.toList)) = !decide (48 ≤ a ∧ a ≤ 57) := by
      congr 1
      exact decide_eq_decide.mpr fig_mem
    rw [ea]
    refine iteN (fun hn => iteT (k1 ?_)) (fun ha => ?_)
    · rw [hab]
      simp only [halfL]
      rw [if_neg fun q => hn q.1]
    refine ⟨_, rfl, z, _, b, rfl, rfl, hz, at1, b, _, rfl, rfl, _, rfl, ?_⟩
    have eb : (!decide (b ∈ ("-+" : Str).cps.toList)) = !decide (b = 43 ∨ b = 45) := by
      congr 1
      exact decide_eq_decide.mpr mrk_mem
    rw [eb]
    refine iteN (fun hn => k1 ?_) (fun hb => ?_)
    · rw [hab]
      simp only [halfL]
      rw [if_neg fun q => hn q.2]
    have hh : halfL (tl z) = some ((a : Int) - 48, decide (b = 43)) := by
      rw [hab]
      simp only [halfL]
      rw [if_pos ⟨ha, hb⟩]
    refine ⟨_, rfl, z, _, a, rfl, rfl, hz, at0, _, _, rfl, int_sign ha.1 ha.2, (by show 1 ≤ 640; decide), ?_⟩
    refine ⟨_, rfl, z, _, b, rfl, rfl, hz, at1, rfl, (by show 2 ≤ sizeLine; decide), fun t ht => ?_⟩
    have ec : decide (V.str ⟨#[b]⟩ = V.str "+") = decide (b = 43) := decide_eq_decide.mpr (one_sign (by decide +kernel))
    rw [ec]
    exact k2 _ _ hh t ht

end
end TL

namespace TL
open PySem PySem.Spec PyProof.Rows L2
section
variable {P : Program} {w : World} {K : PySem.W.Frag} {mg : Str → Option Value} {base : Heap}
def sp_row_of (T : Txt K mg) : Sp := fun vs H Q _ => ∃ z : Str, vs = [.str z] ∧ z.length + 2 ≤ sizeLine ∧ (rowOfL z = none → ∀ H', Same H H' → Q .non H') ∧
  (∀ r, rowOfL z = some r → ∀ t H', Same H H' → H' t = some (.tup (rowV r)) → Q (.ref t) H')
/-- a word's half as data -/
def halfP : Option (Int × Bool) → PyData
  | none => .none
  | some (a, b) => .tuple [.int a, .bool b]
theorem lv_half (o : Option (Int × Bool)) : lv 1 (halfP o) := by
  cases o with
  | none => exact trivial
  | some x => exact ⟨by show 2 ≤ 100000; decide, fun d hd => by simp at hd; rcases hd with rfl | rfl <;> exact trivial⟩
theorem lay_halves (l : List (Option (Int × Bool))) : SeqAt.shaped (.list (l.map halfP)) = true := by
  have h : PyData.canLayAll0 (l.map halfP) = true ∧ PyData.depthAll (l.map halfP) ≤ 1 := by
    induction l with
    | nil => exact ⟨rfl, by simp [PyData.depthAll]⟩
    | cons a r ih =>
      obtain ⟨a1, a2⟩ := lv_ok 1 _ (lv_half a)
      refine ⟨by simp [PyData.canLayAll0, a1, ih.1], ?_⟩
      simp only [List.map_cons, PyData.depthAll]
      omega
  unfold SeqAt.shaped
  have h1 : (PyData.list (l.map halfP)).canLay0 = true := by simpa [PyData.canLay0] using h.1
  have h2 : (PyData.list (l.map halfP)).depth ≤ 64 := by simp only [PyData.depth]; omega
  rw [h1, decide_eq_true h2]
  rfl
theorem im_half {H : Hp} {x : V} {o : Option (Int × Bool)} (h : Im H x (halfP o)) : (o = none ∧ x = .non) ∨ ∃ a b t, o = some (a, b) ∧ x = .ref t ∧ H t = some (.tup [.int a, .bl b]) := by
  cases o with
  | none => cases h; exact .inl ⟨rfl, rfl⟩
  | some y =>
    obtain ⟨a, b⟩ := y
    generalize e : halfP (some (a, b)) = dd at h
    cases h with
    | tup ht ha =>
      rename_i t xs ds
      injection e with e
      subst e
      cases ha with
      | cons h1 ha => cases h1; cases ha with
        | cons h1 ha => cases h1; cases ha; exact .inr ⟨a, b, t, rfl, rfl, ht⟩
    | _ => exact PyData.noConfusion e
theorem ok_row_of (T : Txt K mg) : FnOk P w K mg base CX0 2 T.a_row_of T.fd_row_of P_row_of (sp_row_of T) := by
  have G_half_of := ok_half_of (P := P) (w := w) (base := base) T
  refine T.F_row_of.ok sc_row_of (fun vs H Q E h => ?_) (fun cdv A outer s H vs Q E hr h => ?_)
  · obtain ⟨z, rfl, _⟩ := h
    rfl
  · obtain ⟨z, rfl, hz, k1, k2⟩ := h
    have hu65 : (A.deeper (envOfC "row_of" (defScope s_row_of) s.heap.objs.size T.a_row_of cdv)).units + 65 < cLine := by have := hr.un; omega
    refine ⟨_, (pss_cons (ps_setLc (i := 1) (own := [("word", 2)]) (g := (gName 2)) (tt := tYes) (te := (tCall _ [] E0 (tCons (tVar 2) tNil))) rfl sc_row_of.nd rfl rfl (sw_true rfl rfl rfl (by decide +kernel)) (pi_list (pe_split (pv 0) pe_str)) (blkOk_by (own := [("word", 2)]) (N := N_row_of) (sc := defScope s_row_of) (by decide +kernel)) (fun _ _ _ _ _ => (pg_name (i := 2) sc_row_of.nd rfl (by first | exact Or.inl rfl | exact Or.inr rfl))) (fun _ _ _ _ _ => pts_nil) (fun _ _ _ _ _ => (pe_call G_half_of (hr.mono (by decide)) rfl T.g_half_of T.F_half_of.kp T.b_half_of .nil pass0 (pa_cons (pv 2) pa_nil))))
    (pss_one (ps_ret (pe_ifExp (PW.pt (pw_or (pt_cmpR op_ne (pe_callB call_len_seq (by rfl) T.n_len (by decide +kernel) (pa_cons (pv 1) pa_nil)) pe_int (nomark _)) (pw_or1 (pt_cmpR (op_inD hu65) pe_non (pv 1) (by rfl))))) pe_non (pe_op op_catA (pe_ix ix_list (pv 1) pe_int (fun _ _ => rfl)) (pe_ix ix_list (pv 1) pe_int (fun _ _ => rfl))))))), ?_⟩
    have hws := split_len z " " (by rw [tl_sp]; simp) (by decide +kernel)
    have hww := split_word z " " (by rw [tl_sp]; simp) (by decide +kernel)
    refine ⟨_, rfl, ⟨z, rfl⟩, z, _, rfl, rfl, rfl, hz, fun W hW => ?_⟩
    refine ⟨W, rfl, ⟨_, SqL.of upd_same⟩, fun D hD => ?_⟩
    have s1 : Same H (upd H W (.lst ((Txt.split z " ").map V.str))) := Same.upd_new hW
    have hDH := s1.free hD
    refine lc_list (K := K) (a := W) (xs := (Txt.split z " ").map V.str) (fun i H2 => Same (upd H W (.lst ((Txt.split z " ").map V.str))) H2 ∧ ∃ xs, H2 D = some (.lst xs) ∧ ImAll H2 xs (((halvesOf z).take i).map halfP))
      ⟨Same.upd_new hD, [], upd_same, .nil⟩ (fun i H2 _ ⟨s2, _⟩ => SqL.of (s2 _ _ upd_same)) ?_ ?_
    · rintro i y H2 hi ⟨s2, xs, hD2, hA2⟩
      obtain ⟨w0, hw0, rfl⟩ := getmap hi
      have hil : i < (Txt.split z " ").length := (List.getElem?_eq_some_iff.mp hw0).1
      have hhi : (halvesOf z)[i]? = some (halfL (tl w0)) := by unfold halvesOf; rw [List.getElem?_map, hw0]; rfl
      have hwl := hww w0 (List.mem_of_getElem? hw0)
      have hxl : xs.length ≤ i := by rw [hA2.length, List.length_map]; exact List.length_take_le _ _
      have hxs : xs.length < sizeLine := by
        have := hz
        omega
      have fin : ∀ (v : V) (H3 : Hp), Same H2 H3 → Im H3 v (halfP (halfL (tl w0))) → ∃ acc, H3 D = some (.lst acc) ∧ acc.length < sizeLine ∧ (Same (upd H W (.lst ((Txt.split z " ").map V.str))) (upd H3 D (.lst (acc ++ [v]))) ∧ ∃ xs, (upd H3 D (.lst (acc ++ [v]))) D = some (.lst xs) ∧ ImAll (upd H3 D (.lst (acc ++ [v]))) xs (((halvesOf z).take (i + 1)).map halfP)) := by
        intro v H3 s3 hv
        have hD3 := s3 _ _ hD2
        refine ⟨xs, hD3, hxs, ((Frm.of_same (s2.trans s3)).own hD (Frm.updL hD3)).same, _, upd_same, ?_⟩
        rw [take_more hhi, List.map_append]
        exact ((hA2.same s3).append (.cons hv .nil)).updL hD3
      refine ⟨rfl, _, rfl, w0, rfl, by omega, fun hn => fin _ _ (.refl _) (by rw [hn]; exact .non), fun a b hab t ht => fin _ _ (Same.upd_new ht) ?_⟩
      rw [hab]
      exact .tup upd_same (.cons (.int _) (.cons (.bl _) .nil))
    · rintro H2 ⟨s2, xs, hD2, hA2⟩
      have htk : (halvesOf z).take ((Txt.split z " ").map V.str).length = halvesOf z := by
        apply List.take_of_length_le
        unfold halvesOf
        simp
      rw [htk] at hA2
      have hxl : xs.length = (halvesOf z).length := by rw [hA2.length, List.length_map]
      have s02 := s1.trans s2
      -- None, where there aren't two halves
      refine ⟨_, rfl, D, _, rfl, .inl (SqL.of hD2), rfl, _, rfl, ?_⟩
      refine iteN (fun hne => iteT (k1 ?_ H2 s02)) (fun he => ?_)
      · unfold rowOfL
        generalize halvesOf z = l at hxl hne
        unfold rowHalves
        split
        · exact (hne (by rw [hxl]; rfl)).elim
        · rfl
      have h2 : (halvesOf z).length = 2 := by
        have := vint_inj.mp he
        omega
      obtain ⟨o1, o2, h12⟩ : ∃ o1 o2, halvesOf z = [o1, o2] := by
        match halvesOf z, h2 with
        | [o1, o2], _ => exact ⟨o1, o2, rfl⟩
      rw [h12] at hA2 hxl
      cases hA2 with
      | cons g1 hA2 => cases hA2 with
        | cons g2 hA2 =>
        cases hA2
        rename_i x1 x2
        refine ⟨_, rfl, .none, [o1, o2].map halfP, .non, .lst (SqL.of hD2) (.cons g1.dp (.cons g2.dp .nil)), rfl, lay_halves _, _, rfl, ?_⟩
        have hro : rowOfL z = rowHalves [o1, o2] := by unfold rowOfL; rw [h12]
        rcases im_half g1 with ⟨rfl, rfl⟩ | ⟨a1, b1, t1, rfl, rfl, ht1⟩
        · exact iteT (k1 (by rw [hro]; rfl) H2 s02)
        · rcases im_half g2 with ⟨rfl, rfl⟩ | ⟨a2, b2, t2, rfl, rfl, ht2⟩
          · exact iteT (k1 (by rw [hro]; rfl) H2 s02)
          · refine iteF ?_
            refine ⟨_, rfl, D, _, _, _, rfl, rfl, SqL.of hD2, atI_nat (j := 0) rfl, _, rfl, D, _, _, _, rfl, rfl, SqL.of hD2, atI_nat (j := 1) rfl, ?_⟩
            refine ⟨t1, t2, _, _, rfl, rfl, SqT.of ht1, SqT.of ht2, (by show 4 ≤ sizeLine; decide), (fun q => by cases q), (fun _ q => by cases q), fun _ _ t ht => ?_⟩
            exact k2 (a1, b1, a2, b2) (by rw [hro]; rfl) t _ (s02.trans (Same.upd_new ht)) (by rw [upd_same]; rfl)

end
end TL

namespace TL
open PySem PySem.Spec PyProof.Rows L2
section
variable {P : Program} {w : World} {K : PySem.W.Frag} {mg : Str → Option Value} {base : Heap}
def sp_BadText_init (T : Txt K mg) : Sp := fun vs H Q _ => ∃ (a : Addr) (n : Int), vs = [.ref a, .int n] ∧ H a = some (exo a T.C_BadText none) ∧
  ∀ dx, H dx = none → dx ≠ a → Q .non (upd (upd H dx (exd dx [("row", .int n)])) a (exo a T.C_BadText (some dx)))
theorem ok_BadText_init (T : Txt K mg) : FnOk P w K mg base CX0 1 T.a_BadText_init T.fd_BadText_init P_BadText_init (sp_BadText_init T) := by
  skip
  refine T.F_BadText_init.ok sc_BadText_init (fun vs H Q E h => ?_) (fun cdv A outer s H vs Q E hr h => ?_)
  · obtain ⟨a, n, rfl, _⟩ := h
    rfl
  · obtain ⟨a, n, rfl, ha, k⟩ := h
    refine ⟨_, (pss_cons (ps_expr (pe_basei rfl T.c_LineError T.bc_LineError (pa_cons (pv 0) (pa_cons (pv 1) pa_nil))))
    (pss_one (ps_ost (pv 0) (pv 1) rfl))), ?_⟩
    refine ⟨_, rfl, _, rfl, a, T.C_BadText, [.int n], rfl, (by show 1 ≤ 1000; decide), T.ox_BadText, ha, ?_⟩
    exact ⟨_, rfl, _, rfl, a, T.C_BadText, rfl, T.ox_BadText, T.nx_BadText_row, .inl ⟨ha, fun dx h1 h2 => k dx h1 h2⟩⟩

end
end TL

namespace TL
open PySem PySem.Spec PyProof.Rows L2
section
variable {P : Program} {w : World} {K : PySem.W.Frag} {mg : Str → Option Value} {base : Heap}
/-- a text's lines -/
def linesOf (z : Str) : List Str := if z = "" then [] else Txt.split z "\n"
def sp_read (T : Txt K mg) : Sp := fun vs H Q E => ∃ z : Str, vs = [.str z] ∧ z.length + 2 ≤ sizeLine ∧
  (∀ (i : Nat) (l : Str), (linesOf z)[i]? = some l → (rowOfL l = none ∨ 300 ≤ i) → (∀ (j : Nat) (l' : Str), j < i → (linesOf z)[j]? = some l' → rowOfL l' ≠ none ∧ j < 300) → ∀ (d : Addr) (H' : Hp), Same H H' → H' d = some (.xd [("row", .int (i : Nat))]) → E (.ref T.C_BadText) (some d) H') ∧
  (∀ rs : List Row, (linesOf z).map rowOfL = rs.map some → rs.length ≤ 300 → ∀ (p : Addr) (xs : List V) (H' : Hp), H p = none → H' p = some (.lst xs) → ImAll H' xs (rs.map rowD) → Same H H' → Q (.ref p) H')
theorem ok_read (T : Txt K mg) : FnOk P w K mg base (L2.CX P w) 3 T.a_read T.fd_read P_read (sp_read T) := by
  have G_row_of := ok_row_of (P := P) (w := w) (base := base) T
  have G_BadText_init := ok_BadText_init (P := P) (w := w) (base := base) T
  refine T.F_read.okX sc_read (fun vs H Q E h => ?_) (fun cdv A outer s H vs Q E hr h => ?_)
  · obtain ⟨z, rfl, _⟩ := h
    rfl
  · obtain ⟨z, rfl, hz, kE, kQ⟩ := h
    refine ⟨_, (pss_cons (ps_set (i := 1) sc_read.nd rfl (by first | exact Or.inl rfl | exact Or.inr rfl) (pe_lst pa_nil))
    (pss_cons (ps_for (passes_of rfl) rfl (pi_enum (by rfl) T.n_enumerate (pa_cons (pe_ifExp (pt_cmpR op_ne (pv 0) pe_str (nomark _)) (pe_split (pv 0) pe_str) (pe_lst pa_nil)) pa_nil)) (pg_tup rfl (pgs_cons (pg_name (i := 2) sc_read.nd rfl (by first | exact Or.inl rfl | exact Or.inr rfl)) (pgs_cons (pg_name (i := 3) sc_read.nd rfl (by first | exact Or.inl rfl | exact Or.inr rfl)) pgs_nil)))
      (pss_cons (ps_set (i := 4) sc_read.nd rfl (by first | exact Or.inl rfl | exact Or.inr rfl) (pe_call G_row_of (hr.mono (by decide)) rfl T.g_row_of T.F_row_of.kp T.b_row_of .nil pass0 (pa_cons (pv 3) pa_nil)))
      (pss_cons (ps_if (PW.pt (pw_or (pt_cmpR op_isN1 (pv 4) pe_non (nomark _)) (pw_or1 (pt_cmpR op_ge (pv 2) (pe_glob (v := .int 300) rfl T.v_MOST_ROWS ⟨_, rfl⟩) (nomark _)))))
        (pss_one (ps_raise rfl (takes_of rfl rfl rfl rfl) (pmk_oex T.ox_BadText T.iC_BadText T.tI_BadText G_BadText_init (hr.mono (by decide)) T.b_BadText_init .nil pass0 rfl T.c_BadText (pa_cons (pv 2) pa_nil))))
        pss_nil)
      (pss_one (ps_expr (pe_bm PySem.F.plainAttrs_list PySem.F.slot_list_append PySem.F.type_list_append mt_append (pv 1) (pa_cons (pv 4) pa_nil)))))))
    (pss_one (ps_ret (pv 1))))), ?_⟩
    refine ⟨(by show 0 ≤ sizeLine; decide), fun p hp => ?_⟩
    have s0 : Same H (upd H p (.lst [])) := Same.upd_new hp
    have hww : ∀ l ∈ linesOf z, l.length ≤ z.length := by
      intro l hl
      unfold linesOf at hl
      split at hl
      · simp at hl
      · exact split_word z "\n" (by rw [tl_nl]; simp) (by decide +kernel) l hl
    -- the text's lines at L
    have go : ∀ (L : Addr) (H1 : Hp) (D : Ends), Same (upd H p (.lst [])) H1 → H1 L = some (.lst ((linesOf z).map V.str)) →
        (∀ (σ : L2.St) (rs : List Row) (xs : List V) (H2 : Hp), (∃ v2 v3 v4 : Option V, σ = [some (.str z), some (.ref p), v2, v3, v4]) → (linesOf z).map rowOfL = rs.map some → rs.length ≤ 300 → H2 p = some (.lst xs) → ImAll H2 xs (rs.map rowD) → Same H H2 → D.nx σ H2) →
        ForW (Ite K L) (gTup K 2 (gCons (gName 2) (gCons (gName 3) gNil))) (tSeq (tAsg (tCall (sp_row_of T) [] E0 (tCons (tVar 3) tNil)) (gName 4)) (tSeq (tIfS (tOr (tTest (tOp rIsN (tVar 4) (tC .non))) (tTest (tOp (rI0 fun i j => .bl (decide (j ≤ i))) (tVar 2) (tC (.int 300)))))
            (fun _ σ H => tMkO T.C_BadText (sp_BadText_init T) [] (tCons (tVar 2) tNil) σ H fun cls d H' => E cls d H') tNext)
          (tDrop (tBM K "list" rAppend (tVar 1) (tCons (tVar 4) tNil))))) D [some (.str z), some (.ref p), none, none, none] H1 := by
      intro L H1 D s1 hL hend
      refine for_enum (K := K) (a := L) (xs := (linesOf z).map V.str) (fun i σ H2 => (∃ v2 v3 v4 : Option V, σ = [some (.str z), some (.ref p), v2, v3, v4]) ∧ Same H H2 ∧ H2 L = some (.lst ((linesOf z).map V.str)) ∧
          (∀ (j : Nat) (l' : Str), j < i → (linesOf z)[j]? = some l' → rowOfL l' ≠ none ∧ j < 300) ∧ ∃ (rs : List Row) (xs : List V), ((linesOf z).take i).map rowOfL = rs.map some ∧ rs.length ≤ 300 ∧ H2 p = some (.lst xs) ∧ ImAll H2 xs (rs.map rowD))
        ⟨⟨_, _, _, rfl⟩, s0.trans s1, hL, fun j l' hj => absurd hj (by omega), [], [], rfl, Nat.zero_le _, s1 _ _ upd_same, .nil⟩ (fun i σ H2 _ ⟨_, _, h2, _⟩ => SqL.of h2) ?_ ?_
      · rintro i y N σ H2 hi ⟨⟨v2, v3, v4, rfl⟩, s2, hL2, hgood, rs, xs, hrs, hrl, hp2, hA2⟩ hN
        obtain ⟨l, hli, rfl⟩ := getmap hi
        have hlz := hww l (List.mem_of_getElem? hli)
        have s3 : Same H2 (upd H2 N (.tup [.int (i : Nat), .str l])) := Same.upd_new hN
        have raise : ∀ (σ' : L2.St) (H3 : Hp), Same H2 H3 → σ'[2]? = some (some (.int (i : Nat))) → (rowOfL l = none ∨ 300 ≤ i) → tMkO T.C_BadText (sp_BadText_init T) [] (tCons (tVar 2) tNil) σ' H3 fun cls d H' => E cls d H' := by
          intro σ' H3 s hσ hbad
          refine ⟨_, hσ, (by show 1 ≤ 1000; decide), fun a ha => ⟨a, i, rfl, upd_same, fun dx h1 h2 => ?_⟩⟩
          have h1' : H3 dx = none := by rw [upd_ne h2] at h1; exact h1
          refine ⟨rfl, dx, _, upd_same, by rw [upd_ne h2]; exact upd_same, h1', ?_⟩
          exact kE i l hli hbad hgood dx _ ((s2.trans s).trans (raised_same ha h1')) upd_same
        refine ⟨N, _, rfl, SqT.of upd_same, rfl, _, _, rfl, _, _, rfl, rfl, ?_⟩
        refine ⟨_, rfl, l, rfl, by omega, (fun hn H3 s4 => ?_), fun r hr t H3 s4 ht => ?_⟩
        · exact ⟨_, rfl, rfl, _, rfl, iteT (raise _ H3 (s3.trans s4) rfl (.inl hn))⟩
        refine ⟨_, rfl, rfl, _, rfl, iteF ?_⟩
        refine ⟨_, rfl, _, _, rfl, rfl, _, rfl, ?_⟩
        have s23 := s3.trans s4
        refine iteD (fun q => raise _ H3 s23 rfl (.inr (by omega))) (fun q3 => ?_)
        have hp3 := s23 _ _ hp2
        have hL3 := s23 _ _ hL2
        have npL : L ≠ p := by
          intro e
          have hpL := s1 _ _ (upd_same (H := H) (a := p) (o := .lst []))
          rw [← e, hL] at hpL
          have : (linesOf z).map V.str = [] := by injection hpL with q; injection q
          rw [this] at hi
          simp at hi
        have hln : rs.length = i := by
          have := congrArg List.length hrs
          rw [List.length_map, List.length_map, List.length_take] at this
          have := (List.getElem?_eq_some_iff.mp hli).1
          omega
        have hxl : xs.length ≤ i := by rw [hA2.length, List.length_map]; omega
        refine ⟨_, rfl, .inl ⟨rfl, _, SqL.of hp3⟩, _, rfl, p, xs, _, rfl, rfl, hp3, small1000 (by omega), ⟨_, _, _, rfl⟩, ((Frm.of_same (s2.trans s23)).own hp (Frm.updL hp3)).same, by rw [upd_ne npL]; exact hL3, fun j l' hj hl' => ?_, rs ++ [r], _, ?_, by rw [List.length_append]; show rs.length + 1 ≤ 300; omega, upd_same, ?_⟩
        · rcases Nat.lt_or_ge j i with q | q
          · exact hgood j l' q hl'
          · have : j = i := by omega
            subst this
            rw [hli] at hl'
            cases hl'
            exact ⟨by rw [hr]; simp, by omega⟩
        · rw [take_more hli, List.map_append, hrs, List.map_append]
          show _ ++ [rowOfL l] = _
          rw [hr]
          rfl
        · rw [List.map_append]
          exact ((hA2.same s23).append (.cons (im_row ht) .nil)).updL hp3
      · rintro σ H2 ⟨hσ, s2, hL2, _, rs, xs, hrs, hrl, hp2, hA2⟩
        rw [List.length_map, List.take_length] at hrs
        exact hend σ rs xs H2 hσ hrs hrl hp2 hA2 s2
    have fin : ∀ (σ : L2.St) (rs : List Row) (xs : List V) (H2 : Hp), (∃ v2 v3 v4 : Option V, σ = [some (.str z), some (.ref p), v2, v3, v4]) → (linesOf z).map rowOfL = rs.map some → rs.length ≤ 300 → H2 p = some (.lst xs) → ImAll H2 xs (rs.map rowD) → Same H H2 → tRet (tVar 1) { nx := fun _ H' => Q .non H', rt := Q } σ H2 := by
      rintro σ rs xs H2 ⟨v2, v3, v4, rfl⟩ h0 h00 h1 h2 h3
      exact ⟨_, rfl, kQ rs h0 h00 p xs H2 hp h1 h2 h3⟩
    refine ⟨_, rfl, rfl, _, rfl, ?_⟩
    refine iteN (fun hne => ?_) (fun he => ?_)
    · have hz0 : z ≠ "" := fun e => hne (by rw [e])
      have hlz : linesOf z = Txt.split z "\n" := by unfold linesOf; rw [if_neg hz0]
      refine ⟨_, rfl, ⟨z, rfl⟩, z, _, rfl, rfl, rfl, hz, fun L hL => ?_⟩
      refine ⟨L, _, rfl, SqL.of upd_same, go L _ _ (Same.upd_new hL) (by rw [upd_same, hlz]) fin⟩
    · have hz0 : z = "" := by injection he
      have hlz : linesOf z = [] := by unfold linesOf; rw [if_pos hz0]
      refine ⟨(by show 0 ≤ sizeLine; decide), fun L hL => ?_⟩
      refine ⟨L, _, rfl, SqL.of upd_same, go L _ _ (Same.upd_new hL) (by rw [upd_same, hlz]; rfl) fin⟩

end
end TL

namespace TL
open PySem PySem.Spec PyProof.Rows L2
section
variable {P : Program} {w : World} {K : PySem.W.Frag} {mg : Str → Option Value} {base : Heap}
def sp__law_dice (T : Txt K mg) : Sp := fun vs H Q _ => ∃ (a : Addr) (ns : List Int) (k : Int), vs = [.ref a, .int k] ∧ SqL K H a (ns.map V.int) ∧ ns.length ≤ 63 ∧
  ∀ (p : Addr) (H' : Hp), H p = none → DiceAt H' p → Same H H' → Q (.ref p) H'
theorem ok__law_dice (T : Txt K mg) : FnOk P w K mg base CX0 1 T.a__law_dice T.fd__law_dice P__law_dice (sp__law_dice T) := by
  skip
  refine T.F__law_dice.ok sc__law_dice (fun vs H Q E h => ?_) (fun cdv A outer s H vs Q E hr h => ?_)
  · obtain ⟨a, ns, k, rfl, _⟩ := h
    rfl
  · obtain ⟨a, ns, kz, rfl, hS, hl, k⟩ := h
    refine ⟨_, (pss_cons (ps_set (i := 2) sc__law_dice.nd rfl (by first | exact Or.inl rfl | exact Or.inr rfl) (pv 1))
    (pss_cons (ps_for PassesOwn.never rfl (pi_list (pv 0)) (pg_name (i := 3) sc__law_dice.nd rfl (by first | exact Or.inl rfl | exact Or.inr rfl))
      (pss_one (ps_set (i := 2) sc__law_dice.nd rfl (by first | exact Or.inl rfl | exact Or.inr rfl) (pe_op op_mod (pe_op op_add (pe_op op_mul (pv 2) pe_int) (pe_callB call_abs (by rfl) T.n_abs (by decide +kernel) (pa_cons (pv 3) pa_nil))) pe_int))))
    (pss_one (ps_ret (pe_op op_cat (pe_lst (pa_cons (pv 2) (pa_cons pe_int pa_nil))) (pe_lc (own := [("_law_cell", 3)]) (g := (gName 3)) (tt := (tTest (tOp (rI0 fun i j => .bl (decide (j ≤ i))) (tVar 3) (tOp (rI CPow fun i j => .int (i ^ j.toNat)) (tC (.int 10)) (tC (.int 18)))))) (te := (tVar 3)) rfl sc__law_dice.nd (pi_list (pv 0)) (blkOk_by (own := [("_law_cell", 3)]) (N := N__law_dice) (sc := defScope s__law_dice) (by decide +kernel)) (fun _ _ _ _ _ => (pg_name (i := 3) sc__law_dice.nd rfl (by first | exact Or.inl rfl | exact Or.inr rfl))) (fun _ _ _ _ _ => (pts_one (pt_cmpR op_ge (pv 3) (pe_op op_pow pe_int pe_int) (nomark _)))) (fun _ _ _ _ _ => (pv 3)))))))), ?_⟩
    refine ⟨_, rfl, ?_⟩
    refine ⟨_, rfl, a, rfl, ⟨_, hS⟩, for_list (K := K) (a := a) (xs := ns.map V.int) (fun i σ H2 => H2 = H ∧ ∃ (f : Int) (v : Option V), σ = [some (.ref a), some (.int kz), some (.int f), v])
      ⟨rfl, _, _, rfl⟩ (fun i σ H2 _ ⟨e, _⟩ => by rw [e]; exact hS) ?_ ?_⟩
    · rintro i y σ H2 hi ⟨rfl, f, v, rfl⟩
      obtain ⟨z, hz, rfl⟩ := getmap hi
      exact ⟨_, rfl, _, _, rfl, rfl, .inr (by decide), _, rfl, _, rfl, _, _, rfl, rfl, _, _, rfl, rfl, (by show (0 : Int) < 2147483647; decide), rfl, _, _, rfl⟩
    · rintro σ H2 ⟨rfl, f, v, rfl⟩
      refine ⟨_, rfl, (by show 2 ≤ sizeLine; decide), fun l hlz => ?_⟩
      have s1 : Same H2 (upd H2 l (.lst [.int f, .int 0])) := Same.upd_new hlz
      refine ⟨_, rfl, a, rfl, ⟨_, s1.seq hS⟩, fun D hD => ?_⟩
      refine lc_list (K := K) (a := a) (xs := ns.map V.int) (fun i H3 => ∃ ms : List Int, H3 D = some (.lst (ms.map V.int)) ∧ ms.length ≤ i ∧ Same (upd H2 l (.lst [.int f, .int 0])) H3)
        ⟨[], upd_same, Nat.le_refl _, Same.upd_new hD⟩ (fun i H3 _ ⟨_, _, _, s3⟩ => s3.seq (s1.seq hS)) ?_ ?_
      · rintro i y H3 hi ⟨ms, hm, hml, s3⟩
        obtain ⟨z, hz, rfl⟩ := getmap hi
        have hil : i < ns.length := (List.getElem?_eq_some_iff.mp hz).1
        refine ⟨rfl, _, rfl, _, _, rfl, rfl, ⟨by decide, by decide, by decide⟩, _, _, rfl, rfl, _, rfl, ?_⟩
        refine iteD (fun h0 => ?_) (fun h0 => ⟨ms, hm, Nat.le_succ_of_le hml, s3⟩)
        refine ⟨_, rfl, _, hm, by rw [List.length_map]; exact small1000 (by omega), ms ++ [z], by rw [upd_same, List.map_append]; rfl, by simp; omega, fun b o e => ?_⟩
        rw [upd_ne (fun q => ?_)]
        · exact s3 b o e
        · subst q
          rw [hD] at e
          cases e
      · rintro H3 ⟨ms, hm, hml, s3⟩
        rw [List.length_map] at hml
        have hlH : H3 l = some (.lst [.int f, .int 0]) := s3 _ _ upd_same
        refine ⟨l, D, _, _, rfl, rfl, hlH, hm, by rw [List.length_map]; exact Nat.le_of_lt (small1000 (by simp; omega)), fun p hp => ?_⟩
        refine k p _ ((s1.trans s3).free hp) ⟨f :: 0 :: ms, by rw [upd_same]; rfl, by simp, by simp; omega⟩ ((s1.trans s3).trans (Same.upd_new hp))

end
end TL

namespace TL
open PySem PySem.Spec PyProof.Rows L2
section
variable {P : Program} {w : World} {K : PySem.W.Frag} {mg : Str → Option Value} {base : Heap}
def sp__law_off (T : Txt K mg) : Sp := fun vs H Q _ => ∃ (d : Addr) (m : Int), vs = [.ref d, .int m] ∧ DiceAt H d ∧ 0 < m ∧ m < 1073741824 ∧
  ∀ (r : Int) (H' : Hp), 0 ≤ r → r < m → DiceAt H' d → Frm [d] H H' → Q (.int r) H'
theorem ok__law_off (T : Txt K mg) : FnOk P w K mg base CX0 1 T.a__law_off T.fd__law_off P__law_off (sp__law_off T) := by
  skip
  refine T.F__law_off.ok sc__law_off (fun vs H Q E h => ?_) (fun cdv A outer s H vs Q E hr h => ?_)
  · obtain ⟨d, m, rfl, _⟩ := h
    rfl
  · obtain ⟨d, m, rfl, ⟨ns, hd, hl, hl2⟩, hm0, hm1, k⟩ := h
    obtain ⟨a, b, r, rfl⟩ : ∃ a b r, ns = a :: b :: r := by
      match ns, hl with
      | a :: b :: r, _ => exact ⟨a, b, r, rfl⟩
    refine ⟨_, (pss_cons (ps_if (PW.pt (pw_and (pt_cmpR op_eq (pe_ix ix_list (pv 0) pe_int (fun _ _ => rfl)) pe_int (nomark _)) (pw_and1 (pt_cmpR op_gt (pe_callB call_len_seq (by rfl) T.n_len (by decide +kernel) (pa_cons (pv 0) pa_nil)) pe_int (nomark _)))))
      (pss_one (ps_asg (pe_bm PySem.F.plainAttrs_list PySem.F.slot_list_pop PySem.F.type_list_pop mt_popAt (pv 0) (pa_cons pe_int pa_nil)) (pg_sub (pv 0) pe_int set_list)))
      pss_nil)
    (pss_cons (ps_if (pt_cmpR op_gt (pe_ix ix_list (pv 0) pe_int (fun _ _ => rfl)) pe_int (nomark _))
      (pss_cons (ps_set (i := 2) sc__law_off.nd rfl (by first | exact Or.inl rfl | exact Or.inr rfl) (pe_op op_mod (pe_ix ix_list (pv 0) pe_int (fun _ _ => rfl)) (pv 1)))
      (pss_cons (ps_asg (pe_op op_fdiv (pe_ix ix_list (pv 0) pe_int (fun _ _ => rfl)) (pv 1)) (pg_sub (pv 0) pe_int set_list))
      (pss_one (ps_ret (pv 2)))))
      pss_nil)
    (pss_cons (ps_asg (pe_op op_mod (pe_op op_add (pe_op op_mul (pe_ix ix_list (pv 0) pe_int (fun _ _ => rfl)) pe_int) pe_int) pe_int) (pg_sub (pv 0) pe_int set_list))
    (pss_one (ps_ret (pe_op op_mod (pe_op op_fdiv (pe_ix ix_list (pv 0) pe_int (fun _ _ => rfl)) pe_int) (pv 1))))))), ?_⟩
    have key : ∀ (H1 : Hp) (a b : Int) (r : List Int), H1 d = some (.lst ((a :: b :: r).map V.int)) → (a :: b :: r).length ≤ 65 → Frm [d] H H1 → tSeq (tIfS (tTest (tOp (rI0 fun i j => .bl (decide (j < i))) (tOp (rIxL K) (tVar 0) (tC (.int 1))) (tC (.int 0)))) (tSeq (tAsg (tOp (rI (fun _ j => 0 < j) fun i j => .int (i % j)) (tOp (rIxL K) (tVar 0) (tC (.int 1))) (tVar 1)) (gName 2)) (tSeq (tAsg (tOp (rI CDiv fun i j => .int (i / j)) (tOp (rIxL K) (tVar 0) (tC (.int 1))) (tVar 1)) (gSub (tVar 0) (tC (.int 1)) rSetL)) (tRet (tVar 2)))) tNext)
        (tSeq (tAsg (tOp (rI (fun _ j => 0 < j) fun i j => .int (i % j)) (tOp (rI0 fun i j => .int (i + j)) (tOp (rI CMul fun i j => .int (i * j)) (tOp (rIxL K) (tVar 0) (tC (.int 0))) (tC (.int 48271))) (tC (.int 11))) (tC (.int 2147483647))) (gSub (tVar 0) (tC (.int 0)) rSetL))
          (tRet (tOp (rI (fun _ j => 0 < j) fun i j => .int (i % j)) (tOp (rI CDiv fun i j => .int (i / j)) (tOp (rIxL K) (tVar 0) (tC (.int 0))) (tC (.int 64))) (tVar 1))))
        { nx := fun _ H' => Q .non H', rt := Q } [some (.ref d), some (.int m), none] H1 := by
      intro H1 a b r h1 hl e1
      have dz : (ixN ((a :: b :: r).map V.int).length 1) = some 1 := by
        unfold ixN
        simp only [List.length_map, List.length_cons]
        rw [if_pos (by omega), if_pos (by omega)]
        rfl
      have dz0 : (ixN ((a :: b :: r).map V.int).length 0) = some 0 := by
        unfold ixN
        simp only [List.length_map, List.length_cons]
        rw [if_pos (by omega), if_pos (by omega)]
        rfl
      refine ⟨_, rfl, d, _, _, .int b, rfl, rfl, SqL.of h1, atI_nat (j := 1) rfl, _, _, rfl, rfl, _, rfl, ?_⟩
      refine iteD (fun h0 => ?_) (fun h0 => ?_)
      · refine ⟨_, rfl, d, _, _, .int b, rfl, rfl, SqL.of h1, atI_nat (j := 1) rfl, _, rfl, _, _, rfl, rfl, hm0, ?_⟩
        refine ⟨_, rfl, d, _, _, .int b, rfl, rfl, SqL.of h1, atI_nat (j := 1) rfl, _, rfl, _, _, rfl, rfl, ⟨hm0, hm1⟩, ?_⟩
        refine ⟨_, rfl, d, _, _, 1, rfl, rfl, h1, dz, _, rfl, ?_⟩
        refine k _ _ (Int.emod_nonneg _ (by omega)) (Int.emod_lt_of_pos _ hm0) ⟨a :: (b / m) :: r, upd_same, by simp, hl⟩ (e1.trans (Frm.updL h1))
      · refine ⟨_, rfl, d, _, _, .int a, rfl, rfl, SqL.of h1, atI_nat (j := 0) rfl, _, _, rfl, rfl, .inr (by decide), _, _, rfl, rfl, _, _, rfl, rfl, (by show (0 : Int) < 2147483647; decide), ?_⟩
        refine ⟨_, rfl, d, _, _, 0, rfl, rfl, h1, dz0, ?_⟩
        refine ⟨_, rfl, d, _, _, .int ((a * 48271 + 11) % 2147483647), rfl, rfl, SqL.of upd_same, atI_nat (j := 0) rfl, _, _, rfl, rfl, ⟨by decide, by decide⟩, _, rfl, _, _, rfl, rfl, hm0, ?_⟩
        exact k _ _ (Int.emod_nonneg _ (by omega)) (Int.emod_lt_of_pos _ hm0) ⟨((a * 48271 + 11) % 2147483647) :: b :: r, upd_same, by simp, hl⟩ (e1.trans (Frm.updL h1))
    -- d[1] == 0 and len(d) > 2
    refine ⟨_, rfl, d, _, _, .int b, rfl, rfl, SqL.of hd, atI_nat (j := 1) rfl, rfl, _, rfl, ?_⟩
    refine iteD (fun h0 => ?_) (fun h0 => iteF (key H a b r hd hl2 (.refl _ _)))
    refine ⟨_, rfl, d, _, rfl, .inl (SqL.of hd), _, _, rfl, rfl, _, rfl, ?_⟩
    refine iteD (fun h1 => ?_) (fun h1 => key H a b r hd hl2 (.refl _ _))
    obtain ⟨c, r', rfl⟩ : ∃ c r', r = c :: r' := by
      match r, h1 with
      | c :: r', _ => exact ⟨c, r', rfl⟩
      | [], h1 => exact absurd h1 (by simp)
    have s2 : seqIndex? 2 ((a :: b :: c :: r').map V.int).length = some 2 := by
      have e : ixN ((a :: b :: c :: r').map V.int).length 2 = some 2 := by
        unfold ixN
        simp only [List.length_map, List.length_cons]
        rw [if_pos (by omega), if_pos (by omega)]
        rfl
      exact (ixN_seq e).1
    refine ⟨_, rfl, .inl ⟨rfl, _, SqL.of hd⟩, d, _, _, 2, .int c, rfl, rfl, hd, by decide, by decide, s2, rfl, ?_⟩
    have dz : (ixN (((a :: b :: c :: r').map V.int).eraseIdx 2).length 1) = some 1 := by
      unfold ixN
      show (if (0 : Int) ≤ 1 then (if (1 : Int) < ((V.int a :: V.int b :: r'.map V.int).length : Nat) then _ else _) else _) = _
      simp only [List.length_cons]
      rw [if_pos (by omega), if_pos (by omega)]
      rfl
    refine ⟨_, rfl, d, _, _, 1, rfl, rfl, upd_same, dz, ?_⟩
    refine key _ a c r' (by rw [upd_same]; rfl) (by simp only [List.length_cons] at hl2 ⊢; omega) ((Frm.updL hd).trans (Frm.updL upd_same))

end
end TL

namespace TL
open PySem PySem.Spec PyProof.Rows L2
section
variable {P : Program} {w : World} {K : PySem.W.Frag} {mg : Str → Option Value} {base : Heap}
/-- of two things that are the same data True is told; n: how deep they may be, and one more -/
def sp__law_alike (T : Txt K mg) : Nat → Sp
  | 0 => fun _ _ _ _ => False
  | n + 1 => fun vs H Q _ => ∃ (x y : V) (d : PyData), vs = [x, y] ∧ Dp K H x d ∧ Dp K H y d ∧ lv n d ∧ ∀ H', Same H H' → Q (.bl true) H'
theorem rix_of {H : Hp} {p : Addr} {xs : List V} {i : Int} {v : V} {Q : VK} (h : SqL K H p xs ∨ SqT K H p xs) (e : atI xs i = some v) (q : Q v H) : rIx K (.ref p) (.int i) H Q := by
  rcases h with h | h
  · exact .inl ⟨p, xs, i, v, rfl, rfl, h, e, q⟩
  · exact .inr (.inl ⟨p, xs, i, v, rfl, rfl, h, e, q⟩)
theorem ok__law_alike_step (T : Txt K mg) (n : Nat) (G__law_alike : FnOk P w K mg base CX0 n T.a__law_alike T.fd__law_alike P__law_alike (sp__law_alike T n)) : FnOk P w K mg base CX0 (n + 1) T.a__law_alike T.fd__law_alike P__law_alike (sp__law_alike T (n + 1)) := by
  refine T.F__law_alike.ok sc__law_alike (fun vs H Q E h => ?_) (fun cdv A outer s H vs Q E hr h => ?_)
  · obtain ⟨x, y, d, rfl, _⟩ := h
    rfl
  · obtain ⟨x, y, d, rfl, hx, hy, hl, k⟩ := h
    have hrS := hr
    refine ⟨_, (pss_cons (ps_if (pt_cmpR op_isN1 (pv 1) pe_non (nomark _))
      (pss_one (ps_ret (pe_cmpR op_isN1 (pv 0) pe_non (nomark _))))
      pss_nil)
    (pss_cons (ps_if (pt_val (pe_callB call_isi (by rfl) T.n_isinstance (by decide +kernel) (pa_cons (pv 1) (pa_cons (pe_bltn (v := .ty "bool") (u := .type "bool") (by rfl) T.n_bool (by decide +kernel) rfl) pa_nil))))
      (pss_one (ps_ret (pe_and (pe_callB call_isi (by rfl) T.n_isinstance (by decide +kernel) (pa_cons (pv 0) (pa_cons (pe_bltn (v := .ty "bool") (u := .type "bool") (by rfl) T.n_bool (by decide +kernel) rfl) pa_nil))) (pe_one (pe_cmpR op_eq (pv 0) (pv 1) (nomark _))))))
      pss_nil)
    (pss_cons (ps_if (pt_val (pe_callB call_isi (by rfl) T.n_isinstance (by decide +kernel) (pa_cons (pv 1) (pa_cons (pe_bltn (v := .ty "int") (u := .type "int") (by rfl) T.n_int (by decide +kernel) rfl) pa_nil))))
      (pss_one (ps_ret (pe_and (pe_callB call_isi (by rfl) T.n_isinstance (by decide +kernel) (pa_cons (pv 0) (pa_cons (pe_bltn (v := .ty "int") (u := .type "int") (by rfl) T.n_int (by decide +kernel) rfl) pa_nil))) (pe_and (pe_not (pe_callB call_isi (by rfl) T.n_isinstance (by decide +kernel) (pa_cons (pv 0) (pa_cons (pe_bltn (v := .ty "bool") (u := .type "bool") (by rfl) T.n_bool (by decide +kernel) rfl) pa_nil)))) (pe_one (pe_cmpR op_eq (pv 0) (pv 1) (nomark _)))))))
      pss_nil)
    (pss_cons (ps_if (pt_val (pe_callB call_isi (by rfl) T.n_isinstance (by decide +kernel) (pa_cons (pv 1) (pa_cons (pe_bltn (v := .ty "str") (u := .type "str") (by rfl) T.n_str (by decide +kernel) rfl) pa_nil))))
      (pss_one (ps_ret (pe_and (pe_callB call_isi (by rfl) T.n_isinstance (by decide +kernel) (pa_cons (pv 0) (pa_cons (pe_bltn (v := .ty "str") (u := .type "str") (by rfl) T.n_str (by decide +kernel) rfl) pa_nil))) (pe_one (pe_cmpR op_eq (pv 0) (pv 1) (nomark _))))))
      pss_nil)
    (pss_cons (ps_if (PW.pt (pw_or (pt_cmpR op_ne (pe_callB call_isi (by rfl) T.n_isinstance (by decide +kernel) (pa_cons (pv 1) (pa_cons (pe_bltn (v := .ty "tuple") (u := .type "tuple") (by rfl) T.n_tuple (by decide +kernel) rfl) pa_nil))) (pe_callB call_isi (by rfl) T.n_isinstance (by decide +kernel) (pa_cons (pv 0) (pa_cons (pe_bltn (v := .ty "tuple") (u := .type "tuple") (by rfl) T.n_tuple (by decide +kernel) rfl) pa_nil))) (nomark _)) (pw_or1 (pt_cmpR op_ne (pe_callB call_isi (by rfl) T.n_isinstance (by decide +kernel) (pa_cons (pv 1) (pa_cons (pe_bltn (v := .ty "list") (u := .type "list") (by rfl) T.n_list (by decide +kernel) rfl) pa_nil))) (pe_callB call_isi (by rfl) T.n_isinstance (by decide +kernel) (pa_cons (pv 0) (pa_cons (pe_bltn (v := .ty "list") (u := .type "list") (by rfl) T.n_list (by decide +kernel) rfl) pa_nil))) (nomark _)))))
      (pss_one (ps_ret pe_bl))
      pss_nil)
    (pss_cons (ps_if (pt_cmpR op_ne (pe_callB call_len_seq (by rfl) T.n_len (by decide +kernel) (pa_cons (pv 0) pa_nil)) (pe_callB call_len_seq (by rfl) T.n_len (by decide +kernel) (pa_cons (pv 1) pa_nil)) (nomark _))
      (pss_one (ps_ret pe_bl))
      pss_nil)
    (pss_one (ps_ret (pe_callB (cr_all rfl) (by rfl) T.n_all (by decide +kernel) (pa_cons (pe_lc (own := [("_law_k", 2)]) (g := (gName 2)) (tt := tYes) (te := (tCall _ [] E0 (tCons (tOp (rIx K) (tVar 0) (tVar 2)) (tCons (tOp (rIx K) (tVar 1) (tVar 2)) tNil)))) rfl sc__law_alike.nd (pi_range1 rfl T.n_range (pa_cons (pe_callB call_len_seq (by rfl) T.n_len (by decide +kernel) (pa_cons (pv 1) pa_nil)) pa_nil)) (blkOk_by (own := [("_law_k", 2)]) (N := N__law_alike) (sc := defScope s__law_alike) (by decide +kernel)) (fun _ _ _ _ _ => (pg_name (i := 2) sc__law_alike.nd rfl (by first | exact Or.inl rfl | exact Or.inr rfl))) (fun _ _ _ _ _ => pts_nil) (fun _ _ _ _ _ => (pe_call G__law_alike hrS rfl T.g__law_alike T.F__law_alike.kp T.b__law_alike .nil pass0 (pa_cons (pe_ix ix_seq (pv 0) (pv 2) (fun _ _ => rfl)) (pa_cons (pe_ix ix_seq (pv 1) (pv 2) (fun _ _ => rfl)) pa_nil))))) pa_nil)))))))))), ?_⟩
    have kk : ∀ {p : Prop} [Decidable p], p → Q (.bl (decide p)) H := fun hp => by rw [decide_eq_true hp]; exact k _ (.refl _)
    cases d with
    | none =>
      cases hx; cases hy
      exact ⟨_, rfl, rfl, _, rfl, iteT ⟨_, rfl, rfl, k _ (.refl _)⟩⟩
    | bool b =>
      cases hx; cases hy
      refine ⟨_, rfl, rfl, _, rfl, iteF ?_⟩
      refine ⟨_, rfl, _, _, _, _, _, rfl, .ty _, tyx_D (.bl b), kit_ty kb_bb, _, rfl, iteT ?_⟩
      exact ⟨_, rfl, _, _, _, _, _, rfl, .ty _, tyx_D (.bl b), kit_ty kb_bb, _, rfl, iteT ⟨_, rfl, _, rfl, rfl, kk rfl⟩⟩
    | int i =>
      cases hx; cases hy
      refine ⟨_, rfl, rfl, _, rfl, iteF ?_⟩
      refine ⟨_, rfl, _, _, _, _, _, rfl, .ty _, tyx_D (.int i), kit_ty kb_ib, _, rfl, iteF ?_⟩
      refine ⟨_, rfl, _, _, _, _, _, rfl, .ty _, tyx_D (.int i), kit_ty kb_ii, _, rfl, iteT ?_⟩
      refine ⟨_, rfl, _, _, _, _, _, rfl, .ty _, tyx_D (.int i), kit_ty kb_ii, _, rfl, iteT ?_⟩
      exact ⟨_, rfl, _, _, _, _, _, rfl, .ty _, tyx_D (.int i), kit_ty kb_ib, _, rfl, _, rfl, iteT ⟨_, rfl, _, rfl, rfl, kk rfl⟩⟩
    | str z =>
      cases hx; cases hy
      refine ⟨_, rfl, rfl, _, rfl, iteF ?_⟩
      refine ⟨_, rfl, _, _, _, _, _, rfl, .ty _, tyx_D (.str z), kit_ty kb_sb, _, rfl, iteF ?_⟩
      refine ⟨_, rfl, _, _, _, _, _, rfl, .ty _, tyx_D (.str z), kit_ty kb_si, _, rfl, iteF ?_⟩
      refine ⟨_, rfl, _, _, _, _, _, rfl, .ty _, tyx_D (.str z), kit_ty kb_ss, _, rfl, iteT ?_⟩
      exact ⟨_, rfl, _, _, _, _, _, rfl, .ty _, tyx_D (.str z), kit_ty kb_ss, _, rfl, iteT ⟨_, rfl, _, rfl, rfl, kk rfl⟩⟩
    | dict _ => cases hx
    | list ds =>
      have hx' := hx
      have hy' := hy
      cases hx' with
      | lst hLx hAx =>
      rename_i a xs
      cases hy' with
      | lst hLy hAy =>
      rename_i b ys
      refine ⟨_, rfl, rfl, _, rfl, iteF ?_⟩
      refine ⟨_, rfl, _, _, _, _, _, rfl, .ty _, tyx_D hy, kit_ty kb_lb, _, rfl, iteF ?_⟩
      refine ⟨_, rfl, _, _, _, _, _, rfl, .ty _, tyx_D hy, kit_ty kb_li, _, rfl, iteF ?_⟩
      refine ⟨_, rfl, _, _, _, _, _, rfl, .ty _, tyx_D hy, kit_ty kb_ls, _, rfl, iteF ?_⟩
      refine ⟨_, rfl, _, _, _, _, _, rfl, .ty _, tyx_D hy, kit_ty kb_lt, _, rfl, _, _, _, _, _, rfl, .ty _, tyx_D hx, kit_ty kb_lt, rfl, _, rfl, iteF ?_⟩
      refine ⟨_, rfl, _, _, _, _, _, rfl, .ty _, tyx_D hy, kit_ty kb_ll, _, rfl, _, _, _, _, _, rfl, .ty _, tyx_D hx, kit_ty kb_ll, rfl, _, rfl, iteF ?_⟩
      obtain ⟨m, rfl⟩ : ∃ m, n = m + 1 := by
        cases n with
        | zero => simp [lv] at hl
        | succ m => exact ⟨m, rfl⟩
      simp only [lv] at hl
      have hLx : SqL K H a xs ∨ SqT K H a xs := .inl hLx
      have hLy : SqL K H b ys ∨ SqT K H b ys := .inl hLy
      have lx := hAx.length
      have ly := hAy.length
      have sq : ∀ {H' : Hp} {c : Addr} {zs : List V}, Same H H' → (SqL K H c zs ∨ SqT K H c zs) → (SqL K H' c zs ∨ SqT K H' c zs) := fun s z => z.imp (fun q => s.seq q) fun q => SqT_same s q
      refine ⟨_, rfl, a, _, rfl, hLx, _, rfl, b, _, rfl, hLy, rfl, _, rfl, iteNS (by rw [lx, ly]) ?_⟩
      refine ⟨_, rfl, b, _, rfl, hLy, _, rfl, by omega, by omega, fun D hD => ?_⟩
      have hn : ((ys.length : Nat) : Int).toNat = ds.length := by omega
      rw [hn]
      refine lc_range (lo := 0) (n := ds.length) (fun i H2 => Same H H2 ∧ H2 D = some (.lst ((List.replicate i true).map V.bl)))
        ⟨Same.upd_new hD, upd_same⟩ ?_ ?_
      · rintro i H2 hi ⟨s2, h2⟩
        obtain ⟨u, hu, hdu⟩ := hAx.get (i := i) (d := ds[i]) (List.getElem?_eq_getElem hi)
        obtain ⟨v, hv, hdv⟩ := hAy.get (i := i) (d := ds[i]) (List.getElem?_eq_getElem hi)
        have e0 : (0 : Int) + (i : Int) = (i : Int) := by omega
        refine ⟨rfl, ?_⟩
        refine ⟨_, rfl, _, rfl, rix_of (sq s2 hLx) (at_of e0 hu) ?_⟩
        refine ⟨_, rfl, _, rfl, rix_of (sq s2 hLy) (at_of e0 hv) ?_⟩
        refine ⟨_, _, ds[i], rfl, hdu.same s2, hdv.same s2, hl.2 _ (List.getElem_mem hi), fun H3 s3 => ?_⟩
        refine ⟨_, s3 _ _ h2, by simp only [List.length_map, List.length_replicate]; exact Nat.lt_of_lt_of_le (Nat.lt_of_lt_of_le hi hl.1) (by decide), fun c o e => ?_, ?_⟩
        · rw [upd_ne (fun q => by rw [q, hD] at e; cases e)]
          exact s3 _ _ (s2 c o e)
        · rw [upd_same, List.replicate_succ', List.map_append]
          rfl
      · rintro H2 ⟨s2, h2⟩
        refine ⟨D, List.replicate ds.length true, rfl, SqL.of h2, ?_⟩
        have : (List.replicate ds.length true).all id = true := by simp
        rw [this]
        exact k _ s2
    | tuple ds =>
      have hx' := hx
      have hy' := hy
      cases hx' with
      | tup hLx hAx =>
      rename_i a xs
      cases hy' with
      | tup hLy hAy =>
      rename_i b ys
      refine ⟨_, rfl, rfl, _, rfl, iteF ?_⟩
      refine ⟨_, rfl, _, _, _, _, _, rfl, .ty _, tyx_D hy, kit_ty kb_tb, _, rfl, iteF ?_⟩
      refine ⟨_, rfl, _, _, _, _, _, rfl, .ty _, tyx_D hy, kit_ty kb_ti, _, rfl, iteF ?_⟩
      refine ⟨_, rfl, _, _, _, _, _, rfl, .ty _, tyx_D hy, kit_ty kb_ts, _, rfl, iteF ?_⟩
      refine ⟨_, rfl, _, _, _, _, _, rfl, .ty _, tyx_D hy, kit_ty kb_tt, _, rfl, _, _, _, _, _, rfl, .ty _, tyx_D hx, kit_ty kb_tt, rfl, _, rfl, iteF ?_⟩
      refine ⟨_, rfl, _, _, _, _, _, rfl, .ty _, tyx_D hy, kit_ty kb_tl, _, rfl, _, _, _, _, _, rfl, .ty _, tyx_D hx, kit_ty kb_tl, rfl, _, rfl, iteF ?_⟩
      obtain ⟨m, rfl⟩ : ∃ m, n = m + 1 := by
        cases n with
        | zero => simp [lv] at hl
        | succ m => exact ⟨m, rfl⟩
      simp only [lv] at hl
      have hLx : SqL K H a xs ∨ SqT K H a xs := .inr hLx
      have hLy : SqL K H b ys ∨ SqT K H b ys := .inr hLy
      have lx := hAx.length
      have ly := hAy.length
      have sq : ∀ {H' : Hp} {c : Addr} {zs : List V}, Same H H' → (SqL K H c zs ∨ SqT K H c zs) → (SqL K H' c zs ∨ SqT K H' c zs) := fun s z => z.imp (fun q => s.seq q) fun q => SqT_same s q
      refine ⟨_, rfl, a, _, rfl, hLx, _, rfl, b, _, rfl, hLy, rfl, _, rfl, iteNS (by rw [lx, ly]) ?_⟩
      refine ⟨_, rfl, b, _, rfl, hLy, _, rfl, by omega, by omega, fun D hD => ?_⟩
      have hn : ((ys.length : Nat) : Int).toNat = ds.length := by omega
      rw [hn]
      refine lc_range (lo := 0) (n := ds.length) (fun i H2 => Same H H2 ∧ H2 D = some (.lst ((List.replicate i true).map V.bl)))
        ⟨Same.upd_new hD, upd_same⟩ ?_ ?_
      · rintro i H2 hi ⟨s2, h2⟩
        obtain ⟨u, hu, hdu⟩ := hAx.get (i := i) (d := ds[i]) (List.getElem?_eq_getElem hi)
        obtain ⟨v, hv, hdv⟩ := hAy.get (i := i) (d := ds[i]) (List.getElem?_eq_getElem hi)
        have e0 : (0 : Int) + (i : Int) = (i : Int) := by omega
        refine ⟨rfl, ?_⟩
        refine ⟨_, rfl, _, rfl, rix_of (sq s2 hLx) (at_of e0 hu) ?_⟩
        refine ⟨_, rfl, _, rfl, rix_of (sq s2 hLy) (at_of e0 hv) ?_⟩
        refine ⟨_, _, ds[i], rfl, hdu.same s2, hdv.same s2, hl.2 _ (List.getElem_mem hi), fun H3 s3 => ?_⟩
        refine ⟨_, s3 _ _ h2, by simp only [List.length_map, List.length_replicate]; exact Nat.lt_of_lt_of_le (Nat.lt_of_lt_of_le hi hl.1) (by decide), fun c o e => ?_, ?_⟩
        · rw [upd_ne (fun q => by rw [q, hD] at e; cases e)]
          exact s3 _ _ (s2 c o e)
        · rw [upd_same, List.replicate_succ', List.map_append]
          rfl
      · rintro H2 ⟨s2, h2⟩
        refine ⟨D, List.replicate ds.length true, rfl, SqL.of h2, ?_⟩
        have : (List.replicate ds.length true).all id = true := by simp
        rw [this]
        exact k _ s2
theorem ok__law_alike (T : Txt K mg) : ∀ n, FnOk P w K mg base CX0 n T.a__law_alike T.fd__law_alike P__law_alike (sp__law_alike T n)
  | 0 => ⟨fun _ _ _ _ h => h.elim, fun _ _ _ _ _ _ _ _ _ _ _ _ _ h => h.elim⟩
  | n + 1 => ok__law_alike_step T n (ok__law_alike T n)

end
end TL

namespace TL
open PySem PySem.Spec PyProof.Rows L2
section
variable {P : Program} {w : World} {K : PySem.W.Frag} {mg : Str → Option Value} {base : Heap}
def ts__law_word (T : Txt K mg) (a : Addr) (cls : Value) (d : Option Addr) : TS :=
  (tSeq (tAsg (tLst (tCons (tCB (rIsX K cls d a) (tCons (tVar 1) (tCons (tC (.ref T.C_BadManners)) tNil))) (tCons (tCB (rIsX K cls d a) (tCons (tVar 1) (tCons (tC (.ref T.C_BadCount)) tNil))) (tCons (tCB (rIsX K cls d a) (tCons (tVar 1) (tCons (tC (.ref T.C_BadPart)) tNil))) (tCons (tCB (rIsX K cls d a) (tCons (tVar 1) (tCons (tC (.ref T.C_BadItem)) tNil))) tNil))))) (gName 2))
    (tSeq (tAsg (tOp rCat (tVar 2) (tLst (tCons (tCB (rIsX K cls d a) (tCons (tVar 1) (tCons (tC (.ref T.C_Full)) tNil))) (tCons (tCB (rIsX K cls d a) (tCons (tVar 1) (tCons (tC (.ref T.C_BadLog)) tNil))) (tCons (tCB (rIsX K cls d a) (tCons (tVar 1) (tCons (tC (.ref T.C_BadText)) tNil))) (tCons (tCB (rIsX K cls d a) (tCons (tVar 1) (tCons (tC (.ref T.C_BadEnd)) tNil))) tNil)))))) (gName 2))
    (tSeq (tDrop (tBM K "list" rAppend (tVar 2) (tCons (tCB (rIsX K cls d a) (tCons (tVar 1) (tCons (tC (.ref T.C_BadStep)) tNil))) tNil)))
    (tSeq (tIfS (tOr (tTest (tOp rNe (tBM K "list" (rCountF K) (tVar 2) (tCons (tC (.bl true)) tNil)) (tC (.int 1)))) (tNot (tB (tCB (rIsX K cls d a) (tCons (tVar 1) (tCons (tC (.ty "ValueError")) tNil)))))) (tRet (tTup (tCons (tC (.str "other")) (tCons (tC (.int 0)) tNil)))) tNext)
    (tSeq (tAsg (tOp (rIxL K) (tLst (tCons (tC (.str "manners")) (tCons (tC (.str "count")) (tCons (tC (.str "part")) (tCons (tC (.str "item")) (tCons (tC (.str "full")) (tCons (tC (.str "log")) (tCons (tC (.str "text")) (tCons (tC (.str "end")) (tCons (tC (.str "step")) tNil)))))))))) (tBM K "list" (rIndex K) (tVar 2) (tCons (tC (.bl true)) tNil))) (gName 3))
    (tRet (tTup (tCons (tVar 3) (tCons (tIf (tTest (tOp (rIn K false) (tVar 3) (tTup (tCons (tC (.str "log")) (tCons (tC (.str "text")) tNil))))) (tXg K a cls d "row" (tVar 1)) (tIf (tTest (tOp rEq (tVar 3) (tC (.str "step")))) (tXg K a cls d "at" (tVar 1)) (tC (.int 0)))) tNil)))))))))
/-- the kinds' list behind i of them -/
theorem gives__law_word (T : Txt K mg) {N0 : List Str} {q0 : Str} {sc0 : Scope} {f0 : Addr} {cd0 : Value} {A0 : Around} {o0 : List Env} {st0 : Shared} {H0 : Hp} {E1 : XK} (q : Str) {g : Addr} {cdg : Value} :
    LamX.GivesTo (cxOf CX0 P w K mg base N0 q0 sc0 f0 cd0 A0 o0 st0 H0 E1).nox N__law_word "_law_word" (defScope s__law_word) g cdg (defBody s__law_word) "_law_work" q (TTw K [T.C_BadManners, T.C_BadCount, T.C_BadPart, T.C_BadItem, T.C_Full, T.C_BadLog, T.C_BadText, T.C_BadEnd, T.C_BadStep] T.C_LineError) := by
  intro f c' s H Q tl act hc h
  refine ⟨_, pss_cons (ps_try_as (i := 1) (x := "LineError") (n := "e") (X := (cxOf CX0 P w K mg base N__law_word "_law_word" (defScope s__law_word) g cdg (A0.deeper (envOfC q0 sc0 st0.heap.objs.size f0 cd0)) (envOfC q0 sc0 st0.heap.objs.size f0 cd0 :: o0) s H E0).nox) (c := .ref T.C_LineError) (ts := ts__law_word T)
      (tb := fun W D σ H => ∃ Ech : XK, (∀ cls d σ' H', Ech cls d H' → σ'.length = 4 → W cls d σ' H') ∧ σ[0]? = some (some (.ref f)) ∧ H c' = some (LamX.CodeO c' q) ∧ tl Ech H (fun _ H' => D.nx σ H'))
      rfl rfl sc__law_word.nd rfl rfl ⟨rfl, by decide, .inl T.c_LineError⟩ takes0 (fun W pn xe tk _ => ⟨fun pins s' σ H D I hh => ?bo⟩) (fun a oe cls d pn hz hf => ?su)) (pss_one (ps_ret pe_non)), ?right⟩
  case su =>
    have ci := call_isX (X := (cxOf CX0 P w K mg base N__law_word "_law_word" (defScope s__law_word) g cdg (A0.deeper (envOfC q0 sc0 st0.heap.objs.size f0 cd0)) (envOfC q0 sc0 st0.heap.objs.size f0 cd0 :: o0) s H E0).nox) (a := a) (pn := pn) hz hf
    exact (pss_cons (ps_set (i := 2) sc__law_word.nd rfl (by first | exact Or.inl rfl | exact Or.inr rfl) (pe_lst (pa_cons (pe_callB ci (by rfl) T.n_isinstance (by decide +kernel) (pa_cons (pv 1) (pa_cons (pe_glob (v := .ref T.C_BadManners) rfl T.c_BadManners rfl) pa_nil))) (pa_cons (pe_callB ci (by rfl) T.n_isinstance (by decide +kernel) (pa_cons (pv 1) (pa_cons (pe_glob (v := .ref T.C_BadCount) rfl T.c_BadCount rfl) pa_nil))) (pa_cons (pe_callB ci (by rfl) T.n_isinstance (by decide +kernel) (pa_cons (pv 1) (pa_cons (pe_glob (v := .ref T.C_BadPart) rfl T.c_BadPart rfl) pa_nil))) (pa_cons (pe_callB ci (by rfl) T.n_isinstance (by decide +kernel) (pa_cons (pv 1) (pa_cons (pe_glob (v := .ref T.C_BadItem) rfl T.c_BadItem rfl) pa_nil))) pa_nil))))))
        (pss_cons (ps_set (i := 2) sc__law_word.nd rfl (by first | exact Or.inl rfl | exact Or.inr rfl) (pe_op op_cat (pv 2) (pe_lst (pa_cons (pe_callB ci (by rfl) T.n_isinstance (by decide +kernel) (pa_cons (pv 1) (pa_cons (pe_glob (v := .ref T.C_Full) rfl T.c_Full rfl) pa_nil))) (pa_cons (pe_callB ci (by rfl) T.n_isinstance (by decide +kernel) (pa_cons (pv 1) (pa_cons (pe_glob (v := .ref T.C_BadLog) rfl T.c_BadLog rfl) pa_nil))) (pa_cons (pe_callB ci (by rfl) T.n_isinstance (by decide +kernel) (pa_cons (pv 1) (pa_cons (pe_glob (v := .ref T.C_BadText) rfl T.c_BadText rfl) pa_nil))) (pa_cons (pe_callB ci (by rfl) T.n_isinstance (by decide +kernel) (pa_cons (pv 1) (pa_cons (pe_glob (v := .ref T.C_BadEnd) rfl T.c_BadEnd rfl) pa_nil))) pa_nil)))))))
        (pss_cons (ps_expr (pe_bm PySem.F.plainAttrs_list PySem.F.slot_list_append PySem.F.type_list_append mt_append (pv 2) (pa_cons (pe_callB ci (by rfl) T.n_isinstance (by decide +kernel) (pa_cons (pv 1) (pa_cons (pe_glob (v := .ref T.C_BadStep) rfl T.c_BadStep rfl) pa_nil))) pa_nil)))
        (pss_cons (ps_if (PW.pt (pw_or (pt_cmpR op_ne (pe_bm PySem.F.plainAttrs_list PySem.F.slot_list_count PySem.F.type_list_count mt_countF (pv 2) (pa_cons pe_bl pa_nil)) pe_int (nomark _)) (pw_or1 (pt_not (pt_val (pe_callB ci (by rfl) T.n_isinstance (by decide +kernel) (pa_cons (pv 1) (pa_cons (pe_bltn (v := .ty "ValueError") (u := .type "ValueError") (by rfl) T.n_ValueError (by decide +kernel) rfl) pa_nil))))))))
          (pss_one (ps_ret (pe_tup (pa_cons pe_str (pa_cons pe_int pa_nil)))))
          pss_nil)
        (pss_cons (ps_set (i := 3) sc__law_word.nd rfl (by first | exact Or.inl rfl | exact Or.inr rfl) (pe_ix ix_list (pe_lst (pa_cons pe_str (pa_cons pe_str (pa_cons pe_str (pa_cons pe_str (pa_cons pe_str (pa_cons pe_str (pa_cons pe_str (pa_cons pe_str (pa_cons pe_str pa_nil)))))))))) (pe_bm PySem.F.plainAttrs_list PySem.F.slot_list_index PySem.F.type_list_index mt_index (pv 2) (pa_cons pe_bl pa_nil)) (fun _ _ => rfl)))
        (pss_one (ps_ret (pe_tup (pa_cons (pv 3) (pa_cons (pe_ifExp (pt_cmpR op_in_seq (pv 3) (pe_tup (pa_cons pe_str (pa_cons pe_str pa_nil))) (by rfl)) (pe_xg hz hf (pv 1)) (pe_ifExp (pt_cmpR op_eq (pv 3) pe_str (nomark _)) (pe_xg hz hf (pv 1)) pe_int)) pa_nil))))))))))
  case bo =>
    obtain ⟨Ech, hW, h1, h2, h3⟩ := hh
    have tk2 : Takes ((cxOf CX0 P w K mg base N__law_word "_law_word" (defScope s__law_word) g cdg (A0.deeper (envOfC q0 sc0 st0.heap.objs.size f0 cd0)) (envOfC q0 sc0 st0.heap.objs.size f0 cd0 :: o0) s _ E0).nox.tr pn xe) (fun cls d σ' H' => σ'.length = 4 → W cls d σ' H') := fun u s2 ⟨a, B, sI, pins, σ, H, cls, d, e, I, nb, up, sky, na, os, ag, w⟩ => tk u s2 ⟨a, B, sI, pins, σ, H, cls, d, e, I, nb, up, sky, na, os, ag, w I.len⟩
    exact (pss_one (ps_expr (act _ pn xe Ech _ _ tk2 fun cls d σ' H' z => hW cls d σ' H' z))).run pins s' σ H D I ⟨h1, h2, h3⟩
  case right =>
    obtain ⟨Ew, hn, hE⟩ := h
    refine ⟨Ew, fun cls d σ' H' z hl => ?_, rfl, hc, hn⟩
    obtain ⟨j, num, ⟨D, rfl, hj, kd, hnum⟩, k⟩ := hE cls d H' z
    refine ⟨true, kd.xm, fun _ a na => ?_, fun z => by cases z⟩
    obtain ⟨x0, x1, x2, x3, rfl⟩ : ∃ x0 x1 x2 x3, σ' = [x0, x1, x2, x3] := by
      match σ', hl with
      | [x0, x1, x2, x3], _ => exact ⟨x0, x1, x2, x3, rfl⟩
    have dc : ∀ {H2}, Same H' H2 → (d = none ∨ ∃ dd fs, d = some dd ∧ H2 dd = some (.xd fs)) := fun {H2} s => by
      rcases hnum with ⟨_, _, _, _, e⟩ | ⟨dd, fs, e, h2, _⟩
      · exact .inl e
      · exact .inr ⟨dd, fs, e, s _ _ h2⟩
    have s0 := Same.refl H'
    refine ⟨_, rfl, D, _, _, _, rfl, rfl, (fun u r => r), kd.ec, kd.ks 0 _ rfl, dc s0, _, rfl, D, _, _, _, rfl, rfl, (fun u r => r), kd.ec, kd.ks 1 _ rfl, dc s0, _, rfl, D, _, _, _, rfl, rfl, (fun u r => r), kd.ec, kd.ks 2 _ rfl, dc s0, _, rfl, D, _, _, _, rfl, rfl, (fun u r => r), kd.ec, kd.ks 3 _ rfl, dc s0, (by show 4 ≤ sizeLine; decide), fun l1 h1 => ?_⟩
    have s1 := Same.upd_new (o := .lst [.bl (decide (0 = j)), .bl (decide (1 = j)), .bl (decide (2 = j)), .bl (decide (3 = j))]) h1
    have q1 := upd_same (H := H') (a := l1) (o := .lst [.bl (decide (0 = j)), .bl (decide (1 = j)), .bl (decide (2 = j)), .bl (decide (3 = j))])
    generalize upd H' l1 (.lst [.bl (decide (0 = j)), .bl (decide (1 = j)), .bl (decide (2 = j)), .bl (decide (3 = j))]) = H1 at s1 q1 ⊢
    refine ⟨_, rfl, _, rfl, D, _, _, _, rfl, rfl, (fun u r => r), kd.ec, kd.ks 4 _ rfl, dc s1, _, rfl, D, _, _, _, rfl, rfl, (fun u r => r), kd.ec, kd.ks 5 _ rfl, dc s1, _, rfl, D, _, _, _, rfl, rfl, (fun u r => r), kd.ec, kd.ks 6 _ rfl, dc s1, _, rfl, D, _, _, _, rfl, rfl, (fun u r => r), kd.ec, kd.ks 7 _ rfl, dc s1, (by show 4 ≤ sizeLine; decide), fun l2 h2 => ?_⟩
    have s2 := Same.upd_new (o := .lst [.bl (decide (4 = j)), .bl (decide (5 = j)), .bl (decide (6 = j)), .bl (decide (7 = j))]) h2
    have q2 := upd_same (H := H1) (a := l2) (o := .lst [.bl (decide (4 = j)), .bl (decide (5 = j)), .bl (decide (6 = j)), .bl (decide (7 = j))])
    generalize upd H1 l2 (.lst [.bl (decide (4 = j)), .bl (decide (5 = j)), .bl (decide (6 = j)), .bl (decide (7 = j))]) = H2 at s2 q2 ⊢
    refine ⟨l1, l2, _, _, rfl, rfl, s2 _ _ q1, q2, (by show 4 + 4 ≤ sizeLine; decide), fun l3 h3 => ?_⟩
    have s3 := Same.upd_new (o := .lst ([.bl (decide (0 = j)), .bl (decide (1 = j)), .bl (decide (2 = j)), .bl (decide (3 = j))] ++ [.bl (decide (4 = j)), .bl (decide (5 = j)), .bl (decide (6 = j)), .bl (decide (7 = j))])) h3
    have q3 := upd_same (H := H2) (a := l3) (o := .lst ([.bl (decide (0 = j)), .bl (decide (1 = j)), .bl (decide (2 = j)), .bl (decide (3 = j))] ++ [.bl (decide (4 = j)), .bl (decide (5 = j)), .bl (decide (6 = j)), .bl (decide (7 = j))]))
    have n3 : ∀ b o, H' b = some o → b ≠ l3 := fun b o e => ne_of_none (s2 _ _ (s1 _ _ e)) h3
    generalize upd H2 l3 (.lst ([.bl (decide (0 = j)), .bl (decide (1 = j)), .bl (decide (2 = j)), .bl (decide (3 = j))] ++ [.bl (decide (4 = j)), .bl (decide (5 = j)), .bl (decide (6 = j)), .bl (decide (7 = j))])) = H3 at s3 q3 ⊢
    have s03 := (s1.trans s2).trans s3
    refine ⟨_, rfl, .inl ⟨rfl, _, SqL.of q3⟩, _, rfl, D, _, _, _, rfl, rfl, (fun u r => r), kd.ec, kd.ks 8 _ rfl, dc s03, l3, _, _, rfl, rfl, q3, (by show 8 < sizeLine; decide), ?_⟩
    have s4 : Same H' (upd H3 l3 (.lst ([.bl (decide (0 = j)), .bl (decide (1 = j)), .bl (decide (2 = j)), .bl (decide (3 = j))] ++ [.bl (decide (4 = j)), .bl (decide (5 = j)), .bl (decide (6 = j)), .bl (decide (7 = j))] ++ [.bl (decide (8 = j))]))) := fun b o e => by
      rw [upd_ne (n3 b o e)]
      exact s03 _ _ e
    have q4 := upd_same (H := H3) (a := l3) (o := .lst ((List.range 9).map fun i => V.bl (decide (i = j))))
    have e9 : ([.bl (decide (0 = j)), .bl (decide (1 = j)), .bl (decide (2 = j)), .bl (decide (3 = j))] ++ [.bl (decide (4 = j)), .bl (decide (5 = j)), .bl (decide (6 = j)), .bl (decide (7 = j))] ++ [.bl (decide (8 = j))] : List V) = (List.range 9).map fun i => V.bl (decide (i = j)) := rfl
    rw [e9] at s4 ⊢
    generalize upd H3 l3 (.lst ((List.range 9).map fun i => V.bl (decide (i = j)))) = H4 at s4 q4 ⊢
    have hfl : ((List.range 9).map fun i => V.bl (decide (i = j))).all flatV = true := by
      rw [List.all_map]
      exact List.all_eq_true.mpr fun x _ => rfl
    have hcn : ((List.range 9).map fun i => V.bl (decide (i = j))).countP (fun z => eqV z (.bl true)) = 1 := (by decide +kernel : ∀ j < 9, ((List.range 9).map fun i => V.bl (decide (i = j))).countP (fun z => eqV z (.bl true)) = 1) j hj
    refine ⟨_, rfl, .inl ⟨rfl, _, SqL.of q4⟩, l3, _, .bl true, rfl, rfl, SqL.of q4, rfl, hfl, ?_⟩
    rw [hcn]
    refine ⟨rfl, false, rfl, iteF ?_⟩
    refine ⟨_, rfl, D, _, _, _, rfl, rfl, (fun u r => r), kd.ec, kd.iv, dc s4, true, rfl, iteF ?_⟩
    refine ⟨(by show 9 ≤ sizeLine; decide), fun l5 h5 => ?_⟩
    have s5 := Same.upd_new (o := .lst [.str "manners", .str "count", .str "part", .str "item", .str "full", .str "log", .str "text", .str "end", .str "step"]) h5
    have q5 := upd_same (H := H4) (a := l5) (o := .lst [.str "manners", .str "count", .str "part", .str "item", .str "full", .str "log", .str "text", .str "end", .str "step"])
    generalize upd H4 l5 (.lst [.str "manners", .str "count", .str "part", .str "item", .str "full", .str "log", .str "text", .str "end", .str "step"]) = H5 at s5 q5 ⊢
    have s05 := s4.trans s5
    have hix : ∀ m : Nat, m < 9 → ((List.range 9).map fun i => V.bl (decide (i = j)))[m]? = some (V.bl (decide (m = j))) := fun m hm => by
      rw [List.getElem?_map, List.getElem?_eq_getElem (by simpa using hm), List.getElem_range]
      rfl
    refine ⟨_, rfl, .inl ⟨rfl, _, SqL.of (s5 _ _ q4)⟩, l3, _, .bl true, j, .bl true, rfl, rfl, SqL.of (s5 _ _ q4), rfl, hfl, (hix j hj).trans (by rw [decide_eq_true rfl]), rfl, fun m z' hm hz => ?_, ?_⟩
    · rw [hix m (by omega), decide_eq_false (by omega)] at hz
      rw [← Option.some.inj hz]
      rfl
    have hw : atI [V.str "manners", .str "count", .str "part", .str "item", .str "full", .str "log", .str "text", .str "end", .str "step"] (j : Int) = some (.str (wordN j)) := (by decide +kernel : ∀ j : Nat, j < 9 → atI [V.str "manners", .str "count", .str "part", .str "item", .str "full", .str "log", .str "text", .str "end", .str "step"] (j : Int) = some (.str (wordN j))) j hj
    refine ⟨l5, _, j, _, rfl, rfl, SqL.of q5, hw, ?_⟩
    refine ⟨_, rfl, _, rfl, (by show 2 ≤ sizeLine; decide), fun u hu => ?_⟩
    have s6 := Same.upd_new (o := .tup [.str "log", .str "text"]) hu
    have q6 := upd_same (H := H5) (a := u) (o := .tup [.str "log", .str "text"])
    generalize upd H5 u (.tup [.str "log", .str "text"]) = H6 at s6 q6 ⊢
    have s06 := s05.trans s6
    have hin : inV (.str (wordN j)) [.str "log", .str "text"] = decide (j = 5 ∨ j = 6) := (by decide +kernel : ∀ j < 9, inV (.str (wordN j)) [.str "log", .str "text"] = decide (j = 5 ∨ j = 6)) j hj
    have hst : decide (V.str (wordN j) = V.str "step") = decide (j = 8) := (by decide +kernel : ∀ j < 9, decide (V.str (wordN j) = V.str "step") = decide (j = 8)) j hj
    have e1 : (if false = true then !inV (.str (wordN j)) [.str "log", .str "text"] else inV (.str (wordN j)) [.str "log", .str "text"]) = decide (j = 5 ∨ j = 6) := (if_neg Bool.false_ne_true).trans hin
    have fin : ∀ (H7 : Hp), Same H6 H7 → (2 ≤ sizeLine ∧ ∀ t, H7 t = none → Q (.ref t) (upd H7 t (.tup [.str (wordN j), .int num]))) := fun H7 s7 =>
      ⟨by decide, fun t ht => k t _ ((s06.trans s7).trans (Same.upd_new ht)) upd_same⟩
    rcases hnum with ⟨n5, n6, n8, rfl, _⟩ | ⟨dd, fs, rfl, hx, xf, ⟨hj56, hno, hl⟩ | ⟨hj8, hno, hl⟩⟩
    · refine ⟨u, _, rfl, .inr (SqT.of q6), rfl, rfl, false, congrArg V.bl (e1.trans (decide_eq_false (by omega))), iteF ?_⟩
      exact ⟨_, rfl, rfl, false, congrArg V.bl (hst.trans (decide_eq_false (by omega))), iteF (fin _ (.refl _))⟩
    · refine ⟨u, _, rfl, .inr (SqT.of q6), rfl, rfl, true, congrArg V.bl (e1.trans (decide_eq_true hj56)), iteT ?_⟩
      exact ⟨_, rfl, rfl, D, dd, fs, .int num, rfl, xf, hno, rfl, s06 _ _ hx, hl, fin _ (.refl _)⟩
    · refine ⟨u, _, rfl, .inr (SqT.of q6), rfl, rfl, false, congrArg V.bl (e1.trans (decide_eq_false (by omega))), iteF ?_⟩
      refine ⟨_, rfl, rfl, true, congrArg V.bl (hst.trans (decide_eq_true hj8)), iteT ?_⟩
      exact ⟨_, rfl, rfl, D, dd, fs, .int num, rfl, xf, hno, rfl, s06 _ _ hx, hl, fin _ (.refl _)⟩

end
end TL

namespace TL
open PySem PySem.Spec PyProof.Rows L2
section
variable {P : Program} {w : World} {K : PySem.W.Frag} {mg : Str → Option Value} {base : Heap}
def sp__law_row (T : Txt K mg) : Sp := fun vs H Q _ => ∃ d : Addr, vs = [.ref d] ∧ DiceAt H d ∧
  ∀ (t : Addr) (r : Row) (H' : Hp), okRow r → H t = none → H' t = some (.tup (rowV r)) → DiceAt H' d → Frm [d] H H' → Q (.ref t) H'
theorem ok__law_row (T : Txt K mg) : FnOk P w K mg base CX0 2 T.a__law_row T.fd__law_row P__law_row (sp__law_row T) := by
  have G__law_off := ok__law_off (P := P) (w := w) (base := base) T
  refine T.F__law_row.ok sc__law_row (fun vs H Q E h => ?_) (fun cdv A outer s H vs Q E hr h => ?_)
  · obtain ⟨d, rfl, _⟩ := h
    rfl
  · obtain ⟨d, rfl, hD, k⟩ := h
    refine ⟨_, (pss_cons (ps_set (i := 1) sc__law_row.nd rfl (by first | exact Or.inl rfl | exact Or.inr rfl) (pe_call G__law_off (hr.mono (by decide)) rfl T.g__law_off T.F__law_off.kp T.b__law_off .nil pass0 (pa_cons (pv 0) (pa_cons (pe_ix ix_list (pe_lst (pa_cons pe_int (pa_cons pe_int pa_nil))) (pe_call G__law_off (hr.mono (by decide)) rfl T.g__law_off T.F__law_off.kp T.b__law_off .nil pass0 (pa_cons (pv 0) (pa_cons pe_int pa_nil))) (fun _ _ => rfl)) pa_nil))))
    (pss_cons (ps_set (i := 2) sc__law_row.nd rfl (by first | exact Or.inl rfl | exact Or.inr rfl) (pe_ifExp (pt_cmpR op_gt (pe_call G__law_off (hr.mono (by decide)) rfl T.g__law_off T.F__law_off.kp T.b__law_off .nil pass0 (pa_cons (pv 0) (pa_cons pe_int pa_nil))) pe_int (nomark _)) (pv 1) (pe_call G__law_off (hr.mono (by decide)) rfl T.g__law_off T.F__law_off.kp T.b__law_off .nil pass0 (pa_cons (pv 0) (pa_cons pe_int pa_nil)))))
    (pss_one (ps_ret (pe_tup (pa_cons (pv 1) (pa_cons (pe_cmpR op_gt (pe_call G__law_off (hr.mono (by decide)) rfl T.g__law_off T.F__law_off.kp T.b__law_off .nil pass0 (pa_cons (pv 0) (pa_cons pe_int pa_nil))) pe_int (nomark _)) (pa_cons (pv 2) (pa_cons (pe_cmpR op_gt (pe_call G__law_off (hr.mono (by decide)) rfl T.g__law_off T.F__law_off.kp T.b__law_off .nil pass0 (pa_cons (pv 0) (pa_cons pe_int pa_nil))) pe_int (nomark _)) pa_nil))))))))), ?_⟩
    -- mine
    refine ⟨_, rfl, (by show 2 ≤ sizeLine; decide), fun l hl => ?_⟩
    have f1 : Frm [d] H (upd H l (.lst [.int 2, .int 10])) := Frm.new hl
    have nld := hD.ne_new hl
    refine ⟨_, rfl, d, 2, rfl, hD.new hl, by decide, by decide, fun r H1 r0 r2 D1 g1 => ?_⟩
    have hl1 : H1 l = some (.lst [.int 2, .int 10]) := g1 _ _ upd_same (by simp [nld])
    obtain ⟨m, hm, hm0, hm1⟩ : ∃ m : Int, atI [V.int 2, V.int 10] r = some (.int m) ∧ 0 < m ∧ m ≤ 10 := by
      have : r = 0 ∨ r = 1 := by omega
      rcases this with rfl | rfl
      · exact ⟨2, rfl, by decide, by decide⟩
      · exact ⟨10, rfl, by decide, by decide⟩
    refine ⟨l, _, r, _, rfl, rfl, SqL.of hl1, hm, ?_⟩
    refine ⟨d, m, rfl, D1, hm0, by omega, fun mine H2 a0 a1 D2 g2 => ?_⟩
    have f2 := (f1.trans g1).trans g2
    -- yours
    refine ⟨_, rfl, d, 4, rfl, D2, by decide, by decide, fun z H3 z0 z4 D3 g3 => ?_⟩
    have f3 := f2.trans g3
    refine ⟨_, _, rfl, rfl, _, rfl, ?_⟩
    have fin : ∀ (yours : Int) (H4 : Hp), 0 ≤ yours → yours ≤ 9 → DiceAt H4 d → Frm [d] H H4 →
        tRet (tTup (tCons (tVar 1) (tCons (tOp (rI0 fun i j => .bl (decide (j < i))) (tCall (sp__law_off T) [] E0 (tCons (tVar 0) (tCons (tC (.int 3)) tNil))) (tC (.int 0))) (tCons (tVar 2) (tCons (tOp (rI0 fun i j => .bl (decide (j < i))) (tCall (sp__law_off T) [] E0 (tCons (tVar 0) (tCons (tC (.int 3)) tNil))) (tC (.int 0))) tNil)))))
          { nx := fun _ H' => Q .non H', rt := Q } [some (.ref d), some (.int mine), some (.int yours)] H4 := by
      intro yours H4 y0 y9 D4 f4
      refine ⟨_, rfl, _, rfl, d, 3, rfl, D4, by decide, by decide, fun u H5 _ _ D5 g5 => ?_⟩
      refine ⟨_, _, rfl, rfl, _, rfl, _, rfl, d, 3, rfl, D5, by decide, by decide, fun w' H6 _ _ D6 g6 => ?_⟩
      refine ⟨_, _, rfl, rfl, (by show 4 ≤ sizeLine; decide), fun t ht => ?_⟩
      have f6 := (f4.trans g5).trans g6
      refine k t (mine, decide (0 < u), yours, decide (0 < w')) _ ⟨⟨a0, by omega⟩, y0, y9⟩ (f6.free ht) (by rw [upd_same]; rfl) (D6.new ht) (f6.trans (Frm.new ht))
    refine iteD (fun _ => ?_) (fun _ => ?_)
    · exact ⟨_, rfl, fin mine H3 a0 (by omega) D3 f3⟩
    · refine ⟨_, rfl, d, 10, rfl, D3, by decide, by decide, fun y H4 y0 y1 D4 g4 => ?_⟩
      exact fin y H4 y0 (by omega) D4 (f3.trans g4)

end
end TL

namespace TL
open PySem PySem.Spec PyProof.Rows L2
section
variable {P : Program} {w : World} {K : PySem.W.Frag} {mg : Str → Option Value} {base : Heap}
def sp__law_log (T : Txt K mg) : Sp := fun vs H Q _ => ∃ d : Addr, vs = [.ref d] ∧ DiceAt H d ∧
  ∀ (p : Addr) (xs : List V) (rs : List Row) (H' : Hp), (∀ r ∈ rs, okRow r) → rs.length ≤ 40 → H p = none → H' p = some (.lst xs) → ImAll H' xs (rs.map rowD) → DiceAt H' d → Frm [d] H H' → Q (.ref p) H'
theorem ok__law_log (T : Txt K mg) : FnOk P w K mg base CX0 3 T.a__law_log T.fd__law_log P__law_log (sp__law_log T) := by
  have G__law_off := ok__law_off (P := P) (w := w) (base := base) T
  have G__law_row := ok__law_row (P := P) (w := w) (base := base) T
  refine T.F__law_log.ok sc__law_log (fun vs H Q E h => ?_) (fun cdv A outer s H vs Q E hr h => ?_)
  · obtain ⟨d, rfl, _⟩ := h
    rfl
  · obtain ⟨d, rfl, hD, k⟩ := h
    have hu64 := hr.units
    refine ⟨_, (pss_cons (ps_set (i := 1) sc__law_log.nd rfl (by first | exact Or.inl rfl | exact Or.inr rfl) (pe_lst pa_nil))
    (pss_cons (ps_for PassesOwn.never rfl (pi_range1 rfl T.n_range (pa_cons (pe_call G__law_off (hr.mono (by decide)) rfl T.g__law_off T.F__law_off.kp T.b__law_off .nil pass0 (pa_cons (pv 0) (pa_cons (pe_ix ix_list (pe_lst (pa_cons pe_int (pa_cons pe_int pa_nil))) (pe_call G__law_off (hr.mono (by decide)) rfl T.g__law_off T.F__law_off.kp T.b__law_off .nil pass0 (pa_cons (pv 0) (pa_cons pe_int pa_nil))) (fun _ _ => rfl)) pa_nil))) pa_nil)) (pg_name (i := 2) sc__law_log.nd rfl (by first | exact Or.inl rfl | exact Or.inr rfl))
      (pss_one (ps_expr (pe_bm PySem.F.plainAttrs_list PySem.F.slot_list_append PySem.F.type_list_append mt_append (pv 1) (pa_cons (pe_ifExp (PW.pt (pw_and (pt_cmpR (op_neD hu64) (pv 1) (pe_lst pa_nil) (nomark _)) (pw_and1 (pt_cmpR op_eq (pe_call G__law_off (hr.mono (by decide)) rfl T.g__law_off T.F__law_off.kp T.b__law_off .nil pass0 (pa_cons (pv 0) (pa_cons pe_int pa_nil))) pe_int (nomark _))))) (pe_ix ix_list (pv 1) (pe_un un_neg pe_int) (fun _ _ => rfl)) (pe_call G__law_row (hr.mono (by decide)) rfl T.g__law_row T.F__law_row.kp T.b__law_row .nil pass0 (pa_cons (pv 0) pa_nil))) pa_nil)))))
    (pss_one (ps_ret (pv 1))))), ?_⟩
    refine ⟨(by show 0 ≤ sizeLine; decide), fun p hp => ?_⟩
    have npd := hD.ne_new hp
    refine ⟨_, rfl, (by show 2 ≤ sizeLine; decide), fun l hl => ?_⟩
    have D0 := (hD.new (o := .lst []) hp).new (o := .lst [.int 8, .int 40]) hl
    have nld := (hD.new (o := .lst []) hp).ne_new hl
    have npl : p ≠ l := fun e => by rw [← e, upd_same] at hl; cases hl
    have f1 : Frm [d] H (upd (upd H p (.lst [])) l (.lst [.int 8, .int 40])) := (Frm.new hp).trans (Frm.new hl)
    refine ⟨_, rfl, d, 2, rfl, D0, by decide, by decide, fun r H1 r0 r2 D1 g1 => ?_⟩
    have hl1 : H1 l = some (.lst [.int 8, .int 40]) := g1 _ _ upd_same (by simp [nld])
    have hp1 : H1 p = some (.lst []) := g1 _ _ (by rw [upd_ne npl]; exact upd_same) (by simp [npd])
    obtain ⟨m, hm, hm0, hm1⟩ : ∃ m : Int, atI [V.int 8, V.int 40] r = some (.int m) ∧ 0 < m ∧ m ≤ 40 := by
      have : r = 0 ∨ r = 1 := by omega
      rcases this with rfl | rfl
      · exact ⟨8, rfl, by decide, by decide⟩
      · exact ⟨40, rfl, by decide, by decide⟩
    refine ⟨l, _, r, _, rfl, rfl, SqL.of hl1, hm, ?_⟩
    refine ⟨d, m, rfl, D1, hm0, by omega, fun n H2 n0 n1 D2 g2 => ?_⟩
    have hp2 : H2 p = some (.lst []) := g2 _ _ hp1 (by simp [npd])
    have f2 := (f1.trans g1).trans g2
    refine ⟨n, rfl, by omega, by omega, for_range (lo := 0) (n := n.toNat) (fun i σ H3 => (∃ v : Option V, σ = [some (.ref d), some (.ref p), v]) ∧ DiceAt H3 d ∧ Frm [d] H H3 ∧ ∃ (xs : List V) (rs : List Row), H3 p = some (.lst xs) ∧ ImAll H3 xs (rs.map rowD) ∧ (∀ r ∈ rs, okRow r) ∧ rs.length = i)
      ⟨⟨_, rfl⟩, D2, f2, [], [], hp2, .nil, by simp, rfl⟩ ?_ ?_⟩
    · rintro i σ H3 hi ⟨⟨v, rfl⟩, D3, f3, xs, rs, hp3, hA, hok, hln⟩
      have hxl := rows_len hA
      refine ⟨_, rfl, .inl ⟨rfl, _, SqL.of hp3⟩, ?_⟩
      refine ⟨_, rfl, (by show 0 ≤ sizeLine; decide), fun e he => ?_⟩
      have s4 : Same H3 (upd H3 e (.lst [])) := Same.upd_new he
      have f4 : Frm [d] H (upd H3 e (.lst [])) := f3.trans (Frm.of_same s4)
      have hp4 := s4 _ _ hp3
      have hA4 := hA.same s4
      have new : ∀ H5, DiceAt H5 d → Frm [d] H H5 → H5 p = some (.lst xs) → ImAll H5 xs (rs.map rowD) → tCall (sp__law_row T) [] E0 (tCons (tVar 0) tNil) [some (.ref d), some (.ref p), some (.int (0 + (i : Nat)))] H5
          (fun x H6 => rAppend (.ref p) [x] H6 fun _ H7 => (∃ v : Option V, ([some (.ref d), some (.ref p), some (.int (0 + (i : Nat)))] : List (Option V)) = [some (.ref d), some (.ref p), v]) ∧ DiceAt H7 d ∧ Frm [d] H H7 ∧ ∃ (xs : List V) (rs : List Row), H7 p = some (.lst xs) ∧ ImAll H7 xs (rs.map rowD) ∧ (∀ r ∈ rs, okRow r) ∧ rs.length = i + 1) := by
        intro H5 D5 f5 hp5 hA5
        refine ⟨_, rfl, d, rfl, D5, fun t r H6 ok ht ht6 D6 g6 => ?_⟩
        have hp6 : H6 p = some (.lst xs) := g6 _ _ hp5 (by simp [npd])
        refine ⟨p, xs, _, rfl, rfl, hp6, small1000 (by omega), ⟨_, rfl⟩, D6.upd_ne (Ne.symm npd), (f5.trans g6).own hp (Frm.updL hp6), _, rs ++ [r], upd_same, ?_, fun x hx => ?_, by simp [hln]⟩
        · rw [List.map_append]
          refine ImAll.append ((hA5.frm g6).updL hp6) (.cons (im_row ?_) .nil)
          rw [upd_ne (ne_of ht6 hp6 (by intro q; cases q))]
          exact ht6
        · rcases List.mem_append.mp hx with h1 | h1
          · exact hok x h1
          · simp at h1; subst h1; exact ok
      have hlv := lv_rows (rs := rs) (by omega)
      refine ⟨.list (rs.map rowD), .list [], .lst (SqL.of hp4) hA4.dp, .lst (SqL.of upd_same) .nil, shaped_lv hlv (by decide), rfl, _, rfl, ?_⟩
      rw [eqv_rows_nil]
      refine iteN (fun hne => ?_) (fun he0 => iteF (new _ (D3.same s4) f4 hp4 hA4))
      refine ⟨_, rfl, d, 3, rfl, D3.same s4, by decide, by decide, fun z H5 z0 z3 D5 g5 => ?_⟩
      have hp5 : H5 p = some (.lst xs) := g5 _ _ hp4 (by simp [npd])
      have hA5 := hA4.frm g5
      refine ⟨rfl, _, rfl, ?_⟩
      refine iteD (fun _ => ?_) (fun _ => new _ D5 (f4.trans g5) hp5 hA5)
      -- the last one again
      have hpos : 0 < rs.length := List.length_pos_iff.mpr hne
      obtain ⟨t, ht, htt⟩ := rows_get hA5 (i := rs.length - 1) (r := rs[rs.length - 1]) (List.getElem?_eq_getElem (by omega))
      have hat : atI xs (-1) = some (.ref t) := by
        unfold atI ixN
        rw [if_neg (by omega), if_pos (by omega)]
        have : ((-1 : Int) + (xs.length : Nat)).toNat = rs.length - 1 := by omega
        rw [this]
        exact ht
      refine ⟨_, rfl, _, rfl, p, _, _, _, rfl, rfl, SqL.of hp5, hat, ?_⟩
      refine ⟨p, xs, _, rfl, rfl, hp5, small1000 (by omega), ⟨_, rfl⟩, D5.upd_ne (Ne.symm npd), (f4.trans g5).own hp (Frm.updL hp5), _, rs ++ [rs[rs.length - 1]], upd_same, ?_, fun x hx => ?_, by simp [hln]⟩
      · rw [List.map_append]
        refine ImAll.append (hA5.updL hp5) (.cons (im_row ?_) .nil)
        rw [upd_ne (ne_of htt hp5 (by intro q; cases q))]
        exact htt
      · rcases List.mem_append.mp hx with h1 | h1
        · exact hok x h1
        · simp at h1
          rw [h1]
          exact hok _ (List.getElem_mem _)
    · rintro σ H3 ⟨⟨v, rfl⟩, D3, f3, xs, rs, hp3, hA, hok, hln⟩
      exact ⟨_, rfl, k p xs rs H3 hok (by omega) hp hp3 hA D3 f3⟩

end
end TL

namespace TL
open PySem PySem.Spec PyProof.Rows L2
section
variable {P : Program} {w : World} {K : PySem.W.Frag} {mg : Str → Option Value} {base : Heap}
def sp__law_half (T : Txt K mg) : Sp := fun vs H Q _ => ∃ z : Str, vs = [.str z] ∧ z.length ≤ sizeLine ∧ (halfL (tl z) = none → ∀ H', Same H H' → Q .non H') ∧
  (∀ a b, halfL (tl z) = some (a, b) → ∀ t H', Same H H' → H' t = some (.tup [.int a, .bl b]) → Q (.ref t) H')
theorem half_inv {z : Str} {a : Int} {b : Bool} (h : halfL (tl z) = some (a, b)) : 0 ≤ a ∧ a ≤ 9 ∧ z = wordOf a b := by
  match e : tl z with
  | [x, y] =>
    rw [e] at h
    simp only [halfL] at h
    split at h
    · rename_i q
      have h2 := Option.some.inj h
      have ea : (x : Int) - 48 = a := congrArg Prod.fst h2
      have eb : decide (y = 43) = b := congrArg Prod.snd h2
      have a0 : 0 ≤ a := by omega
      have a9 : a ≤ 9 := by omega
      refine ⟨a0, a9, ext_tl ?_⟩
      rw [tl_word a0 a9, e]
      have e1 : 48 + a.toNat = x := by omega
      rw [e1, ← eb]
      rcases q.2 with rfl | rfl <;> rfl
    · cases h
  | [] => rw [e] at h; cases h
  | [_] => rw [e] at h; cases h
  | _ :: _ :: _ :: _ => rw [e] at h; cases h
theorem ok__law_half (T : Txt K mg) : FnOk P w K mg base CX0 1 T.a__law_half T.fd__law_half P__law_half (sp__law_half T) := by
  skip
  refine T.F__law_half.ok sc__law_half (fun vs H Q E h => ?_) (fun cdv A outer s H vs Q E hr h => ?_)
  · obtain ⟨z, rfl, _⟩ := h
    rfl
  · obtain ⟨z, rfl, hz, k1, k2⟩ := h
    refine ⟨_, (pss_cons (ps_for PassesOwn.never rfl (pi_range1 rfl T.n_range (pa_cons pe_int pa_nil)) (pg_name (i := 1) sc__law_half.nd rfl (by first | exact Or.inl rfl | exact Or.inr rfl))
      (pss_one (ps_for PassesOwn.never rfl (pi_list (pe_lst (pa_cons pe_bl (pa_cons pe_bl pa_nil)))) (pg_name (i := 2) sc__law_half.nd rfl (by first | exact Or.inl rfl | exact Or.inr rfl))
        (pss_one (ps_if (pt_cmpR op_eq (pv 0) (pe_op op_add_str (pe_callTy call_str_int (by rfl) T.n_str (by decide +kernel) (pa_cons (pv 1) pa_nil)) (pe_ix ix_list (pe_lst (pa_cons pe_str (pa_cons pe_str pa_nil))) (pe_callTy call_int1 (by rfl) T.n_int (by decide +kernel) (pa_cons (pv 2) pa_nil)) (fun _ _ => rfl))) (nomark _))
          (pss_one (ps_ret (pe_tup (pa_cons (pv 1) (pa_cons (pv 2) pa_nil)))))
          pss_nil)))))
    (pss_one (ps_ret pe_non))), ?_⟩
    refine ⟨10, rfl, by decide, by decide, for_range (lo := 0) (n := 10) (fun i σ H' => (∃ v1 v2 : Option V, σ = [some (.str z), v1, v2]) ∧ Same H H' ∧ ∀ m b, m < i → z ≠ wordOf (m : Nat) b)
      ⟨⟨_, _, rfl⟩, .refl _, fun m b hm => absurd hm (by omega)⟩ ?_ ?_⟩
    · rintro i σ H2 hi ⟨⟨v1, v2, rfl⟩, s2, hno⟩
      have e0 : (0 : Int) + (i : Int) = (i : Nat) := by omega
      rw [e0]
      refine ⟨(by show 2 ≤ sizeLine; decide), fun L hL => ?_⟩
      have s3 := s2.trans (Same.upd_new (o := .lst [.bl false, .bl true]) hL)
      have q3 := upd_same (H := H2) (a := L) (o := .lst [.bl false, .bl true])
      generalize upd H2 L (.lst [.bl false, .bl true]) = H3 at s3 q3 ⊢
      have body : ∀ (b : Bool) (σ' : L2.St) (H4 : Hp) (D : Ends), σ' = [some (V.str z), some (.int (i : Nat)), some (.bl b)] → Same H3 H4 → D.rt = Q → (z ≠ wordOf (i : Nat) b → ∀ H5, Same H3 H5 → D.nx σ' H5) →
          tIfS (tTest (tOp rEq (tVar 0) (tOp (fun x y H Q => ∃ i j, x = .str i ∧ y = .str j ∧ i.length + j.length ≤ sizeLine ∧ Q (.str (i ++ j)) H) (tCB (fun xs H Q => ∃ i, xs = [.int i] ∧ i.natAbs.log2 < 1920 ∧ Q (.str (toString i)) H) (tCons (tVar 1) tNil)) (tOp (rIxL K) (tLst (tCons (tC (.str "-")) (tCons (tC (.str "+")) tNil))) (tCB (fun xs H Q => (∃ i, xs = [.int i] ∧ Q (.int i) H) ∨ ∃ k, xs = [.bl k] ∧ Q (.int (if k then 1 else 0)) H) (tCons (tVar 2) tNil))))))
            (tRet (tTup (tCons (tVar 1) (tCons (tVar 2) tNil)))) tNext D σ' H4 := by
        rintro b σ' H4 D rfl s4 hrt hnx
        refine ⟨_, rfl, _, rfl, (i : Int), rfl, log_small (by omega) (by omega), (by show 2 ≤ sizeLine; decide), fun l hl => ?_⟩
        have s5 := s4.trans (Same.upd_new (o := .lst [.str "-", .str "+"]) hl)
        have q5 := upd_same (H := H4) (a := l) (o := .lst [.str "-", .str "+"])
        generalize upd H4 l (.lst [.str "-", .str "+"]) = H5 at s5 q5 ⊢
        have hat : atI [V.str "-", .str "+"] (if b = true then 1 else 0) = some (.str (sgS b)) := by cases b <;> decide +kernel
        refine ⟨_, rfl, .inr ⟨b, rfl, l, _, _, _, rfl, rfl, SqL.of q5, hat, _, _, rfl, rfl, ?_, rfl, _, rfl, ?_⟩⟩
        · have h1 : (dgS (i : Nat)).length = 1 := by
            rw [len_tl, tl_dg (by omega) (by omega)]
            rfl
          have h2 : (sgS b).length = 1 := rfl
          show (dgS (i : Nat)).length + (sgS b).length ≤ sizeLine
          rw [h1, h2]
          decide
        refine iteD (fun q => ?_) (fun q => hnx (fun e => q (congrArg V.str e)) H5 s5)
        have ez : z = wordOf (i : Nat) b := V.str.inj q
        refine ⟨_, rfl, _, rfl, (by show 2 ≤ sizeLine; decide), fun t ht => ?_⟩
        rw [hrt]
        exact k2 _ _ (by rw [ez]; exact half_word (by omega) (by omega)) t _ ((s3.trans s5).trans (Same.upd_new ht)) upd_same
      refine ⟨L, rfl, ⟨_, SqL.of q3⟩, for_pair (K := K) (a := L) (v0 := .bl false) (v1 := .bl true) (fun σ H' => (∃ v2, σ = [some (.str z), some (.int (i : Nat)), v2]) ∧ Same H3 H') (fun σ H' => (∃ v2, σ = [some (.str z), some (.int (i : Nat)), v2]) ∧ Same H3 H' ∧ z ≠ wordOf (i : Nat) false) (fun σ H' => (∃ v2, σ = [some (.str z), some (.int (i : Nat)), v2]) ∧ Same H3 H' ∧ z ≠ wordOf (i : Nat) false ∧ z ≠ wordOf (i : Nat) true)
        ⟨⟨_, rfl⟩, .refl _⟩ (fun σ H' h => SqL.of (h.2 _ _ q3)) (fun σ H' h => SqL.of (h.2.1 _ _ q3)) (fun σ H' h => SqL.of (h.2.1 _ _ q3)) ?_ ?_ ?_⟩
      · rintro σ H4 ⟨⟨v2, rfl⟩, s4⟩
        exact body false _ H4 _ rfl s4 rfl fun hne H5 s5 => ⟨⟨_, rfl⟩, s5, hne⟩
      · rintro σ H4 ⟨⟨v2, rfl⟩, s4, hf⟩
        exact body true _ H4 _ rfl s4 rfl fun hne H5 s5 => ⟨⟨_, rfl⟩, s5, hf, hne⟩
      · rintro σ H4 ⟨⟨v2, rfl⟩, s4, hf, ht⟩
        refine ⟨⟨_, _, rfl⟩, s3.trans s4, fun m b hm => ?_⟩
        rcases Nat.lt_or_ge m i with q | q
        · exact hno m b q
        · have : m = i := by omega
          subst this
          cases b
          · exact hf
          · exact ht
    · rintro σ H2 ⟨⟨v1, v2, rfl⟩, s2, hno⟩
      refine k1 ?_ H2 s2
      cases e : halfL (tl z) with
      | none => rfl
      | some ab =>
        obtain ⟨a, b⟩ := ab
        obtain ⟨a0, a9, ez⟩ := half_inv e
        have ea : a = (a.toNat : Nat) := by omega
        rw [ea] at ez
        exact absurd ez (hno a.toNat b (by omega))

end
end TL

namespace TL
open PySem PySem.Spec PyProof.Rows L2
section
variable {P : Program} {w : World} {K : PySem.W.Frag} {mg : Str → Option Value} {base : Heap}
def sp__law_changed (T : Txt K mg) : Sp := fun vs H Q _ => ∃ (d : Addr) (z : Str), vs = [.ref d, .str z] ∧ DiceAt H d ∧ z.length ≤ 100000 ∧
  ∀ (u : Str) (H' : Hp), u.length ≤ 7 * z.length + 30 → DiceAt H' d → Frm [d] H H' → Q (.str u) H'
def signsS : Str := "0123456789 -+\nabcdefghijklmnopqrstuvwxyzABCDEFGHIJKLMNOPQRSTUVWXYZ!#$&()*,./:;<=>?\x40[]^_{|}~"
def oddS : List Str := ["", "0", "+", "3+", "9-", "10+", "-1+", "3+-", "+3", "03+", "3 +"]
theorem ok__law_changed (T : Txt K mg) : FnOk P w K mg base CX0 2 T.a__law_changed T.fd__law_changed P__law_changed (sp__law_changed T) := by
  have G__law_off := ok__law_off (P := P) (w := w) (base := base) T
  refine T.F__law_changed.ok sc__law_changed (fun vs H Q E h => ?_) (fun cdv A outer s H vs Q E hr h => ?_)
  · obtain ⟨d, z, rfl, _⟩ := h
    rfl
  · obtain ⟨d, z, rfl, D0, hz, k⟩ := h
    refine ⟨_, (pss_cons (ps_set (i := 2) sc__law_changed.nd rfl (by first | exact Or.inl rfl | exact Or.inr rfl) (pe_call G__law_off (hr.mono (by decide)) rfl T.g__law_off T.F__law_off.kp T.b__law_off .nil pass0 (pa_cons (pv 0) (pa_cons pe_int pa_nil))))
    (pss_cons (ps_set (i := 3) sc__law_changed.nd rfl (by first | exact Or.inl rfl | exact Or.inr rfl) (pe_call G__law_off (hr.mono (by decide)) rfl T.g__law_off T.F__law_off.kp T.b__law_off .nil pass0 (pa_cons (pv 0) (pa_cons (pe_op op_add (pe_callB call_len_str (by rfl) T.n_len (by decide +kernel) (pa_cons (pv 1) pa_nil)) pe_int) pa_nil))))
    (pss_cons (ps_set (i := 4) sc__law_changed.nd rfl (by first | exact Or.inl rfl | exact Or.inr rfl) pe_str)
    (pss_cons (ps_cut (ps_set (i := 5) sc__law_changed.nd rfl (by first | exact Or.inl rfl | exact Or.inr rfl) (pe_ix ix_list (pe_lst (pa_cons (pe_ix ix_str (pv 4) (pe_call G__law_off (hr.mono (by decide)) rfl T.g__law_off T.F__law_off.kp T.b__law_off .nil pass0 (pa_cons (pv 0) (pa_cons pe_int pa_nil))) (fun _ _ => rfl)) (pa_cons (pe_ix ix_str (pv 4) (pe_call G__law_off (hr.mono (by decide)) rfl T.g__law_off T.F__law_off.kp T.b__law_off .nil pass0 (pa_cons (pv 0) (pa_cons (pe_callB call_len_str (by rfl) T.n_len (by decide +kernel) (pa_cons (pv 4) pa_nil)) pa_nil))) (fun _ _ => rfl)) pa_nil))) (pe_call G__law_off (hr.mono (by decide)) rfl T.g__law_off T.F__law_off.kp T.b__law_off .nil pass0 (pa_cons (pv 0) (pa_cons pe_int pa_nil))) (fun _ _ => rfl))))
    (pss_cons (ps_if (pt_cmpR op_lt (pv 2) pe_int (nomark _))
      (pss_one (ps_ret (pe_op op_add_str (pe_op op_add_str (pe_slice sl_str (pv 1) po_none (po_some (pv 3))) (pe_op op_repS (pv 5) (pe_callTy call_int1 (by rfl) T.n_int (by decide +kernel) (pa_cons (pe_cmpR op_lt (pv 2) pe_int (nomark _)) pa_nil)))) (pe_slice sl_str (pv 1) (po_some (pe_op op_add (pv 3) (pe_callTy call_int1 (by rfl) T.n_int (by decide +kernel) (pa_cons (pe_cmpR op_gt (pv 2) pe_int (nomark _)) pa_nil)))) po_none))))
      pss_nil)
    (pss_cons (ps_set (i := 6) sc__law_changed.nd rfl (by first | exact Or.inl rfl | exact Or.inr rfl) (pe_split (pv 1) pe_str))
    (pss_cons (ps_set (i := 7) sc__law_changed.nd rfl (by first | exact Or.inl rfl | exact Or.inr rfl) (pe_call G__law_off (hr.mono (by decide)) rfl T.g__law_off T.F__law_off.kp T.b__law_off .nil pass0 (pa_cons (pv 0) (pa_cons (pe_callB call_len_seq (by rfl) T.n_len (by decide +kernel) (pa_cons (pv 6) pa_nil)) pa_nil))))
    (pss_cons (ps_if (pt_cmpR op_lt (pv 2) pe_int (nomark _))
      (pss_cons (ps_cut (ps_set (i := 8) sc__law_changed.nd rfl (by first | exact Or.inl rfl | exact Or.inr rfl) (pe_ix ix_list (pe_lst (pa_cons (pe_lst pa_nil) (pa_cons (pe_op op_rep (pe_slice sl_list (pv 6) (po_some (pv 7)) (po_some (pe_op op_add (pv 7) pe_int))) pe_int) (pa_cons (pe_revL (pe_slice sl_list (pv 6) (po_some (pv 7)) (po_some (pe_op op_add (pv 7) pe_int)))) pa_nil)))) (pe_op op_sub (pv 2) pe_int) (fun _ _ => rfl))))
      (pss_one (ps_ret (pe_join pe_str (pe_op op_cat (pe_op op_cat (pe_slice sl_list (pv 6) po_none (po_some (pv 7))) (pv 8)) (pe_slice sl_list (pv 6) (po_some (pe_op op_add (pe_op op_add (pv 7) pe_int) (pe_callTy call_int1 (by rfl) T.n_int (by decide +kernel) (pa_cons (pe_cmpR op_eq (pv 2) pe_int (nomark _)) pa_nil)))) po_none))))))
      pss_nil)
    (pss_cons (ps_set (i := 9) sc__law_changed.nd rfl (by first | exact Or.inl rfl | exact Or.inr rfl) (pe_split (pe_ix ix_list (pv 6) (pv 7) (fun _ _ => rfl)) pe_str))
    (pss_cons (ps_set (i := 10) sc__law_changed.nd rfl (by first | exact Or.inl rfl | exact Or.inr rfl) (pe_call G__law_off (hr.mono (by decide)) rfl T.g__law_off T.F__law_off.kp T.b__law_off .nil pass0 (pa_cons (pv 0) (pa_cons (pe_callB call_len_seq (by rfl) T.n_len (by decide +kernel) (pa_cons (pv 9) pa_nil)) pa_nil))))
    (pss_cons (ps_set (i := 11) sc__law_changed.nd rfl (by first | exact Or.inl rfl | exact Or.inr rfl) (pe_lst (pa_cons pe_str (pa_cons pe_str (pa_cons pe_str (pa_cons pe_str (pa_cons pe_str (pa_cons pe_str (pa_cons pe_str (pa_cons pe_str (pa_cons pe_str (pa_cons pe_str (pa_cons pe_str pa_nil)))))))))))))
    (pss_cons (ps_cut (ps_set (i := 9) sc__law_changed.nd rfl (by first | exact Or.inl rfl | exact Or.inr rfl) (pe_op op_cat (pe_op op_cat (pe_slice sl_list (pv 9) po_none (po_some (pv 10))) (pe_ix ix_list (pe_lst (pa_cons (pe_op op_rep (pe_slice sl_list (pv 9) (po_some (pv 10)) (po_some (pe_op op_add (pv 10) pe_int))) pe_int) (pa_cons (pe_lst (pa_cons (pe_ix ix_list (pv 11) (pe_call G__law_off (hr.mono (by decide)) rfl T.g__law_off T.F__law_off.kp T.b__law_off .nil pass0 (pa_cons (pv 0) (pa_cons pe_int pa_nil))) (fun _ _ => rfl)) pa_nil)) pa_nil))) (pe_op op_sub (pv 2) pe_int) (fun _ _ => rfl))) (pe_slice sl_list (pv 9) (po_some (pe_op op_add (pv 10) pe_int)) po_none))))
    (pss_one (ps_ret (pe_join pe_str (pe_op op_cat (pe_op op_cat (pe_slice sl_list (pv 6) po_none (po_some (pv 7))) (pe_lst (pa_cons (pe_join pe_str (pv 9)) pa_nil))) (pe_slice sl_list (pv 6) (po_some (pe_op op_add (pv 7) pe_int)) po_none))))))))))))))))), ?_⟩
    have big : ∀ {n : Nat}, n ≤ 3000000 → n ≤ sizeLine := fun h => by show _ ≤ 16777216; omega
    refine ⟨_, rfl, d, 9, rfl, D0, by decide, by decide, fun kind H1 k0 k9 D1 f1 => ?_⟩
    refine ⟨_, rfl, _, rfl, z, rfl, big (by omega), _, _, rfl, rfl, d, _, rfl, D1, by omega, by omega, fun at_ H2 a0 a1 D2 f2 => ?_⟩
    have f02 := f1.trans f2
    -- the sign
    have hsl : signsS.length = 91 := by decide +kernel
    have hsl2 : signsS.cps.toList.length = 91 := by decide +kernel
    refine ⟨fun σ' H' => ∃ sg : Str, σ' = [some (V.ref d), some (.str z), some (.int kind), some (.int at_), some (.str signsS), some (.str sg), none, none, none, none, none, none] ∧ sg.length = 1 ∧ DiceAt H' d ∧ Frm [d] H2 H', ?_, ?_⟩
    · refine ⟨_, rfl, _, rfl, d, 14, rfl, D2, by decide, by decide, fun r1 H3 r10 r11 D3 f3 => ?_⟩
      obtain ⟨c1, _, hc1⟩ := at_get (l := signsS.cps.toList) r10 (by rw [hsl2]; omega)
      refine ⟨signsS, r1, c1, rfl, rfl, big (by rw [hsl]; omega), hc1, ?_⟩
      refine ⟨_, rfl, _, rfl, _, rfl, signsS, rfl, big (by rw [hsl]; omega), d, _, rfl, D3, by rw [hsl]; decide, by rw [hsl]; decide, fun r2 H4 r20 r21 D4 f4 => ?_⟩
      rw [hsl] at r21
      obtain ⟨c2, _, hc2⟩ := at_get (l := signsS.cps.toList) r20 (by rw [hsl2]; omega)
      refine ⟨signsS, r2, c2, rfl, rfl, big (by rw [hsl]; omega), hc2, (by show 2 ≤ sizeLine; decide), fun l hl => ?_⟩
      have q5 := upd_same (H := H4) (a := l) (o := .lst [.str ⟨#[c1]⟩, .str ⟨#[c2]⟩])
      have f5 : Frm [d] H4 (upd H4 l (.lst [.str ⟨#[c1]⟩, .str ⟨#[c2]⟩])) := Frm.new hl
      have D5 := D4.new (o := .lst [.str ⟨#[c1]⟩, .str ⟨#[c2]⟩]) hl
      have nld := D4.ne_new hl
      generalize upd H4 l (.lst [.str ⟨#[c1]⟩, .str ⟨#[c2]⟩]) = H5 at q5 f5 D5 ⊢
      refine ⟨_, rfl, d, 2, rfl, D5, by decide, by decide, fun r3 H6 r30 r31 D6 f6 => ?_⟩
      have q6 := f6 _ _ q5 (by simp [nld])
      obtain ⟨sg, hsg, hat⟩ : ∃ sg : Str, sg.length = 1 ∧ atI [V.str ⟨#[c1]⟩, .str ⟨#[c2]⟩] r3 = some (.str sg) := by
        have : r3 = 0 ∨ r3 = 1 := by omega
        rcases this with rfl | rfl
        · exact ⟨_, rfl, rfl⟩
        · exact ⟨_, rfl, rfl⟩
      exact ⟨l, _, r3, _, rfl, rfl, SqL.of q6, hat, sg, rfl, hsg, D6, ((f3.trans f4).trans f5).trans f6⟩
    rintro σ' H3 ⟨sg, rfl, hsg, D3, f3⟩
    have f03 := f02.trans f3
    refine ⟨_, rfl, _, _, rfl, rfl, _, rfl, ?_⟩
    refine iteD (fun hk4 => ?_) (fun hk4 => ?_)
    · -- a sign put in, taken out or changed
      have int1 : ∀ b : Bool, (if b = true then (1 : Int) else 0) = 0 ∨ (if b = true then (1 : Int) else 0) = 1 := fun b => by cases b <;> simp
      have c1 := cutS_length z none (some at_)
      refine ⟨_, rfl, _, rfl, _, rfl, z, rfl, big (by omega), ?_⟩
      refine ⟨_, rfl, _, rfl, _, _, rfl, rfl, .inr ⟨_, rfl, ?_⟩⟩
      have hn := int1 (decide (kind < 3))
      generalize (if decide (kind < 3) = true then (1 : Int) else 0) = n at hn ⊢
      have rep : ∀ Q' : VK, (∀ u : Str, u.length ≤ 1 → Q' (.str u) H3) → rRepS (.str sg) (.int n) H3 Q' := fun Q' q => by
        rcases hn with rfl | rfl
        · exact ⟨sg, 0, rfl, rfl, .inl ⟨rfl, q _ (by show (0 : Nat) ≤ 1; decide)⟩⟩
        · exact ⟨sg, 1, rfl, rfl, .inr ⟨rfl, q _ (by omega)⟩⟩
      refine rep _ fun u hu => ?_
      refine ⟨_, _, rfl, rfl, big (by omega), ?_⟩
      refine ⟨_, rfl, _, rfl, _, rfl, _, _, rfl, rfl, .inr ⟨_, rfl, ?_⟩⟩
      refine ⟨_, _, rfl, rfl, _, rfl, z, rfl, big (by omega), ?_⟩
      have c2 := cutS_length z (some (at_ + (if decide (0 < kind) = true then 1 else 0))) none
      have la : (cutS z none (some at_) ++ u).length = (cutS z none (some at_)).length + u.length := by rw [len_tl, tl_append, List.length_append, ← len_tl, ← len_tl]
      refine ⟨_, _, rfl, rfl, big (by rw [la]; omega), ?_⟩
      refine k _ _ ?_ D3 f03
      rw [len_tl, tl_append, List.length_append, ← len_tl, ← len_tl, la]
      omega
    -- the rows
    have hnl : tl ("\n" : Str) ≠ [] := by rw [tl_nl]; simp
    have hsp : tl (" " : Str) ≠ [] := by rw [tl_sp]; simp
    refine ⟨_, rfl, ⟨z, rfl⟩, z, _, rfl, rfl, rfl, big (by omega), fun R hR => ?_⟩
    have trt := tot_split z "\n" hnl (by decide +kernel)
    have tne := split_ne z "\n" hnl (by decide +kernel)
    generalize Txt.split z "\n" = rows at trt tne ⊢
    have trl := tot_len rows
    have rpos : 0 < rows.length := List.length_pos_iff.mpr tne
    have q4 := upd_same (H := H3) (a := R) (o := .lst (rows.map V.str))
    have f4 : Frm [d] H3 (upd H3 R (.lst (rows.map V.str))) := Frm.new hR
    have D4 := D3.new (o := .lst (rows.map V.str)) hR
    have nRd := D3.ne_new hR
    generalize upd H3 R (.lst (rows.map V.str)) = H4 at q4 f4 D4 ⊢
    refine ⟨_, rfl, _, rfl, R, _, rfl, .inl (SqL.of q4), d, _, rfl, D4, by rw [List.length_map]; omega, by rw [List.length_map]; omega, fun kk H5 kk0 kk1 D5 f5 => ?_⟩
    rw [List.length_map] at kk1
    have q5 := f5 _ _ q4 (by simp [nRd])
    have f05 := (f03.trans f4).trans f5
    have slice : ∀ (H' : Hp) (L : Addr) (ls : List Str) (lo hi : Option Int) (Q' : VK), H' L = some (.lst (ls.map V.str)) → (∀ p, H' p = none → Q' (.ref p) (upd H' p (.lst ((cutL ls lo hi).map V.str)))) → rSlL K (.ref L) lo hi H' Q' := fun H' L ls lo hi Q' h1 h2 => ⟨L, _, rfl, SqL.of h1, fun p hp => by rw [cutV_map]; exact h2 p hp⟩
    refine ⟨_, rfl, _, _, rfl, rfl, _, rfl, ?_⟩
    refine iteD (fun hk7 => ?_) (fun hk7 => ?_)
    · have rowsM : ∀ (H' : Hp), Same H5 H' → H' R = some (.lst (rows.map V.str)) := fun H' s => s _ _ q5
      refine ⟨fun σ' H' => ∃ (tw : Addr) (ts : List Str), σ' = [some (V.ref d), some (.str z), some (.int kind), some (.int at_), some (.str signsS), some (.str sg), some (.ref R), some (.int kk), some (.ref tw), none, none, none] ∧ H' tw = some (.lst (ts.map V.str)) ∧ tot ts ≤ 2 * tot rows ∧ Same H5 H', ?_, ?_⟩
      · refine ⟨(by show 0 ≤ sizeLine; decide), fun e he => ?_⟩
        have s6 : Same H5 (upd H5 e (.lst [])) := Same.upd_new he
        have w6 := upd_same (H := H5) (a := e) (o := .lst [])
        generalize upd H5 e (.lst []) = H6 at s6 w6 ⊢
        refine ⟨_, rfl, _, rfl, _, rfl, _, rfl, _, _, rfl, rfl, _, rfl, slice _ R rows _ _ _ (rowsM _ s6) fun S hS => ?_⟩
        have t7 := tot_cut rows (some kk) (some (kk + 1))
        generalize cutL rows (some kk) (some (kk + 1)) = one at t7 ⊢
        have s7 : Same H6 (upd H6 S (.lst (one.map V.str))) := Same.upd_new hS
        have w7 := upd_same (H := H6) (a := S) (o := .lst (one.map V.str))
        generalize upd H6 S (.lst (one.map V.str)) = H7 at s7 w7 ⊢
        have l7 := tot_len one
        refine ⟨S, 2, _, rfl, rfl, w7, by decide, by decide, big (by rw [List.length_map]; show one.length * 2 ≤ _; omega), fun p2 hp2 => ?_⟩
        have e2 : (List.replicate (2 : Int).toNat (one.map V.str)).flatten = (one ++ one).map V.str := by
          show one.map V.str ++ (one.map V.str ++ []) = _
          simp
        rw [e2]
        have s8 : Same H7 (upd H7 p2 (.lst ((one ++ one).map V.str))) := Same.upd_new hp2
        have w8 := upd_same (H := H7) (a := p2) (o := .lst ((one ++ one).map V.str))
        generalize upd H7 p2 (.lst ((one ++ one).map V.str)) = H8 at s8 w8 ⊢
        have s68 := (s6.trans s7).trans s8
        refine ⟨_, rfl, _, rfl, _, rfl, _, rfl, _, _, rfl, rfl, _, rfl, slice _ R rows _ _ _ (rowsM _ s68) fun S2 hS2 => ?_⟩
        have t9 := tot_cut rows (some kk) (some (kk + 2))
        generalize cutL rows (some kk) (some (kk + 2)) = two at t9 ⊢
        have s9 : Same H8 (upd H8 S2 (.lst (two.map V.str))) := Same.upd_new hS2
        have w9 := upd_same (H := H8) (a := S2) (o := .lst (two.map V.str))
        generalize upd H8 S2 (.lst (two.map V.str)) = H9 at s9 w9 ⊢
        refine ⟨S2, _, rfl, SqL.of w9, fun p3 hp3 => ?_⟩
        rw [← List.map_reverse]
        have s10 : Same H9 (upd H9 p3 (.lst (two.reverse.map V.str))) := Same.upd_new hp3
        have w10 := upd_same (H := H9) (a := p3) (o := .lst (two.reverse.map V.str))
        generalize upd H9 p3 (.lst (two.reverse.map V.str)) = H10 at s10 w10 ⊢
        refine ⟨(by show 3 ≤ sizeLine; decide), fun l hl => ?_⟩
        have s11 : Same H10 (upd H10 l (.lst [.ref e, .ref p2, .ref p3])) := Same.upd_new hl
        have w11 := upd_same (H := H10) (a := l) (o := .lst [.ref e, .ref p2, .ref p3])
        generalize upd H10 l (.lst [.ref e, .ref p2, .ref p3]) = H11 at s11 w11 ⊢
        have sE := ((s9.trans s10).trans s11)
        have s5 := s68.trans sE
        refine ⟨_, rfl, _, _, rfl, rfl, ?_⟩
        have : kind = 4 ∨ kind = 5 ∨ kind = 6 := by omega
        rcases this with rfl | rfl | rfl
        · exact ⟨l, _, 0, .ref e, rfl, rfl, SqL.of w11, rfl, e, [], rfl, sE _ _ (s8 _ _ (s7 _ _ w6)), Nat.zero_le _, s5⟩
        · exact ⟨l, _, 1, .ref p2, rfl, rfl, SqL.of w11, rfl, p2, one ++ one, rfl, sE _ _ w8, by rw [tot_app]; omega, s5⟩
        · exact ⟨l, _, 2, .ref p3, rfl, rfl, SqL.of w11, rfl, p3, two.reverse, rfl, s11 _ _ w10, by rw [tot_rev]; omega, s5⟩
      · rintro σ' H6 ⟨tw, ts, rfl, w6, t6, s6⟩
        refine ⟨⟨_, rfl⟩, _, rfl, _, rfl, _, rfl, slice _ R rows _ _ _ (rowsM _ s6) fun A hA => ?_⟩
        have t7 := tot_cut rows none (some kk)
        generalize cutL rows none (some kk) = first at t7 ⊢
        have s7 : Same H6 (upd H6 A (.lst (first.map V.str))) := Same.upd_new hA
        have w7 := upd_same (H := H6) (a := A) (o := .lst (first.map V.str))
        generalize upd H6 A (.lst (first.map V.str)) = H7 at s7 w7 ⊢
        have l7 := tot_len first
        have l6 := tot_len ts
        refine ⟨_, rfl, A, tw, _, _, rfl, rfl, w7, s7 _ _ w6, big (by rw [List.length_map, List.length_map]; omega), fun B hB => ?_⟩
        rw [cats]
        have s8 : Same H7 (upd H7 B (.lst ((first ++ ts).map V.str))) := Same.upd_new hB
        have w8 := upd_same (H := H7) (a := B) (o := .lst ((first ++ ts).map V.str))
        generalize upd H7 B (.lst ((first ++ ts).map V.str)) = H8 at s8 w8 ⊢
        have s68 := (s6.trans s7).trans s8
        refine ⟨_, rfl, _, rfl, _, _, rfl, rfl, _, rfl, rfl, .inr ⟨_, rfl, _, _, rfl, rfl, _, rfl, ?_⟩⟩
        refine ⟨R, _, rfl, SqL.of (rowsM _ s68), fun C hC => ?_⟩
        rw [cutV_map]
        have t9 := tot_cut rows (some (kk + 1 + (if decide (V.int kind = V.int 6) = true then 1 else 0))) none
        generalize cutL rows (some (kk + 1 + (if decide (V.int kind = V.int 6) = true then 1 else 0))) none = last at t9 ⊢
        have s9 : Same H8 (upd H8 C (.lst (last.map V.str))) := Same.upd_new hC
        have w9 := upd_same (H := H8) (a := C) (o := .lst (last.map V.str))
        generalize upd H8 C (.lst (last.map V.str)) = H9 at s9 w9 ⊢
        have l9 := tot_len last
        refine ⟨B, C, _, _, rfl, rfl, s9 _ _ w8, w9, big (by rw [List.length_map, List.length_map, List.length_append]; omega), fun E2 hE2 => ?_⟩
        rw [cats]
        have s10 : Same H9 (upd H9 E2 (.lst ((first ++ ts ++ last).map V.str))) := Same.upd_new hE2
        have w10 := upd_same (H := H9) (a := E2) (o := .lst ((first ++ ts ++ last).map V.str))
        generalize upd H9 E2 (.lst ((first ++ ts ++ last).map V.str)) = H10 at s10 w10 ⊢
        have tt : tot (first ++ ts ++ last) ≤ 4 * tot rows := by rw [tot_app, tot_app]; omega
        have ts2 := tot_sum (first ++ ts ++ last)
        have nl1 : ("\n" : Str).length = 1 := rfl
        refine ⟨"\n", E2, _, rfl, rfl, .inl (SqL.of w10), by rw [nl1]; omega, ?_⟩
        have jl := join_len nl1 (first ++ ts ++ last)
        have sall := (s68.trans s9).trans s10
        exact k _ _ (by omega) (D5.same sall) (f05.trans (Frm.of_same sall))
    · obtain ⟨n, rfl⟩ : ∃ n : Nat, kk = n := ⟨kk.toNat, by omega⟩
      have hn : n < rows.length := by omega
      have hat : atI (rows.map V.str) (n : Int) = some (.str rows[n]) := atI_nat (by rw [List.getElem?_map, List.getElem?_eq_getElem hn]; rfl)
      have rl := tot_mem (List.getElem_mem hn)
      generalize rows[n] = row at hat rl
      refine ⟨_, rfl, _, rfl, R, _, _, _, rfl, rfl, SqL.of q5, hat, ⟨row, rfl⟩, row, _, rfl, rfl, rfl, big (by omega), fun W hW => ?_⟩
      have twd := tot_split row " " hsp (by decide +kernel)
      have wne := split_ne row " " hsp (by decide +kernel)
      generalize Txt.split row " " = words at twd wne ⊢
      have wl := tot_len words
      have wpos : 0 < words.length := List.length_pos_iff.mpr wne
      have f6 : Frm [d] H5 (upd H5 W (.lst (words.map V.str))) := Frm.new hW
      have D6 := D5.new (o := .lst (words.map V.str)) hW
      have nWd := D5.ne_new hW
      have w6 := upd_same (H := H5) (a := W) (o := .lst (words.map V.str))
      generalize upd H5 W (.lst (words.map V.str)) = H6 at f6 D6 w6 ⊢
      refine ⟨_, rfl, _, rfl, W, _, rfl, .inl (SqL.of w6), d, _, rfl, D6, by rw [List.length_map]; omega, by rw [List.length_map]; omega, fun j H7 j0 j1 D7 f7 => ?_⟩
      have w7 := f7 _ _ w6 (by simp [nWd])
      refine ⟨(by show 11 ≤ sizeLine; decide), fun O hO => ?_⟩
      have f8 : Frm [d] H7 (upd H7 O (.lst (oddS.map V.str))) := Frm.new hO
      have D8 := D7.new (o := .lst (oddS.map V.str)) hO
      have nOd := D7.ne_new hO
      have w8 := upd_same (H := H7) (a := O) (o := .lst (oddS.map V.str))
      have W8 := f8 _ _ w7 (by simp [nWd])
      have eO : upd H7 O (.lst [.str "", .str "0", .str "+", .str "3+", .str "9-", .str "10+", .str "-1+", .str "3+-", .str "+3", .str "03+", .str "3 +"]) = upd H7 O (.lst (oddS.map V.str)) := rfl
      rw [eO]
      generalize upd H7 O (.lst (oddS.map V.str)) = H8 at f8 D8 w8 W8 ⊢
      have f58 := (f6.trans f7).trans f8
      have R8 := f58 _ _ q5 (by simp [nRd])
      refine ⟨fun σ' H' => ∃ (M : Addr) (ws : List Str), σ' = [some (V.ref d), some (.str z), some (.int kind), some (.int at_), some (.str signsS), some (.str sg), some (.ref R), some (.int (n : Nat)), none, some (.ref M), some (.int j), some (.ref O)] ∧ H' M = some (.lst (ws.map V.str)) ∧ tot ws ≤ 4 * tot rows + 10 ∧ DiceAt H' d ∧ Frm [d] H8 H', ?_, ?_⟩
      · refine ⟨_, rfl, _, rfl, _, rfl, slice _ W words _ _ _ W8 fun A hA => ?_⟩
        have t9 := tot_cut words none (some j)
        generalize cutL words none (some j) = first at t9 ⊢
        have s9 : Same H8 (upd H8 A (.lst (first.map V.str))) := Same.upd_new hA
        have w9 := upd_same (H := H8) (a := A) (o := .lst (first.map V.str))
        have nAd := D8.ne_new hA
        have D9 := D8.same s9
        generalize upd H8 A (.lst (first.map V.str)) = H9 at s9 w9 D9 ⊢
        refine ⟨_, rfl, _, rfl, _, rfl, _, rfl, _, _, rfl, rfl, _, rfl, slice _ W words _ _ _ (s9 _ _ W8) fun S hS => ?_⟩
        have t10 := tot_cut words (some j) (some (j + 1))
        generalize cutL words (some j) (some (j + 1)) = one at t10 ⊢
        have s10 : Same H9 (upd H9 S (.lst (one.map V.str))) := Same.upd_new hS
        have w10 := upd_same (H := H9) (a := S) (o := .lst (one.map V.str))
        have D10 := D9.same s10
        generalize upd H9 S (.lst (one.map V.str)) = H10 at s10 w10 D10 ⊢
        have l10 := tot_len one
        refine ⟨S, 2, _, rfl, rfl, w10, by decide, by decide, big (by rw [List.length_map]; show one.length * 2 ≤ _; omega), fun p2 hp2 => ?_⟩
        have e2 : (List.replicate (2 : Int).toNat (one.map V.str)).flatten = (one ++ one).map V.str := by
          show one.map V.str ++ (one.map V.str ++ []) = _
          simp
        rw [e2]
        have s11 : Same H10 (upd H10 p2 (.lst ((one ++ one).map V.str))) := Same.upd_new hp2
        have w11 := upd_same (H := H10) (a := p2) (o := .lst ((one ++ one).map V.str))
        have np2 := D10.ne_new hp2
        have D11 := D10.same s11
        generalize upd H10 p2 (.lst ((one ++ one).map V.str)) = H11 at s11 w11 D11 ⊢
        have s811 := (s9.trans s10).trans s11
        refine ⟨_, rfl, _, rfl, d, 11, rfl, D11, by decide, by decide, fun r H12 r0 r1 D12 f12 => ?_⟩
        have f812 := (Frm.of_same (S := [d]) s811).trans f12
        obtain ⟨x, hx, hax⟩ := at_get (l := oddS) r0 (by show r < (11 : Nat); omega)
        have hx3 : x.length ≤ 3 := (by decide +kernel : ∀ s ∈ oddS, s.length ≤ 3) x hx
        have hax2 : atI (oddS.map V.str) r = some (.str x) := by
          obtain ⟨m, rfl⟩ : ∃ m : Nat, r = m := ⟨r.toNat, by omega⟩
          have hm : m < oddS.length := by show m < 11; omega
          have e1 : atI oddS (m : Int) = some oddS[m] := atI_nat (List.getElem?_eq_getElem hm)
          rw [e1] at hax
          refine atI_nat ?_
          rw [List.getElem?_map, List.getElem?_eq_getElem hm]
          exact congrArg (Option.map V.str) hax
        have w12 := f812 _ _ w8 (by simp [nOd])
        refine ⟨O, _, r, _, rfl, rfl, SqL.of w12, hax2, (by show 1 ≤ sizeLine; decide), fun u hu => ?_⟩
        have s13 : Same H12 (upd H12 u (.lst (([x] : List Str).map V.str))) := Same.upd_new hu
        have w13 := upd_same (H := H12) (a := u) (o := .lst (([x] : List Str).map V.str))
        have D13 := D12.same s13
        have eu : upd H12 u (.lst [.str x]) = upd H12 u (.lst (([x] : List Str).map V.str)) := rfl
        rw [eu]
        generalize upd H12 u (.lst (([x] : List Str).map V.str)) = H13 at s13 w13 D13 ⊢
        refine ⟨(by show 2 ≤ sizeLine; decide), fun l hl => ?_⟩
        have s14 : Same H13 (upd H13 l (.lst [.ref p2, .ref u])) := Same.upd_new hl
        have w14 := upd_same (H := H13) (a := l) (o := .lst [.ref p2, .ref u])
        have D14 := D13.same s14
        generalize upd H13 l (.lst [.ref p2, .ref u]) = H14 at s14 w14 D14 ⊢
        have s1214 := s13.trans s14
        have f814 := f812.trans (Frm.of_same (S := [d]) s1214)
        obtain ⟨M, ms, hM, wM, tM⟩ : ∃ (M : Addr) (ms : List Str), atI [V.ref p2, .ref u] (kind - 7) = some (.ref M) ∧ H14 M = some (.lst (ms.map V.str)) ∧ tot ms ≤ 2 * tot rows + 10 := by
          have : kind = 7 ∨ kind = 8 := by omega
          rcases this with rfl | rfl
          · exact ⟨p2, one ++ one, rfl, s1214 _ _ (f12 _ _ w11 (by simp [np2])), by rw [tot_app]; omega⟩
          · exact ⟨u, [x], rfl, s14 _ _ w13, by rw [tot_cons]; show x.length + 1 + 0 ≤ _; omega⟩
        refine ⟨_, rfl, _, _, rfl, rfl, l, _, _, _, rfl, rfl, SqL.of w14, hM, ?_⟩
        have A14 := s1214 _ _ (f12 _ _ (s11 _ _ (s10 _ _ w9)) (by simp [nAd]))
        have W14 := f814 _ _ W8 (by simp [nWd])
        have l9 := tot_len first
        have lM := tot_len ms
        refine ⟨A, M, _, _, rfl, rfl, A14, wM, big (by rw [List.length_map, List.length_map]; omega), fun B hB => ?_⟩
        rw [cats]
        have s15 : Same H14 (upd H14 B (.lst ((first ++ ms).map V.str))) := Same.upd_new hB
        have w15 := upd_same (H := H14) (a := B) (o := .lst ((first ++ ms).map V.str))
        have D15 := D14.same s15
        generalize upd H14 B (.lst ((first ++ ms).map V.str)) = H15 at s15 w15 D15 ⊢
        refine ⟨_, rfl, _, rfl, _, _, rfl, rfl, _, rfl, W, _, rfl, SqL.of (s15 _ _ W14), fun C hC => ?_⟩
        rw [cutV_map]
        have t16 := tot_cut words (some (j + 1)) none
        generalize cutL words (some (j + 1)) none = last at t16 ⊢
        have s16 : Same H15 (upd H15 C (.lst (last.map V.str))) := Same.upd_new hC
        have w16 := upd_same (H := H15) (a := C) (o := .lst (last.map V.str))
        have D16 := D15.same s16
        generalize upd H15 C (.lst (last.map V.str)) = H16 at s16 w16 D16 ⊢
        have l16 := tot_len last
        refine ⟨B, C, _, _, rfl, rfl, s16 _ _ w15, w16, big (by rw [List.length_map, List.length_map, List.length_append]; omega), fun G hG => ?_⟩
        rw [cats]
        have s17 : Same H16 (upd H16 G (.lst ((first ++ ms ++ last).map V.str))) := Same.upd_new hG
        have s1417 := (s15.trans s16).trans s17
        exact ⟨G, first ++ ms ++ last, rfl, upd_same, by rw [tot_app, tot_app]; omega, D16.same s17, f814.trans (Frm.of_same s1417)⟩
      · rintro σ' H9 ⟨M, ws, rfl, w9, t9, D9, f9⟩
        have R9 := f9 _ _ R8 (by simp [nRd])
        refine ⟨⟨_, rfl⟩, _, rfl, _, rfl, _, rfl, slice _ R rows _ _ _ R9 fun A hA => ?_⟩
        have t10 := tot_cut rows none (some (n : Int))
        generalize cutL rows none (some (n : Int)) = first at t10 ⊢
        have s10 : Same H9 (upd H9 A (.lst (first.map V.str))) := Same.upd_new hA
        have w10 := upd_same (H := H9) (a := A) (o := .lst (first.map V.str))
        generalize upd H9 A (.lst (first.map V.str)) = H10 at s10 w10 ⊢
        have tw := tot_sum ws
        have sp1 : (" " : Str).length = 1 := rfl
        have nl1 : ("\n" : Str).length = 1 := rfl
        refine ⟨⟨_, rfl⟩, _, rfl, " ", M, _, rfl, rfl, .inl (SqL.of (s10 _ _ w9)), by rw [sp1]; omega, (by show 1 ≤ sizeLine; decide), fun u hu => ?_⟩
        have jl := join_len sp1 ws
        generalize Txt.join " " ws = jw at jl ⊢
        have s11 : Same H10 (upd H10 u (.lst (([jw] : List Str).map V.str))) := Same.upd_new hu
        have w11 := upd_same (H := H10) (a := u) (o := .lst (([jw] : List Str).map V.str))
        have eu : upd H10 u (.lst [.str jw]) = upd H10 u (.lst (([jw] : List Str).map V.str)) := rfl
        rw [eu]
        generalize upd H10 u (.lst (([jw] : List Str).map V.str)) = H11 at s11 w11 ⊢
        have l10 := tot_len first
        refine ⟨A, u, _, _, rfl, rfl, s11 _ _ w10, w11, big (by rw [List.length_map, List.length_map]; show _ + 1 ≤ _; omega), fun B hB => ?_⟩
        rw [cats]
        have s12 : Same H11 (upd H11 B (.lst ((first ++ [jw]).map V.str))) := Same.upd_new hB
        have w12 := upd_same (H := H11) (a := B) (o := .lst ((first ++ [jw]).map V.str))
        generalize upd H11 B (.lst ((first ++ [jw]).map V.str)) = H12 at s12 w12 ⊢
        have s912 := (s10.trans s11).trans s12
        refine ⟨_, rfl, _, rfl, _, _, rfl, rfl, _, rfl, R, _, rfl, SqL.of (s912 _ _ R9), fun C hC => ?_⟩
        rw [cutV_map]
        have t13 := tot_cut rows (some ((n : Int) + 1)) none
        generalize cutL rows (some ((n : Int) + 1)) none = last at t13 ⊢
        have s13 : Same H12 (upd H12 C (.lst (last.map V.str))) := Same.upd_new hC
        have w13 := upd_same (H := H12) (a := C) (o := .lst (last.map V.str))
        generalize upd H12 C (.lst (last.map V.str)) = H13 at s13 w13 ⊢
        have l13 := tot_len last
        refine ⟨B, C, _, _, rfl, rfl, s13 _ _ w12, w13, big (by rw [List.length_map, List.length_map, List.length_append]; show _ + 1 + _ ≤ _; omega), fun G hG => ?_⟩
        rw [cats]
        have s14 : Same H13 (upd H13 G (.lst ((first ++ [jw] ++ last).map V.str))) := Same.upd_new hG
        have w14 := upd_same (H := H13) (a := G) (o := .lst ((first ++ [jw] ++ last).map V.str))
        generalize upd H13 G (.lst ((first ++ [jw] ++ last).map V.str)) = H14 at s14 w14 ⊢
        have tj : tot [jw] = jw.length + 1 := rfl
        have tt : tot (first ++ [jw] ++ last) ≤ 6 * tot rows + 12 := by
          rw [tot_app, tot_app, tj]
          omega
        have ts := tot_sum (first ++ [jw] ++ last)
        refine ⟨"\n", G, _, rfl, rfl, .inl (SqL.of w14), by rw [nl1]; omega, ?_⟩
        have jl2 := join_len nl1 (first ++ [jw] ++ last)
        have sall := (s912.trans s13).trans s14
        exact k _ _ (by omega) (D9.same sall) (((f05.trans f58).trans f9).trans (Frm.of_same sall))

end
end TL

namespace TL
open PySem PySem.Spec PyProof.Rows L2
section
variable {P : Program} {w : World} {K : PySem.W.Frag} {mg : Str → Option Value} {base : Heap}
def spLaw (K : PySem.W.Frag) (P : Addr) : Sp := fun vs H Q _ => ∃ (a : Addr) (ns : List Int), vs = [.ref a] ∧ SqL K H a (ns.map V.int) ∧ ns.length ≤ 63 ∧ LamX.Tabs [(P, lamQ)] H ∧ ∀ H', Q (.bl true) H'
abbrev sp_law (T : Txt K mg) : Sp := spLaw K T.lP
/-- what stands from turn to turn -/
structure I14 (P : Addr) (H : Hp) (d S : Addr) : Prop where
  D : DiceAt H d
  L : ∃ ls : List Str, H S = some (.lst (ls.map V.str)) ∧ ls.length = 8 ∧ ∀ s ∈ ls, s.length ≤ 2000
  T : LamX.Tabs [(P, lamQ)] H
  n : S ≠ d
section
variable {Pa d S : Addr} {H H' : Hp}
theorem I14.same (h : I14 Pa H d S) (s : Same H H') : I14 Pa H' d S := ⟨h.D.same s, let ⟨ls, a, b⟩ := h.L; ⟨ls, s _ _ a, b⟩, tabs_same h.T s, h.n⟩
theorem I14.dice (h : I14 Pa H d S) (D : DiceAt H' d) (f : Frm [d] H H') : I14 Pa H' d S := ⟨D, let ⟨ls, a, b⟩ := h.L; ⟨ls, f _ _ a (by simp [h.n]), b⟩, tabs_dice h.T h.D f, h.n⟩
theorem I14.own {R : Addr} {xs : List V} (h : I14 Pa H d S) (hR : H R = some (.lst xs)) (f : Frm [R] H H') (n1 : d ≠ R) (n2 : S ≠ R) : I14 Pa H' d S := ⟨h.D.frm f (by simp [n1]), let ⟨ls, a, b⟩ := h.L; ⟨ls, f _ _ a (by simp [n2]), b⟩, tabs_frm h.T hR f, h.n⟩
theorem I14.ext (h : I14 Pa H d S) (e : LamX.ExtN H H') (T : LamX.Tabs [(Pa, lamQ)] H') : I14 Pa H' d S := ⟨dice_ext h.D e, let ⟨ls, a, b⟩ := h.L; ⟨ls, e _ _ a (fun ps z => by cases z), b⟩, T, h.n⟩
end
def bnd : Nat → Nat
  | 0 => 2000
  | n + 1 => 7 * bnd n + 30
theorem bnd_le : ∀ {n}, n ≤ 3 → bnd n ≤ 700000
  | 0, _ => by decide
  | 1, _ => by decide
  | 2, _ => by decide
  | 3, _ => by decide
  | _ + 4, h => by omega
theorem bnd_lt : ∀ {n}, n < 3 → bnd n ≤ 100000
  | 0, _ => by decide
  | 1, _ => by decide
  | 2, _ => by decide
  | _ + 3, h => by omega
def badL (i : Nat) (l : Str) : Prop := rowOfL l = none ∨ 300 ≤ i
/-- a row's two halves -/
def HalvesAt (H : Hp) (v : V) (r : Row) : Prop := ∃ h t1 t2, v = .ref h ∧ H h = some (.lst [.ref t1, .ref t2]) ∧ H t1 = some (.tup [.int r.1, .bl r.2.1]) ∧ H t2 = some (.tup [.int r.2.2.1, .bl r.2.2.2])
theorem HalvesAt.frm {H H' : Hp} {R : Addr} {v : V} {r : Row} (h : HalvesAt H v r) (f : Frm [R] H H') (n : v ≠ .ref R) : HalvesAt H' v r := by
  obtain ⟨a, t1, t2, rfl, h1, h2, h3⟩ := h
  exact ⟨a, t1, t2, rfl, f _ _ h1 (by simp; rintro rfl; exact n rfl), f.tups _ _ h2, f.tups _ _ h3⟩
theorem halves_row {H : Hp} {D : Addr} {xs : List V} {l : Str} {r : Row} (hD : H D = some (.lst xs)) (hA : ImAll H xs ((halvesOf l).map halfP)) (e : rowOfL l = some r) : HalvesAt H (.ref D) r := by
  unfold rowOfL at e
  generalize halvesOf l = hs at hA e
  match hs, e with
  | [some p, some q], e =>
    cases hA with
    | cons g1 hA =>
    cases hA with
    | cons g2 hA =>
    cases hA
    obtain ⟨a, b⟩ := p
    obtain ⟨c, f⟩ := q
    have er : (a, b, c, f) = r := Option.some.inj e
    subst er
    rcases im_half g1 with ⟨z, _⟩ | ⟨a1, b1, t1, z, rfl, h1⟩
    · cases z
    rcases im_half g2 with ⟨z', _⟩ | ⟨a2, b2, t2, z', rfl, h2⟩
    · cases z'
    cases z
    cases z'
    exact ⟨D, t1, t2, rfl, hD, h1, h2⟩
theorem repE (m : Nat) : (List.replicate m [V.str "1+ 1-"]).flatten = (List.replicate m ("1+ 1-" : Str)).map V.str := by
  induction m with
  | zero => rfl
  | succ m ih =>
    rw [List.replicate_succ, List.replicate_succ, List.flatten_cons, ih]
    rfl
theorem totE (m : Nat) : tot (List.replicate m ("1+ 1-" : Str)) = 6 * m := by
  induction m with
  | zero => rfl
  | succ m ih =>
    rw [List.replicate_succ, tot_cons, ih]
    show 5 + 1 + 6 * m = _
    omega
theorem ok_law (T : Txt K mg) (TB : LamX.TabB base mg T.lC T.lP) : FnOk P w K mg base CX0 7 T.a_law T.fd_law P_law (sp_law T) := by
  have G__law_dice := ok__law_dice (P := P) (w := w) (base := base) T
  have G__law_off := ok__law_off (P := P) (w := w) (base := base) T
  have G__law_changed := ok__law_changed (P := P) (w := w) (base := base) T
  have G_written := ok_written (P := P) (w := w) (base := base) T
  have G__law_half := ok__law_half (P := P) (w := w) (base := base) T
  have G__law_alike := ok__law_alike (P := P) (w := w) (base := base) T 4
  have G__law_log := ok__law_log (P := P) (w := w) (base := base) T
  have G_read := ok_read (P := P) (w := w) (base := base) T
  have bnw := T.b__law_word
  obtain ⟨ocw, odw, kVw, dcw, pmw, anw, cdw, ctw, slw, efw, lkw, hcw⟩ := T.F__law_word.ex
  rw [efw] at lkw bnw
  refine T.fl.ok sc_law (fun vs H Q E h => ?_) (fun A outer s H vs Q E hr h => ?_)
  · obtain ⟨a, ns, rfl, _⟩ := h
    rfl
  · obtain ⟨a, ns, rfl, hS, hlen, tb0, k⟩ := h
    have hu65 : (A.deeper (envOfC "law" (defScope s_law) s.heap.objs.size T.a_law (.ref T.lC))).units + 65 < cLine := by have := hr.un; omega
    refine ⟨_, (pss_cons (ps_set (i := 1) sc_law.nd rfl (by first | exact Or.inl rfl | exact Or.inr rfl) (pe_call G__law_dice (hr.mono (by decide)) rfl T.g__law_dice T.F__law_dice.kp T.b__law_dice .nil pass0 (pa_cons (pv 0) (pa_cons pe_int pa_nil))))
    (pss_cons (ps_set (i := 2) sc_law.nd rfl (by first | exact Or.inl rfl | exact Or.inr rfl) (pe_lst (pa_cons pe_str (pa_cons pe_str (pa_cons pe_str (pa_cons pe_str (pa_cons pe_str (pa_cons pe_str (pa_cons (pe_join pe_str (pe_op op_rep (pe_lst (pa_cons pe_str pa_nil)) pe_int)) (pa_cons (pe_join pe_str (pe_op op_rep (pe_lst (pa_cons pe_str pa_nil)) pe_int)) pa_nil))))))))))
    (pss_cons (ps_for PassesOwn.never rfl (pi_range1 rfl T.n_range (pa_cons pe_int pa_nil)) (pg_name (i := 3) sc_law.nd rfl (by first | exact Or.inl rfl | exact Or.inr rfl))
      (pss_cons (ps_cut (ps_set (i := 4) sc_law.nd rfl (by first | exact Or.inl rfl | exact Or.inr rfl) (pe_ix ix_list (pe_lst (pa_cons (pe_call G_written (hr.mono (by decide)) rfl T.g_written T.F_written.kp T.b_written .nil pass0 (pa_cons (pe_call G__law_log (hr.mono (by decide)) rfl T.g__law_log T.F__law_log.kp T.b__law_log .nil pass0 (pa_cons (pv 1) pa_nil)) pa_nil)) (pa_cons (pe_ix ix_list (pv 2) (pe_call G__law_off (hr.mono (by decide)) rfl T.g__law_off T.F__law_off.kp T.b__law_off .nil pass0 (pa_cons (pv 1) (pa_cons pe_int pa_nil))) (fun _ _ => rfl)) pa_nil))) (pe_callTy call_int1 (by rfl) T.n_int (by decide +kernel) (pa_cons (pe_cmpR op_eq (pe_call G__law_off (hr.mono (by decide)) rfl T.g__law_off T.F__law_off.kp T.b__law_off .nil pass0 (pa_cons (pv 1) (pa_cons pe_int pa_nil))) pe_int (nomark _)) pa_nil)) (fun _ _ => rfl))))
      (pss_cons (ps_for PassesOwn.never rfl (pi_range1 rfl T.n_range (pa_cons (pe_call G__law_off (hr.mono (by decide)) rfl T.g__law_off T.F__law_off.kp T.b__law_off .nil pass0 (pa_cons (pv 1) (pa_cons pe_int pa_nil))) pa_nil)) (pg_name (i := 5) sc_law.nd rfl (by first | exact Or.inl rfl | exact Or.inr rfl))
        (pss_one (ps_set (i := 4) sc_law.nd rfl (by first | exact Or.inl rfl | exact Or.inr rfl) (pe_call G__law_changed (hr.mono (by decide)) rfl T.g__law_changed T.F__law_changed.kp T.b__law_changed .nil pass0 (pa_cons (pv 1) (pa_cons (pv 4) pa_nil))))))
      (pss_cons (ps_set (i := 6) sc_law.nd rfl (by first | exact Or.inl rfl | exact Or.inr rfl) (pe_lst pa_nil))
      (pss_cons (ps_set (i := 7) sc_law.nd rfl (by first | exact Or.inl rfl | exact Or.inr rfl) pe_non)
      (pss_cons (ps_for PassesOwn.never rfl (pi_enum (by rfl) T.n_enumerate (pa_cons (pe_ifExp (pt_cmpR op_ne (pv 4) pe_str (nomark _)) (pe_split (pv 4) pe_str) (pe_lst pa_nil)) pa_nil)) (pg_tup rfl (pgs_cons (pg_name (i := 8) sc_law.nd rfl (by first | exact Or.inl rfl | exact Or.inr rfl)) (pgs_cons (pg_name (i := 9) sc_law.nd rfl (by first | exact Or.inl rfl | exact Or.inr rfl)) pgs_nil)))
        (pss_cons (ps_cut (ps_setLc (i := 10) (own := [("_law_word_here", 11)]) (g := (gName 11)) (tt := tYes) (te := (tCall _ [] E0 (tCons (tVar 11) tNil))) rfl sc_law.nd rfl rfl (sw_true rfl rfl rfl (by decide +kernel)) (pi_list (pe_split (pv 9) pe_str)) (blkOk_by (own := [("_law_word_here", 11)]) (N := N_law) (sc := defScope s_law) (by decide +kernel)) (fun _ _ _ _ _ => (pg_name (i := 11) sc_law.nd rfl (by first | exact Or.inl rfl | exact Or.inr rfl))) (fun _ _ _ _ _ => pts_nil) (fun _ _ _ _ _ => (pe_call G__law_half (hr.mono (by decide)) rfl T.g__law_half T.F__law_half.kp T.b__law_half .nil pass0 (pa_cons (pv 11) pa_nil)))))
        (pss_cons (ps_cut (ps_if (PW.pt (pw_and (pt_cmpR op_isN1 (pv 7) pe_non (nomark _)) (pw_and1 (PW.pt (pw_or (pt_cmpR op_ne (pe_callB call_len_seq (by rfl) T.n_len (by decide +kernel) (pa_cons (pv 10) pa_nil)) pe_int (nomark _)) (pw_or (pt_cmpR (op_inD hu65) pe_non (pv 10) (by rfl)) (pw_or1 (pt_cmpR op_gt (pv 8) pe_int (nomark _)))))))))
          (pss_one (ps_set (i := 7) sc_law.nd rfl (by first | exact Or.inl rfl | exact Or.inr rfl) (pe_tup (pa_cons pe_str (pa_cons (pv 8) pa_nil)))))
          pss_nil))
        (pss_one (ps_expr (pe_bm PySem.F.plainAttrs_list PySem.F.slot_list_append PySem.F.type_list_append mt_append (pv 6) (pa_cons (pv 10) pa_nil)))))))
      (pss_one (ps_if (pt_cmpR op_notN1 (pv 7) pe_non (nomark _))
        (pss_one (ps_if (pt_not (pt_val (pe_call G__law_alike (hr.mono (by decide)) rfl T.g__law_alike T.F__law_alike.kp T.b__law_alike .nil pass0 (pa_cons (LamX.pe_lamcall (k := 4) (T := [(T.lP, lamQ)]) rfl T.g__law_word T.F__law_word.kp lkw hcw bnw sc__law_word rfl (.inl rfl) (gives__law_word T _) TB rfl (.head _) (fun p hp _ => by rw [List.mem_singleton.mp hp]; rfl) (hr.mono (by decide)) (LamX.lamS_by (by show LamX.lamSB (defScope s_law) _ = true; decide +kernel)) rfl (fun _ _ _ _ _ => rfl) (fun A outer s H E f c hr => (pe_call G_read (hr.mono (by decide)) rfl T.g_read T.F_read.kp T.b_read .nil pass_lam (pa_cons (pv 4) pa_nil)))) (pa_cons (pv 7) pa_nil)))))
          (pss_one (ps_ret pe_bl))
          pss_nil))
        (pss_one (ps_if (pt_not (pt_val (pe_call G__law_alike (hr.mono (by decide)) rfl T.g__law_alike T.F__law_alike.kp T.b__law_alike .nil pass0 (pa_cons (pe_call G_read (hr.mono (by decide)) rfl T.g_read T.F_read.kp T.b_read .nil passL (pa_cons (pv 4) pa_nil)) (pa_cons (pe_cut (pe_lc (own := [("_law_halves", 10)]) (g := (gName 10)) (tt := tYes) (te := (tCB (fun xs H Q => ∃ p ys, xs = [.ref p] ∧ ((SqL K H p ys ∧ ∀ l, H l = none → Q (.ref l) (upd H l (.tup ys))) ∨ (SqT K H p ys ∧ Q (.ref p) H))) (tCons (tOp (rCatA K) (tOp (rIxL K) (tVar 10) (tC (.int 0))) (tOp (rIxL K) (tVar 10) (tC (.int 1)))) tNil))) rfl sc_law.nd (pi_list (pv 6)) (blkOk_by (own := [("_law_halves", 10)]) (N := N_law) (sc := defScope s_law) (by decide +kernel)) (fun _ _ _ _ _ => (pg_name (i := 10) sc_law.nd rfl (by first | exact Or.inl rfl | exact Or.inr rfl))) (fun _ _ _ _ _ => pts_nil) (fun _ _ _ _ _ => (pe_callTy call_tuple_of (by rfl) T.n_tuple (by decide +kernel) (pa_cons (pe_op op_catA (pe_ix ix_list (pv 10) pe_int (fun _ _ => rfl)) (pe_ix ix_list (pv 10) pe_int (fun _ _ => rfl))) pa_nil))))) pa_nil)))))
          (pss_one (ps_ret pe_bl))
          pss_nil))))))))))
    (pss_one (ps_ret pe_bl))))), ?_⟩
    have big : ∀ {n : Nat}, n ≤ 3000000 → n ≤ sizeLine := fun h => by show _ ≤ 16777216; omega
    refine ⟨_, rfl, a, ns, 0, rfl, hS, hlen, fun d H0 hd D0 s0 => ?_⟩
    have tb1 := tabs_same tb0 s0
    -- some texts
    have nl1 : ("\n" : Str).length = 1 := rfl
    refine ⟨⟨_, rfl⟩, (by show 1 ≤ sizeLine; decide), fun u1 hu1 => ⟨u1, 301, _, rfl, rfl, upd_same, by decide, by decide, big (by show 1 * 301 ≤ _; decide), fun w1 hw1 => ?_⟩⟩
    have e1 : (List.replicate (301 : Int).toNat [V.str "1+ 1-"]).flatten = (List.replicate 301 ("1+ 1-" : Str)).map V.str := repE 301
    rw [e1]
    have s1 := (Same.upd_new (o := .lst [.str "1+ 1-"]) hu1).trans (Same.upd_new (o := .lst ((List.replicate 301 ("1+ 1-" : Str)).map V.str)) hw1)
    have q1 := upd_same (H := upd H0 u1 (.lst [.str "1+ 1-"])) (a := w1) (o := .lst ((List.replicate 301 ("1+ 1-" : Str)).map V.str))
    generalize upd (upd H0 u1 (.lst [.str "1+ 1-"])) w1 (.lst ((List.replicate 301 ("1+ 1-" : Str)).map V.str)) = H1 at s1 q1 ⊢
    have ts1 := tot_sum (List.replicate 301 ("1+ 1-" : Str))
    have jl1 := join_len nl1 (List.replicate 301 ("1+ 1-" : Str))
    rw [totE] at ts1 jl1
    refine ⟨"\n", w1, _, rfl, rfl, .inl (SqL.of q1), by rw [nl1]; omega, ?_⟩
    have hz1 : (Txt.join "\n" (List.replicate 301 ("1+ 1-" : Str))).length ≤ 2000 := by omega
    generalize Txt.join "\n" (List.replicate 301 ("1+ 1-" : Str)) = z1 at hz1 ⊢
    refine ⟨⟨_, rfl⟩, (by show 1 ≤ sizeLine; decide), fun u2 hu2 => ⟨u2, 300, _, rfl, rfl, upd_same, by decide, by decide, big (by show 1 * 300 ≤ _; decide), fun w2 hw2 => ?_⟩⟩
    have e2 : (List.replicate (300 : Int).toNat [V.str "1+ 1-"]).flatten = (List.replicate 300 ("1+ 1-" : Str)).map V.str := repE 300
    rw [e2]
    have s2 := (Same.upd_new (o := .lst [.str "1+ 1-"]) hu2).trans (Same.upd_new (o := .lst ((List.replicate 300 ("1+ 1-" : Str)).map V.str)) hw2)
    have q2 := upd_same (H := upd H1 u2 (.lst [.str "1+ 1-"])) (a := w2) (o := .lst ((List.replicate 300 ("1+ 1-" : Str)).map V.str))
    generalize upd (upd H1 u2 (.lst [.str "1+ 1-"])) w2 (.lst ((List.replicate 300 ("1+ 1-" : Str)).map V.str)) = H2 at s2 q2 ⊢
    have ts2 := tot_sum (List.replicate 300 ("1+ 1-" : Str))
    have jl2 := join_len nl1 (List.replicate 300 ("1+ 1-" : Str))
    rw [totE] at ts2 jl2
    refine ⟨"\n", w2, _, rfl, rfl, .inl (SqL.of q2), by rw [nl1]; omega, ?_⟩
    have hz2 : (Txt.join "\n" (List.replicate 300 ("1+ 1-" : Str))).length ≤ 2000 := by omega
    generalize Txt.join "\n" (List.replicate 300 ("1+ 1-" : Str)) = z2 at hz2 ⊢
    refine ⟨(by show 8 ≤ sizeLine; decide), fun S hSn => ?_⟩
    have s3 := (s1.trans s2).trans (Same.upd_new (o := .lst (([" ", "\n", "0+ 0-\n", "0+", "0+ 0+ 0+", "0+  0+", z1, z2] : List Str).map V.str)) hSn)
    have I3 : I14 T.lP (upd H2 S (.lst (([" ", "\n", "0+ 0-\n", "0+", "0+ 0+ 0+", "0+  0+", z1, z2] : List Str).map V.str))) d S := ⟨D0.same s3, ⟨_, upd_same, rfl, fun x hx => by
      simp only [List.mem_cons, List.not_mem_nil, or_false] at hx
      rcases hx with rfl | rfl | rfl | rfl | rfl | rfl | rfl | rfl
      · show (1 : Nat) ≤ 2000; decide
      · show (1 : Nat) ≤ 2000; decide
      · show (6 : Nat) ≤ 2000; decide
      · show (2 : Nat) ≤ 2000; decide
      · show (8 : Nat) ≤ 2000; decide
      · show (6 : Nat) ≤ 2000; decide
      · exact hz1
      · exact hz2⟩, tabs_same (tabs_same tb0 s0) s3, (D0.same (s1.trans s2)).ne_new hSn⟩
    refine ⟨6, rfl, by decide, by decide, for_range (lo := 0) (n := 6) (fun i σ H' => (∃ v3 v4 v5 v6 v7 v8 v9 v10 : Option V, σ = [some (V.ref a), some (.ref d), some (.ref S), v3, v4, v5, v6, v7, v8, v9, v10, none]) ∧ I14 T.lP H' d S)
      ⟨⟨_, _, _, _, _, _, _, _, rfl⟩, I3⟩ ?_ (fun σ H' _ => k H')⟩
    rintro turn σ H4 hturn ⟨⟨v3, v4, v5, v6, v7, v8, v9, v10, rfl⟩, I4⟩
    -- a text
    refine ⟨fun σ' H' => ∃ z : Str, σ' = [some (V.ref a), some (.ref d), some (.ref S), some (.int (0 + (turn : Nat))), some (.str z), v5, v6, v7, v8, v9, v10, none] ∧ z.length ≤ 2000 ∧ I14 T.lP H' d S, ?_, ?_⟩
    · refine ⟨_, rfl, d, rfl, I4.D, fun p xs rs H5 hok hl hpn hp hA D5 f5 => ?_⟩
      have I5 := I4.dice D5 f5
      refine ⟨p, xs, rs, rfl, SqL.of hp, hA, hok, by omega, fun H6 s6 => ?_⟩
      have I6 := I5.same s6
      have lg := log_len hok
      refine ⟨_, rfl, _, rfl, d, 8, rfl, I6.D, by decide, by decide, fun r H7 r0 r1 D7 f7 => ?_⟩
      have I7 := I6.dice D7 f7
      obtain ⟨ls, hls, hln, hle⟩ := I7.L
      obtain ⟨m, rfl⟩ : ∃ m : Nat, r = m := ⟨r.toNat, by omega⟩
      have hm : m < ls.length := by omega
      have hat : atI (ls.map V.str) (m : Int) = some (.str ls[m]) := atI_nat (by rw [List.getElem?_map, List.getElem?_eq_getElem hm]; rfl)
      refine ⟨S, _, m, _, rfl, rfl, SqL.of hls, hat, (by show 2 ≤ sizeLine; decide), fun u hu => ?_⟩
      have hl2 := hle ls[m] (List.getElem_mem hm)
      have I8 := I7.same (Same.upd_new (o := .lst [.str (logText rs), .str ls[m]]) hu)
      have nud := I7.D.ne_new hu
      have q8 := upd_same (H := H7) (a := u) (o := .lst [.str (logText rs), .str ls[m]])
      generalize upd H7 u (.lst [.str (logText rs), .str ls[m]]) = H8 at I8 q8 ⊢
      refine ⟨_, rfl, d, 5, rfl, I8.D, by decide, by decide, fun r2 H9 r20 r21 D9 f9 => ?_⟩
      have I9 := I8.dice D9 f9
      have q9 := f9 _ _ q8 (by simp [nud])
      refine ⟨rfl, .inr ⟨_, rfl, ?_⟩⟩
      obtain ⟨z, hz, hat⟩ : ∃ z : Str, z.length ≤ 2000 ∧ atI [V.str (logText rs), .str ls[m]] (if decide (V.int r2 = V.int 0) = true then 1 else 0) = some (.str z) := by
        by_cases q : V.int r2 = V.int 0
        · rw [if_pos (decide_eq_true q)]
          exact ⟨_, hl2, rfl⟩
        · rw [if_neg (by simpa using q)]
          exact ⟨_, by omega, rfl⟩
      exact ⟨u, _, _, _, rfl, rfl, SqL.of q9, hat, z, rfl, hz, I9⟩
    rintro σ' H5 ⟨z0, rfl, hz0, I5⟩
    -- changed
    refine ⟨_, rfl, d, 4, rfl, I5.D, by decide, by decide, fun n H6 n0 n4 D6 f6 => ?_⟩
    have I6 := I5.dice D6 f6
    refine ⟨n, rfl, by omega, by omega, for_range (lo := 0) (n := n.toNat) (fun i σ H' => ∃ (z : Str) (v5 : Option V), σ = [some (V.ref a), some (.ref d), some (.ref S), some (.int (0 + (turn : Nat))), some (.str z), v5, v6, v7, v8, v9, v10, none] ∧ z.length ≤ bnd i ∧ I14 T.lP H' d S)
      ⟨z0, v5, rfl, hz0, I6⟩ ?_ ?_⟩
    · rintro i σ H7 hi ⟨z, w5, rfl, hz, I7⟩
      have hb := bnd_lt (n := i) (by omega)
      refine ⟨_, rfl, _, rfl, d, z, rfl, I7.D, by omega, fun u H8 hu D8 f8 => ?_⟩
      exact ⟨u, _, rfl, by show _ ≤ 7 * bnd i + 30; omega, I7.dice D8 f8⟩
    rintro σ H7 ⟨z, w5, rfl, hz, I7⟩
    have hz7 : z.length ≤ 700000 := Nat.le_trans hz (bnd_le (by omega))
    clear I6 I5 I4 I3 f6 D6 hz0 hz
    -- its lines
    refine ⟨(by show 0 ≤ sizeLine; decide), fun R hR => ?_⟩
    have I8 := I7.same (Same.upd_new (o := .lst []) hR)
    have nRd := I7.D.ne_new hR
    have nRS : R ≠ S := fun e => by
      obtain ⟨ls, h1, _⟩ := I7.L
      rw [e, h1] at hR
      cases hR
    have q8 := upd_same (H := H7) (a := R) (o := .lst [])
    generalize upd H7 R (.lst []) = H8 at I8 q8 ⊢
    have hww : ∀ l ∈ linesOf z, l.length ≤ z.length := by
      intro l hl
      unfold linesOf at hl
      split at hl
      · simp at hl
      · exact split_word z "\n" (by rw [tl_nl]; simp) (by decide +kernel) l hl
    have hll : (linesOf z).length ≤ 700001 := by
      unfold linesOf
      split
      · exact Nat.zero_le _
      · exact Nat.le_trans (split_len z "\n" (by rw [tl_nl]; simp) (by decide +kernel)) (by omega)
    refine ⟨_, rfl, rfl, _, rfl, ?_⟩
    refine iteN (fun hq => ⟨_, rfl, ⟨z, rfl⟩, z, _, rfl, rfl, rfl, big (by omega), fun L hL => ⟨L, _, rfl, SqL.of upd_same, ?_⟩⟩) (fun hq => ⟨(by show 0 ≤ sizeLine; decide), fun L hL => ⟨L, _, rfl, SqL.of upd_same, ?_⟩⟩)
    all_goals
      first
        | (have hlz : linesOf z = Txt.split z "\n" := by unfold linesOf; rw [if_neg fun e => hq (by rw [e])]
           rw [← hlz])
        | (have hlz : linesOf z = [] := by unfold linesOf; rw [if_pos (V.str.inj hq)]
           have e0 : upd H8 L (.lst []) = upd H8 L (.lst ((linesOf z).map V.str)) := by rw [hlz]; rfl
           rw [e0])
      have s9 : Same H8 (upd H8 L (.lst ((linesOf z).map V.str))) := Same.upd_new hL
      have qL := upd_same (H := H8) (a := L) (o := .lst ((linesOf z).map V.str))
      generalize upd H8 L (.lst ((linesOf z).map V.str)) = H9 at s9 qL ⊢
      have I9 := I8.same s9
      have q9 := s9 _ _ q8
      have nLR : L ≠ R := fun e => by
        rw [e, q8] at hL
        cases hL
      refine for_enum (K := K) (a := L) (xs := (linesOf z).map V.str) (fun i σ H' => I14 T.lP H' d S ∧ H' L = some (.lst ((linesOf z).map V.str)) ∧ ∃ (due : V) (vs : List V) (v8 v9 v10 : Option V), σ = [some (V.ref a), some (.ref d), some (.ref S), some (.int (0 + (turn : Nat))), some (.str z), w5, some (.ref R), some due, v8, v9, v10, none] ∧ H' R = some (.lst vs) ∧ vs.length = i ∧
          ((due = .non ∧ (∀ (j : Nat) (l : Str), j < i → (linesOf z)[j]? = some l → ¬ badL j l) ∧ ∃ rs : List Row, ((linesOf z).take i).map rowOfL = rs.map some ∧ (∀ (j : Nat) (v : V) (r : Row), vs[j]? = some v → rs[j]? = some r → HalvesAt H' v r ∧ v ≠ .ref R) ∧ rs.length = i) ∨
            (∃ (t : Addr) (j : Nat) (l : Str), due = .ref t ∧ H' t = some (.tup [.str "text", .int (j : Nat)]) ∧ (linesOf z)[j]? = some l ∧ badL j l ∧ ∀ (j' : Nat) (l' : Str), j' < j → (linesOf z)[j']? = some l' → ¬ badL j' l')))
        ⟨I9, qL, .non, [], _, _, _, rfl, q9, rfl, .inl ⟨rfl, fun j l hj => absurd hj (by omega), [], rfl, fun j v r h => by simp at h, rfl⟩⟩ (fun i σ H' _ h => SqL.of h.2.1) ?_ ?_
      · rintro i y N σ H10 hi ⟨I10, qL10, due, vs, v8, v9, v10, rfl, hR10, hvl, hcase⟩ hN
        obtain ⟨l, hli, rfl⟩ := getmap hi
        have hlz : l.length ≤ z.length := hww l (List.mem_of_getElem? hli)
        have hil : i < (linesOf z).length := (List.getElem?_eq_some_iff.mp hli).1
        have sN : Same H10 (upd H10 N (.tup [.int (i : Nat), .str l])) := Same.upd_new hN
        refine ⟨N, _, rfl, SqT.of upd_same, rfl, _, _, rfl, _, _, rfl, rfl, ?_⟩
        generalize upd H10 N (.tup [.int (i : Nat), .str l]) = H11 at sN ⊢
        -- its halves
        refine ⟨fun σ' H' => ∃ (D : Addr) (xs : List V), σ' = [some (V.ref a), some (.ref d), some (.ref S), some (.int (0 + (turn : Nat))), some (.str z), w5, some (.ref R), some due, some (.int (i : Nat)), some (.str l), some (.ref D), none] ∧ Same H11 H' ∧ H11 D = none ∧ H' D = some (.lst xs) ∧ ImAll H' xs ((halvesOf l).map halfP), ?_, ?_⟩
        · have hwsl := split_len l " " (by rw [tl_sp]; simp) (by decide +kernel)
          have hwwl := split_word l " " (by rw [tl_sp]; simp) (by decide +kernel)
          refine ⟨_, rfl, ⟨l, rfl⟩, l, _, rfl, rfl, rfl, big (by omega), fun W hW => ?_⟩
          refine ⟨W, rfl, ⟨_, SqL.of upd_same⟩, fun D hD => ?_⟩
          have sW : Same H11 (upd H11 W (.lst ((Txt.split l " ").map V.str))) := Same.upd_new hW
          have hDH := sW.free hD
          refine lc_list (K := K) (a := W) (xs := (Txt.split l " ").map V.str) (fun i H2 => Same (upd H11 W (.lst ((Txt.split l " ").map V.str))) H2 ∧ ∃ xs, H2 D = some (.lst xs) ∧ ImAll H2 xs (((halvesOf l).take i).map halfP))
            ⟨Same.upd_new hD, [], upd_same, .nil⟩ (fun i H2 _ ⟨s2, _⟩ => SqL.of (s2 _ _ upd_same)) ?_ ?_
          · rintro m y H2 hm ⟨s2, xs, hD2, hA2⟩
            obtain ⟨w0, hw0, rfl⟩ := getmap hm
            have hml : m < (Txt.split l " ").length := (List.getElem?_eq_some_iff.mp hw0).1
            have hhi : (halvesOf l)[m]? = some (halfL (tl w0)) := by unfold halvesOf; rw [List.getElem?_map, hw0]; rfl
            have hwl := hwwl w0 (List.mem_of_getElem? hw0)
            have hxl : xs.length ≤ m := by rw [hA2.length, List.length_map]; exact List.length_take_le _ _
            have hxs : xs.length < sizeLine := by show _ < 16777216; omega
            have fin : ∀ (v : V) (H3 : Hp), Same H2 H3 → Im H3 v (halfP (halfL (tl w0))) → ∃ acc, H3 D = some (.lst acc) ∧ acc.length < sizeLine ∧ (Same (upd H11 W (.lst ((Txt.split l " ").map V.str))) (upd H3 D (.lst (acc ++ [v]))) ∧ ∃ xs, (upd H3 D (.lst (acc ++ [v]))) D = some (.lst xs) ∧ ImAll (upd H3 D (.lst (acc ++ [v]))) xs (((halvesOf l).take (m + 1)).map halfP)) := by
              intro v H3 s3 hv
              have hD3 := s3 _ _ hD2
              refine ⟨xs, hD3, hxs, ((Frm.of_same (s2.trans s3)).own hD (Frm.updL hD3)).same, _, upd_same, ?_⟩
              rw [take_more hhi, List.map_append]
              exact ((hA2.same s3).append (.cons hv .nil)).updL hD3
            refine ⟨rfl, _, rfl, w0, rfl, big (by omega), fun hn H3 s3 => fin _ _ s3 (by rw [hn]; exact .non), fun p q hpq t H3 s3 ht => fin _ _ s3 ?_⟩
            rw [hpq]
            exact .tup ht (.cons (.int _) (.cons (.bl _) .nil))
          · rintro H2 ⟨s2, xs, hD2, hA2⟩
            have htk : (halvesOf l).take ((Txt.split l " ").map V.str).length = halvesOf l := by
              apply List.take_of_length_le
              unfold halvesOf
              simp
            rw [htk] at hA2
            exact ⟨D, xs, rfl, sW.trans s2, hDH, hD2, hA2⟩
        rintro σ' H12 ⟨D, xs, rfl, s12, hDn, hD, hA⟩
        have hxl : xs.length = (halvesOf l).length := by rw [hA.length, List.length_map]
        -- what is due
        refine ⟨fun σ' H' => ∃ due' : V, σ' = [some (V.ref a), some (.ref d), some (.ref S), some (.int (0 + (turn : Nat))), some (.str z), w5, some (.ref R), some due', some (.int (i : Nat)), some (.str l), some (.ref D), none] ∧ Same H12 H' ∧ ((due' = .non ∧ due = .non ∧ ¬ badL i l) ∨ (∃ t, due' = .ref t ∧ due = .non ∧ badL i l ∧ H' t = some (.tup [.str "text", .int (i : Nat)])) ∨ (due' = due ∧ due ≠ .non)), ?_, ?_⟩
        · by_cases hdue : due = .non
          · subst hdue
            refine ⟨_, rfl, rfl, _, rfl, iteT ?_⟩
            refine ⟨_, rfl, D, _, rfl, .inl (SqL.of hD), rfl, _, rfl, ?_⟩
            refine iteN (fun hne => iteT ?_) (fun he => ?_)
            · have hb : badL i l := by
                refine .inl ?_
                unfold rowOfL
                generalize halvesOf l = hl at hxl
                unfold rowHalves
                split
                · exact (hne (by rw [hxl]; rfl)).elim
                · rfl
              exact ⟨_, rfl, (by show 2 ≤ sizeLine; decide), fun t ht => ⟨.ref t, rfl, Same.upd_new ht, .inr (.inl ⟨t, rfl, rfl, hb, upd_same⟩)⟩⟩
            have h2 : (halvesOf l).length = 2 := by
              have := vint_inj.mp he
              omega
            obtain ⟨o1, o2, h12⟩ : ∃ o1 o2, halvesOf l = [o1, o2] := by
              match halvesOf l, h2 with
              | [o1, o2], _ => exact ⟨o1, o2, rfl⟩
            have hro : rowOfL l = rowHalves [o1, o2] := by unfold rowOfL; rw [h12]
            have hA2 := hA
            rw [h12] at hA2
            have dpD : Dp K H12 (.ref D) (.list ([o1, o2].map halfP)) := .lst (SqL.of hD) hA2.dp
            refine ⟨_, rfl, .none, [o1, o2].map halfP, .non, dpD, rfl, lay_halves _, _, rfl, ?_⟩
            have BAD : badL i l → ∀ t, H12 t = none → ∃ due' : V, [some (V.ref a), some (.ref d), some (.ref S), some (.int (0 + (turn : Nat))), some (.str z), w5, some (.ref R), some (V.ref t), some (.int (i : Nat)), some (.str l), some (.ref D), none] = [some (V.ref a), some (.ref d), some (.ref S), some (.int (0 + (turn : Nat))), some (.str z), w5, some (.ref R), some due', some (.int (i : Nat)), some (.str l), some (.ref D), none] ∧ Same H12 (upd H12 t (.tup [.str "text", .int (i : Nat)])) ∧ ((due' = .non ∧ (V.non : V) = .non ∧ ¬ badL i l) ∨ (∃ t', due' = .ref t' ∧ (V.non : V) = .non ∧ badL i l ∧ (upd H12 t (.tup [.str "text", .int (i : Nat)])) t' = some (.tup [.str "text", .int (i : Nat)])) ∨ (due' = .non ∧ (V.non : V) ≠ .non)) :=
              fun hb t ht => ⟨.ref t, rfl, Same.upd_new ht, .inr (.inl ⟨t, rfl, rfl, hb, upd_same⟩)⟩
            cases hA2 with
            | cons g1 hA2 =>
            cases hA2 with
            | cons g2 hA2 =>
            cases hA2
            rcases im_half g1 with ⟨rfl, rfl⟩ | ⟨a1, b1, t1, rfl, rfl, ht1⟩
            · exact iteT (iteT ⟨_, rfl, (by show 2 ≤ sizeLine; decide), BAD (.inl (by rw [hro]; rfl))⟩)
            · rcases im_half g2 with ⟨rfl, rfl⟩ | ⟨a2, b2, t2, rfl, rfl, ht2⟩
              · exact iteT (iteT ⟨_, rfl, (by show 2 ≤ sizeLine; decide), BAD (.inl (by rw [hro]; rfl))⟩)
              · refine iteF ⟨_, rfl, _, _, rfl, rfl, _, rfl, iteD (fun q => ?_) (fun q => ?_)⟩
                · exact ⟨_, rfl, (by show 2 ≤ sizeLine; decide), BAD (.inr (by omega))⟩
                · refine ⟨.non, rfl, .refl _, .inl ⟨rfl, rfl, fun h => ?_⟩⟩
                  rcases h with h | h
                  · rw [hro] at h
                    cases h
                  · omega
          · rcases hcase with ⟨h, _⟩ | ⟨t, j, l', rfl, hc⟩
            · exact absurd h hdue
            · exact ⟨_, rfl, rfl, _, rfl, iteF (iteF ⟨.ref t, rfl, .refl _, .inr (.inr ⟨rfl, fun z => by cases z⟩)⟩)⟩
        rintro σ' H13 ⟨due', rfl, s13, hd⟩
        have s1013 := (sN.trans s12).trans s13
        have I13 := I10.same s1013
        have hR13 := s1013 _ _ hR10
        have fR : Frm [R] H13 (upd H13 R (.lst (vs ++ [.ref D]))) := Frm.updL hR13
        have f1013 := (Frm.of_same (S := [R]) s1013).trans fR
        have hD13 : H13 D = some (.lst xs) := s13 _ _ hD
        have nDR : D ≠ R := fun e => by
          rw [e, sN _ _ hR10] at hDn
          cases hDn
        refine ⟨_, rfl, .inl ⟨rfl, _, SqL.of hR13⟩, _, rfl, R, vs, _, rfl, rfl, hR13, (by show _ < 16777216; omega), I13.own hR13 fR (Ne.symm nRd) (Ne.symm nRS), ?_, due', vs ++ [.ref D], _, _, _, rfl, upd_same, by simp [hvl], ?_⟩
        · rw [upd_ne nLR]
          exact s1013 _ _ qL10
        rcases hd with ⟨rfl, rfl, hng⟩ | ⟨t, rfl, rfl, hb, ht⟩ | ⟨rfl, hne⟩
        · rcases hcase with ⟨_, hg, rs, hrs, hH, hrl⟩ | ⟨t, _, _, z', _⟩
          · obtain ⟨r, hr⟩ : ∃ r, rowOfL l = some r := by
              cases q : rowOfL l with
              | none => exact absurd (.inl q) hng
              | some r => exact ⟨r, rfl⟩
            refine .inl ⟨rfl, fun j l' hj hl' => ?_, rs ++ [r], ?_, fun j v r' hv hr' => ?_, by simp [hrl]⟩
            · rcases Nat.lt_or_ge j i with q | q
              · exact hg j l' q hl'
              · have : j = i := by omega
                subst this
                rw [hli] at hl'
                cases hl'
                exact hng
            · rw [take_more hli, List.map_append, hrs, List.map_append]
              show _ ++ [rowOfL l] = _
              rw [hr]
              rfl
            · rcases Nat.lt_or_ge j vs.length with q | q
              · rw [List.getElem?_append_left q] at hv
                rw [List.getElem?_append_left (by omega)] at hr'
                obtain ⟨g1, g2⟩ := hH j v r' hv hr'
                exact ⟨g1.frm f1013 g2, g2⟩
              · have ej : j = vs.length := by
                  have := (List.getElem?_eq_some_iff.mp hv).1
                  simp at this
                  omega
                subst ej
                rw [List.getElem?_append_right (Nat.le_refl _), Nat.sub_self] at hv
                rw [List.getElem?_append_right (by omega)] at hr'
                have e0 : vs.length - rs.length = 0 := by omega
                rw [e0] at hr'
                have ev : V.ref D = v := Option.some.inj hv
                have er : r = r' := Option.some.inj hr'
                subst ev er
                have nv : (V.ref D) ≠ .ref R := fun z' => nDR (V.ref.inj z')
                exact ⟨(halves_row hD13 (hA.same s13) hr).frm fR nv, nv⟩
          · cases z'
        · rcases hcase with ⟨_, hg, _⟩ | ⟨t, _, _, z', _⟩
          · exact .inr ⟨t, i, l, rfl, fR.tups _ _ ht, hli, hb, fun j' l' hj hl' => hg j' l' hj hl'⟩
          · cases z'
        · rcases hcase with ⟨h, _⟩ | ⟨t, j, l', rfl, ht, hc⟩
          · exact absurd h hne
          · exact .inr ⟨t, j, l', rfl, f1013.tups _ _ ht, hc⟩
      · rintro σ' H10 ⟨I10, qL10, due, vs, v8, v9, v10, rfl, hR10, hvl, hcase⟩
        rcases hcase with ⟨rfl, hg, rs, hrs, hH, hrl⟩ | ⟨t, j, l, rfl, ht, hlj, hb, hfirst⟩
        · rw [List.length_map, List.take_length] at hrs
          rw [List.length_map] at hg hrl hvl
          refine ⟨_, rfl, rfl, _, rfl, iteF ?_⟩
          have hl3 : rs.length ≤ 300 := by
            rcases Nat.lt_or_ge 300 (linesOf z).length with q | q
            · exact absurd (.inr (Nat.le_refl _)) (hg 300 _ q (List.getElem?_eq_getElem q))
            · omega
          refine ⟨_, rfl, z, rfl, big (by omega), fun i' l' hl' hb' _ => absurd hb' (hg i' l' (List.getElem?_eq_some_iff.mp hl').1 hl'), fun rs' hrs' _ p xs H11 hpn hp hA s11 => ?_⟩
          have ers : rs' = rs := List.map_inj_right (fun _ _ z' => Option.some.inj z') |>.mp (hrs'.symm.trans hrs)
          subst ers
          have hR11 := s11 _ _ hR10
          refine ⟨fun v H' => ∃ (q : Addr) (ys : List V), v = .ref q ∧ H' q = some (.lst ys) ∧ ImAll H' ys (rs'.map rowD) ∧ Same H11 H', ?_, ?_⟩
          · refine ⟨_, rfl, R, rfl, ⟨_, SqL.of hR11⟩, fun D hD => ?_⟩
            refine lc_list (K := K) (a := R) (xs := vs) (fun i H' => Same H11 H' ∧ ∃ ys, H' D = some (.lst ys) ∧ ImAll H' ys ((rs'.take i).map rowD))
              ⟨Same.upd_new hD, [], upd_same, .nil⟩ (fun i H' _ h => SqL.of (h.1 _ _ hR11)) ?_ ?_
            · rintro i v H12 hi ⟨s12, ys, hD12, hA12⟩
              have hil : i < rs'.length := by
                have := (List.getElem?_eq_some_iff.mp hi).1
                omega
              have hri := List.getElem?_eq_getElem hil
              obtain ⟨⟨h, t1, t2, rfl, h1, h2, h3⟩, _⟩ := hH i v _ hi hri
              have s1012 := s11.trans s12
              have h1 := s1012 _ _ h1
              have h2 := s1012 _ _ h2
              have h3 := s1012 _ _ h3
              refine ⟨rfl, _, rfl, h, _, 0, _, rfl, rfl, SqL.of h1, rfl, _, rfl, h, _, 1, _, rfl, rfl, SqL.of h1, rfl, ?_⟩
              refine ⟨t1, t2, _, _, rfl, rfl, SqT.of h2, SqT.of h3, (by show 2 + 2 ≤ sizeLine; decide), (fun z' => by cases z'), (fun _ z' => by cases z'), fun _ _ u hu => ?_⟩
              have s13 := Same.upd_new (o := .tup ([V.int rs'[i].1, .bl rs'[i].2.1] ++ [.int rs'[i].2.2.1, .bl rs'[i].2.2.2])) hu
              refine ⟨u, _, rfl, .inr ⟨SqT.of upd_same, ?_⟩⟩
              have hD13 := s13 _ _ hD12
              have hyl : ys.length ≤ i := by
                rw [hA12.length, List.length_map]
                exact List.length_take_le _ _
              refine ⟨ys, hD13, by show _ < 16777216; omega, ((Frm.of_same (s12.trans s13)).own hD (Frm.updL hD13)).same, _, upd_same, ?_⟩
              rw [take_more hri, List.map_append]
              exact ((hA12.same s13).append (.cons (im_row (r := rs'[i]) upd_same) .nil)).updL hD13
            · rintro H12 ⟨s12, ys, hD12, hA12⟩
              have e : rs'.take vs.length = rs' := List.take_of_length_le (by omega)
              rw [e] at hA12
              exact ⟨D, ys, rfl, hD12, hA12, s12⟩
          rintro v H12 ⟨q, ys, rfl, hq, hAq, s12⟩
          refine ⟨.ref p, .ref q, .list (rs'.map rowD), rfl, .lst (SqL.of (s12 _ _ hp)) (hA.same s12).dp, .lst (SqL.of hq) hAq.dp, lv_mono (lv_rows (by omega)), fun H13 s13 => ?_⟩
          exact ⟨_, rfl, iteF ⟨⟨_, _, _, _, _, _, _, _, rfl⟩, ((I10.same s11).same s12).same s13⟩⟩
        · refine ⟨_, rfl, rfl, _, rfl, iteT ?_⟩
          refine ⟨I10.T, fun H11 e11 tb11 => ⟨fun cls d' H' => cls = .ref T.C_BadText ∧ ∃ dd, d' = some dd ∧ H' dd = some (.xd [("row", .int (j : Nat))]) ∧ Same H11 H', ?_, ?_⟩⟩
          · refine ⟨_, rfl, z, rfl, big (by omega), fun i' l' hl' hb' hg' dd H12 s12 hx => ?_, fun rs hrs hl3 => ?_⟩
            · have ei : i' = j := by
                rcases Nat.lt_trichotomy i' j with q | q | q
                · exact absurd hb' (hfirst i' l' q hl')
                · exact q
                · obtain ⟨q1, q2⟩ := hg' j l q hlj
                  rcases hb with h | h
                  · exact absurd h q1
                  · omega
              subst ei
              exact ⟨rfl, dd, rfl, hx, s12⟩
            · exfalso
              have e := congrArg (fun x : List (Option Row) => x[j]?) hrs
              simp only [List.getElem?_map, hlj] at e
              cases hr : rs[j]? with
              | none => rw [hr] at e; cases e
              | some r =>
                rw [hr] at e
                have e' : rowOfL l = some r := by simpa using e
                have := (List.getElem?_eq_some_iff.mp hr).1
                rcases hb with h | h
                · rw [e'] at h
                  cases h
                · omega
          rintro cls d' H12 ⟨rfl, dd, rfl, hx, s12⟩
          refine ⟨6, j, ⟨T.C_BadText, rfl, by decide, T.wk_BadText, .inr ⟨dd, _, rfl, hx, T.xf_BadText, .inl ⟨.inr rfl, T.nx_BadText_row, look1⟩⟩⟩, fun u H13 s13 hu => ?_⟩
          rw [word6] at hu
          have ht13 := s13 _ _ (s12 _ _ (e11 _ _ ht (fun ps z' => by cases z')))
          have I13 := ((I10.ext e11 tb11).same s12).same s13
          refine ⟨_, rfl, .ref u, .ref t, _, rfl, (im_word hu).dp, (im_word ht13).dp, lv_mono (lv_mono (lv_word (by decide +kernel) _)), fun H14 s14 => ?_⟩
          exact ⟨_, rfl, iteF ⟨⟨_, _, _, _, _, _, _, _, rfl⟩, I13.same s14⟩⟩

end
end TL

namespace TL
open PySem L2
/-! ### what the top has written; the last theorem -/
theorem all_mk {l : PySem.W.OpenLaw} {w : World} {K : PySem.W.Frag} {h : Heap} {mg : Str → Option Value} {fa : Addr} (X : K.In h) (G : h.Ns mainGlobals mg) (hfa : mg "law" = some (.ref fa)) (own : LamX.OwnTab K fa h) {C_LineError C_BadManners C_BadItem C_Full C_BadPart C_BadCount C_BadEnd C_BadStep C_BadLog C_BadText a_is_between a_is_row a_need_log a_written a_half_of a_row_of a_read a__law_dice a__law_off a__law_alike a__law_word a__law_row a__law_log a__law_half a__law_changed a_law a_BadText_init lC lP : Addr}
    {od_is_between an_is_between od_is_row an_is_row od_need_log an_need_log od_written an_written od_half_of an_half_of od_row_of an_row_of od_read an_read od__law_dice an__law_dice od__law_off an__law_off od__law_alike an__law_alike od__law_word an__law_word od__law_row an__law_row od__law_log an__law_log od__law_half an__law_half od__law_changed an__law_changed od_law an_law od_BadText_init an_BadText_init : Option Addr} {sl_is_between sl_is_row sl_need_log sl_written sl_half_of sl_row_of sl_read sl__law_dice sl__law_off sl__law_alike sl__law_word sl__law_row sl__law_log sl__law_half sl__law_changed sl_law sl_BadText_init : Array (Option Value)} {oc_is_between kV_is_between dc_is_between pm_is_between cd_is_between ct_is_between oc_is_row kV_is_row dc_is_row pm_is_row cd_is_row ct_is_row oc_need_log kV_need_log dc_need_log pm_need_log cd_need_log ct_need_log oc_written kV_written dc_written pm_written cd_written ct_written oc_half_of kV_half_of dc_half_of pm_half_of cd_half_of ct_half_of oc_row_of kV_row_of dc_row_of pm_row_of cd_row_of ct_row_of oc_read kV_read dc_read pm_read cd_read ct_read oc__law_dice kV__law_dice dc__law_dice pm__law_dice cd__law_dice ct__law_dice oc__law_off kV__law_off dc__law_off pm__law_off cd__law_off ct__law_off oc__law_alike kV__law_alike dc__law_alike pm__law_alike cd__law_alike ct__law_alike oc__law_word kV__law_word dc__law_word pm__law_word cd__law_word ct__law_word oc__law_row kV__law_row dc__law_row pm__law_row cd__law_row ct__law_row oc__law_log kV__law_log dc__law_log pm__law_log cd__law_log ct__law_log oc__law_half kV__law_half dc__law_half pm__law_half cd__law_half ct__law_half oc__law_changed kV__law_changed dc__law_changed pm__law_changed cd__law_changed ct__law_changed oc_law kV_law dc_law pm_law ct_law oc_BadText_init kV_BadText_init dc_BadText_init pm_BadText_init cd_BadText_init ct_BadText_init : Value} {tk_MOST tk_MOST_ROWS tk_MARKS tk_FIGURES : Tok} {nm_BadText qn_BadText : Str} {N_BadText : Addr} {bs_BadText sb_BadText : List Value} {sn_BadText : List Str} {ab_BadText : Bool} {cl_BadText : Option Bool} {dd_BadText : Option Addr} {m0_BadText m1_BadText m2_BadText m3_BadText m5_BadText : Option Value} {te : Value} {td : Option Addr} {tv : Array Value} {tsl : Array (Option Value)}
    (hC_LineError : PySem.W.nsIn K mainGlobals "LineError" = some (some (.ref C_LineError)))
    (hC_BadManners : PySem.W.nsIn K mainGlobals "BadManners" = some (some (.ref C_BadManners)))
    (hC_BadItem : PySem.W.nsIn K mainGlobals "BadItem" = some (some (.ref C_BadItem)))
    (hC_Full : PySem.W.nsIn K mainGlobals "Full" = some (some (.ref C_Full)))
    (hC_BadPart : PySem.W.nsIn K mainGlobals "BadPart" = some (some (.ref C_BadPart)))
    (hC_BadCount : PySem.W.nsIn K mainGlobals "BadCount" = some (some (.ref C_BadCount)))
    (hC_BadEnd : PySem.W.nsIn K mainGlobals "BadEnd" = some (some (.ref C_BadEnd)))
    (hC_BadStep : PySem.W.nsIn K mainGlobals "BadStep" = some (some (.ref C_BadStep)))
    (hC_BadLog : PySem.W.nsIn K mainGlobals "BadLog" = some (some (.ref C_BadLog)))
    (hC_BadText : PySem.W.nsIn K mainGlobals "BadText" = some (some (.ref C_BadText)))
    (hg_is_between : PySem.W.nsIn K mainGlobals "is_between" = some (some (.ref a_is_between)))
    (hl_is_between : K.lookup a_is_between = some ⟨oc_is_between, od_is_between, .func (PySem.W.fnOf "is_between" "is_between" (defArgs s_is_between) (defBody s_is_between) (defScope s_is_between) .none kV_is_between dc_is_between pm_is_between an_is_between cd_is_between ct_is_between), sl_is_between⟩)
    (hc_is_between : PySem.W.codeIn K cd_is_between "is_between" = true)
    (hk_is_between : PySem.W.keepIn K (.ref a_is_between) = true)
    (hg_is_row : PySem.W.nsIn K mainGlobals "is_row" = some (some (.ref a_is_row)))
    (hl_is_row : K.lookup a_is_row = some ⟨oc_is_row, od_is_row, .func (PySem.W.fnOf "is_row" "is_row" (defArgs s_is_row) (defBody s_is_row) (defScope s_is_row) .none kV_is_row dc_is_row pm_is_row an_is_row cd_is_row ct_is_row), sl_is_row⟩)
    (hc_is_row : PySem.W.codeIn K cd_is_row "is_row" = true)
    (hk_is_row : PySem.W.keepIn K (.ref a_is_row) = true)
    (hg_need_log : PySem.W.nsIn K mainGlobals "need_log" = some (some (.ref a_need_log)))
    (hl_need_log : K.lookup a_need_log = some ⟨oc_need_log, od_need_log, .func (PySem.W.fnOf "need_log" "need_log" (defArgs s_need_log) (defBody s_need_log) (defScope s_need_log) .none kV_need_log dc_need_log pm_need_log an_need_log cd_need_log ct_need_log), sl_need_log⟩)
    (hc_need_log : PySem.W.codeIn K cd_need_log "need_log" = true)
    (hk_need_log : PySem.W.keepIn K (.ref a_need_log) = true)
    (hg_written : PySem.W.nsIn K mainGlobals "written" = some (some (.ref a_written)))
    (hl_written : K.lookup a_written = some ⟨oc_written, od_written, .func (PySem.W.fnOf "written" "written" (defArgs s_written) (defBody s_written) (defScope s_written) .none kV_written dc_written pm_written an_written cd_written ct_written), sl_written⟩)
    (hc_written : PySem.W.codeIn K cd_written "written" = true)
    (hk_written : PySem.W.keepIn K (.ref a_written) = true)
    (hg_half_of : PySem.W.nsIn K mainGlobals "half_of" = some (some (.ref a_half_of)))
    (hl_half_of : K.lookup a_half_of = some ⟨oc_half_of, od_half_of, .func (PySem.W.fnOf "half_of" "half_of" (defArgs s_half_of) (defBody s_half_of) (defScope s_half_of) .none kV_half_of dc_half_of pm_half_of an_half_of cd_half_of ct_half_of), sl_half_of⟩)
    (hc_half_of : PySem.W.codeIn K cd_half_of "half_of" = true)
    (hk_half_of : PySem.W.keepIn K (.ref a_half_of) = true)
    (hg_row_of : PySem.W.nsIn K mainGlobals "row_of" = some (some (.ref a_row_of)))
    (hl_row_of : K.lookup a_row_of = some ⟨oc_row_of, od_row_of, .func (PySem.W.fnOf "row_of" "row_of" (defArgs s_row_of) (defBody s_row_of) (defScope s_row_of) .none kV_row_of dc_row_of pm_row_of an_row_of cd_row_of ct_row_of), sl_row_of⟩)
    (hc_row_of : PySem.W.codeIn K cd_row_of "row_of" = true)
    (hk_row_of : PySem.W.keepIn K (.ref a_row_of) = true)
    (hg_read : PySem.W.nsIn K mainGlobals "read" = some (some (.ref a_read)))
    (hl_read : K.lookup a_read = some ⟨oc_read, od_read, .func (PySem.W.fnOf "read" "read" (defArgs s_read) (defBody s_read) (defScope s_read) .none kV_read dc_read pm_read an_read cd_read ct_read), sl_read⟩)
    (hc_read : PySem.W.codeIn K cd_read "read" = true)
    (hk_read : PySem.W.keepIn K (.ref a_read) = true)
    (hg__law_dice : PySem.W.nsIn K mainGlobals "_law_dice" = some (some (.ref a__law_dice)))
    (hl__law_dice : K.lookup a__law_dice = some ⟨oc__law_dice, od__law_dice, .func (PySem.W.fnOf "_law_dice" "_law_dice" (defArgs s__law_dice) (defBody s__law_dice) (defScope s__law_dice) .none kV__law_dice dc__law_dice pm__law_dice an__law_dice cd__law_dice ct__law_dice), sl__law_dice⟩)
    (hc__law_dice : PySem.W.codeIn K cd__law_dice "_law_dice" = true)
    (hk__law_dice : PySem.W.keepIn K (.ref a__law_dice) = true)
    (hg__law_off : PySem.W.nsIn K mainGlobals "_law_off" = some (some (.ref a__law_off)))
    (hl__law_off : K.lookup a__law_off = some ⟨oc__law_off, od__law_off, .func (PySem.W.fnOf "_law_off" "_law_off" (defArgs s__law_off) (defBody s__law_off) (defScope s__law_off) .none kV__law_off dc__law_off pm__law_off an__law_off cd__law_off ct__law_off), sl__law_off⟩)
    (hc__law_off : PySem.W.codeIn K cd__law_off "_law_off" = true)
    (hk__law_off : PySem.W.keepIn K (.ref a__law_off) = true)
    (hg__law_alike : PySem.W.nsIn K mainGlobals "_law_alike" = some (some (.ref a__law_alike)))
    (hl__law_alike : K.lookup a__law_alike = some ⟨oc__law_alike, od__law_alike, .func (PySem.W.fnOf "_law_alike" "_law_alike" (defArgs s__law_alike) (defBody s__law_alike) (defScope s__law_alike) .none kV__law_alike dc__law_alike pm__law_alike an__law_alike cd__law_alike ct__law_alike), sl__law_alike⟩)
    (hc__law_alike : PySem.W.codeIn K cd__law_alike "_law_alike" = true)
    (hk__law_alike : PySem.W.keepIn K (.ref a__law_alike) = true)
    (hg__law_word : PySem.W.nsIn K mainGlobals "_law_word" = some (some (.ref a__law_word)))
    (hl__law_word : K.lookup a__law_word = some ⟨oc__law_word, od__law_word, .func (PySem.W.fnOf "_law_word" "_law_word" (defArgs s__law_word) (defBody s__law_word) (defScope s__law_word) .none kV__law_word dc__law_word pm__law_word an__law_word cd__law_word ct__law_word), sl__law_word⟩)
    (hc__law_word : PySem.W.codeIn K cd__law_word "_law_word" = true)
    (hk__law_word : PySem.W.keepIn K (.ref a__law_word) = true)
    (hg__law_row : PySem.W.nsIn K mainGlobals "_law_row" = some (some (.ref a__law_row)))
    (hl__law_row : K.lookup a__law_row = some ⟨oc__law_row, od__law_row, .func (PySem.W.fnOf "_law_row" "_law_row" (defArgs s__law_row) (defBody s__law_row) (defScope s__law_row) .none kV__law_row dc__law_row pm__law_row an__law_row cd__law_row ct__law_row), sl__law_row⟩)
    (hc__law_row : PySem.W.codeIn K cd__law_row "_law_row" = true)
    (hk__law_row : PySem.W.keepIn K (.ref a__law_row) = true)
    (hg__law_log : PySem.W.nsIn K mainGlobals "_law_log" = some (some (.ref a__law_log)))
    (hl__law_log : K.lookup a__law_log = some ⟨oc__law_log, od__law_log, .func (PySem.W.fnOf "_law_log" "_law_log" (defArgs s__law_log) (defBody s__law_log) (defScope s__law_log) .none kV__law_log dc__law_log pm__law_log an__law_log cd__law_log ct__law_log), sl__law_log⟩)
    (hc__law_log : PySem.W.codeIn K cd__law_log "_law_log" = true)
    (hk__law_log : PySem.W.keepIn K (.ref a__law_log) = true)
    (hg__law_half : PySem.W.nsIn K mainGlobals "_law_half" = some (some (.ref a__law_half)))
    (hl__law_half : K.lookup a__law_half = some ⟨oc__law_half, od__law_half, .func (PySem.W.fnOf "_law_half" "_law_half" (defArgs s__law_half) (defBody s__law_half) (defScope s__law_half) .none kV__law_half dc__law_half pm__law_half an__law_half cd__law_half ct__law_half), sl__law_half⟩)
    (hc__law_half : PySem.W.codeIn K cd__law_half "_law_half" = true)
    (hk__law_half : PySem.W.keepIn K (.ref a__law_half) = true)
    (hg__law_changed : PySem.W.nsIn K mainGlobals "_law_changed" = some (some (.ref a__law_changed)))
    (hl__law_changed : K.lookup a__law_changed = some ⟨oc__law_changed, od__law_changed, .func (PySem.W.fnOf "_law_changed" "_law_changed" (defArgs s__law_changed) (defBody s__law_changed) (defScope s__law_changed) .none kV__law_changed dc__law_changed pm__law_changed an__law_changed cd__law_changed ct__law_changed), sl__law_changed⟩)
    (hc__law_changed : PySem.W.codeIn K cd__law_changed "_law_changed" = true)
    (hk__law_changed : PySem.W.keepIn K (.ref a__law_changed) = true)
    (hg_law : PySem.W.nsIn K mainGlobals "law" = some (some (.ref a_law)))
    (hl_law : K.lookup a_law = some ⟨oc_law, od_law, .func (PySem.W.fnOf "law" "law" (defArgs s_law) (defBody s_law) (defScope s_law) .none kV_law dc_law pm_law an_law (.ref lC) ct_law), sl_law⟩)
    (hc_law : PySem.W.codeIn K (.ref lC) "law" = true)
    (hk_law : PySem.W.keepIn K (.ref a_law) = true)
    (hg_BadText_init : PySem.W.findIn K (.ref C_BadText) "__init__" = some (some (.ref a_BadText_init)))
    (hi_BadText_init : PySem.W.isFn K (.ref a_BadText_init) = true)
    (hl_BadText_init : K.lookup a_BadText_init = some ⟨oc_BadText_init, od_BadText_init, .func (PySem.W.fnOf "__init__" "BadText.__init__" (defArgs s_BadText_init) (defBody s_BadText_init) (defScope s_BadText_init) .none kV_BadText_init dc_BadText_init pm_BadText_init an_BadText_init cd_BadText_init ct_BadText_init), sl_BadText_init⟩)
    (hc_BadText_init : PySem.W.codeIn K cd_BadText_init "BadText.__init__" = true)
    (hk_BadText_init : PySem.W.keepIn K (.ref a_BadText_init) = true)
    (x_LineError : PySem.W.excIn K C_LineError [.type "ValueError", .type "Exception", .type "BaseException", .type "object"] "ValueError.__new__" = true)
    (k_LineError : PySem.W.keepIn K (.ref C_LineError) = true)
    (s_LineError : PySem.W.subIn K (.ref C_LineError) (.type "BaseException") = some true)
    (t_LineError : PySem.W.typeIn K (.ref C_LineError) = some (.type "type"))
    (x_BadManners : PySem.W.excIn K C_BadManners [.type "ValueError", .type "Exception", .type "BaseException", .type "object"] "ValueError.__new__" = true)
    (k_BadManners : PySem.W.keepIn K (.ref C_BadManners) = true)
    (s_BadManners : PySem.W.subIn K (.ref C_BadManners) (.type "BaseException") = some true)
    (t_BadManners : PySem.W.typeIn K (.ref C_BadManners) = some (.type "type"))
    (x_BadItem : PySem.W.excIn K C_BadItem [.type "ValueError", .type "Exception", .type "BaseException", .type "object"] "ValueError.__new__" = true)
    (k_BadItem : PySem.W.keepIn K (.ref C_BadItem) = true)
    (s_BadItem : PySem.W.subIn K (.ref C_BadItem) (.type "BaseException") = some true)
    (t_BadItem : PySem.W.typeIn K (.ref C_BadItem) = some (.type "type"))
    (x_Full : PySem.W.excIn K C_Full [.type "ValueError", .type "Exception", .type "BaseException", .type "object"] "ValueError.__new__" = true)
    (k_Full : PySem.W.keepIn K (.ref C_Full) = true)
    (s_Full : PySem.W.subIn K (.ref C_Full) (.type "BaseException") = some true)
    (t_Full : PySem.W.typeIn K (.ref C_Full) = some (.type "type"))
    (x_BadPart : PySem.W.excIn K C_BadPart [.type "ValueError", .type "Exception", .type "BaseException", .type "object"] "ValueError.__new__" = true)
    (k_BadPart : PySem.W.keepIn K (.ref C_BadPart) = true)
    (s_BadPart : PySem.W.subIn K (.ref C_BadPart) (.type "BaseException") = some true)
    (t_BadPart : PySem.W.typeIn K (.ref C_BadPart) = some (.type "type"))
    (x_BadCount : PySem.W.excIn K C_BadCount [.type "ValueError", .type "Exception", .type "BaseException", .type "object"] "ValueError.__new__" = true)
    (k_BadCount : PySem.W.keepIn K (.ref C_BadCount) = true)
    (s_BadCount : PySem.W.subIn K (.ref C_BadCount) (.type "BaseException") = some true)
    (t_BadCount : PySem.W.typeIn K (.ref C_BadCount) = some (.type "type"))
    (x_BadEnd : PySem.W.excIn K C_BadEnd [.type "ValueError", .type "Exception", .type "BaseException", .type "object"] "ValueError.__new__" = true)
    (k_BadEnd : PySem.W.keepIn K (.ref C_BadEnd) = true)
    (s_BadEnd : PySem.W.subIn K (.ref C_BadEnd) (.type "BaseException") = some true)
    (t_BadEnd : PySem.W.typeIn K (.ref C_BadEnd) = some (.type "type"))
    (k_BadStep : PySem.W.keepIn K (.ref C_BadStep) = true)
    (s_BadStep : PySem.W.subIn K (.ref C_BadStep) (.type "BaseException") = some true)
    (t_BadStep : PySem.W.typeIn K (.ref C_BadStep) = some (.type "type"))
    (k_BadLog : PySem.W.keepIn K (.ref C_BadLog) = true)
    (s_BadLog : PySem.W.subIn K (.ref C_BadLog) (.type "BaseException") = some true)
    (t_BadLog : PySem.W.typeIn K (.ref C_BadLog) = some (.type "type"))
    (k_BadText : PySem.W.keepIn K (.ref C_BadText) = true)
    (s_BadText : PySem.W.subIn K (.ref C_BadText) (.type "BaseException") = some true)
    (t_BadText : PySem.W.typeIn K (.ref C_BadText) = some (.type "type"))
    (gs_LE : PySem.W.specialIn K (.ref C_LineError) "__getattribute__" = some (some (.builtin "type.__getattribute__")))
    (rd_LE : PySem.W.readsIn K C_LineError (.type "type") = true)
    (fi_LE : PySem.W.findCls K (.ref C_LineError) (.type "type") "__init__" = some (.val (.builtin "ValueError.__init__")))
    (gx_n : PySem.W.specialIn K (.builtin "object.__class__") "__get__" = some (some (.builtin "getset_descriptor.__get__")))
    (gx_t : PySem.W.takesIn K (.builtin "object.__class__") = some true)
    (ga_BadText : PySem.W.findIn K (.ref C_BadText) "__getattribute__" = some (some (.builtin "BaseException.__getattribute__")))
    (gg_BadText : PySem.W.findIn K (.ref C_BadText) "__getattr__" = some none)
    (hx_BadText : PySem.W.hasDictIn K C_BadText = true)
    (xl_BadText : K.lookup C_BadText = some (excClassObj nm_BadText qn_BadText C_BadText N_BadText bs_BadText [.ref C_LineError, .type "ValueError", .type "Exception", .type "BaseException", .type "object"] true sn_BadText sb_BadText ab_BadText cl_BadText dd_BadText m0_BadText m1_BadText m2_BadText m3_BadText m5_BadText "ValueError.__new__"))
    (sa_BadText : PySem.W.findIn K (.ref C_BadText) "__setattr__" = some (some (.builtin "object.__setattr__")))
    (nx_BadText_row : PySem.W.findIn K (.ref C_BadText) "row" = some none)
    (gc_BadText : PySem.W.findIn K (.ref C_BadText) "__class__" = some (some (.builtin "object.__class__")))
    (gm_BadText : PySem.W.mroIn K C_BadText (.type "object") = some true)
    (ik_BadText_0 : PySem.W.kitOne K (.ref C_BadText) (.ref C_BadManners) = some false)
    (ik_BadText_1 : PySem.W.kitOne K (.ref C_BadText) (.ref C_BadCount) = some false)
    (ik_BadText_2 : PySem.W.kitOne K (.ref C_BadText) (.ref C_BadPart) = some false)
    (ik_BadText_3 : PySem.W.kitOne K (.ref C_BadText) (.ref C_BadItem) = some false)
    (ik_BadText_4 : PySem.W.kitOne K (.ref C_BadText) (.ref C_Full) = some false)
    (ik_BadText_5 : PySem.W.kitOne K (.ref C_BadText) (.ref C_BadLog) = some false)
    (ik_BadText_6 : PySem.W.kitOne K (.ref C_BadText) (.ref C_BadText) = some true)
    (ik_BadText_7 : PySem.W.kitOne K (.ref C_BadText) (.ref C_BadEnd) = some false)
    (ik_BadText_8 : PySem.W.kitOne K (.ref C_BadText) (.ref C_BadStep) = some false)
    (iv_BadText : PySem.W.kitOne K (.ref C_BadText) (.type "ValueError") = some true)
    (xm_BadText : PySem.W.exmOne K (.ref C_BadText) (.ref C_LineError) = some true)
    (tb_1 : K.lookup lC = some ⟨te, td, .fields tv, tsl⟩)
    (tb_2 : tv[11]? = some (.ref lP))
    (tb_3 : K.lookup lP = none)
    (tb_4 : PySem.W.codeHdIn K lC lP = true)
    (hv_MOST : PySem.W.nsIn K mainGlobals "MOST" = some (some (.int 9 tk_MOST)))
    (hv_MOST_ROWS : PySem.W.nsIn K mainGlobals "MOST_ROWS" = some (some (.int 300 tk_MOST_ROWS)))
    (hv_MARKS : PySem.W.nsIn K mainGlobals "MARKS" = some (some (.str "-+" tk_MARKS)))
    (hv_FIGURES : PySem.W.nsIn K mainGlobals "FIGURES" = some (some (.str "0123456789" tk_FIGURES)))
    (z_ValueError : PySem.W.nsIn K mainGlobals "ValueError" = some none)
    (z_abs : PySem.W.nsIn K mainGlobals "abs" = some none)
    (z_all : PySem.W.nsIn K mainGlobals "all" = some none)
    (z_bool : PySem.W.nsIn K mainGlobals "bool" = some none)
    (z_enumerate : PySem.W.nsIn K mainGlobals "enumerate" = some none)
    (z_int : PySem.W.nsIn K mainGlobals "int" = some none)
    (z_isinstance : PySem.W.nsIn K mainGlobals "isinstance" = some none)
    (z_len : PySem.W.nsIn K mainGlobals "len" = some none)
    (z_list : PySem.W.nsIn K mainGlobals "list" = some none)
    (z_range : PySem.W.nsIn K mainGlobals "range" = some none)
    (z_str : PySem.W.nsIn K mainGlobals "str" = some none)
    (z_tuple : PySem.W.nsIn K mainGlobals "tuple" = some none) :
    LamX.LawAtS l w K CX0 7 63 "_law_script" mg fa h := by
  have e := hfa.symm.trans (PySem.W.mg_of X G hg_law)
  cases e
  let T : Txt K mg := {
    a_is_between := a_is_between
    fd_is_between := _
    F_is_between := fun_mk (st := s_is_between) hl_is_between hc_is_between hk_is_between
    g_is_between := PySem.W.mg_of X G hg_is_between
    b_is_between := (fun_mk (st := s_is_between) hl_is_between hc_is_between hk_is_between).binds (ps := P_is_between) (fun _ _ _ _ _ _ us hl => match us, hl with | [_, _, _], _ => rfl)
    a_is_row := a_is_row
    fd_is_row := _
    F_is_row := fun_mk (st := s_is_row) hl_is_row hc_is_row hk_is_row
    g_is_row := PySem.W.mg_of X G hg_is_row
    b_is_row := (fun_mk (st := s_is_row) hl_is_row hc_is_row hk_is_row).binds (ps := P_is_row) (fun _ _ _ _ _ _ us hl => match us, hl with | [_], _ => rfl)
    a_need_log := a_need_log
    fd_need_log := _
    F_need_log := fun_mk (st := s_need_log) hl_need_log hc_need_log hk_need_log
    g_need_log := PySem.W.mg_of X G hg_need_log
    b_need_log := (fun_mk (st := s_need_log) hl_need_log hc_need_log hk_need_log).binds (ps := P_need_log) (fun _ _ _ _ _ _ us hl => match us, hl with | [_], _ => rfl)
    a_written := a_written
    fd_written := _
    F_written := fun_mk (st := s_written) hl_written hc_written hk_written
    g_written := PySem.W.mg_of X G hg_written
    b_written := (fun_mk (st := s_written) hl_written hc_written hk_written).binds (ps := P_written) (fun _ _ _ _ _ _ us hl => match us, hl with | [_], _ => rfl)
    a_half_of := a_half_of
    fd_half_of := _
    F_half_of := fun_mk (st := s_half_of) hl_half_of hc_half_of hk_half_of
    g_half_of := PySem.W.mg_of X G hg_half_of
    b_half_of := (fun_mk (st := s_half_of) hl_half_of hc_half_of hk_half_of).binds (ps := P_half_of) (fun _ _ _ _ _ _ us hl => match us, hl with | [_], _ => rfl)
    a_row_of := a_row_of
    fd_row_of := _
    F_row_of := fun_mk (st := s_row_of) hl_row_of hc_row_of hk_row_of
    g_row_of := PySem.W.mg_of X G hg_row_of
    b_row_of := (fun_mk (st := s_row_of) hl_row_of hc_row_of hk_row_of).binds (ps := P_row_of) (fun _ _ _ _ _ _ us hl => match us, hl with | [_], _ => rfl)
    a_read := a_read
    fd_read := _
    F_read := fun_mk (st := s_read) hl_read hc_read hk_read
    g_read := PySem.W.mg_of X G hg_read
    b_read := (fun_mk (st := s_read) hl_read hc_read hk_read).binds (ps := P_read) (fun _ _ _ _ _ _ us hl => match us, hl with | [_], _ => rfl)
    a__law_dice := a__law_dice
    fd__law_dice := _
    F__law_dice := fun_mk (st := s__law_dice) hl__law_dice hc__law_dice hk__law_dice
    g__law_dice := PySem.W.mg_of X G hg__law_dice
    b__law_dice := (fun_mk (st := s__law_dice) hl__law_dice hc__law_dice hk__law_dice).binds (ps := P__law_dice) (fun _ _ _ _ _ _ us hl => match us, hl with | [_, _], _ => rfl)
    a__law_off := a__law_off
    fd__law_off := _
    F__law_off := fun_mk (st := s__law_off) hl__law_off hc__law_off hk__law_off
    g__law_off := PySem.W.mg_of X G hg__law_off
    b__law_off := (fun_mk (st := s__law_off) hl__law_off hc__law_off hk__law_off).binds (ps := P__law_off) (fun _ _ _ _ _ _ us hl => match us, hl with | [_, _], _ => rfl)
    a__law_alike := a__law_alike
    fd__law_alike := _
    F__law_alike := fun_mk (st := s__law_alike) hl__law_alike hc__law_alike hk__law_alike
    g__law_alike := PySem.W.mg_of X G hg__law_alike
    b__law_alike := (fun_mk (st := s__law_alike) hl__law_alike hc__law_alike hk__law_alike).binds (ps := P__law_alike) (fun _ _ _ _ _ _ us hl => match us, hl with | [_, _], _ => rfl)
    a__law_word := a__law_word
    fd__law_word := _
    F__law_word := fun_mk (st := s__law_word) hl__law_word hc__law_word hk__law_word
    g__law_word := PySem.W.mg_of X G hg__law_word
    b__law_word := (fun_mk (st := s__law_word) hl__law_word hc__law_word hk__law_word).binds (ps := P__law_word) (fun _ _ _ _ _ _ us hl => match us, hl with | [_], _ => rfl)
    a__law_row := a__law_row
    fd__law_row := _
    F__law_row := fun_mk (st := s__law_row) hl__law_row hc__law_row hk__law_row
    g__law_row := PySem.W.mg_of X G hg__law_row
    b__law_row := (fun_mk (st := s__law_row) hl__law_row hc__law_row hk__law_row).binds (ps := P__law_row) (fun _ _ _ _ _ _ us hl => match us, hl with | [_], _ => rfl)
    a__law_log := a__law_log
    fd__law_log := _
    F__law_log := fun_mk (st := s__law_log) hl__law_log hc__law_log hk__law_log
    g__law_log := PySem.W.mg_of X G hg__law_log
    b__law_log := (fun_mk (st := s__law_log) hl__law_log hc__law_log hk__law_log).binds (ps := P__law_log) (fun _ _ _ _ _ _ us hl => match us, hl with | [_], _ => rfl)
    a__law_half := a__law_half
    fd__law_half := _
    F__law_half := fun_mk (st := s__law_half) hl__law_half hc__law_half hk__law_half
    g__law_half := PySem.W.mg_of X G hg__law_half
    b__law_half := (fun_mk (st := s__law_half) hl__law_half hc__law_half hk__law_half).binds (ps := P__law_half) (fun _ _ _ _ _ _ us hl => match us, hl with | [_], _ => rfl)
    a__law_changed := a__law_changed
    fd__law_changed := _
    F__law_changed := fun_mk (st := s__law_changed) hl__law_changed hc__law_changed hk__law_changed
    g__law_changed := PySem.W.mg_of X G hg__law_changed
    b__law_changed := (fun_mk (st := s__law_changed) hl__law_changed hc__law_changed hk__law_changed).binds (ps := P__law_changed) (fun _ _ _ _ _ _ us hl => match us, hl with | [_, _], _ => rfl)
    a_law := fa
    fd_law := _
    F_law := fun_mk (st := s_law) hl_law hc_law hk_law
    g_law := PySem.W.mg_of X G hg_law
    b_law := (fun_mk (st := s_law) hl_law hc_law hk_law).binds (ps := P_law) (fun _ _ _ _ _ _ us hl => match us, hl with | [_], _ => rfl)
    a_BadText_init := a_BadText_init
    fd_BadText_init := _
    F_BadText_init := fun_mk (st := s_BadText_init) hl_BadText_init hc_BadText_init hk_BadText_init
    b_BadText_init := (fun_mk (st := s_BadText_init) hl_BadText_init hc_BadText_init hk_BadText_init).binds (ps := P_BadText_init) (fun _ _ _ _ _ _ us hl => match us, hl with | [_, _], _ => rfl)
    C_LineError := C_LineError
    c_LineError := PySem.W.mg_of X G hC_LineError
    k_LineError := k_LineError
    s_LineError := s_LineError
    t_LineError := t_LineError
    x_LineError := x_LineError
    C_BadManners := C_BadManners
    c_BadManners := PySem.W.mg_of X G hC_BadManners
    k_BadManners := k_BadManners
    s_BadManners := s_BadManners
    t_BadManners := t_BadManners
    x_BadManners := x_BadManners
    C_BadItem := C_BadItem
    c_BadItem := PySem.W.mg_of X G hC_BadItem
    k_BadItem := k_BadItem
    s_BadItem := s_BadItem
    t_BadItem := t_BadItem
    x_BadItem := x_BadItem
    C_Full := C_Full
    c_Full := PySem.W.mg_of X G hC_Full
    k_Full := k_Full
    s_Full := s_Full
    t_Full := t_Full
    x_Full := x_Full
    C_BadPart := C_BadPart
    c_BadPart := PySem.W.mg_of X G hC_BadPart
    k_BadPart := k_BadPart
    s_BadPart := s_BadPart
    t_BadPart := t_BadPart
    x_BadPart := x_BadPart
    C_BadCount := C_BadCount
    c_BadCount := PySem.W.mg_of X G hC_BadCount
    k_BadCount := k_BadCount
    s_BadCount := s_BadCount
    t_BadCount := t_BadCount
    x_BadCount := x_BadCount
    C_BadEnd := C_BadEnd
    c_BadEnd := PySem.W.mg_of X G hC_BadEnd
    k_BadEnd := k_BadEnd
    s_BadEnd := s_BadEnd
    t_BadEnd := t_BadEnd
    x_BadEnd := x_BadEnd
    C_BadStep := C_BadStep
    c_BadStep := PySem.W.mg_of X G hC_BadStep
    k_BadStep := k_BadStep
    s_BadStep := s_BadStep
    t_BadStep := t_BadStep
    C_BadLog := C_BadLog
    c_BadLog := PySem.W.mg_of X G hC_BadLog
    k_BadLog := k_BadLog
    s_BadLog := s_BadLog
    t_BadLog := t_BadLog
    C_BadText := C_BadText
    c_BadText := PySem.W.mg_of X G hC_BadText
    k_BadText := k_BadText
    s_BadText := s_BadText
    t_BadText := t_BadText
    bc_LineError := ⟨gs_LE, rd_LE, fi_LE, k_LineError⟩
    ox_BadText := ⟨⟨nm_BadText, qn_BadText, N_BadText, bs_BadText, _, sn_BadText, sb_BadText, ab_BadText, cl_BadText, dd_BadText, m0_BadText, m1_BadText, m2_BadText, m3_BadText, m5_BadText, xl_BadText, rfl⟩, sa_BadText, s_BadText, t_BadText, k_BadText⟩
    iC_BadText := hg_BadText_init
    tI_BadText := beq_iff_eq.mp hi_BadText_init
    nx_BadText_row := nx_BadText_row
    xf_BadText := ⟨ga_BadText, gg_BadText, s_BadText, hx_BadText⟩
    wk_BadText := ⟨⟨ga_BadText, gg_BadText, s_BadText, hx_BadText, gc_BadText, gx_n, gx_t, gm_BadText⟩, kinds9 ik_BadText_0 ik_BadText_1 ik_BadText_2 ik_BadText_3 ik_BadText_4 ik_BadText_5 ik_BadText_6 ik_BadText_7 ik_BadText_8 (by decide), iv_BadText, xm_BadText⟩
    lC := lC
    lP := lP
    fl := ⟨_, _, _, _, _, _, _, _, rfl, hl_law, hc_law⟩
    tk_MOST := tk_MOST
    v_MOST := PySem.W.mg_of X G hv_MOST
    tk_MOST_ROWS := tk_MOST_ROWS
    v_MOST_ROWS := PySem.W.mg_of X G hv_MOST_ROWS
    tk_MARKS := tk_MARKS
    v_MARKS := PySem.W.mg_of X G hv_MARKS
    tk_FIGURES := tk_FIGURES
    v_FIGURES := PySem.W.mg_of X G hv_FIGURES
    n_ValueError := PySem.W.mg_none_of X G z_ValueError
    n_abs := PySem.W.mg_none_of X G z_abs
    n_all := PySem.W.mg_none_of X G z_all
    n_bool := PySem.W.mg_none_of X G z_bool
    n_enumerate := PySem.W.mg_none_of X G z_enumerate
    n_int := PySem.W.mg_none_of X G z_int
    n_isinstance := PySem.W.mg_none_of X G z_isinstance
    n_len := PySem.W.mg_none_of X G z_len
    n_list := PySem.W.mg_none_of X G z_list
    n_range := PySem.W.mg_none_of X G z_range
    n_str := PySem.W.mg_none_of X G z_str
    n_tuple := PySem.W.mg_none_of X G z_tuple }
  exact ⟨_, [(lC, lP)], spLaw K lP, fun p hp => by rw [List.mem_singleton.mp hp]; exact own lC lP _ _ _ _ _ _ hl_law rfl rfl tb_1 tb_2, fun p hp => by rw [List.mem_singleton.mp hp]; exact tb_3, fun p hp => by rw [List.mem_singleton.mp hp]; exact PySem.W.codeHd_of_K X tb_4,
    fun s v => .of_eq rfl, fun H a ns hn _ hT hS => ⟨a, ns, rfl, hS, hn, fun p hp => by rw [List.mem_singleton.mp hp]; exact LamX.TabS.nil (hT _ (.head _)), fun _ => rfl⟩, fun base _ _ hB => ok_law T (hB _ (.head _))⟩
theorem walk {l : PySem.W.OpenLaw} {q : Program} {loose : List Str} {XP : (Str → Option Value) → Heap → Prop} {YP : World → Heap → Prop} {d : DefRec} {K : Params → PySem.W.Frag} (hn : l.most = some 63) (hdf : d.params.defaults = []) (hrec : ((PyProof.Rows.recsOf q).any fun e => e.name == d.name) = true)
    (hY : ∀ (w : World) (h : Heap), YP w h → (K w.params).In h)
    (F : ∀ (w : World) (mg : Str → Option Value) (fa : Addr) (h : Heap), YP w h → (K w.params).In h → h.Ns mainGlobals mg → mg d.name = some (.ref fa) → LamX.OwnTab (K w.params) fa h → LamX.LawAtS l w (K w.params) CX0 7 63 "_law_script" mg fa h) :
    PySem.W.WalkO q loose XP YP l.row.toRowW d [] (fun f vs => PySem.call f vs) :=
  LamX.walk_ofOwn (n := 63) (k := 7) (x := "_law_script") (CX := fun _ => CX0) hn (by decide) hdf ⟨rfl, by decide, by decide⟩ hrec hY F fun _ _ _ _ _ z => z
end TL
open PySem PySem.W PyProof.Rows
set_option maxRecDepth 100000 in
set_option maxHeartbeats 0 in
theorem PySem.Challenge.cw_trainline_k14_texts_refused_holds : PySem.Challenge.rw_trainline_k14_texts_refused.Holds := by
  w_on; o_law; k_head; (case hw => w_witness2)
  k_fill
  refine TL.walk (l := PySem.Challenge.rw_trainline_k14_texts_refused) rfl rfl rfl (fun w h Y => PySem.W.km_in_of Y) ?F
  case F =>
    intro w mg fa h Y KX G hmg own
    refine' TL.all_mk KX G hmg own ?hC_LineError ?hC_BadManners ?hC_BadItem ?hC_Full ?hC_BadPart ?hC_BadCount ?hC_BadEnd ?hC_BadStep ?hC_BadLog ?hC_BadText ?hg_is_between ?hl_is_between ?hc_is_between ?hk_is_between ?hg_is_row ?hl_is_row ?hc_is_row ?hk_is_row ?hg_need_log ?hl_need_log ?hc_need_log ?hk_need_log ?hg_written ?hl_written ?hc_written ?hk_written ?hg_half_of ?hl_half_of ?hc_half_of ?hk_half_of ?hg_row_of ?hl_row_of ?hc_row_of ?hk_row_of ?hg_read ?hl_read ?hc_read ?hk_read ?hg__law_dice ?hl__law_dice ?hc__law_dice ?hk__law_dice ?hg__law_off ?hl__law_off ?hc__law_off ?hk__law_off ?hg__law_alike ?hl__law_alike ?hc__law_alike ?hk__law_alike ?hg__law_word ?hl__law_word ?hc__law_word ?hk__law_word ?hg__law_row ?hl__law_row ?hc__law_row ?hk__law_row ?hg__law_log ?hl__law_log ?hc__law_log ?hk__law_log ?hg__law_half ?hl__law_half ?hc__law_half ?hk__law_half ?hg__law_changed ?hl__law_changed ?hc__law_changed ?hk__law_changed ?hg_law ?hl_law ?hc_law ?hk_law ?hg_BadText_init ?hi_BadText_init ?hl_BadText_init ?hc_BadText_init ?hk_BadText_init ?x_LineError ?k_LineError ?s_LineError ?t_LineError ?x_BadManners ?k_BadManners ?s_BadManners ?t_BadManners ?x_BadItem ?k_BadItem ?s_BadItem ?t_BadItem ?x_Full ?k_Full ?s_Full ?t_Full ?x_BadPart ?k_BadPart ?s_BadPart ?t_BadPart ?x_BadCount ?k_BadCount ?s_BadCount ?t_BadCount ?x_BadEnd ?k_BadEnd ?s_BadEnd ?t_BadEnd ?k_BadStep ?s_BadStep ?t_BadStep ?k_BadLog ?s_BadLog ?t_BadLog ?k_BadText ?s_BadText ?t_BadText ?gs_LE ?rd_LE ?fi_LE ?gx_n ?gx_t ?ga_BadText ?gg_BadText ?hx_BadText ?xl_BadText ?sa_BadText ?nx_BadText_row ?gc_BadText ?gm_BadText ?ik_BadText_0 ?ik_BadText_1 ?ik_BadText_2 ?ik_BadText_3 ?ik_BadText_4 ?ik_BadText_5 ?ik_BadText_6 ?ik_BadText_7 ?ik_BadText_8 ?iv_BadText ?xm_BadText ?tb_1 ?tb_2 ?tb_3 ?tb_4 ?hv_MOST ?hv_MOST_ROWS ?hv_MARKS ?hv_FIGURES ?z_ValueError ?z_abs ?z_all ?z_bool ?z_enumerate ?z_int ?z_isinstance ?z_len ?z_list ?z_range ?z_str ?z_tuple
    (case hC_LineError => first | k_is | rfl)
    (case hC_BadManners => first | k_is | rfl)
    (case hC_BadItem => first | k_is | rfl)
    (case hC_Full => first | k_is | rfl)
    (case hC_BadPart => first | k_is | rfl)
    (case hC_BadCount => first | k_is | rfl)
    (case hC_BadEnd => first | k_is | rfl)
    (case hC_BadStep => first | k_is | rfl)
    (case hC_BadLog => first | k_is | rfl)
    (case hC_BadText => first | k_is | rfl)
    (case hg_is_between => first | k_is | rfl)
    (case hl_is_between => first | k_is | rfl)
    (case hc_is_between => first | k_is | rfl)
    (case hk_is_between => first | k_is | rfl)
    (case hg_is_row => first | k_is | rfl)
    (case hl_is_row => first | k_is | rfl)
    (case hc_is_row => first | k_is | rfl)
    (case hk_is_row => first | k_is | rfl)
    (case hg_need_log => first | k_is | rfl)
    (case hl_need_log => first | k_is | rfl)
    (case hc_need_log => first | k_is | rfl)
    (case hk_need_log => first | k_is | rfl)
    (case hg_written => first | k_is | rfl)
    (case hl_written => first | k_is | rfl)
    (case hc_written => first | k_is | rfl)
    (case hk_written => first | k_is | rfl)
    (case hg_half_of => first | k_is | rfl)
    (case hl_half_of => first | k_is | rfl)
    (case hc_half_of => first | k_is | rfl)
    (case hk_half_of => first | k_is | rfl)
    (case hg_row_of => first | k_is | rfl)
    (case hl_row_of => first | k_is | rfl)
    (case hc_row_of => first | k_is | rfl)
    (case hk_row_of => first | k_is | rfl)
    (case hg_read => first | k_is | rfl)
    (case hl_read => first | k_is | rfl)
    (case hc_read => first | k_is | rfl)
    (case hk_read => first | k_is | rfl)
    (case hg__law_dice => first | k_is | rfl)
    (case hl__law_dice => first | k_is | rfl)
    (case hc__law_dice => first | k_is | rfl)
    (case hk__law_dice => first | k_is | rfl)
    (case hg__law_off => first | k_is | rfl)
    (case hl__law_off => first | k_is | rfl)
    (case hc__law_off => first | k_is | rfl)
    (case hk__law_off => first | k_is | rfl)
    (case hg__law_alike => first | k_is | rfl)
    (case hl__law_alike => first | k_is | rfl)
    (case hc__law_alike => first | k_is | rfl)
    (case hk__law_alike => first | k_is | rfl)
    (case hg__law_word => first | k_is | rfl)
    (case hl__law_word => first | k_is | rfl)
    (case hc__law_word => first | k_is | rfl)
    (case hk__law_word => first | k_is | rfl)
    (case hg__law_row => first | k_is | rfl)
    (case hl__law_row => first | k_is | rfl)
    (case hc__law_row => first | k_is | rfl)
    (case hk__law_row => first | k_is | rfl)
    (case hg__law_log => first | k_is | rfl)
    (case hl__law_log => first | k_is | rfl)
    (case hc__law_log => first | k_is | rfl)
    (case hk__law_log => first | k_is | rfl)
    (case hg__law_half => first | k_is | rfl)
    (case hl__law_half => first | k_is | rfl)
    (case hc__law_half => first | k_is | rfl)
    (case hk__law_half => first | k_is | rfl)
    (case hg__law_changed => first | k_is | rfl)
    (case hl__law_changed => first | k_is | rfl)
    (case hc__law_changed => first | k_is | rfl)
    (case hk__law_changed => first | k_is | rfl)
    (case hg_law => first | k_is | rfl)
    (case hl_law => first | k_is | rfl)
    (case hc_law => first | k_is | rfl)
    (case hk_law => first | k_is | rfl)
    (case hg_BadText_init => first | k_is | rfl)
    (case hi_BadText_init => first | k_is | rfl)
    (case hl_BadText_init => first | k_is | rfl)
    (case hc_BadText_init => first | k_is | rfl)
    (case hk_BadText_init => first | k_is | rfl)
    (case x_LineError => k_exc)
    (case k_LineError => first | k_is | rfl)
    (case s_LineError => first | k_is | rfl)
    (case t_LineError => first | k_is | rfl)
    (case x_BadManners => k_exc)
    (case k_BadManners => first | k_is | rfl)
    (case s_BadManners => first | k_is | rfl)
    (case t_BadManners => first | k_is | rfl)
    (case x_BadItem => k_exc)
    (case k_BadItem => first | k_is | rfl)
    (case s_BadItem => first | k_is | rfl)
    (case t_BadItem => first | k_is | rfl)
    (case x_Full => k_exc)
    (case k_Full => first | k_is | rfl)
    (case s_Full => first | k_is | rfl)
    (case t_Full => first | k_is | rfl)
    (case x_BadPart => k_exc)
    (case k_BadPart => first | k_is | rfl)
    (case s_BadPart => first | k_is | rfl)
    (case t_BadPart => first | k_is | rfl)
    (case x_BadCount => k_exc)
    (case k_BadCount => first | k_is | rfl)
    (case s_BadCount => first | k_is | rfl)
    (case t_BadCount => first | k_is | rfl)
    (case x_BadEnd => k_exc)
    (case k_BadEnd => first | k_is | rfl)
    (case s_BadEnd => first | k_is | rfl)
    (case t_BadEnd => first | k_is | rfl)
    (case k_BadStep => first | k_is | rfl)
    (case s_BadStep => first | k_is | rfl)
    (case t_BadStep => first | k_is | rfl)
    (case k_BadLog => first | k_is | rfl)
    (case s_BadLog => first | k_is | rfl)
    (case t_BadLog => first | k_is | rfl)
    (case k_BadText => first | k_is | rfl)
    (case s_BadText => first | k_is | rfl)
    (case t_BadText => first | k_is | rfl)
    (case gs_LE => first | k_is | rfl)
    (case rd_LE => first | k_is | rfl)
    (case fi_LE => first | k_is | rfl)
    (case gx_n => first | k_is | rfl)
    (case gx_t => first | k_is | rfl)
    (case ga_BadText => first | k_is | rfl)
    (case gg_BadText => first | k_is | rfl)
    (case hx_BadText => first | k_is | rfl)
    (case xl_BadText => first | k_is | rfl)
    (case sa_BadText => first | k_is | rfl)
    (case nx_BadText_row => first | k_is | rfl)
    (case gc_BadText => first | k_is | rfl)
    (case gm_BadText => first | k_is | rfl)
    (case ik_BadText_0 => first | k_is | rfl)
    (case ik_BadText_1 => first | k_is | rfl)
    (case ik_BadText_2 => first | k_is | rfl)
    (case ik_BadText_3 => first | k_is | rfl)
    (case ik_BadText_4 => first | k_is | rfl)
    (case ik_BadText_5 => first | k_is | rfl)
    (case ik_BadText_6 => first | k_is | rfl)
    (case ik_BadText_7 => first | k_is | rfl)
    (case ik_BadText_8 => first | k_is | rfl)
    (case iv_BadText => first | k_is | rfl)
    (case xm_BadText => first | k_is | rfl)
    (case tb_1 => first | k_is | rfl)
    (case tb_2 => first | k_is | rfl)
    (case tb_3 => first | k_is | rfl)
    (case tb_4 => first | k_is | rfl)
    (case hv_MOST => first | k_is | rfl)
    (case hv_MOST_ROWS => first | k_is | rfl)
    (case hv_MARKS => first | k_is | rfl)
    (case hv_FIGURES => first | k_is | rfl)
    (case z_ValueError => first | k_is | rfl)
    (case z_abs => first | k_is | rfl)
    (case z_all => first | k_is | rfl)
    (case z_bool => first | k_is | rfl)
    (case z_enumerate => first | k_is | rfl)
    (case z_int => first | k_is | rfl)
    (case z_isinstance => first | k_is | rfl)
    (case z_len => first | k_is | rfl)
    (case z_list => first | k_is | rfl)
    (case z_range => first | k_is | rfl)
    (case z_str => first | k_is | rfl)
    (case z_tuple => first | k_is | rfl)
