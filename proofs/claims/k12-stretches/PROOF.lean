import PyProof.Rows.All
import Wide.All
import OpenK.AllK
import Wide.FinOn
import HandS.ForMost
import HandS.Exc
import HandS.TryOnly
import HandS.ExcOwn
import HandS.WordsExc
import HandS.IsInst
import HandS.TupAny
import HandS.SetFor
import HandS.Strs
import HandS.Steps
import HandS.Style
import PySem.Challenge.RW_trainline_k12_stretches
set_option Elab.async false
set_option linter.all false
set_option maxRecDepth 100000
set_option maxHeartbeats 4000000
namespace TL
open PySem PySem.Spec PyProof.Rows L2
/-! ### heaps -/
/-- what was tracked and isn't in S stays; tuples stay -/
structure Frm (S : List Addr) (H H' : Hp) : Prop where
  keep : ∀ b o, H b = some o → b ∉ S → H' b = some o
  tups : ∀ b ys, H b = some (.tup ys) → H' b = some (.tup ys)
instance {S : List Addr} {H H' : Hp} : CoeFun (Frm S H H') (fun _ => ∀ b o, H b = some o → b ∉ S → H' b = some o) := ⟨Frm.keep⟩
theorem Frm.refl (S : List Addr) (H : Hp) : Frm S H H := ⟨fun _ _ e _ => e, fun _ _ e => e⟩
theorem Frm.trans {S : List Addr} {H H1 H2 : Hp} (a : Frm S H H1) (b : Frm S H1 H2) : Frm S H H2 := ⟨fun c o e h => b.keep c o (a.keep c o e h) h, fun c o e => b.tups c o (a.tups c o e)⟩
theorem Frm.mono {S S' : List Addr} {H H1 : Hp} (a : Frm S H H1) (h : ∀ x ∈ S, x ∈ S') : Frm S' H H1 := ⟨fun c o e hn => a.keep c o e fun z => hn (h _ z), a.tups⟩
theorem Frm.of_same {S : List Addr} {H H1 : Hp} (a : Same H H1) : Frm S H H1 := ⟨fun c o e _ => a c o e, fun c o e => a c _ e⟩
theorem Frm.same {H H1 : Hp} (a : Frm [] H H1) : Same H H1 := fun c o e => a.keep c o e (by simp)
/-- something that is no tuple is written -/
theorem Frm.updN {H : Hp} {d : Addr} {o : HO} (n : ∀ ys, H d ≠ some (.tup ys)) : Frm [d] H (L2.upd H d o) := ⟨fun b u e h => by
  rw [upd_ne (fun z => h (by simp [z]))]
  exact e, fun b ys e => by
  rw [upd_ne (fun z => by rw [z] at e; exact n ys e)]
  exact e⟩
theorem Frm.updL {H : Hp} {d : Addr} {o : HO} {xs : List V} (h : H d = some (.lst xs)) : Frm [d] H (L2.upd H d o) := Frm.updN fun ys z => by rw [h] at z; cases z
theorem Frm.updI {H : Hp} {d C dx : Addr} {o : HO} {fs : List (Str × V)} (h : H d = some (.ins C dx fs)) : Frm [d] H (L2.upd H d o) := Frm.updN fun ys z => by rw [h] at z; cases z
theorem Frm.updK {H : Hp} {d : Addr} {o : HO} {kvs : List (Key × V)} (h : H d = some (.dK kvs)) : Frm [d] H (L2.upd H d o) := Frm.updN fun ys z => by rw [h] at z; cases z
theorem Frm.new {S : List Addr} {H : Hp} {p : Addr} {o : HO} (n : H p = none) : Frm S H (L2.upd H p o) := ⟨fun b u e _ => by
  rw [upd_ne (ne_of_none e n)]
  exact e, fun b u e => by
  rw [upd_ne (ne_of_none e n)]
  exact e⟩
/-- what is written was made since: all that stood ahead stands -/
theorem Frm.own {S : List Addr} {H H1 H2 : Hp} (a : Frm S H H1) {l : Addr} (hl : H l = none) (b : Frm [l] H1 H2) : Frm S H H2 := ⟨fun c o e h => b.keep c o (a.keep c o e h) (by
  simp only [List.mem_singleton]
  exact ne_of_none e hl), fun c o e => b.tups c o (a.tups c o e)⟩
theorem Frm.free {S : List Addr} {H H1 : Hp} (a : Frm S H H1) {l : Addr} (h : H1 l = none) (hs : l ∉ S) : H l = none := by
  cases q : H l with
  | none => rfl
  | some o => rw [a.keep l o q hs] at h; cases h
theorem Same.upd_new {H : Hp} {p : Addr} {o : HO} (n : H p = none) : Same H (L2.upd H p o) := fun b u e => by
  rw [upd_ne (ne_of_none e n)]
  exact e
/-- a tuple isn't among what may be written -/
theorem iteD {p A B : Prop} [Decidable p] (h1 : p → A) (h2 : ¬ p → B) : if decide p = true then A else B := by
  by_cases h : p
  · rw [if_pos (decide_eq_true h)]
    exact h1 h
  · rw [if_neg (by simp [h])]
    exact h2 h
theorem iteN {p A B : Prop} [Decidable p] (h1 : ¬ p → A) (h2 : p → B) : if (!decide p) = true then A else B := by
  by_cases h : p
  · rw [if_neg (by simp [h])]
    exact h2 h
  · rw [if_pos (by simp [h])]
    exact h1 h
theorem iteB {b : Bool} {A B : Prop} (h1 : b = true → A) (h2 : b = false → B) : if b = true then A else B := by
  cases b
  · rw [if_neg (by simp)]; exact h2 rfl
  · rw [if_pos rfl]; exact h1 rfl
theorem vint_inj {i j : Int} : (V.int i = V.int j) ↔ i = j := ⟨fun h => by cases h; rfl, fun h => by rw [h]⟩
theorem getmap {α : Type} {f : α → V} {ns : List α} {i : Nat} {y : V} (h : (ns.map f)[i]? = some y) : ∃ z, ns[i]? = some z ∧ y = f z := by
  rw [List.getElem?_map] at h
  cases e : ns[i]? with
  | none => rw [e] at h; cases h
  | some z => rw [e] at h; exact ⟨z, rfl, (Option.some.inj h).symm⟩
theorem take_more {α : Type} : ∀ {l : List α} {i : Nat} {x : α}, l[i]? = some x → l.take (i + 1) = l.take i ++ [x]
  | [], i, x, h => by simp at h
  | a :: l, 0, x, h => by
    have e : a = x := Option.some.inj h
    subst e
    rfl
  | a :: l, i + 1, x, h => by
    have ih := take_more (l := l) (i := i) (x := x) h
    show a :: l.take (i + 1) = a :: l.take i ++ [x]
    rw [ih]
    rfl
/-! ### loops over enumerate(..) -/
/-- the invariant of a for over J -/
abbrev ForW (J : It) (g : TG) (tb : TS) (D : Ends) (σ : L2.St) (H : Hp) : Prop :=
  ∃ W : Nat → Nat → L2.St → Hp → Prop, (∃ m, W 0 m σ H) ∧ ∀ i m σ H, W i m σ H → (J.stop i H ∧ D.nx σ H) ∨
    (J.go i H ∧ ∃ N : L2.St → Hp → Prop, (∀ σ' H', N σ' H' → ∃ m', m' < m ∧ W (i + 1) m' σ' H') ∧ ∀ x H', J.yld i H x H' → g x σ H' fun σ2 H2 => tb { D with nx := N, ct := N, bk := D.nx } σ2 H2)
abbrev LcW (J : It) (g : TG) (tt : TT) (te : TE) (vs : List Nat) (σ : L2.St) (H1 : Hp) (D : Addr) (Qd : Hp → Prop) : Prop :=
  ∃ W : Nat → Nat → Hp → Prop, (∃ m, W 0 m (upd H1 D (.lst []))) ∧ ∀ i m H, W i m H → (J.stop i H ∧ Qd H) ∨
    (J.go i H ∧ ∃ Nx : Hp → Prop, (∀ H', Nx H' → ∃ m', m' < m ∧ W (i + 1) m' H') ∧ ∀ x H', J.yld i H x H' → g x (wipe σ vs) H' fun σ2 H2 => wipe σ2 vs = wipe σ vs ∧ tt σ2 H2 fun b H3 =>
      if b = true then te σ2 H3 fun y H4 => ∃ acc, H4 D = some (.lst acc) ∧ acc.length < sizeLine ∧ Nx (upd H4 D (.lst (acc ++ [y]))) else Nx H3)
theorem for_enum {K : PySem.W.Frag} {a : Addr} {xs : List V} {g : TG} {tb : TS} {D : Ends} {σ : L2.St} {H : Hp} (Pv : Nat → L2.St → Hp → Prop) (h0 : Pv 0 σ H) (hl : ∀ i σ H, i ≤ xs.length → Pv i σ H → SqL K H a xs)
    (hs : ∀ (i : Nat) (x : V) (T : Addr) (σ : L2.St) (H : Hp), xs[i]? = some x → Pv i σ H → H T = none → g (.ref T) σ (upd H T (.tup [.int (i : Nat), x])) fun σ2 H2 => tb { D with nx := Pv (i + 1), ct := Pv (i + 1), bk := D.nx } σ2 H2)
    (hd : ∀ σ H, Pv xs.length σ H → D.nx σ H) : ForW (Ite K a) g tb D σ H := by
  refine ⟨fun i m σ H => m = xs.length - i ∧ i ≤ xs.length ∧ Pv i σ H, ⟨_, rfl, Nat.zero_le _, h0⟩, fun i m σ H hw => ?_⟩
  obtain ⟨rfl, hi, p⟩ := hw
  have q := hl i σ H hi p
  rcases Nat.lt_or_ge i xs.length with hlt | hge
  · refine .inr ⟨⟨xs, xs[i], q, by simp [hlt]⟩, Pv (i + 1), fun σ' H' p' => ⟨xs.length - (i + 1), by omega, rfl, hlt, p'⟩, fun v H' y => ?_⟩
    obtain ⟨T, x, rfl, hT, rfl, hx⟩ := y
    exact hs i x T σ H (hx xs q) p hT
  · have e : i = xs.length := by omega
    subst e
    exact .inl ⟨⟨xs, q, Nat.le_refl _⟩, hd σ H p⟩
theorem lc_enum {K : PySem.W.Frag} {a : Addr} {xs : List V} {g : TG} {tt : TT} {te : TE} {vs : List Nat} {σ : L2.St} {H1 : Hp} {D : Addr} {Qd : Hp → Prop} (Pv : Nat → Hp → Prop) (h0 : Pv 0 (upd H1 D (.lst []))) (hl : ∀ i H, i ≤ xs.length → Pv i H → SqL K H a xs)
    (hs : ∀ (i : Nat) (x : V) (T : Addr) (H : Hp), xs[i]? = some x → Pv i H → H T = none → g (.ref T) (wipe σ vs) (upd H T (.tup [.int (i : Nat), x])) fun σ2 H2 => wipe σ2 vs = wipe σ vs ∧ tt σ2 H2 fun b H3 =>
      if b = true then te σ2 H3 fun y H4 => ∃ acc, H4 D = some (.lst acc) ∧ acc.length < sizeLine ∧ Pv (i + 1) (upd H4 D (.lst (acc ++ [y]))) else Pv (i + 1) H3)
    (hd : ∀ H, Pv xs.length H → Qd H) : LcW (Ite K a) g tt te vs σ H1 D Qd := by
  refine ⟨fun i m H => m = xs.length - i ∧ i ≤ xs.length ∧ Pv i H, ⟨_, rfl, Nat.zero_le _, h0⟩, fun i m H hw => ?_⟩
  obtain ⟨rfl, hi, p⟩ := hw
  have q := hl i H hi p
  rcases Nat.lt_or_ge i xs.length with hlt | hge
  · refine .inr ⟨⟨xs, xs[i], q, by simp [hlt]⟩, Pv (i + 1), fun H' p' => ⟨xs.length - (i + 1), by omega, rfl, hlt, p'⟩, fun v H' y => ?_⟩
    obtain ⟨T, x, rfl, hT, rfl, hx⟩ := y
    exact hs i x T H (hx xs q) p hT
  · have e : i = xs.length := by omega
    subst e
    exact .inl ⟨⟨xs, q, Nat.le_refl _⟩, hd H p⟩
/-! ### where ways come together -/
/-- behind t N holds, and from N on the rest goes -/
def tCut (t : TS) : TS := fun D σ H => ∃ N : L2.St → Hp → Prop, t { D with nx := N } σ H ∧ ∀ σ' H', N σ' H' → D.nx σ' H'
theorem ps_cut {X : Cx} {st : Stmt} {t : TS} (h : PS X st t) : PS X st (tCut t) := ⟨fun pins s σ H D I ⟨N, h1, h2⟩ => thn (h.run pins s σ H { D with nx := N } I h1) fun f s' q => by
  cases f with
  | next =>
    obtain ⟨σ', H', I', n⟩ := q
    exact ⟨σ', H', I', h2 _ _ n⟩
  | brk => exact q
  | cont => exact q
  | ret u => exact q⟩
/-! ### set(t), t a tuple of whole numbers -/
section
variable {X : Cx}
def rSetT (K : PySem.W.Frag) (w : World) : List V → Hp → VK → Prop := fun xs H Q => ∃ (p : Addr) (ns : List Int), xs = [.ref p] ∧ SqT K H p (ns.map V.int) ∧ ns.length ≤ 1000 ∧
  ∀ (q : Addr) (c : Nat), H q = none → c ≤ ns.length → Q (.ref q) (upd H q (SetO w q (fun j => decide (j ∈ ns)) c))
theorem cr_setT (hc : X.calm = true) : CallR X (.type "set") (rSetT X.K X.w) := by
  intro pins s σ H xs us Q I rv h
  obtain ⟨p0, ns, rfl, hq, hl, q⟩ := h
  cases rv with
  | cons r rr =>
    cases rr
    cases r
    obtain ⟨its, rv, pt, hz⟩ := I.tuple hq
    have hi : IntsAre its.toArray.toList ns := ints_of_vals rv
    refine call_set_tupI ns (I.ok.hd hc) (show s.heap.IsTuple p0 its.toArray from pt) hi (by unfold scanBound; omega) fun h' tk c R1 hcn k => ?_
    exact ⟨.ref _, upd H s.heap.objs.size (SetO X.w s.heap.objs.size (fun j => decide (j ∈ ns)) c), I.laid (t' := tk) k (Nat.le_refl _) (setO_new R1), rfl, q _ _ (I.hok.fresh (Nat.le_refl _)) hcn⟩
/-! ### xs.count(y), flat items -/
def rCountF (K : PySem.W.Frag) : V → List V → Hp → VK → Prop := fun x xs H Q => ∃ (p : Addr) (ys : List V) (y : V), x = .ref p ∧ xs = [y] ∧ SqL K H p ys ∧ flatV y = true ∧ ys.all flatV = true ∧ Q (.int (ys.countP (fun z => eqV z y) : Nat)) H
theorem countP_eqU {y : V} : ∀ {ys : List V} {us : List Value}, Vals ys us → ys.all flatV = true → us.countP (eqU y) = ys.countP (fun z => eqV z y)
  | _, _, .nil, _ => rfl
  | _, _, .cons r t, f => by
    simp only [List.all_cons, Bool.and_eq_true] at f
    rw [List.countP_cons, List.countP_cons, countP_eqU t f.2, eqU_of r f.1]
theorem mt_countF : MtR X "list.count" (rCountF X.K) := by
  intro pins s σ H x xs v us Q I rx rxs h
  obtain ⟨p, ys, y, rfl, rfl, hs, fy, fys, q⟩ := h
  cases rx
  obtain ⟨u, rfl, ru⟩ := rxs.one
  obtain ⟨its, rv, ⟨⟨cls, dd, data, sl⟩, n, ho, hc, hdn, hd⟩, hlen⟩ := I.list hs
  simp only at hc hd
  subst hc hd
  refine call_meets PySem.F.slot_list_count ⟨_, ho, rfl⟩ PySem.F.entry_list_count (PySem.F.args_list_count_2 _ _)
    (SeqAt.list_countAt p its.toArray n dd sl u (eqU y)) ⟨ho, fun z hz => mem_eqAt ru fy rv fys z (by simpa using hz), ?_⟩
  have ec : its.toArray.toList.countP (eqU y) = ys.countP (fun z => eqV z y) := countP_eqU rv fys
  refine ⟨.int (ys.countP (fun z => eqV z y) : Nat), H, I.tok _, ⟨s.toks, ?_⟩, q⟩
  show Value.int ((its.toArray.toList.countP (eqU y) : Nat) : Int) s.toks = Value.int ((ys.countP (fun z => eqV z y) : Nat) : Int) s.toks
  rw [ec]
end
theorem count_int (ns : List Int) (k : Int) : (ns.map V.int).countP (fun z => eqV z (.int k)) = ns.count k := by
  induction ns with
  | nil => rfl
  | cons a r ih =>
    rw [List.map_cons, List.countP_cons, ih, List.count_cons]
    rfl
/-! ### data and ints -/
theorem flat_ints (ns : List Int) : (ns.map V.int).all flatV = true := by
  rw [List.all_map, List.all_eq_true]
  intro _ _
  rfl
theorem inV_int (k : Int) (ns : List Int) : inV (.int k) (ns.map V.int) = decide (k ∈ ns) := by
  unfold inV
  rw [List.any_map]
  induction ns with
  | nil => rfl
  | cons a r ih =>
    rw [List.any_cons, ih]
    show (a == k || decide (k ∈ r)) = _
    by_cases e : a = k
    · subst e; simp
    · have e' : ¬ k = a := fun z => e z.symm
      simp [e, e']
end TL

namespace L2
open PySem PySem.Spec PyProof.Rows
mutual
theorem Dp.same {K : PySem.W.Frag} {H H' : Hp} (e : Same H H') : ∀ {x : V} {d : PyData}, Dp K H x d → Dp K H' x d
  | _, _, .non => .non
  | _, _, .bl b => .bl b
  | _, _, .int i => .int i
  | _, _, .str z => .str z
  | _, _, .lst h a => .lst (e.seq h) (DpAll.same e a)
  | _, _, .tup h a => .tup (by
      rcases h with (h | ⟨o, h⟩) | h
      · exact .inl (.inl (e _ _ h))
      · exact .inl (.inr ⟨o, e _ _ h⟩)
      · exact .inr h) (DpAll.same e a)
theorem DpAll.same {K : PySem.W.Frag} {H H' : Hp} (e : Same H H') : ∀ {xs : List V} {ds : List PyData}, DpAll K H xs ds → DpAll K H' xs ds
  | _, _, .nil => .nil
  | _, _, .cons h t => .cons (Dp.same e h) (DpAll.same e t)
end
theorem SqT_same {K : PySem.W.Frag} {H H' : Hp} {a : Addr} {xs : List V} (e : Same H H') (h : SqT K H a xs) : SqT K H' a xs := by
  rcases h with (h | ⟨o, h⟩) | h
  · exact .inl (.inl (e _ _ h))
  · exact .inl (.inr ⟨o, e _ _ h⟩)
  · exact .inr h
theorem DpAll.length {K : PySem.W.Frag} {H : Hp} : ∀ {xs : List V} {ds : List PyData}, DpAll K H xs ds → xs.length = ds.length
  | _, _, .nil => rfl
  | _, _, .cons _ t => by rw [List.length_cons, List.length_cons, DpAll.length t]
theorem DpAll.get {K : PySem.W.Frag} {H : Hp} : ∀ {xs : List V} {ds : List PyData} {i : Nat} {d : PyData}, DpAll K H xs ds → ds[i]? = some d → ∃ x, xs[i]? = some x ∧ Dp K H x d
  | _, _, i, d, .nil, e => by simp at e
  | _, _, 0, d, .cons h t, e => by simp at e; subst e; exact ⟨_, rfl, h⟩
  | _, _, i + 1, d, .cons h t, e => by
    obtain ⟨x, h1, h2⟩ := DpAll.get (i := i) (d := d) t (by simpa using e)
    exact ⟨x, by simpa using h1, h2⟩
theorem dp_ints {K : PySem.W.Frag} {H : Hp} : ∀ ns : List Int, DpAll K H (ns.map V.int) (ns.map PyData.int)
  | [] => .nil
  | n :: r => .cons (.int n) (dp_ints r)
theorem DpAll.append {K : PySem.W.Frag} {H : Hp} : ∀ {xs ys : List V} {ds es : List PyData}, DpAll K H xs ds → DpAll K H ys es → DpAll K H (xs ++ ys) (ds ++ es)
  | _, _, _, _, .nil, b => b
  | _, _, _, _, .cons h t, b => .cons h (DpAll.append t b)
theorem DpAll.get' {K : PySem.W.Frag} {H : Hp} : ∀ {xs : List V} {ds : List PyData} {i : Nat} {x : V}, DpAll K H xs ds → xs[i]? = some x → ∃ d, ds[i]? = some d ∧ Dp K H x d
  | _, _, i, d, .nil, e => by simp at e
  | _, _, 0, d, .cons h t, e => by simp at e; subst e; exact ⟨_, rfl, h⟩
  | _, _, i + 1, d, .cons h t, e => by
    obtain ⟨x, h1, h2⟩ := DpAll.get' (i := i) (x := d) t (by simpa using e)
    exact ⟨x, by simpa using h1, h2⟩
theorem DpAll.ints_inv {K : PySem.W.Frag} {H : Hp} : ∀ {xs : List V} {ns : List Int}, DpAll K H xs (ns.map .int) → xs = ns.map V.int
  | _, [], .nil => rfl
  | _, n :: r, .cons h t => by
    cases h
    rw [List.map_cons, DpAll.ints_inv t]
end L2
namespace TL
open PySem PySem.Spec PyProof.Rows L2
/-! ### isinstance, by the kinds -/
theorem kb_ii : kitB "int" "int" = some true := by decide +kernel
theorem kb_ib : kitB "int" "bool" = some false := by decide +kernel
theorem kb_is : kitB "int" "str" = some false := by decide +kernel
theorem kb_it : kitB "int" "tuple" = some false := by decide +kernel
theorem kb_il : kitB "int" "list" = some false := by decide +kernel
theorem kb_bi : kitB "bool" "int" = some true := by decide +kernel
theorem kb_bb : kitB "bool" "bool" = some true := by decide +kernel
theorem kb_bt : kitB "bool" "tuple" = some false := by decide +kernel
theorem kb_bs : kitB "bool" "str" = some false := by decide +kernel
theorem kb_si : kitB "str" "int" = some false := by decide +kernel
theorem kb_sb : kitB "str" "bool" = some false := by decide +kernel
theorem kb_ss : kitB "str" "str" = some true := by decide +kernel
theorem kb_st : kitB "str" "tuple" = some false := by decide +kernel
theorem kb_ni : kitB "NoneType" "int" = some false := by decide +kernel
theorem kb_nb : kitB "NoneType" "bool" = some false := by decide +kernel
theorem kb_nt : kitB "NoneType" "tuple" = some false := by decide +kernel
theorem kb_ns : kitB "NoneType" "str" = some false := by decide +kernel
theorem kb_ti : kitB "tuple" "int" = some false := by decide +kernel
theorem kb_tb : kitB "tuple" "bool" = some false := by decide +kernel
theorem kb_ts : kitB "tuple" "str" = some false := by decide +kernel
theorem kb_tt : kitB "tuple" "tuple" = some true := by decide +kernel
theorem kb_tl : kitB "tuple" "list" = some false := by decide +kernel
theorem kb_li : kitB "list" "int" = some false := by decide +kernel
theorem kb_lb : kitB "list" "bool" = some false := by decide +kernel
theorem kb_ls : kitB "list" "str" = some false := by decide +kernel
theorem kb_lt : kitB "list" "tuple" = some false := by decide +kernel
theorem kb_ll : kitB "list" "list" = some true := by decide +kernel
theorem tyx_L {K : PySem.W.Frag} {H : Hp} {a : Addr} {xs : List V} (h : SqL K H a xs) : TyX K H (.ref a) (.type "list") := by
  rcases h with (h | ⟨o, h⟩) | ⟨o, its, n, hk, hc, _⟩
  · exact .base (.lst h)
  · exact .base (.frz h)
  · exact .kList hk hc
theorem tyx_T {K : PySem.W.Frag} {H : Hp} {a : Addr} {xs : List V} (h : SqT K H a xs) : TyX K H (.ref a) (.type "tuple") := by
  rcases h with (h | ⟨o, h⟩) | ⟨o, its, n, hk, hc, _⟩
  · exact .base (.tup h)
  · exact .fTuple h
  · exact .kTuple hk hc
/-- what is, by its kind: the type that isinstance asks -/
def kty : PyData → String
  | .none => "NoneType" | .bool _ => "bool" | .int _ => "int" | .str _ => "str" | .list _ => "list" | .tuple _ => "tuple" | .dict _ => "dict"
theorem tyx_D {K : PySem.W.Frag} {H : Hp} {x : V} {d : PyData} (h : Dp K H x d) : TyX K H x (.type (kty d)) := by
  cases h with
  | non => exact .base .non
  | bl b => exact .base (.bl b)
  | int i => exact .base (.int i)
  | str z => exact .base (.str z)
  | lst h _ => exact tyx_L h
  | tup h _ => exact tyx_T h
/-- isinstance(x, c) of data -/
theorem isi_D {K : PySem.W.Frag} {H : Hp} {x : V} {d : PyData} {c : String} {b : Bool} {Q : VK} (h : Dp K H x d) (k : kitB (kty d) c = some b) (q : Q (.bl b) H) : rIsi K [x, .ty c] H Q :=
  ⟨x, .ty c, _, _, b, rfl, .ty c, tyx_D h, kit_ty k, q⟩
/-- numbers, texts, truths, None, lists and tuples of these, nested no more than n deep -/
def lv : Nat → PyData → Prop
  | _, .none => True | _, .bool _ => True | _, .int _ => True | _, .str x => (PyData.str x).canLay0 = true
  | n + 1, .list ds => ds.length ≤ 100000 ∧ ∀ d ∈ ds, lv n d
  | n + 1, .tuple ds => ds.length ≤ 100000 ∧ ∀ d ∈ ds, lv n d
  | _, _ => False
/-- such data are laid out and compared -/
theorem lv_ok : ∀ (n : Nat) (d : PyData), lv n d → d.canLay0 = true ∧ d.depth ≤ n
  | _, .none, _ => ⟨rfl, by simp [PyData.depth]⟩
  | _, .bool _, _ => ⟨rfl, by simp [PyData.depth]⟩
  | _, .int _, _ => ⟨rfl, by simp [PyData.depth]⟩
  | _, .str _, h => ⟨by simpa [lv] using h, by simp [PyData.depth]⟩
  | 0, .list _, h => by simp [lv] at h
  | 0, .tuple _, h => by simp [lv] at h
  | n + 1, .list ds, h => by
    simp only [lv] at h
    have q : ∀ es : List PyData, (∀ d ∈ es, lv n d) → PyData.canLayAll0 es = true ∧ PyData.depthAll es ≤ n := by
      intro es
      induction es with
      | nil => intro _; exact ⟨rfl, by simp [PyData.depthAll]⟩
      | cons e r ih =>
        intro z
        obtain ⟨a1, a2⟩ := lv_ok n e (z e (by simp))
        obtain ⟨b1, b2⟩ := ih fun d hd => z d (by simp [hd])
        exact ⟨by simp [PyData.canLayAll0, a1, b1], by simp only [PyData.depthAll]; omega⟩
    obtain ⟨q1, q2⟩ := q ds h.2
    exact ⟨by simpa [PyData.canLay0] using q1, by simp only [PyData.depth]; omega⟩
  | n + 1, .tuple ds, h => by
    simp only [lv] at h
    have q : ∀ es : List PyData, (∀ d ∈ es, lv n d) → PyData.canLayAll0 es = true ∧ PyData.depthAll es ≤ n := by
      intro es
      induction es with
      | nil => intro _; exact ⟨rfl, by simp [PyData.depthAll]⟩
      | cons e r ih =>
        intro z
        obtain ⟨a1, a2⟩ := lv_ok n e (z e (by simp))
        obtain ⟨b1, b2⟩ := ih fun d hd => z d (by simp [hd])
        exact ⟨by simp [PyData.canLayAll0, a1, b1], by simp only [PyData.depthAll]; omega⟩
    obtain ⟨q1, q2⟩ := q ds h.2
    exact ⟨by simpa [PyData.canLay0] using q1, by simp only [PyData.depth]; omega⟩
  | 0, .dict _, h => by simp [lv] at h
  | _ + 1, .dict _, h => by simp [lv] at h
theorem shaped_lv {n : Nat} {d : PyData} (h : lv n d) (hn : n ≤ 64) : SeqAt.shaped d = true := by
  obtain ⟨a, b⟩ := lv_ok n d h
  unfold SeqAt.shaped
  rw [a, decide_eq_true (Nat.le_trans b hn)]
  rfl
theorem eqvAll_ints : ∀ ns ms : List Int, PyData.eqvAll (ns.map .int) (ms.map .int) = decide (ns = ms)
  | [], [] => rfl
  | [], _ :: _ => rfl
  | _ :: _, [] => rfl
  | a :: r, b :: s => by
    rw [List.map_cons, List.map_cons]
    show (PyData.eqv (.int a) (.int b) && PyData.eqvAll _ _) = _
    rw [eqvAll_ints r s]
    show ((a == b) && decide (r = s)) = _
    by_cases h : a = b
    · subst h; simp
    · simp [h]
theorem canLay_ints (ns : List Int) : (PyData.list (ns.map .int)).canLay0 = true := by
  induction ns with
  | nil => rfl
  | cons a r ih => exact ih
theorem depth_ints (ns : List Int) : (PyData.list (ns.map .int)).depth ≤ 2 := by
  induction ns with
  | nil => decide
  | cons a r ih =>
    revert ih
    simp only [PyData.depth, PyData.depthAll, List.map_cons]
    omega
theorem shaped_ints (ns : List Int) : SeqAt.shaped (.list (ns.map .int)) = true := by
  unfold SeqAt.shaped
  rw [canLay_ints, decide_eq_true (Nat.le_trans (depth_ints ns) (by decide))]
  rfl
/-! ### what can't be changed: numbers, texts, truths, None, tuples of these -/
mutual
inductive Im (H : Hp) : V → PyData → Prop
  | non : Im H .non .none
  | bl (b : Bool) : Im H (.bl b) (.bool b)
  | int (i : Int) : Im H (.int i) (.int i)
  | str (x : Str) : Im H (.str x) (.str x)
  | tup {a : Addr} {xs : List V} {ds : List PyData} : H a = some (.tup xs) → ImAll H xs ds → Im H (.ref a) (.tuple ds)
inductive ImAll (H : Hp) : List V → List PyData → Prop
  | nil : ImAll H [] []
  | cons {v : V} {vs : List V} {d : PyData} {ds : List PyData} : Im H v d → ImAll H vs ds → ImAll H (v :: vs) (d :: ds)
end
mutual
theorem Im.dp {K : PySem.W.Frag} {H : Hp} : ∀ {x : V} {d : PyData}, Im H x d → Dp K H x d
  | _, _, .non => .non
  | _, _, .bl b => .bl b
  | _, _, .int i => .int i
  | _, _, .str z => .str z
  | _, _, .tup h a => .tup (SqT.of h) (ImAll.dp a)
theorem ImAll.dp {K : PySem.W.Frag} {H : Hp} : ∀ {xs : List V} {ds : List PyData}, ImAll H xs ds → DpAll K H xs ds
  | _, _, .nil => .nil
  | _, _, .cons h t => .cons (Im.dp h) (ImAll.dp t)
end
mutual
theorem Im.frm {S : List Addr} {H H' : Hp} (e : Frm S H H') : ∀ {x : V} {d : PyData}, Im H x d → Im H' x d
  | _, _, .non => .non
  | _, _, .bl b => .bl b
  | _, _, .int i => .int i
  | _, _, .str z => .str z
  | _, _, .tup h a => .tup (e.tups _ _ h) (ImAll.frm e a)
theorem ImAll.frm {S : List Addr} {H H' : Hp} (e : Frm S H H') : ∀ {xs : List V} {ds : List PyData}, ImAll H xs ds → ImAll H' xs ds
  | _, _, .nil => .nil
  | _, _, .cons h t => .cons (Im.frm e h) (ImAll.frm e t)
end
theorem ImAll.same {H H' : Hp} {xs : List V} {ds : List PyData} (h : ImAll H xs ds) (e : Same H H') : ImAll H' xs ds := h.frm (S := []) (.of_same e)
theorem Im.same {H H' : Hp} {x : V} {d : PyData} (h : Im H x d) (e : Same H H') : Im H' x d := h.frm (S := []) (.of_same e)
theorem ImAll.new {H : Hp} {xs : List V} {ds : List PyData} {p : Addr} {o : HO} (h : ImAll H xs ds) (n : H p = none) : ImAll (upd H p o) xs ds := h.same (Same.upd_new n)
theorem Im.new {H : Hp} {x : V} {d : PyData} {p : Addr} {o : HO} (h : Im H x d) (n : H p = none) : Im (upd H p o) x d := h.same (Same.upd_new n)
theorem ImAll.updL {H : Hp} {xs : List V} {ds : List PyData} {p : Addr} {o : HO} {ys : List V} (h : ImAll H xs ds) (n : H p = some (.lst ys)) : ImAll (upd H p o) xs ds := h.frm (Frm.updL n)
theorem ImAll.length {H : Hp} : ∀ {xs : List V} {ds : List PyData}, ImAll H xs ds → xs.length = ds.length
  | _, _, .nil => rfl
  | _, _, .cons _ t => by rw [List.length_cons, List.length_cons, ImAll.length t]
theorem ImAll.append {H : Hp} : ∀ {xs ys : List V} {ds es : List PyData}, ImAll H xs ds → ImAll H ys es → ImAll H (xs ++ ys) (ds ++ es)
  | _, _, _, _, .nil, b => b
  | _, _, _, _, .cons h t, b => .cons h (ImAll.append t b)
theorem ImAll.get {H : Hp} : ∀ {xs : List V} {ds : List PyData} {i : Nat} {d : PyData}, ImAll H xs ds → ds[i]? = some d → ∃ x, xs[i]? = some x ∧ Im H x d
  | _, _, i, d, .nil, e => by simp at e
  | _, _, 0, d, .cons h t, e => by simp at e; subst e; exact ⟨_, rfl, h⟩
  | _, _, i + 1, d, .cons h t, e => by
    obtain ⟨x, h1, h2⟩ := ImAll.get (i := i) (d := d) t (by simpa using e)
    exact ⟨x, by simpa using h1, h2⟩
theorem ImAll.get' {H : Hp} : ∀ {xs : List V} {ds : List PyData} {i : Nat} {x : V}, ImAll H xs ds → xs[i]? = some x → ∃ d, ds[i]? = some d ∧ Im H x d
  | _, _, i, d, .nil, e => by simp at e
  | _, _, 0, d, .cons h t, e => by simp at e; subst e; exact ⟨_, rfl, h⟩
  | _, _, i + 1, d, .cons h t, e => by
    obtain ⟨x, h1, h2⟩ := ImAll.get' (i := i) (x := d) t (by simpa using e)
    exact ⟨x, by simpa using h1, h2⟩
theorem ImAll.take {H : Hp} : ∀ {xs : List V} {ds : List PyData} (n : Nat), ImAll H xs ds → ImAll H (xs.take n) (ds.take n)
  | _, _, 0, _ => .nil
  | _, _, n + 1, .nil => .nil
  | _, _, n + 1, .cons h t => .cons h (ImAll.take n t)
theorem ImAll.drop {H : Hp} : ∀ {xs : List V} {ds : List PyData} (n : Nat), ImAll H xs ds → ImAll H (xs.drop n) (ds.drop n)
  | _, _, 0, h => h
  | _, _, n + 1, .nil => .nil
  | _, _, n + 1, .cons h t => ImAll.drop n t
theorem ImAll.set {H : Hp} {x : V} {d : PyData} (h : Im H x d) : ∀ {xs : List V} {ds : List PyData} (n : Nat), ImAll H xs ds → ImAll H (xs.set n x) (ds.set n d)
  | _, _, _, .nil => .nil
  | _, _, 0, .cons _ t => .cons h t
  | _, _, n + 1, .cons g t => .cons g (ImAll.set h n t)
theorem ImAll.rep {H : Hp} {xs : List V} {ds : List PyData} (h : ImAll H xs ds) : ∀ n : Nat, ImAll H (List.replicate n xs).flatten (List.replicate n ds).flatten
  | 0 => .nil
  | n + 1 => by
    rw [List.replicate_succ, List.replicate_succ, List.flatten_cons, List.flatten_cons]
    exact h.append (ImAll.rep h n)
theorem im_ints {H : Hp} : ∀ ns : List Int, ImAll H (ns.map V.int) (ns.map PyData.int)
  | [] => .nil
  | n :: r => .cons (.int n) (im_ints r)
mutual
theorem eqv_refl : ∀ {n : Nat} {d : PyData}, lv n d → PyData.eqv d d = true
  | _, .none, _ => rfl
  | _, .bool b, _ => by simp [PyData.eqv]
  | _, .int i, _ => by simp [PyData.eqv]
  | _, .str z, _ => by simp [PyData.eqv]
  | 0, .list _, h => by simp [lv] at h
  | 0, .tuple _, h => by simp [lv] at h
  | n + 1, .list ds, h => by
    simp only [lv] at h
    simp only [PyData.eqv]
    exact eqvAll_refl h.2
  | n + 1, .tuple ds, h => by
    simp only [lv] at h
    simp only [PyData.eqv]
    exact eqvAll_refl h.2
  | 0, .dict _, h => by simp [lv] at h
  | _ + 1, .dict _, h => by simp [lv] at h
theorem eqvAll_refl : ∀ {n : Nat} {ds : List PyData}, (∀ d ∈ ds, lv n d) → PyData.eqvAll ds ds = true
  | _, [], _ => rfl
  | n, d :: r, h => by
    simp only [PyData.eqvAll, Bool.and_eq_true]
    exact ⟨eqv_refl (h d (by simp)), eqvAll_refl (n := n) fun x hx => h x (by simp [hx])⟩
end
theorem lv_mono : ∀ {n : Nat} {d : PyData}, lv n d → lv (n + 1) d
  | _, .none, _ => by simp [lv]
  | _, .bool b, _ => by simp [lv]
  | _, .int i, _ => by simp [lv]
  | _, .str z, h => by simpa [lv] using h
  | 0, .list _, h => by simp [lv] at h
  | 0, .tuple _, h => by simp [lv] at h
  | n + 1, .list ds, h => by
    simp only [lv] at h ⊢
    exact ⟨h.1, fun d hd => lv_mono (h.2 d hd)⟩
  | n + 1, .tuple ds, h => by
    simp only [lv] at h ⊢
    exact ⟨h.1, fun d hd => lv_mono (h.2 d hd)⟩
  | 0, .dict _, h => by simp [lv] at h
  | _ + 1, .dict _, h => by simp [lv] at h
end TL

namespace TL
open PySem PySem.Spec PyProof.Rows L2
/-- the dice: a list of whole numbers, two at least -/
def DiceAt (H : Hp) (d : Addr) : Prop := ∃ ns : List Int, H d = some (.lst (ns.map V.int)) ∧ 2 ≤ ns.length ∧ ns.length ≤ 65
theorem DiceAt.frm {S : List Addr} {H H' : Hp} {d : Addr} (h : DiceAt H d) (e : Frm S H H') (n : d ∉ S) : DiceAt H' d := by
  obtain ⟨ns, h1, h2⟩ := h
  exact ⟨ns, e _ _ h1 n, h2⟩
theorem DiceAt.upd_ne {H : Hp} {d l : Addr} {o : HO} (h : DiceAt H d) (n : d ≠ l) : DiceAt (upd H l o) d := by
  obtain ⟨ns, h1, h2⟩ := h
  exact ⟨ns, by rw [L2.upd_ne n]; exact h1, h2⟩
theorem DiceAt.same {H H' : Hp} {d : Addr} (h : DiceAt H d) (e : Same H H') : DiceAt H' d := by
  obtain ⟨ns, h1, h2⟩ := h
  exact ⟨ns, e _ _ h1, h2⟩
theorem DiceAt.new {H : Hp} {d l : Addr} {o : HO} (h : DiceAt H d) (n : H l = none) : DiceAt (upd H l o) d := h.same (Same.upd_new n)
theorem DiceAt.ne_new {H : Hp} {d l : Addr} (h : DiceAt H d) (n : H l = none) : l ≠ d := by
  obtain ⟨ns, h1, h2⟩ := h
  exact fun e => by rw [e, h1] at n; cases n
theorem DiceAt.ne_tup {H : Hp} {d t : Addr} {xs : List V} (h : DiceAt H d) (e : H t = some (.tup xs)) : t ≠ d := by
  obtain ⟨ns, h1, h2⟩ := h
  exact ne_of e h1 (by intro q; cases q)
/-! ### manners -/
def intOf : PyData → Int
  | .int i => i
  | _ => 0
/-- a number within bounds -/
def between : PyData → Int → Int → Bool
  | .int i, lo, hi => decide (lo ≤ i) && decide (i ≤ hi)
  | _, _, _ => false
def isMan : PyData → Bool
  | .tuple ds => ds.all (fun e => between e 0 9) && (decide ((ds.map intOf).Pairwise (· < ·)) && decide (0 ∈ ds.map intOf))
  | _ => false
/-- what may be handed in in the place of manners -/
def mdat : PyData → Prop
  | .list _ => False
  | .dict _ => False
  | .str x => (PyData.str x).canLay0 = true
  | .tuple ds => ds.length ≤ 60 ∧ ∀ e ∈ ds, (∀ l, e ≠ .list l) ∧ lv 1 e
  | _ => True
theorem mdat.nolist {d : PyData} (h : mdat d) : ∀ ds, d ≠ .list ds := fun ds e => by subst e; exact h
theorem ints_of_between : ∀ {ds : List PyData}, ds.all (fun e => between e 0 9) = true → ds = (ds.map intOf).map .int
  | [], _ => rfl
  | d :: r, h => by
    rw [List.all_cons, Bool.and_eq_true] at h
    rw [List.map_cons, List.map_cons, ← ints_of_between h.2]
    cases d with
    | int i => rfl
    | _ => exact absurd h.1 (by simp [between])
theorem between_of {ds : List PyData} (h : ds.all (fun e => between e 0 9) = true) : ∀ i ∈ ds.map intOf, 0 ≤ i ∧ i ≤ 9 := fun i hi => by
  obtain ⟨d, hd, rfl⟩ := List.mem_map.mp hi
  have q := List.all_eq_true.mp h d hd
  cases d with
  | int j => simpa [between, intOf] using q
  | _ => exact absurd q (by simp [between])
/-- manners as numbers -/
def Can (ms : List Int) : Prop := (∀ i ∈ ms, 0 ≤ i ∧ i ≤ 9) ∧ ms.Pairwise (· < ·) ∧ 0 ∈ ms ∧ ms.length ≤ 60
theorem isMan_ints {ms : List Int} (h : Can ms) : isMan (.tuple (ms.map .int)) = true := by
  have e : (ms.map PyData.int).map intOf = ms := by
    rw [List.map_map]
    have : (intOf ∘ PyData.int) = id := rfl
    rw [this, List.map_id]
  simp only [isMan]
  rw [e, decide_eq_true h.2.1, decide_eq_true h.2.2.1]
  simp only [Bool.and_true, List.all_map, List.all_eq_true]
  intro i hi
  have := h.1 i hi
  simp [between, this]
theorem mdat_ints {ms : List Int} (h : ms.length ≤ 60) : mdat (.tuple (ms.map .int)) := by
  refine ⟨by rw [List.length_map]; exact h, fun e he => ?_⟩
  obtain ⟨i, _, rfl⟩ := List.mem_map.mp he
  exact ⟨fun l z => PyData.noConfusion z, trivial⟩
theorem sorted_ext : ∀ {a b : List Int}, a.Pairwise (· < ·) → b.Pairwise (· < ·) → (∀ k, k ∈ a ↔ k ∈ b) → a = b
  | [], [], _, _, _ => rfl
  | [], y :: s, _, _, h => absurd ((h y).mpr (by simp)) (by simp)
  | x :: r, [], _, _, h => absurd ((h x).mp (by simp)) (by simp)
  | x :: r, y :: s, ha, hb, h => by
    rw [List.pairwise_cons] at ha hb
    have hxy : x = y := by
      rcases List.mem_cons.mp ((h x).mp (by simp)) with e | e
      · exact e
      · rcases List.mem_cons.mp ((h y).mpr (by simp)) with e' | e'
        · exact e'.symm
        · have := ha.1 y e'
          have := hb.1 x e
          omega
    subst hxy
    rw [sorted_ext ha.2 hb.2 fun k => ?_]
    constructor
    · intro hk
      rcases List.mem_cons.mp ((h k).mp (by simp [hk])) with e | e
      · have := ha.1 k hk
        omega
      · exact e
    · intro hk
      rcases List.mem_cons.mp ((h k).mpr (by simp [hk])) with e | e
      · have := hb.1 k hk
        omega
      · exact e
/-- the greatest that both can and that isn't bad -/
def chosenF (one other bad : List Int) : Int := (one.filter fun m => decide (m ∈ other) && !decide (m ∈ bad)).foldl max 0
def IsChosen (one other bad : List Int) (m : Int) : Prop := (m = 0 ∨ (m ∈ one ∧ m ∈ other ∧ m ∉ bad)) ∧ 0 ≤ m ∧ ∀ y ∈ one, y ∈ other → y ∉ bad → y ≤ m
theorem foldl_max : ∀ (l : List Int) (a : Int), a ≤ l.foldl max a ∧ (∀ y ∈ l, y ≤ l.foldl max a) ∧ (l.foldl max a = a ∨ l.foldl max a ∈ l)
  | [], a => ⟨Int.le_refl _, by simp, .inl rfl⟩
  | x :: r, a => by
    obtain ⟨h1, h2, h3⟩ := foldl_max r (max a x)
    rw [List.foldl_cons]
    refine ⟨by omega, fun y hy => ?_, ?_⟩
    · rcases List.mem_cons.mp hy with rfl | hy
      · omega
      · exact h2 y hy
    · rcases h3 with h3 | h3
      · rw [h3]
        by_cases hax : a ≤ x
        · right
          rw [Int.max_eq_right hax]
          simp
        · left
          exact Int.max_eq_left (by omega)
      · right
        exact List.mem_cons_of_mem _ h3
theorem isChosen_F (one other bad : List Int) : IsChosen one other bad (chosenF one other bad) := by
  obtain ⟨h1, h2, h3⟩ := foldl_max (one.filter fun m => decide (m ∈ other) && !decide (m ∈ bad)) 0
  refine ⟨?_, h1, fun y h4 h5 h6 => h2 y ?_⟩
  · rcases h3 with h3 | h3
    · exact .inl h3
    · right
      have := List.mem_filter.mp h3
      simp only [Bool.and_eq_true, decide_eq_true_eq, Bool.not_eq_true', decide_eq_false_iff_not] at this
      exact this
  · rw [List.mem_filter]
    simp [h4, h5, h6]
theorem IsChosen.unique {one other bad : List Int} {m k : Int} (a : IsChosen one other bad m) (b : IsChosen one other bad k) : m = k := by
  have h1 : m ≤ k := by
    rcases a.1 with e | ⟨e1, e2, e3⟩
    · rw [e]; exact b.2.1
    · exact b.2.2 m e1 e2 e3
  have h2 : k ≤ m := by
    rcases b.1 with e | ⟨e1, e2, e3⟩
    · rw [e]; exact a.2.1
    · exact a.2.2 k e1 e2 e3
  omega
theorem IsChosen.eq {one other bad : List Int} {m : Int} (a : IsChosen one other bad m) : m = chosenF one other bad := a.unique (isChosen_F _ _ _)
theorem IsChosen.symm {one other bad : List Int} {m : Int} (a : IsChosen one other bad m) : IsChosen other one bad m :=
  ⟨a.1.imp id fun h => ⟨h.2.1, h.1, h.2.2⟩, a.2.1, fun y h1 h2 h3 => a.2.2 y h2 h1 h3⟩
theorem IsChosen.congr {one other bad bad' : List Int} {m : Int} (a : IsChosen one other bad m) (h : ∀ x, x ∈ bad ↔ x ∈ bad') : IsChosen one other bad' m :=
  ⟨a.1.imp id fun z => ⟨z.1, z.2.1, fun q => z.2.2 ((h _).mpr q)⟩, a.2.1, fun y h1 h2 h3 => a.2.2 y h1 h2 fun q => h3 ((h _).mp q)⟩
end TL

namespace TL
open PySem PySem.Spec PyProof.Rows L2
/-! ### rows of a log -/
abbrev Row := Int × Bool × Int × Bool
def rowV (r : Row) : List V := [.int r.1, .bl r.2.1, .int r.2.2.1, .bl r.2.2.2]
def rowD (r : Row) : PyData := .tuple [.int r.1, .bool r.2.1, .int r.2.2.1, .bool r.2.2.2]
def okRow (r : Row) : Prop := (0 ≤ r.1 ∧ r.1 ≤ 9) ∧ 0 ≤ r.2.2.1 ∧ r.2.2.1 ≤ 9
theorem im_row {H : Hp} {t : Addr} {r : Row} (h : H t = some (.tup (rowV r))) : Im H (.ref t) (rowD r) :=
  .tup h (.cons (.int _) (.cons (.bl _) (.cons (.int _) (.cons (.bl _) .nil))))
theorem im_row_inv {H : Hp} {x : V} {r : Row} (h : Im H x (rowD r)) : ∃ t, x = .ref t ∧ H t = some (.tup (rowV r)) := by
  obtain ⟨a, b, c, d⟩ := r
  generalize e : rowD (a, b, c, d) = dd at h
  cases h with
  | tup ht ha =>
    rename_i t xs ds
    injection e with e
    subst e
    cases ha with
    | cons h1 ha => cases h1; cases ha with
      | cons h1 ha => cases h1; cases ha with
        | cons h1 ha => cases h1; cases ha with
          | cons h1 ha => cases h1; cases ha; exact ⟨t, rfl, ht⟩
  | _ => exact PyData.noConfusion e
theorem rows_get {H : Hp} {xs : List V} {rs : List Row} {i : Nat} {r : Row} (h : ImAll H xs (rs.map rowD)) (e : rs[i]? = some r) : ∃ t, xs[i]? = some (.ref t) ∧ H t = some (.tup (rowV r)) := by
  obtain ⟨x, h1, h2⟩ := h.get (i := i) (d := rowD r) (by rw [List.getElem?_map, e]; rfl)
  obtain ⟨t, rfl, h3⟩ := im_row_inv h2
  exact ⟨t, h1, h3⟩
theorem rows_get' {H : Hp} {xs : List V} {rs : List Row} {i : Nat} {x : V} (h : ImAll H xs (rs.map rowD)) (e : xs[i]? = some x) : ∃ t r, rs[i]? = some r ∧ x = .ref t ∧ H t = some (.tup (rowV r)) := by
  obtain ⟨d, h1, h2⟩ := h.get' e
  rw [List.getElem?_map] at h1
  cases q : rs[i]? with
  | none => rw [q] at h1; cases h1
  | some r =>
    rw [q] at h1
    have h1' : rowD r = d := Option.some.inj h1
    subst h1'
    obtain ⟨t, h3, h4⟩ := im_row_inv h2
    exact ⟨t, r, rfl, h3, h4⟩
theorem rows_len {H : Hp} {xs : List V} {rs : List Row} (h : ImAll H xs (rs.map rowD)) : xs.length = rs.length := by
  rw [h.length, List.length_map]
theorem lv_row (r : Row) : lv 1 (rowD r) := by
  refine ⟨by show 4 ≤ 100000; decide, fun d hd => ?_⟩
  simp at hd
  rcases hd with rfl | rfl | rfl | rfl <;> exact trivial
theorem lv_rows {rs : List Row} (h : rs.length ≤ 100000) : lv 2 (.list (rs.map rowD)) := by
  refine ⟨by rw [List.length_map]; exact h, fun d hd => ?_⟩
  obtain ⟨r, _, rfl⟩ := List.mem_map.mp hd
  exact lv_row r
theorem eqv_rows_nil (rs : List Row) : PyData.eqv (.list (rs.map rowD)) (.list []) = decide (rs = []) := by
  cases rs with
  | nil => rfl
  | cons a r => rfl
/-! ### what is a row -/
def isB : PyData → Bool
  | .bool _ => true
  | _ => false
def isRowD : PyData → Bool
  | .tuple [a, b, c, d] => between a 0 9 && (between c 0 9 && (isB b && isB d))
  | _ => false
theorem isRow_row {r : Row} (h : okRow r) : isRowD (rowD r) = true := by
  obtain ⟨⟨h1, h2⟩, h3, h4⟩ := h
  simp [isRowD, rowD, between, isB, h1, h2, h3, h4]
/-- what may be handed in as a row -/
def rdat : PyData → Prop
  | .list _ => False
  | .dict _ => False
  | .tuple ds => ∀ e ∈ ds, ∀ l, e ≠ .list l
  | _ => True
theorem rdat_row (r : Row) : rdat (rowD r) := by
  intro e he l
  simp at he
  rcases he with rfl | rfl | rfl | rfl <;> exact fun z => PyData.noConfusion z
theorem rdat.nolist {d : PyData} (h : rdat d) : ∀ ds, d ≠ .list ds := fun ds e => by subst e; exact h
/-! ### stretches -/
/-- the manner by which both were joined -/
def mark (r : Row) : Option Int := if r.2.1 = true ∧ r.2.2.2 = true ∧ r.1 = r.2.2.1 then some r.1 else none
abbrev Str3 := Int × Int × Int
def strV (s : Str3) : List V := [.int s.1, .int s.2.1, .int s.2.2]
def strD (s : Str3) : PyData := .tuple [.int s.1, .int s.2.1, .int s.2.2]
theorem im_str {H : Hp} {t : Addr} {s : Str3} (h : H t = some (.tup (strV s))) : Im H (.ref t) (strD s) := .tup h (.cons (.int _) (.cons (.int _) (.cons (.int _) .nil)))
theorem im_str_inv {H : Hp} {x : V} {s : Str3} (h : Im H x (strD s)) : ∃ t, x = .ref t ∧ H t = some (.tup (strV s)) := by
  obtain ⟨a, b, c⟩ := s
  generalize e : strD (a, b, c) = dd at h
  cases h with
  | tup ht ha =>
    rename_i t xs ds
    injection e with e
    subst e
    cases ha with
    | cons h1 ha => cases h1; cases ha with
      | cons h1 ha => cases h1; cases ha with
        | cons h1 ha => cases h1; cases ha; exact ⟨t, rfl, ht⟩
  | _ => exact PyData.noConfusion e
/-- one row more: the last stretch grows, or a new one begins -/
def stStep (acc : List Str3) (i : Nat) (m : Option Int) : List Str3 :=
  match m with
  | none => acc
  | some m => match acc.getLast? with
    | some (k, s, e) => if k = m ∧ e = (i : Int) then acc.dropLast ++ [(m, s, (i : Int) + 1)] else acc ++ [(m, (i : Int), (i : Int) + 1)]
    | none => acc ++ [(m, (i : Int), (i : Int) + 1)]
/-- the stretches of the first i rows -/
def stTo (ms : List (Option Int)) : Nat → List Str3
  | 0 => []
  | i + 1 => stStep (stTo ms i) i (ms.getD i none)
theorem stTo_len (ms : List (Option Int)) : ∀ i, (stTo ms i).length ≤ i
  | 0 => Nat.le_refl _
  | i + 1 => by
    have ih := stTo_len ms i
    unfold stTo stStep
    cases ms.getD i none with
    | none => exact Nat.le_succ_of_le ih
    | some m =>
      cases h : (stTo ms i).getLast? with
      | none => simp; omega
      | some k =>
        obtain ⟨k, s, e⟩ := k
        simp only
        split
        · simp; omega
        · simp; omega
/-- no stretch ends behind what was gone through -/
theorem stTo_end (ms : List (Option Int)) : ∀ i (x : Str3), (stTo ms i).getLast? = some x → x.2.2 ≤ i
  | 0, x, h => by simp [stTo] at h
  | i + 1, x, h => by
    have ih := stTo_end ms i
    unfold stTo stStep at h
    cases hm : ms.getD i none with
    | none =>
      rw [hm] at h
      have := ih x h
      omega
    | some m =>
      rw [hm] at h
      cases hl : (stTo ms i).getLast? with
      | none =>
        rw [hl] at h
        simp at h
        subst h
        simp
      | some k =>
        obtain ⟨k, s, e⟩ := k
        rw [hl] at h
        simp only at h
        split at h
        · simp at h
          subst h
          simp
        · simp at h
          subst h
          simp
/-- at i a new stretch begins, if one does -/
def Fresh (ms : List (Option Int)) (i : Nat) : Prop := ∀ k s e, (stTo ms i).getLast? = some (k, s, e) → e = (i : Int) → ms.getD i none ≠ some k
theorem stTo_none {ms : List (Option Int)} {i : Nat} (h : ms.getD i none = none) : stTo ms (i + 1) = stTo ms i := by
  show stStep _ _ _ = _
  rw [h]
  rfl
theorem stTo_first {ms : List (Option Int)} {i : Nat} {m : Int} (h : ms.getD i none = some m) (f : Fresh ms i) : stTo ms (i + 1) = stTo ms i ++ [(m, (i : Int), (i : Int) + 1)] := by
  show stStep _ _ _ = _
  rw [h]
  unfold stStep
  cases hl : (stTo ms i).getLast? with
  | none => rfl
  | some k =>
    obtain ⟨k, s, e⟩ := k
    simp only
    rw [if_neg]
    rintro ⟨rfl, h2⟩
    exact f _ _ _ hl h2 h
theorem stTo_more {ms : List (Option Int)} {a j : Nat} {m : Int} (h : ms.getD j none = some m) (e : stTo ms j = stTo ms a ++ [(m, (a : Int), (j : Int))]) : stTo ms (j + 1) = stTo ms a ++ [(m, (a : Int), (j : Int) + 1)] := by
  show stStep _ _ _ = _
  rw [h, e]
  unfold stStep
  simp
def markV : Option Int → V
  | none => .non
  | some m => .int m
theorem lv_strs (l : List Str3) (h : l.length ≤ 100000) : lv 3 (.list (l.map strD)) := by
  refine lv_mono ⟨by rw [List.length_map]; exact h, fun d hd => ?_⟩
  obtain ⟨s, _, rfl⟩ := List.mem_map.mp hd
  refine ⟨by show 3 ≤ 100000; decide, fun d hd => ?_⟩
  simp at hd
  rcases hd with rfl | rfl | rfl <;> exact trivial
end TL

namespace TL
open PySem PySem.Spec PyProof.Rows L2
def top (i : Nat) : Stmt := PySem.Challenge.pw_trainline_k12_stretches.main.body.getD i (.Pass ⟨0, 0, 0, 0⟩)
abbrev s_is_between : Stmt := top 5
abbrev N_is_between : List Str := ["part", "low", "high"]
abbrev P_is_between : List Str := ["part", "low", "high"]
theorem sc_is_between : FnScope N_is_between P_is_between (defScope s_is_between) := ⟨rfl, rfl, rfl, by decide +kernel, rfl, by decide +kernel, by decide +kernel⟩
abbrev s_is_row : Stmt := top 8
abbrev N_is_row : List Str := ["row"]
abbrev P_is_row : List Str := ["row"]
theorem sc_is_row : FnScope N_is_row P_is_row (defScope s_is_row) := ⟨rfl, rfl, rfl, by decide +kernel, rfl, by decide +kernel, by decide +kernel⟩
abbrev s_need_log : Stmt := top 9
abbrev N_need_log : List Str := ["rows", "number", "row"]
abbrev P_need_log : List Str := ["rows"]
theorem sc_need_log : FnScope N_need_log P_need_log (defScope s_need_log) := ⟨rfl, rfl, rfl, by decide +kernel, rfl, by decide +kernel, by decide +kernel⟩
abbrev s_stretches : Stmt := top 10
abbrev N_stretches : List Str := ["rows", "found", "number", "mine", "joined", "yours", "likewise"]
abbrev P_stretches : List Str := ["rows"]
theorem sc_stretches : FnScope N_stretches P_stretches (defScope s_stretches) := ⟨rfl, rfl, rfl, by decide +kernel, rfl, by decide +kernel, by decide +kernel⟩
abbrev s__law_dice : Stmt := top 12
abbrev N__law_dice : List Str := ["_law_script", "_law_k", "_law_found", "_law_cell"]
abbrev P__law_dice : List Str := ["_law_script", "_law_k"]
theorem sc__law_dice : FnScope N__law_dice P__law_dice (defScope s__law_dice) := ⟨rfl, rfl, rfl, by decide +kernel, rfl, by decide +kernel, by decide +kernel⟩
abbrev s__law_off : Stmt := top 13
abbrev N__law_off : List Str := ["_law_d", "_law_most", "_law_found"]
abbrev P__law_off : List Str := ["_law_d", "_law_most"]
theorem sc__law_off : FnScope N__law_off P__law_off (defScope s__law_off) := ⟨rfl, rfl, rfl, by decide +kernel, rfl, by decide +kernel, by decide +kernel⟩
abbrev s__law_alike : Stmt := top 14
abbrev N__law_alike : List Str := ["_law_found", "_law_due", "_law_k"]
abbrev P__law_alike : List Str := ["_law_found", "_law_due"]
theorem sc__law_alike : FnScope N__law_alike P__law_alike (defScope s__law_alike) := ⟨rfl, rfl, rfl, by decide +kernel, rfl, by decide +kernel, by decide +kernel⟩
abbrev s__law_row : Stmt := top 15
abbrev N__law_row : List Str := ["_law_d", "_law_mine", "_law_yours"]
abbrev P__law_row : List Str := ["_law_d"]
theorem sc__law_row : FnScope N__law_row P__law_row (defScope s__law_row) := ⟨rfl, rfl, rfl, by decide +kernel, rfl, by decide +kernel, by decide +kernel⟩
abbrev s__law_log : Stmt := top 16
abbrev N__law_log : List Str := ["_law_d", "_law_found", "_law_turn"]
abbrev P__law_log : List Str := ["_law_d"]
theorem sc__law_log : FnScope N__law_log P__law_log (defScope s__law_log) := ⟨rfl, rfl, rfl, by decide +kernel, rfl, by decide +kernel, by decide +kernel⟩
abbrev s_law : Stmt := top 17
abbrev N_law : List Str := ["_law_script", "_law_d", "_law_turn", "_law_rows", "_law_marks", "_law_mine", "_law_joined", "_law_yours", "_law_likewise", "_law_due", "_law_at", "_law_end", "_law_handed", "_law_again", "_law_found"]
abbrev P_law : List Str := ["_law_script"]
theorem sc_law : FnScope N_law P_law (defScope s_law) := ⟨rfl, rfl, rfl, by decide +kernel, rfl, by decide +kernel, by decide +kernel⟩
/-- what the top has written -/
structure Txt (K : PySem.W.Frag) (mg : Str → Option Value) where
  a_is_between : Addr
  fd_is_between : FuncData
  F_is_between : Fun K "is_between" "is_between" s_is_between a_is_between fd_is_between
  g_is_between : mg "is_between" = some (.ref a_is_between)
  b_is_between : Binds K fd_is_between P_is_between []
  a_is_row : Addr
  fd_is_row : FuncData
  F_is_row : Fun K "is_row" "is_row" s_is_row a_is_row fd_is_row
  g_is_row : mg "is_row" = some (.ref a_is_row)
  b_is_row : Binds K fd_is_row P_is_row []
  a_need_log : Addr
  fd_need_log : FuncData
  F_need_log : Fun K "need_log" "need_log" s_need_log a_need_log fd_need_log
  g_need_log : mg "need_log" = some (.ref a_need_log)
  b_need_log : Binds K fd_need_log P_need_log []
  a_stretches : Addr
  fd_stretches : FuncData
  F_stretches : Fun K "stretches" "stretches" s_stretches a_stretches fd_stretches
  g_stretches : mg "stretches" = some (.ref a_stretches)
  b_stretches : Binds K fd_stretches P_stretches []
  a__law_dice : Addr
  fd__law_dice : FuncData
  F__law_dice : Fun K "_law_dice" "_law_dice" s__law_dice a__law_dice fd__law_dice
  g__law_dice : mg "_law_dice" = some (.ref a__law_dice)
  b__law_dice : Binds K fd__law_dice P__law_dice []
  a__law_off : Addr
  fd__law_off : FuncData
  F__law_off : Fun K "_law_off" "_law_off" s__law_off a__law_off fd__law_off
  g__law_off : mg "_law_off" = some (.ref a__law_off)
  b__law_off : Binds K fd__law_off P__law_off []
  a__law_alike : Addr
  fd__law_alike : FuncData
  F__law_alike : Fun K "_law_alike" "_law_alike" s__law_alike a__law_alike fd__law_alike
  g__law_alike : mg "_law_alike" = some (.ref a__law_alike)
  b__law_alike : Binds K fd__law_alike P__law_alike []
  a__law_row : Addr
  fd__law_row : FuncData
  F__law_row : Fun K "_law_row" "_law_row" s__law_row a__law_row fd__law_row
  g__law_row : mg "_law_row" = some (.ref a__law_row)
  b__law_row : Binds K fd__law_row P__law_row []
  a__law_log : Addr
  fd__law_log : FuncData
  F__law_log : Fun K "_law_log" "_law_log" s__law_log a__law_log fd__law_log
  g__law_log : mg "_law_log" = some (.ref a__law_log)
  b__law_log : Binds K fd__law_log P__law_log []
  a_law : Addr
  fd_law : FuncData
  F_law : Fun K "law" "law" s_law a_law fd_law
  g_law : mg "law" = some (.ref a_law)
  b_law : Binds K fd_law P_law []
  C_LineError : Addr
  c_LineError : mg "LineError" = some (.ref C_LineError)
  x_LineError : PySem.W.excIn K C_LineError [.type "ValueError", .type "Exception", .type "BaseException", .type "object"] "ValueError.__new__" = true
  k_LineError : PySem.W.keepIn K (.ref C_LineError) = true
  s_LineError : PySem.W.subIn K (.ref C_LineError) (.type "BaseException") = some true
  t_LineError : PySem.W.typeIn K (.ref C_LineError) = some (.type "type")
  tk_MOST : Tok
  v_MOST : mg "MOST" = some (.int 9 tk_MOST)
  tk_MOST_ROWS : Tok
  v_MOST_ROWS : mg "MOST_ROWS" = some (.int 300 tk_MOST_ROWS)
  n_abs : mg "abs" = none
  n_all : mg "all" = none
  n_bool : mg "bool" = none
  n_enumerate : mg "enumerate" = none
  n_int : mg "int" = none
  n_isinstance : mg "isinstance" = none
  n_len : mg "len" = none
  n_list : mg "list" = none
  n_range : mg "range" = none
  n_str : mg "str" = none
  n_tuple : mg "tuple" = none
end TL

namespace TL
open PySem PySem.Spec PyProof.Rows L2
section
variable {P : Program} {w : World} {K : PySem.W.Frag} {mg : Str → Option Value} {base : Heap}
def sp_is_between (T : Txt K mg) : Sp := fun vs H Q _ => ∃ (x : V) (d : PyData) (lo hi : Int), vs = [x, .int lo, .int hi] ∧ Dp K H x d ∧ (∀ ds, d ≠ .list ds) ∧ Q (.bl (between d lo hi)) H
theorem ok_is_between (T : Txt K mg) : FnOk P w K mg base CX0 1 T.a_is_between T.fd_is_between P_is_between (sp_is_between T) := by
  skip
  refine T.F_is_between.ok sc_is_between (fun vs H Q E h => ?_) (fun cdv A outer s H vs Q E hr h => ?_)
  · obtain ⟨x, d, lo, hi, rfl, _⟩ := h
    rfl
  · obtain ⟨x, d, lo, hi, rfl, hd, nl, k⟩ := h
    refine ⟨_, (pss_one (ps_ret (pe_and (pe_callB call_isi (by rfl) T.n_isinstance (by decide +kernel) (pa_cons (pv 0) (pa_cons (pe_bltn (v := .ty "int") (u := .type "int") (by rfl) T.n_int (by decide +kernel) rfl) pa_nil))) (pe_and (pe_not (pe_callB call_isi (by rfl) T.n_isinstance (by decide +kernel) (pa_cons (pv 0) (pa_cons (pe_bltn (v := .ty "bool") (u := .type "bool") (by rfl) T.n_bool (by decide +kernel) rfl) pa_nil)))) (pe_one (pe_chain op_le op_le (pv 1) (pv 0) (pv 2))))))), ?_⟩
    have k0 : ∀ {b : Bool}, between d lo hi = b → Q (.bl b) H := fun e => by rw [← e]; exact k
    cases d with
    | int i =>
      cases hd
      refine ⟨_, rfl, _, _, _, _, _, rfl, .ty _, tyx_D (.int i), kit_ty kb_ii, _, rfl, iteT ?_⟩
      refine ⟨_, rfl, _, _, _, _, _, rfl, .ty _, tyx_D (.int i), kit_ty kb_ib, _, rfl, _, rfl, iteT ?_⟩
      refine ⟨_, rfl, _, rfl, _, _, rfl, rfl, _, rfl, ?_⟩
      refine iteD (fun h1 => ⟨_, rfl, _, _, rfl, rfl, k0 ?_⟩) (fun h1 => k0 ?_)
      · simp [between, h1]
      · simp [between, h1]
    | bool b =>
      cases hd
      refine ⟨_, rfl, _, _, _, _, _, rfl, .ty _, tyx_D (.bl b), kit_ty kb_bi, _, rfl, iteT ?_⟩
      refine ⟨_, rfl, _, _, _, _, _, rfl, .ty _, tyx_D (.bl b), kit_ty kb_bb, _, rfl, _, rfl, iteF ?_⟩
      exact k0 rfl
    | none =>
      cases hd
      refine ⟨_, rfl, _, _, _, _, _, rfl, .ty _, tyx_D .non, kit_ty kb_ni, _, rfl, iteF ?_⟩
      exact k0 rfl
    | str z =>
      cases hd
      refine ⟨_, rfl, _, _, _, _, _, rfl, .ty _, tyx_D (.str z), kit_ty kb_si, _, rfl, iteF ?_⟩
      exact k0 rfl
    | tuple ds =>
      refine ⟨_, rfl, _, _, _, _, _, rfl, .ty _, tyx_D hd, kit_ty kb_ti, _, rfl, iteF ?_⟩
      exact k0 rfl
    | list ds => exact (nl ds rfl).elim
    | dict _ => cases hd

end
end TL

namespace TL
open PySem PySem.Spec PyProof.Rows L2
section
variable {P : Program} {w : World} {K : PySem.W.Frag} {mg : Str → Option Value} {base : Heap}
def sp_is_row (T : Txt K mg) : Sp := fun vs H Q _ => ∃ (x : V) (d : PyData), vs = [x] ∧ Dp K H x d ∧ rdat d ∧ Q (.bl (isRowD d)) H
theorem ok_is_row (T : Txt K mg) : FnOk P w K mg base CX0 2 T.a_is_row T.fd_is_row P_is_row (sp_is_row T) := by
  have G_is_between := ok_is_between (P := P) (w := w) (base := base) T
  refine T.F_is_row.ok sc_is_row (fun vs H Q E h => ?_) (fun cdv A outer s H vs Q E hr h => ?_)
  · obtain ⟨x, d, rfl, _⟩ := h
    rfl
  · obtain ⟨x, d, rfl, hd, hm, k⟩ := h
    refine ⟨_, (pss_cons (ps_if (PW.pt (pw_or (pt_not (pt_val (pe_callB call_isi (by rfl) T.n_isinstance (by decide +kernel) (pa_cons (pv 0) (pa_cons (pe_bltn (v := .ty "tuple") (u := .type "tuple") (by rfl) T.n_tuple (by decide +kernel) rfl) pa_nil))))) (pw_or1 (pt_cmpR op_ne (pe_callB call_len_seq (by rfl) T.n_len (by decide +kernel) (pa_cons (pv 0) pa_nil)) pe_int (nomark _)))))
      (pss_one (ps_ret pe_bl))
      pss_nil)
    (pss_cons (ps_if (PW.pt (pw_or (pt_not (pt_val (pe_call G_is_between (hr.mono (by decide)) rfl T.g_is_between T.F_is_between.kp T.b_is_between .nil pass0 (pa_cons (pe_ix ix_tup (pv 0) pe_int (fun _ _ => rfl)) (pa_cons pe_int (pa_cons (pe_glob (v := .int 9) rfl T.v_MOST ⟨_, rfl⟩) pa_nil)))))) (pw_or1 (pt_not (pt_val (pe_call G_is_between (hr.mono (by decide)) rfl T.g_is_between T.F_is_between.kp T.b_is_between .nil pass0 (pa_cons (pe_ix ix_tup (pv 0) pe_int (fun _ _ => rfl)) (pa_cons pe_int (pa_cons (pe_glob (v := .int 9) rfl T.v_MOST ⟨_, rfl⟩) pa_nil)))))))))
      (pss_one (ps_ret pe_bl))
      pss_nil)
    (pss_one (ps_ret (pe_and (pe_callB call_isi (by rfl) T.n_isinstance (by decide +kernel) (pa_cons (pe_ix ix_tup (pv 0) pe_int (fun _ _ => rfl)) (pa_cons (pe_bltn (v := .ty "bool") (u := .type "bool") (by rfl) T.n_bool (by decide +kernel) rfl) pa_nil))) (pe_one (pe_callB call_isi (by rfl) T.n_isinstance (by decide +kernel) (pa_cons (pe_ix ix_tup (pv 0) pe_int (fun _ _ => rfl)) (pa_cons (pe_bltn (v := .ty "bool") (u := .type "bool") (by rfl) T.n_bool (by decide +kernel) rfl) pa_nil))))))))), ?_⟩
    have k0 : ∀ {b : Bool}, isRowD d = b → Q (.bl b) H := fun e => by rw [← e]; exact k
    cases d with
    | none => cases hd; exact ⟨_, rfl, _, _, _, _, _, rfl, .ty _, tyx_D .non, kit_ty kb_nt, _, rfl, iteT (iteT (k0 rfl))⟩
    | bool b => cases hd; exact ⟨_, rfl, _, _, _, _, _, rfl, .ty _, tyx_D (.bl b), kit_ty kb_bt, _, rfl, iteT (iteT (k0 rfl))⟩
    | int i => cases hd; exact ⟨_, rfl, _, _, _, _, _, rfl, .ty _, tyx_D (.int i), kit_ty kb_it, _, rfl, iteT (iteT (k0 rfl))⟩
    | str z => cases hd; exact ⟨_, rfl, _, _, _, _, _, rfl, .ty _, tyx_D (.str z), kit_ty kb_st, _, rfl, iteT (iteT (k0 rfl))⟩
    | list ds => exact hm.elim
    | dict _ => cases hd
    | tuple ds =>
      have hd' := hd
      cases hd' with
      | tup hT hA =>
      rename_i a xs
      have hxl := hA.length
      refine ⟨_, rfl, _, _, _, _, _, rfl, .ty _, tyx_D hd, kit_ty kb_tt, _, rfl, iteF ?_⟩
      refine ⟨_, rfl, a, _, rfl, .inr hT, rfl, _, rfl, ?_⟩
      refine iteN (fun hne => k0 ?_) (fun he => ?_)
      · match ds, hxl with
        | [], _ => rfl
        | [_], _ => rfl
        | [_, _], _ => rfl
        | [_, _, _], _ => rfl
        | [_, _, _, _], hxl => exact (hne (by rw [hxl]; rfl)).elim
        | _ :: _ :: _ :: _ :: _ :: _, _ => rfl
      · have hl4 : ds.length = 4 := by
          have := vint_inj.mp he
          omega
        obtain ⟨d0, d1, d2, d3, rfl⟩ : ∃ d0 d1 d2 d3, ds = [d0, d1, d2, d3] := by
          match ds, hl4 with
          | [d0, d1, d2, d3], _ => exact ⟨d0, d1, d2, d3, rfl⟩
        cases hA with
        | cons h0 hA => cases hA with
          | cons h1 hA => cases hA with
            | cons h2 hA => cases hA with
              | cons h3 hA =>
              cases hA
              rename_i v0 v1 v2 v3
              have e : isRowD (.tuple [d0, d1, d2, d3]) = (between d0 0 9 && (between d2 0 9 && (isB d1 && isB d3))) := rfl
              refine ⟨_, rfl, a, _, _, _, rfl, rfl, hT, atI_nat (j := 0) rfl, ?_⟩
              refine ⟨v0, d0, 0, 9, rfl, h0, hm d0 (by simp), _, rfl, ?_⟩
              refine iteB (fun hb => ?_) (fun hb => ?_)
              · have hb : between d0 0 9 = false := by simpa using hb
                exact iteT (k0 (by rw [e, hb]; rfl))
              have hb : between d0 0 9 = true := by simpa using hb
              refine ⟨_, rfl, a, _, _, _, rfl, rfl, hT, atI_nat (j := 2) rfl, ?_⟩
              refine ⟨v2, d2, 0, 9, rfl, h2, hm d2 (by simp), _, rfl, ?_⟩
              refine iteB (fun hc => ?_) (fun hc => ?_)
              · have hc : between d2 0 9 = false := by simpa using hc
                exact k0 (by rw [e, hb, hc]; rfl)
              have hc : between d2 0 9 = true := by simpa using hc
              have isb : ∀ {d : PyData}, (∀ l, d ≠ .list l) → (∀ l, d ≠ .dict l) → kitB (kty d) "bool" = some (isB d) := by
                intro d n1 n2
                cases d with
                | none => exact kb_nb
                | bool b => exact kb_bb
                | int i => exact kb_ib
                | str z => exact kb_sb
                | tuple ds => exact kb_tb
                | list ds => exact (n1 ds rfl).elim
                | dict ds => exact (n2 ds rfl).elim
              have nd : ∀ {v : V} {d : PyData}, Dp K H v d → ∀ l, d ≠ .dict l := fun h l z => by subst z; cases h
              refine ⟨_, rfl, a, _, _, _, rfl, rfl, hT, atI_nat (j := 1) rfl, ?_⟩
              refine ⟨_, _, _, _, _, rfl, .ty _, tyx_D h1, kit_ty (isb (hm d1 (by simp)) (nd h1)), _, rfl, ?_⟩
              refine iteB (fun hx => ?_) (fun hx => k0 (by rw [e, hb, hc, hx]; rfl))
              refine ⟨_, rfl, a, _, _, _, rfl, rfl, hT, atI_nat (j := 3) rfl, ?_⟩
              refine ⟨_, _, _, _, _, rfl, .ty _, tyx_D h3, kit_ty (isb (hm d3 (by simp)) (nd h3)), k0 (by rw [e, hb, hc, hx]; rfl)⟩

end
end TL

namespace TL
open PySem PySem.Spec PyProof.Rows L2
section
variable {P : Program} {w : World} {K : PySem.W.Frag} {mg : Str → Option Value} {base : Heap}
/-- of a log, three hundred rows at most -/
def sp_need_log (T : Txt K mg) : Sp := fun vs H Q _ => ∃ (a : Addr) (xs : List V) (rs : List Row), vs = [.ref a] ∧ SqL K H a xs ∧ ImAll H xs (rs.map rowD) ∧ (∀ r ∈ rs, okRow r) ∧ rs.length ≤ 300 ∧ ∀ H', Same H H' → Q .non H'
theorem ok_need_log (T : Txt K mg) : FnOk P w K mg base CX0 3 T.a_need_log T.fd_need_log P_need_log (sp_need_log T) := by
  have G_is_row := ok_is_row (P := P) (w := w) (base := base) T
  refine T.F_need_log.ok sc_need_log (fun vs H Q E h => ?_) (fun cdv A outer s H vs Q E hr h => ?_)
  · obtain ⟨a, xs, rs, rfl, _⟩ := h
    rfl
  · obtain ⟨a, xs, rs, rfl, hL, hA, hok, hl, k⟩ := h
    refine ⟨_, (pss_one (ps_for PassesOwn.never rfl (pi_enum (by rfl) T.n_enumerate (pa_cons (pv 0) pa_nil)) (pg_tup rfl (pgs_cons (pg_name (i := 1) sc_need_log.nd rfl (by first | exact Or.inl rfl | exact Or.inr rfl)) (pgs_cons (pg_name (i := 2) sc_need_log.nd rfl (by first | exact Or.inl rfl | exact Or.inr rfl)) pgs_nil)))
      (pss_one (ps_if (PW.pt (pw_or (pt_cmpR op_ge (pv 1) (pe_glob (v := .int 300) rfl T.v_MOST_ROWS ⟨_, rfl⟩) (nomark _)) (pw_or1 (pt_not (pt_val (pe_call G_is_row (hr.mono (by decide)) rfl T.g_is_row T.F_is_row.kp T.b_is_row .nil pass0 (pa_cons (pv 2) pa_nil)))))))
        (pss_one ps_never)
        pss_nil)))), ?_⟩
    have hxl := rows_len hA
    refine ⟨_, rfl, a, xs, rfl, hL, for_enum (K := K) (a := a) (xs := xs) (fun i σ H2 => Same H H2 ∧ ∃ v1 v2 : Option V, σ = [some (.ref a), v1, v2])
      ⟨.refl _, _, _, rfl⟩ (fun i σ H2 _ ⟨s2, _⟩ => s2.seq hL) ?_ ?_⟩
    · rintro i x N σ H2 hi ⟨s2, v1, v2, rfl⟩ hN
      have s3 : Same H (upd H2 N (.tup [.int (i : Nat), x])) := s2.trans (Same.upd_new hN)
      obtain ⟨t, r, hr, rfl, ht⟩ := rows_get' hA hi
      have hil : i < rs.length := (List.getElem?_eq_some_iff.mp hr).1
      refine ⟨N, _, rfl, SqT.of upd_same, rfl, _, _, rfl, _, _, rfl, rfl, ?_⟩
      refine ⟨_, rfl, _, _, rfl, rfl, _, rfl, ?_⟩
      refine iteD (fun h => by omega) (fun _ => ?_)
      refine ⟨_, rfl, _, _, rfl, ((im_row ht).same s3).dp, rdat_row r, _, rfl, ?_⟩
      rw [isRow_row (hok r (List.mem_of_getElem? hr))]
      exact iteF ⟨s3, _, _, rfl⟩
    · rintro σ H2 ⟨s2, v1, v2, rfl⟩
      exact k H2 s2

end
end TL

namespace TL
open PySem PySem.Spec PyProof.Rows L2
section
variable {P : Program} {w : World} {K : PySem.W.Frag} {mg : Str → Option Value} {base : Heap}
def sp_stretches (T : Txt K mg) : Sp := fun vs H Q _ => ∃ (a : Addr) (xs : List V) (rs : List Row), vs = [.ref a] ∧ SqL K H a xs ∧ ImAll H xs (rs.map rowD) ∧ (∀ r ∈ rs, okRow r) ∧ rs.length ≤ 300 ∧
  ∀ (p : Addr) (ys : List V) (H' : Hp), H p = none → H' p = some (.lst ys) → ImAll H' ys ((stTo (rs.map mark) rs.length).map strD) → Same H H' → Q (.ref p) H'
theorem ok_stretches (T : Txt K mg) : FnOk P w K mg base CX0 4 T.a_stretches T.fd_stretches P_stretches (sp_stretches T) := by
  have G_need_log := ok_need_log (P := P) (w := w) (base := base) T
  refine T.F_stretches.ok sc_stretches (fun vs H Q E h => ?_) (fun cdv A outer s H vs Q E hr h => ?_)
  · obtain ⟨a, xs, rs, rfl, _⟩ := h
    rfl
  · obtain ⟨a, xs, rs, rfl, hL, hA, hok, hl, k⟩ := h
    have hu64 := hr.units
    refine ⟨_, (pss_cons (ps_expr (pe_call G_need_log (hr.mono (by decide)) rfl T.g_need_log T.F_need_log.kp T.b_need_log .nil pass0 (pa_cons (pv 0) pa_nil)))
    (pss_cons (ps_set (i := 1) sc_stretches.nd rfl (by first | exact Or.inl rfl | exact Or.inr rfl) (pe_lst pa_nil))
    (pss_cons (ps_for PassesOwn.never rfl (pi_enum (by rfl) T.n_enumerate (pa_cons (pv 0) pa_nil)) (pg_tup rfl (pgs_cons (pg_name (i := 2) sc_stretches.nd rfl (by first | exact Or.inl rfl | exact Or.inr rfl)) (pgs_cons (pg_tup rfl (pgs_cons (pg_name (i := 3) sc_stretches.nd rfl (by first | exact Or.inl rfl | exact Or.inr rfl)) (pgs_cons (pg_name (i := 4) sc_stretches.nd rfl (by first | exact Or.inl rfl | exact Or.inr rfl)) (pgs_cons (pg_name (i := 5) sc_stretches.nd rfl (by first | exact Or.inl rfl | exact Or.inr rfl)) (pgs_cons (pg_name (i := 6) sc_stretches.nd rfl (by first | exact Or.inl rfl | exact Or.inr rfl)) pgs_nil))))) pgs_nil)))
      (pss_one (ps_if (PW.pt (pw_and (pt_val (pv 4)) (pw_and (pt_val (pv 6)) (pw_and1 (pt_cmpR op_eq (pv 3) (pv 5) (nomark _))))))
        (pss_one (ps_if (PW.pt (pw_and (pt_cmpR (op_neD hu64) (pv 1) (pe_lst pa_nil) (nomark _)) (pw_and (pt_cmpR op_eq (pe_ix ix_tup (pe_ix ix_list (pv 1) (pe_un un_neg pe_int) (fun _ _ => rfl)) pe_int (fun _ _ => rfl)) (pv 3) (nomark _)) (pw_and1 (pt_cmpR op_eq (pe_ix ix_tup (pe_ix ix_list (pv 1) (pe_un un_neg pe_int) (fun _ _ => rfl)) pe_int (fun _ _ => rfl)) (pv 2) (nomark _))))))
          (pss_one (ps_asg (pe_tup (pa_cons (pv 3) (pa_cons (pe_ix ix_tup (pe_ix ix_list (pv 1) (pe_un un_neg pe_int) (fun _ _ => rfl)) pe_int (fun _ _ => rfl)) (pa_cons (pe_op op_add (pv 2) pe_int) pa_nil)))) (pg_sub (pv 1) (pe_un un_neg pe_int) set_list)))
          (pss_one (ps_expr (pe_bm PySem.F.plainAttrs_list PySem.F.slot_list_append PySem.F.type_list_append mt_append (pv 1) (pa_cons (pe_tup (pa_cons (pv 3) (pa_cons (pv 2) (pa_cons (pe_op op_add (pv 2) pe_int) pa_nil)))) pa_nil))))))
        pss_nil)))
    (pss_one (ps_ret (pv 1)))))), ?_⟩
    have hxl := rows_len hA
    refine ⟨_, rfl, a, xs, rs, rfl, hL, hA, hok, hl, fun H1 s1 => ?_⟩
    refine ⟨(by show 0 ≤ sizeLine; decide), fun p hp => ?_⟩
    have hpH : H p = none := s1.free hp
    refine ⟨_, rfl, a, xs, rfl, (s1.trans (Same.upd_new hp)).seq hL, for_enum (K := K) (a := a) (xs := xs) (fun i σ H2 => Same H H2 ∧ (∃ v2 v3 v4 v5 v6 : Option V, σ = [some (.ref a), some (.ref p), v2, v3, v4, v5, v6]) ∧ ∃ ys, H2 p = some (.lst ys) ∧ ImAll H2 ys ((stTo (rs.map mark) i).map strD))
      ⟨s1.trans (Same.upd_new hp), ⟨_, _, _, _, _, rfl⟩, [], upd_same, .nil⟩ (fun i σ H2 _ ⟨s2, _⟩ => s2.seq hL) ?_ ?_⟩
    · rintro i x N σ H2 hi ⟨s2, ⟨v2, v3, v4, v5, v6, rfl⟩, ys, hy, hya⟩ hN
      have s3 : Same H (upd H2 N (.tup [.int (i : Nat), x])) := s2.trans (Same.upd_new hN)
      obtain ⟨t, r, hr, rfl, ht⟩ := rows_get' hA hi
      have hil : i < rs.length := (List.getElem?_eq_some_iff.mp hr).1
      have hmk : (rs.map mark).getD i none = mark r := by rw [List.getD_eq_getElem?_getD, List.getElem?_map, hr]; rfl
      have hyl : ys.length ≤ i := by rw [hya.length, List.length_map]; exact stTo_len _ _
      have hy3 : (upd H2 N (.tup [.int (i : Nat), .ref t])) p = some (.lst ys) := by rw [upd_ne (ne_of_none hy hN)]; exact hy
      have hya3 := hya.new (o := .tup [.int (i : Nat), .ref t]) hN
      refine ⟨N, _, rfl, SqT.of upd_same, rfl, _, _, rfl, _, _, rfl, ⟨t, _, rfl, SqT.of (s3 _ _ ht), rfl, _, _, rfl, _, _, rfl, _, _, rfl, _, _, rfl, rfl, rfl, ?_⟩⟩
      -- joined and likewise and mine == yours
      have keepE : mark r = none → ∀ σ', (∃ v2 v3 v4 v5 v6 : Option V, σ' = [some (.ref a), some (.ref p), v2, v3, v4, v5, v6]) → (Same H (upd H2 N (.tup [.int (i : Nat), .ref t])) ∧ (∃ v2 v3 v4 v5 v6 : Option V, σ' = [some (.ref a), some (.ref p), v2, v3, v4, v5, v6]) ∧ ∃ ys, (upd H2 N (.tup [.int (i : Nat), .ref t])) p = some (.lst ys) ∧ ImAll (upd H2 N (.tup [.int (i : Nat), .ref t])) ys ((stTo (rs.map mark) (i + 1)).map strD)) := by
        intro hm σ' hσ
        refine ⟨s3, hσ, ys, hy3, ?_⟩
        rw [stTo_none (hmk.trans hm)]
        exact hya3
      refine ⟨_, rfl, _, rfl, ?_⟩
      refine iteB (fun q1 => ?_) (fun q1 => iteF (keepE (by unfold mark; rw [if_neg]; rintro ⟨z, _⟩; rw [z] at q1; cases q1) _ ⟨_, _, _, _, _, rfl⟩))
      refine ⟨_, rfl, _, rfl, ?_⟩
      refine iteB (fun q2 => ?_) (fun q2 => iteF (keepE (by unfold mark; rw [if_neg]; rintro ⟨_, z, _⟩; rw [z] at q2; cases q2) _ ⟨_, _, _, _, _, rfl⟩))
      refine ⟨_, rfl, _, rfl, rfl, _, rfl, ?_⟩
      refine iteD (fun q3 => ?_) (fun q3 => keepE (by unfold mark; rw [if_neg]; rintro ⟨_, _, z⟩; exact q3 (by rw [z])) _ ⟨_, _, _, _, _, rfl⟩)
      have q3' : r.1 = r.2.2.1 := vint_inj.mp q3
      have hm : mark r = some r.1 := by unfold mark; rw [if_pos ⟨q1, q2, q3'⟩]
      -- found != [] and found[-1][0] == mine and found[-1][2] == number
      have snoc : ∀ (H3 : Hp), Same H H3 → H3 p = some (.lst ys) → ImAll H3 ys ((stTo (rs.map mark) i).map strD) → Fresh (rs.map mark) i → ∀ u, H3 u = none →
          Same H (upd (upd H3 u (.tup [.int r.1, .int (i : Nat), .int ((i : Nat) + 1)])) p (.lst (ys ++ [.ref u]))) ∧ ∃ zs, (upd (upd H3 u (.tup [.int r.1, .int (i : Nat), .int ((i : Nat) + 1)])) p (.lst (ys ++ [.ref u]))) p = some (.lst zs) ∧ ImAll (upd (upd H3 u (.tup [.int r.1, .int (i : Nat), .int ((i : Nat) + 1)])) p (.lst (ys ++ [.ref u]))) zs ((stTo (rs.map mark) (i + 1)).map strD) := by
        intro H3 s4 hp3 ha3 hf u hu
        have npu : p ≠ u := ne_of_none hp3 hu
        have hp4 : (upd H3 u (.tup [.int r.1, .int (i : Nat), .int ((i : Nat) + 1)])) p = some (.lst ys) := by rw [upd_ne npu]; exact hp3
        refine ⟨((Frm.of_same (s4.trans (Same.upd_new hu))).own hpH (Frm.updL hp4)).same, _, upd_same, ?_⟩
        rw [stTo_first (hmk.trans hm) hf, List.map_append]
        refine ImAll.append ((ha3.new hu).updL hp4) (.cons (im_str (s := (r.1, (i : Int), (i : Int) + 1)) ?_) .nil)
        rw [upd_ne (Ne.symm npu), upd_same]
        rfl
      refine ⟨_, rfl, (by show 0 ≤ sizeLine; decide), fun E0 hE => ?_⟩
      have s4 := s3.trans (Same.upd_new (o := .lst []) hE)
      have hy4 : (upd (upd H2 N (.tup [.int (i : Nat), .ref t])) E0 (.lst [])) p = some (.lst ys) := by rw [upd_ne (ne_of_none hy3 hE)]; exact hy3
      have hya4 := hya3.new (o := .lst []) hE
      have hst : ∀ s ∈ stTo (rs.map mark) i, lv 1 (strD s) := fun s _ => ⟨by show 3 ≤ 100000; decide, fun d hd => by simp at hd; rcases hd with rfl | rfl | rfl <;> exact trivial⟩
      have hlv : lv 2 (.list ((stTo (rs.map mark) i).map strD)) := ⟨by rw [List.length_map]; have := stTo_len (rs.map mark) i; omega, fun d hd => by obtain ⟨s, hs, rfl⟩ := List.mem_map.mp hd; exact hst s hs⟩
      refine ⟨.list ((stTo (rs.map mark) i).map strD), .list [], .lst (SqL.of hy4) hya4.dp, .lst (SqL.of upd_same) .nil, shaped_lv hlv (by decide), rfl, _, rfl, ?_⟩
      cases hgl : (stTo (rs.map mark) i).getLast? with
      | none =>
        have h0 : stTo (rs.map mark) i = [] := List.getLast?_eq_none_iff.mp hgl
        rw [h0]
        refine iteF (iteF ?_)
        refine ⟨_, rfl, .inl ⟨rfl, _, SqL.of hy4⟩, _, rfl, _, rfl, _, rfl, _, _, rfl, rfl, (by show 3 ≤ sizeLine; decide), fun u hu => ?_⟩
        obtain ⟨z1, z2⟩ := snoc _ s4 hy4 hya4 (fun k s e z => by rw [hgl] at z; cases z) u hu
        refine ⟨p, ys, _, rfl, rfl, by rw [upd_ne (ne_of_none hy4 hu)]; exact hy4, small1000 (by omega), z1, ⟨_, _, _, _, _, rfl⟩, z2⟩
      | some s =>
        obtain ⟨k0, a0, e0⟩ := s
        obtain ⟨pre, hpre⟩ : ∃ pre, stTo (rs.map mark) i = pre ++ [(k0, a0, e0)] := by
          have := List.getLast?_eq_some_iff.mp hgl
          obtain ⟨pre, h⟩ := this
          exact ⟨pre, h⟩
        have hne : PyData.eqv (.list ((stTo (rs.map mark) i).map strD)) (.list []) = false := by
          rw [hpre]
          cases pre <;> rfl
        rw [hne]
        refine iteT ?_
        have hyy := hya4
        rw [hpre, List.map_append] at hyy
        obtain ⟨lu, hlu, hlt⟩ : ∃ lu, ys[pre.length]? = some (.ref lu) ∧ (upd (upd H2 N (.tup [.int (i : Nat), .ref t])) E0 (.lst [])) lu = some (.tup (strV (k0, a0, e0))) := by
          obtain ⟨x, h1, h2⟩ := hyy.get (i := pre.length) (d := strD (k0, a0, e0)) (by simp)
          obtain ⟨t, rfl, h3⟩ := im_str_inv h2
          exact ⟨t, h1, h3⟩
        have hyl2 : ys.length = pre.length + 1 := by rw [hyy.length]; simp
        have hix : ixN ys.length (-1) = some pre.length := by
          unfold ixN
          rw [if_neg (by omega), if_pos (by omega), hyl2]
          congr 1
          omega
        have hat : atI ys (-1) = some (.ref lu) := by
          unfold atI
          rw [hix]
          exact hlu
        refine ⟨_, rfl, _, rfl, p, _, _, _, rfl, rfl, SqL.of hy4, hat, lu, _, _, _, rfl, rfl, SqT.of hlt, atI_nat (j := 0) rfl, _, rfl, rfl, _, rfl, ?_⟩
        have fr : (k0 = r.1 → e0 ≠ (i : Int)) → Fresh (rs.map mark) i := by
          intro hz k s e z he hmm
          rw [hgl] at z
          cases z
          rw [hmk, hm] at hmm
          have hkk : k0 = r.1 := (Option.some.inj hmm).symm
          exact hz hkk he
        have snoc' : Fresh (rs.map mark) i → ∀ u, (upd (upd H2 N (.tup [.int (i : Nat), .ref t])) E0 (.lst [])) u = none → _ := fun hf u hu => snoc _ s4 hy4 hya4 hf u hu
        refine iteD (fun q4 => ?_) (fun q4 => iteF ?_)
        · refine ⟨_, rfl, _, rfl, p, _, _, _, rfl, rfl, SqL.of hy4, hat, lu, _, _, _, rfl, rfl, SqT.of hlt, atI_nat (j := 2) rfl, _, rfl, rfl, _, rfl, ?_⟩
          have q4' : k0 = r.1 := vint_inj.mp q4
          refine iteD (fun q5 => ?_) (fun q5 => ?_)
          · have q5' : e0 = (i : Int) := vint_inj.mp q5
            subst q4' q5'
            -- the last one grows
            refine ⟨_, rfl, _, rfl, _, rfl, p, _, _, _, rfl, rfl, SqL.of hy4, hat, lu, _, _, _, rfl, rfl, SqT.of hlt, atI_nat (j := 1) rfl, ?_⟩
            refine ⟨_, rfl, _, _, rfl, rfl, (by show 3 ≤ sizeLine; decide), fun u hu => ?_⟩
            have npu := ne_of_none hy4 hu
            have hy5 : (upd (upd (upd H2 N (.tup [.int (i : Nat), .ref t])) E0 (.lst [])) u (.tup [.int r.1, .int a0, .int ((i : Nat) + 1)])) p = some (.lst ys) := by rw [upd_ne npu]; exact hy4
            refine ⟨_, rfl, _, rfl, p, _, _, pre.length, rfl, rfl, hy5, hix, ?_⟩
            refine ⟨((Frm.of_same (s4.trans (Same.upd_new hu))).own hpH (Frm.updL hy5)).same, ⟨_, _, _, _, _, rfl⟩, _, upd_same, ?_⟩
            have e1 : stTo (rs.map mark) (i + 1) = pre ++ [(r.1, a0, (i : Int) + 1)] := by
              show stStep _ _ _ = _
              rw [hmk, hm, hpre]
              unfold stStep
              simp
            have e2 : ys.set pre.length (.ref u) = ys.take pre.length ++ [.ref u] := by
              apply List.ext_getElem?
              intro n
              rw [List.getElem?_set, List.getElem?_append]
              simp only [List.length_take]
              by_cases h1 : pre.length = n
              · subst h1
                rw [if_pos rfl, if_pos (by omega), if_neg (by omega)]
                have : pre.length - min pre.length ys.length = 0 := by omega
                rw [this]
                rfl
              · rw [if_neg h1]
                by_cases h2 : n < pre.length
                · rw [if_pos (by omega), List.getElem?_take, if_pos h2]
                · rw [if_neg (by omega), List.getElem?_eq_none (by omega), List.getElem?_eq_none (by simp; omega)]
            rw [e1, e2, List.map_append]
            refine ImAll.append ?_ (.cons (im_str (s := (r.1, a0, (i : Int) + 1)) ?_) .nil)
            · have z := ((hyy.new (o := .tup [.int r.1, .int a0, .int ((i : Nat) + 1)]) hu).updL (o := .lst (ys.take pre.length ++ [.ref u])) hy5).take pre.length
              have e3 : ((pre.map strD ++ [(r.1, a0, (i : Int))].map strD).take pre.length) = pre.map strD := by
                rw [List.take_append_of_le_length (by simp), List.take_of_length_le (by simp)]
              rw [e3] at z
              exact z
            · rw [upd_ne (Ne.symm npu), upd_same]
              rfl
          · refine ⟨_, rfl, .inl ⟨rfl, _, SqL.of hy4⟩, _, rfl, _, rfl, _, rfl, _, _, rfl, rfl, (by show 3 ≤ sizeLine; decide), fun u hu => ?_⟩
            obtain ⟨z1, z2⟩ := snoc' (fr fun _ z => q5 (by rw [z])) u hu
            exact ⟨p, ys, _, rfl, rfl, by rw [upd_ne (ne_of_none hy4 hu)]; exact hy4, small1000 (by omega), z1, ⟨_, _, _, _, _, rfl⟩, z2⟩
        · refine ⟨_, rfl, .inl ⟨rfl, _, SqL.of hy4⟩, _, rfl, _, rfl, _, rfl, _, _, rfl, rfl, (by show 3 ≤ sizeLine; decide), fun u hu => ?_⟩
          obtain ⟨z1, z2⟩ := snoc' (fr fun z => (q4 (by rw [z])).elim) u hu
          exact ⟨p, ys, _, rfl, rfl, by rw [upd_ne (ne_of_none hy4 hu)]; exact hy4, small1000 (by omega), z1, ⟨_, _, _, _, _, rfl⟩, z2⟩
    · rintro σ H2 ⟨s2, ⟨v2, v3, v4, v5, v6, rfl⟩, ys, hy, hya⟩
      rw [hxl] at hya
      exact ⟨_, rfl, k p ys H2 hpH hy hya s2⟩

end
end TL

namespace TL
open PySem PySem.Spec PyProof.Rows L2
section
variable {P : Program} {w : World} {K : PySem.W.Frag} {mg : Str → Option Value} {base : Heap}
def sp__law_dice (T : Txt K mg) : Sp := fun vs H Q _ => ∃ (a : Addr) (ns : List Int) (k : Int), vs = [.ref a, .int k] ∧ SqL K H a (ns.map V.int) ∧ ns.length ≤ 63 ∧
  ∀ (p : Addr) (H' : Hp), H p = none → DiceAt H' p → Same H H' → Q (.ref p) H'
theorem ok__law_dice (T : Txt K mg) : FnOk P w K mg base CX0 1 T.a__law_dice T.fd__law_dice P__law_dice (sp__law_dice T) := by
  skip
  refine T.F__law_dice.ok sc__law_dice (fun vs H Q E h => ?_) (fun cdv A outer s H vs Q E hr h => ?_)
  · obtain ⟨a, ns, k, rfl, _⟩ := h
    rfl
  · obtain ⟨a, ns, kz, rfl, hS, hl, k⟩ := h
    refine ⟨_, (pss_cons (ps_set (i := 2) sc__law_dice.nd rfl (by first | exact Or.inl rfl | exact Or.inr rfl) (pv 1))
    (pss_cons (ps_for PassesOwn.never rfl (pi_list (pv 0)) (pg_name (i := 3) sc__law_dice.nd rfl (by first | exact Or.inl rfl | exact Or.inr rfl))
      (pss_one (ps_set (i := 2) sc__law_dice.nd rfl (by first | exact Or.inl rfl | exact Or.inr rfl) (pe_op op_mod (pe_op op_add (pe_op op_mul (pv 2) pe_int) (pe_callB call_abs (by rfl) T.n_abs (by decide +kernel) (pa_cons (pv 3) pa_nil))) pe_int))))
    (pss_one (ps_ret (pe_op op_cat (pe_lst (pa_cons (pv 2) (pa_cons pe_int pa_nil))) (pe_lc (own := [("_law_cell", 3)]) (g := (gName 3)) (tt := (tTest (tOp (rI0 fun i j => .bl (decide (j ≤ i))) (tVar 3) (tOp (rI CPow fun i j => .int (i ^ j.toNat)) (tC (.int 10)) (tC (.int 18)))))) (te := (tVar 3)) rfl sc__law_dice.nd (pi_list (pv 0)) (blkOk_by (own := [("_law_cell", 3)]) (N := N__law_dice) (sc := defScope s__law_dice) (by decide +kernel)) (fun _ _ _ _ _ => (pg_name (i := 3) sc__law_dice.nd rfl (by first | exact Or.inl rfl | exact Or.inr rfl))) (fun _ _ _ _ _ => (pts_one (pt_cmpR op_ge (pv 3) (pe_op op_pow pe_int pe_int) (nomark _)))) (fun _ _ _ _ _ => (pv 3)))))))), ?_⟩
    refine ⟨_, rfl, ?_⟩
    refine ⟨_, rfl, a, rfl, ⟨_, hS⟩, for_list (K := K) (a := a) (xs := ns.map V.int) (fun i σ H2 => H2 = H ∧ ∃ (f : Int) (v : Option V), σ = [some (.ref a), some (.int kz), some (.int f), v])
      ⟨rfl, _, _, rfl⟩ (fun i σ H2 _ ⟨e, _⟩ => by rw [e]; exact hS) ?_ ?_⟩
    · rintro i y σ H2 hi ⟨rfl, f, v, rfl⟩
      obtain ⟨z, hz, rfl⟩ := getmap hi
      exact ⟨_, rfl, _, _, rfl, rfl, .inr (by decide), _, rfl, _, rfl, _, _, rfl, rfl, _, _, rfl, rfl, (by show (0 : Int) < 2147483647; decide), rfl, _, _, rfl⟩
    · rintro σ H2 ⟨rfl, f, v, rfl⟩
      refine ⟨_, rfl, (by show 2 ≤ sizeLine; decide), fun l hlz => ?_⟩
      have s1 : Same H2 (upd H2 l (.lst [.int f, .int 0])) := Same.upd_new hlz
      refine ⟨_, rfl, a, rfl, ⟨_, s1.seq hS⟩, fun D hD => ?_⟩
      refine lc_list (K := K) (a := a) (xs := ns.map V.int) (fun i H3 => ∃ ms : List Int, H3 D = some (.lst (ms.map V.int)) ∧ ms.length ≤ i ∧ Same (upd H2 l (.lst [.int f, .int 0])) H3)
        ⟨[], upd_same, Nat.le_refl _, Same.upd_new hD⟩ (fun i H3 _ ⟨_, _, _, s3⟩ => s3.seq (s1.seq hS)) ?_ ?_
      · rintro i y H3 hi ⟨ms, hm, hml, s3⟩
        obtain ⟨z, hz, rfl⟩ := getmap hi
        have hil : i < ns.length := (List.getElem?_eq_some_iff.mp hz).1
        refine ⟨rfl, _, rfl, _, _, rfl, rfl, ⟨by decide, by decide, by decide⟩, _, _, rfl, rfl, _, rfl, ?_⟩
        refine iteD (fun h0 => ?_) (fun h0 => ⟨ms, hm, Nat.le_succ_of_le hml, s3⟩)
        refine ⟨_, rfl, _, hm, by rw [List.length_map]; exact small1000 (by omega), ms ++ [z], by rw [upd_same, List.map_append]; rfl, by simp; omega, fun b o e => ?_⟩
        rw [upd_ne (fun q => ?_)]
        · exact s3 b o e
        · subst q
          rw [hD] at e
          cases e
      · rintro H3 ⟨ms, hm, hml, s3⟩
        rw [List.length_map] at hml
        have hlH : H3 l = some (.lst [.int f, .int 0]) := s3 _ _ upd_same
        refine ⟨l, D, _, _, rfl, rfl, hlH, hm, by rw [List.length_map]; exact Nat.le_of_lt (small1000 (by simp; omega)), fun p hp => ?_⟩
        refine k p _ ((s1.trans s3).free hp) ⟨f :: 0 :: ms, by rw [upd_same]; rfl, by simp, by simp; omega⟩ ((s1.trans s3).trans (Same.upd_new hp))

end
end TL

namespace TL
open PySem PySem.Spec PyProof.Rows L2
section
variable {P : Program} {w : World} {K : PySem.W.Frag} {mg : Str → Option Value} {base : Heap}
def sp__law_off (T : Txt K mg) : Sp := fun vs H Q _ => ∃ (d : Addr) (m : Int), vs = [.ref d, .int m] ∧ DiceAt H d ∧ 0 < m ∧ m < 1073741824 ∧
  ∀ (r : Int) (H' : Hp), 0 ≤ r → r < m → DiceAt H' d → Frm [d] H H' → Q (.int r) H'
theorem ok__law_off (T : Txt K mg) : FnOk P w K mg base CX0 1 T.a__law_off T.fd__law_off P__law_off (sp__law_off T) := by
  skip
  refine T.F__law_off.ok sc__law_off (fun vs H Q E h => ?_) (fun cdv A outer s H vs Q E hr h => ?_)
  · obtain ⟨d, m, rfl, _⟩ := h
    rfl
  · obtain ⟨d, m, rfl, ⟨ns, hd, hl, hl2⟩, hm0, hm1, k⟩ := h
    obtain ⟨a, b, r, rfl⟩ : ∃ a b r, ns = a :: b :: r := by
      match ns, hl with
      | a :: b :: r, _ => exact ⟨a, b, r, rfl⟩
    refine ⟨_, (pss_cons (ps_if (PW.pt (pw_and (pt_cmpR op_eq (pe_ix ix_list (pv 0) pe_int (fun _ _ => rfl)) pe_int (nomark _)) (pw_and1 (pt_cmpR op_gt (pe_callB call_len_seq (by rfl) T.n_len (by decide +kernel) (pa_cons (pv 0) pa_nil)) pe_int (nomark _)))))
      (pss_one (ps_asg (pe_bm PySem.F.plainAttrs_list PySem.F.slot_list_pop PySem.F.type_list_pop mt_popAt (pv 0) (pa_cons pe_int pa_nil)) (pg_sub (pv 0) pe_int set_list)))
      pss_nil)
    (pss_cons (ps_if (pt_cmpR op_gt (pe_ix ix_list (pv 0) pe_int (fun _ _ => rfl)) pe_int (nomark _))
      (pss_cons (ps_set (i := 2) sc__law_off.nd rfl (by first | exact Or.inl rfl | exact Or.inr rfl) (pe_op op_mod (pe_ix ix_list (pv 0) pe_int (fun _ _ => rfl)) (pv 1)))
      (pss_cons (ps_asg (pe_op op_fdiv (pe_ix ix_list (pv 0) pe_int (fun _ _ => rfl)) (pv 1)) (pg_sub (pv 0) pe_int set_list))
      (pss_one (ps_ret (pv 2)))))
      pss_nil)
    (pss_cons (ps_asg (pe_op op_mod (pe_op op_add (pe_op op_mul (pe_ix ix_list (pv 0) pe_int (fun _ _ => rfl)) pe_int) pe_int) pe_int) (pg_sub (pv 0) pe_int set_list))
    (pss_one (ps_ret (pe_op op_mod (pe_op op_fdiv (pe_ix ix_list (pv 0) pe_int (fun _ _ => rfl)) pe_int) (pv 1))))))), ?_⟩
    have key : ∀ (H1 : Hp) (a b : Int) (r : List Int), H1 d = some (.lst ((a :: b :: r).map V.int)) → (a :: b :: r).length ≤ 65 → Frm [d] H H1 → tSeq (tIfS (tTest (tOp (rI0 fun i j => .bl (decide (j < i))) (tOp (rIxL K) (tVar 0) (tC (.int 1))) (tC (.int 0)))) (tSeq (tAsg (tOp (rI (fun _ j => 0 < j) fun i j => .int (i % j)) (tOp (rIxL K) (tVar 0) (tC (.int 1))) (tVar 1)) (gName 2)) (tSeq (tAsg (tOp (rI CDiv fun i j => .int (i / j)) (tOp (rIxL K) (tVar 0) (tC (.int 1))) (tVar 1)) (gSub (tVar 0) (tC (.int 1)) rSetL)) (tRet (tVar 2)))) tNext)
        (tSeq (tAsg (tOp (rI (fun _ j => 0 < j) fun i j => .int (i % j)) (tOp (rI0 fun i j => .int (i + j)) (tOp (rI CMul fun i j => .int (i * j)) (tOp (rIxL K) (tVar 0) (tC (.int 0))) (tC (.int 48271))) (tC (.int 11))) (tC (.int 2147483647))) (gSub (tVar 0) (tC (.int 0)) rSetL))
          (tRet (tOp (rI (fun _ j => 0 < j) fun i j => .int (i % j)) (tOp (rI CDiv fun i j => .int (i / j)) (tOp (rIxL K) (tVar 0) (tC (.int 0))) (tC (.int 64))) (tVar 1))))
        { nx := fun _ H' => Q .non H', rt := Q } [some (.ref d), some (.int m), none] H1 := by
      intro H1 a b r h1 hl e1
      have dz : (ixN ((a :: b :: r).map V.int).length 1) = some 1 := by
        unfold ixN
        simp only [List.length_map, List.length_cons]
        rw [if_pos (by omega), if_pos (by omega)]
        rfl
      have dz0 : (ixN ((a :: b :: r).map V.int).length 0) = some 0 := by
        unfold ixN
        simp only [List.length_map, List.length_cons]
        rw [if_pos (by omega), if_pos (by omega)]
        rfl
      refine ⟨_, rfl, d, _, _, .int b, rfl, rfl, SqL.of h1, atI_nat (j := 1) rfl, _, _, rfl, rfl, _, rfl, ?_⟩
      refine iteD (fun h0 => ?_) (fun h0 => ?_)
      · refine ⟨_, rfl, d, _, _, .int b, rfl, rfl, SqL.of h1, atI_nat (j := 1) rfl, _, rfl, _, _, rfl, rfl, hm0, ?_⟩
        refine ⟨_, rfl, d, _, _, .int b, rfl, rfl, SqL.of h1, atI_nat (j := 1) rfl, _, rfl, _, _, rfl, rfl, ⟨hm0, hm1⟩, ?_⟩
        refine ⟨_, rfl, d, _, _, 1, rfl, rfl, h1, dz, _, rfl, ?_⟩
        refine k _ _ (Int.emod_nonneg _ (by omega)) (Int.emod_lt_of_pos _ hm0) ⟨a :: (b / m) :: r, upd_same, by simp, hl⟩ (e1.trans (Frm.updL h1))
      · refine ⟨_, rfl, d, _, _, .int a, rfl, rfl, SqL.of h1, atI_nat (j := 0) rfl, _, _, rfl, rfl, .inr (by decide), _, _, rfl, rfl, _, _, rfl, rfl, (by show (0 : Int) < 2147483647; decide), ?_⟩
        refine ⟨_, rfl, d, _, _, 0, rfl, rfl, h1, dz0, ?_⟩
        refine ⟨_, rfl, d, _, _, .int ((a * 48271 + 11) % 2147483647), rfl, rfl, SqL.of upd_same, atI_nat (j := 0) rfl, _, _, rfl, rfl, ⟨by decide, by decide⟩, _, rfl, _, _, rfl, rfl, hm0, ?_⟩
        exact k _ _ (Int.emod_nonneg _ (by omega)) (Int.emod_lt_of_pos _ hm0) ⟨((a * 48271 + 11) % 2147483647) :: b :: r, upd_same, by simp, hl⟩ (e1.trans (Frm.updL h1))
    -- d[1] == 0 and len(d) > 2
    refine ⟨_, rfl, d, _, _, .int b, rfl, rfl, SqL.of hd, atI_nat (j := 1) rfl, rfl, _, rfl, ?_⟩
    refine iteD (fun h0 => ?_) (fun h0 => iteF (key H a b r hd hl2 (.refl _ _)))
    refine ⟨_, rfl, d, _, rfl, .inl (SqL.of hd), _, _, rfl, rfl, _, rfl, ?_⟩
    refine iteD (fun h1 => ?_) (fun h1 => key H a b r hd hl2 (.refl _ _))
    obtain ⟨c, r', rfl⟩ : ∃ c r', r = c :: r' := by
      match r, h1 with
      | c :: r', _ => exact ⟨c, r', rfl⟩
      | [], h1 => exact absurd h1 (by simp)
    have s2 : seqIndex? 2 ((a :: b :: c :: r').map V.int).length = some 2 := by
      have e : ixN ((a :: b :: c :: r').map V.int).length 2 = some 2 := by
        unfold ixN
        simp only [List.length_map, List.length_cons]
        rw [if_pos (by omega), if_pos (by omega)]
        rfl
      exact (ixN_seq e).1
    refine ⟨_, rfl, .inl ⟨rfl, _, SqL.of hd⟩, d, _, _, 2, .int c, rfl, rfl, hd, by decide, by decide, s2, rfl, ?_⟩
    have dz : (ixN (((a :: b :: c :: r').map V.int).eraseIdx 2).length 1) = some 1 := by
      unfold ixN
      show (if (0 : Int) ≤ 1 then (if (1 : Int) < ((V.int a :: V.int b :: r'.map V.int).length : Nat) then _ else _) else _) = _
      simp only [List.length_cons]
      rw [if_pos (by omega), if_pos (by omega)]
      rfl
    refine ⟨_, rfl, d, _, _, 1, rfl, rfl, upd_same, dz, ?_⟩
    refine key _ a c r' (by rw [upd_same]; rfl) (by simp only [List.length_cons] at hl2 ⊢; omega) ((Frm.updL hd).trans (Frm.updL upd_same))

end
end TL

namespace TL
open PySem PySem.Spec PyProof.Rows L2
section
variable {P : Program} {w : World} {K : PySem.W.Frag} {mg : Str → Option Value} {base : Heap}
/-- of two things that are the same data True is told; n: how deep they may be, and one more -/
def sp__law_alike (T : Txt K mg) : Nat → Sp
  | 0 => fun _ _ _ _ => False
  | n + 1 => fun vs H Q _ => ∃ (x y : V) (d : PyData), vs = [x, y] ∧ Dp K H x d ∧ Dp K H y d ∧ lv n d ∧ ∀ H', Same H H' → Q (.bl true) H'
theorem rix_of {H : Hp} {p : Addr} {xs : List V} {i : Int} {v : V} {Q : VK} (h : SqL K H p xs ∨ SqT K H p xs) (e : atI xs i = some v) (q : Q v H) : rIx K (.ref p) (.int i) H Q := by
  rcases h with h | h
  · exact .inl ⟨p, xs, i, v, rfl, rfl, h, e, q⟩
  · exact .inr (.inl ⟨p, xs, i, v, rfl, rfl, h, e, q⟩)
theorem ok__law_alike_step (T : Txt K mg) (n : Nat) (G__law_alike : FnOk P w K mg base CX0 n T.a__law_alike T.fd__law_alike P__law_alike (sp__law_alike T n)) : FnOk P w K mg base CX0 (n + 1) T.a__law_alike T.fd__law_alike P__law_alike (sp__law_alike T (n + 1)) := by
  refine T.F__law_alike.ok sc__law_alike (fun vs H Q E h => ?_) (fun cdv A outer s H vs Q E hr h => ?_)
  · obtain ⟨x, y, d, rfl, _⟩ := h
    rfl
  · obtain ⟨x, y, d, rfl, hx, hy, hl, k⟩ := h
    have hrS := hr
    refine ⟨_, (pss_cons (ps_if (pt_cmpR op_isN1 (pv 1) pe_non (nomark _))
      (pss_one (ps_ret (pe_cmpR op_isN1 (pv 0) pe_non (nomark _))))
      pss_nil)
    (pss_cons (ps_if (pt_val (pe_callB call_isi (by rfl) T.n_isinstance (by decide +kernel) (pa_cons (pv 1) (pa_cons (pe_bltn (v := .ty "bool") (u := .type "bool") (by rfl) T.n_bool (by decide +kernel) rfl) pa_nil))))
      (pss_one (ps_ret (pe_and (pe_callB call_isi (by rfl) T.n_isinstance (by decide +kernel) (pa_cons (pv 0) (pa_cons (pe_bltn (v := .ty "bool") (u := .type "bool") (by rfl) T.n_bool (by decide +kernel) rfl) pa_nil))) (pe_one (pe_cmpR op_eq (pv 0) (pv 1) (nomark _))))))
      pss_nil)
    (pss_cons (ps_if (pt_val (pe_callB call_isi (by rfl) T.n_isinstance (by decide +kernel) (pa_cons (pv 1) (pa_cons (pe_bltn (v := .ty "int") (u := .type "int") (by rfl) T.n_int (by decide +kernel) rfl) pa_nil))))
      (pss_one (ps_ret (pe_and (pe_callB call_isi (by rfl) T.n_isinstance (by decide +kernel) (pa_cons (pv 0) (pa_cons (pe_bltn (v := .ty "int") (u := .type "int") (by rfl) T.n_int (by decide +kernel) rfl) pa_nil))) (pe_and (pe_not (pe_callB call_isi (by rfl) T.n_isinstance (by decide +kernel) (pa_cons (pv 0) (pa_cons (pe_bltn (v := .ty "bool") (u := .type "bool") (by rfl) T.n_bool (by decide +kernel) rfl) pa_nil)))) (pe_one (pe_cmpR op_eq (pv 0) (pv 1) (nomark _)))))))
      pss_nil)
    (pss_cons (ps_if (pt_val (pe_callB call_isi (by rfl) T.n_isinstance (by decide +kernel) (pa_cons (pv 1) (pa_cons (pe_bltn (v := .ty "str") (u := .type "str") (by rfl) T.n_str (by decide +kernel) rfl) pa_nil))))
      (pss_one (ps_ret (pe_and (pe_callB call_isi (by rfl) T.n_isinstance (by decide +kernel) (pa_cons (pv 0) (pa_cons (pe_bltn (v := .ty "str") (u := .type "str") (by rfl) T.n_str (by decide +kernel) rfl) pa_nil))) (pe_one (pe_cmpR op_eq (pv 0) (pv 1) (nomark _))))))
      pss_nil)
    (pss_cons (ps_if (PW.pt (pw_or (pt_cmpR op_ne (pe_callB call_isi (by rfl) T.n_isinstance (by decide +kernel) (pa_cons (pv 1) (pa_cons (pe_bltn (v := .ty "tuple") (u := .type "tuple") (by rfl) T.n_tuple (by decide +kernel) rfl) pa_nil))) (pe_callB call_isi (by rfl) T.n_isinstance (by decide +kernel) (pa_cons (pv 0) (pa_cons (pe_bltn (v := .ty "tuple") (u := .type "tuple") (by rfl) T.n_tuple (by decide +kernel) rfl) pa_nil))) (nomark _)) (pw_or1 (pt_cmpR op_ne (pe_callB call_isi (by rfl) T.n_isinstance (by decide +kernel) (pa_cons (pv 1) (pa_cons (pe_bltn (v := .ty "list") (u := .type "list") (by rfl) T.n_list (by decide +kernel) rfl) pa_nil))) (pe_callB call_isi (by rfl) T.n_isinstance (by decide +kernel) (pa_cons (pv 0) (pa_cons (pe_bltn (v := .ty "list") (u := .type "list") (by rfl) T.n_list (by decide +kernel) rfl) pa_nil))) (nomark _)))))
      (pss_one (ps_ret pe_bl))
      pss_nil)
    (pss_cons (ps_if (pt_cmpR op_ne (pe_callB call_len_seq (by rfl) T.n_len (by decide +kernel) (pa_cons (pv 0) pa_nil)) (pe_callB call_len_seq (by rfl) T.n_len (by decide +kernel) (pa_cons (pv 1) pa_nil)) (nomark _))
      (pss_one (ps_ret pe_bl))
      pss_nil)
    (pss_one (ps_ret (pe_callB (cr_all rfl) (by rfl) T.n_all (by decide +kernel) (pa_cons (pe_lc (own := [("_law_k", 2)]) (g := (gName 2)) (tt := tYes) (te := (tCall _ [] E0 (tCons (tOp (rIx K) (tVar 0) (tVar 2)) (tCons (tOp (rIx K) (tVar 1) (tVar 2)) tNil)))) rfl sc__law_alike.nd (pi_range1 rfl T.n_range (pa_cons (pe_callB call_len_seq (by rfl) T.n_len (by decide +kernel) (pa_cons (pv 1) pa_nil)) pa_nil)) (blkOk_by (own := [("_law_k", 2)]) (N := N__law_alike) (sc := defScope s__law_alike) (by decide +kernel)) (fun _ _ _ _ _ => (pg_name (i := 2) sc__law_alike.nd rfl (by first | exact Or.inl rfl | exact Or.inr rfl))) (fun _ _ _ _ _ => pts_nil) (fun _ _ _ _ _ => (pe_call G__law_alike hrS rfl T.g__law_alike T.F__law_alike.kp T.b__law_alike .nil pass0 (pa_cons (pe_ix ix_seq (pv 0) (pv 2) (fun _ _ => rfl)) (pa_cons (pe_ix ix_seq (pv 1) (pv 2) (fun _ _ => rfl)) pa_nil))))) pa_nil)))))))))), ?_⟩
    have kk : ∀ {p : Prop} [Decidable p], p → Q (.bl (decide p)) H := fun hp => by rw [decide_eq_true hp]; exact k _ (.refl _)
    cases d with
    | none =>
      cases hx; cases hy
      exact ⟨_, rfl, rfl, _, rfl, iteT ⟨_, rfl, rfl, k _ (.refl _)⟩⟩
    | bool b =>
      cases hx; cases hy
      refine ⟨_, rfl, rfl, _, rfl, iteF ?_⟩
      refine ⟨_, rfl, _, _, _, _, _, rfl, .ty _, tyx_D (.bl b), kit_ty kb_bb, _, rfl, iteT ?_⟩
      exact ⟨_, rfl, _, _, _, _, _, rfl, .ty _, tyx_D (.bl b), kit_ty kb_bb, _, rfl, iteT ⟨_, rfl, _, rfl, rfl, kk rfl⟩⟩
    | int i =>
      cases hx; cases hy
      refine ⟨_, rfl, rfl, _, rfl, iteF ?_⟩
      refine ⟨_, rfl, _, _, _, _, _, rfl, .ty _, tyx_D (.int i), kit_ty kb_ib, _, rfl, iteF ?_⟩
      refine ⟨_, rfl, _, _, _, _, _, rfl, .ty _, tyx_D (.int i), kit_ty kb_ii, _, rfl, iteT ?_⟩
      refine ⟨_, rfl, _, _, _, _, _, rfl, .ty _, tyx_D (.int i), kit_ty kb_ii, _, rfl, iteT ?_⟩
      exact ⟨_, rfl, _, _, _, _, _, rfl, .ty _, tyx_D (.int i), kit_ty kb_ib, _, rfl, _, rfl, iteT ⟨_, rfl, _, rfl, rfl, kk rfl⟩⟩
    | str z =>
      cases hx; cases hy
      refine ⟨_, rfl, rfl, _, rfl, iteF ?_⟩
      refine ⟨_, rfl, _, _, _, _, _, rfl, .ty _, tyx_D (.str z), kit_ty kb_sb, _, rfl, iteF ?_⟩
      refine ⟨_, rfl, _, _, _, _, _, rfl, .ty _, tyx_D (.str z), kit_ty kb_si, _, rfl, iteF ?_⟩
      refine ⟨_, rfl, _, _, _, _, _, rfl, .ty _, tyx_D (.str z), kit_ty kb_ss, _, rfl, iteT ?_⟩
      exact ⟨_, rfl, _, _, _, _, _, rfl, .ty _, tyx_D (.str z), kit_ty kb_ss, _, rfl, iteT ⟨_, rfl, _, rfl, rfl, kk rfl⟩⟩
    | dict _ => cases hx
    | list ds =>
      have hx' := hx
      have hy' := hy
      cases hx' with
      | lst hLx hAx =>
      rename_i a xs
      cases hy' with
      | lst hLy hAy =>
      rename_i b ys
      refine ⟨_, rfl, rfl, _, rfl, iteF ?_⟩
      refine ⟨_, rfl, _, _, _, _, _, rfl, .ty _, tyx_D hy, kit_ty kb_lb, _, rfl, iteF ?_⟩
      refine ⟨_, rfl, _, _, _, _, _, rfl, .ty _, tyx_D hy, kit_ty kb_li, _, rfl, iteF ?_⟩
      refine ⟨_, rfl, _, _, _, _, _, rfl, .ty _, tyx_D hy, kit_ty kb_ls, _, rfl, iteF ?_⟩
      refine ⟨_, rfl, _, _, _, _, _, rfl, .ty _, tyx_D hy, kit_ty kb_lt, _, rfl, _, _, _, _, _, rfl, .ty _, tyx_D hx, kit_ty kb_lt, rfl, _, rfl, iteF ?_⟩
      refine ⟨_, rfl, _, _, _, _, _, rfl, .ty _, tyx_D hy, kit_ty kb_ll, _, rfl, _, _, _, _, _, rfl, .ty _, tyx_D hx, kit_ty kb_ll, rfl, _, rfl, iteF ?_⟩
      obtain ⟨m, rfl⟩ : ∃ m, n = m + 1 := by
        cases n with
        | zero => simp [lv] at hl
        | succ m => exact ⟨m, rfl⟩
      simp only [lv] at hl
      have hLx : SqL K H a xs ∨ SqT K H a xs := .inl hLx
      have hLy : SqL K H b ys ∨ SqT K H b ys := .inl hLy
      have lx := hAx.length
      have ly := hAy.length
      have sq : ∀ {H' : Hp} {c : Addr} {zs : List V}, Same H H' → (SqL K H c zs ∨ SqT K H c zs) → (SqL K H' c zs ∨ SqT K H' c zs) := fun s z => z.imp (fun q => s.seq q) fun q => SqT_same s q
      refine ⟨_, rfl, a, _, rfl, hLx, _, rfl, b, _, rfl, hLy, rfl, _, rfl, iteNS (by rw [lx, ly]) ?_⟩
      refine ⟨_, rfl, b, _, rfl, hLy, _, rfl, by omega, by omega, fun D hD => ?_⟩
      have hn : ((ys.length : Nat) : Int).toNat = ds.length := by omega
      rw [hn]
      refine lc_range (lo := 0) (n := ds.length) (fun i H2 => Same H H2 ∧ H2 D = some (.lst ((List.replicate i true).map V.bl)))
        ⟨Same.upd_new hD, upd_same⟩ ?_ ?_
      · rintro i H2 hi ⟨s2, h2⟩
        obtain ⟨u, hu, hdu⟩ := hAx.get (i := i) (d := ds[i]) (List.getElem?_eq_getElem hi)
        obtain ⟨v, hv, hdv⟩ := hAy.get (i := i) (d := ds[i]) (List.getElem?_eq_getElem hi)
        have e0 : (0 : Int) + (i : Int) = (i : Int) := by omega
        refine ⟨rfl, ?_⟩
        refine ⟨_, rfl, _, rfl, rix_of (sq s2 hLx) (at_of e0 hu) ?_⟩
        refine ⟨_, rfl, _, rfl, rix_of (sq s2 hLy) (at_of e0 hv) ?_⟩
        refine ⟨_, _, ds[i], rfl, hdu.same s2, hdv.same s2, hl.2 _ (List.getElem_mem hi), fun H3 s3 => ?_⟩
        refine ⟨_, s3 _ _ h2, by simp only [List.length_map, List.length_replicate]; exact Nat.lt_of_lt_of_le (Nat.lt_of_lt_of_le hi hl.1) (by decide), fun c o e => ?_, ?_⟩
        · rw [upd_ne (fun q => by rw [q, hD] at e; cases e)]
          exact s3 _ _ (s2 c o e)
        · rw [upd_same, List.replicate_succ', List.map_append]
          rfl
      · rintro H2 ⟨s2, h2⟩
        refine ⟨D, List.replicate ds.length true, rfl, SqL.of h2, ?_⟩
        have : (List.replicate ds.length true).all id = true := by simp
        rw [this]
        exact k _ s2
    | tuple ds =>
      have hx' := hx
      have hy' := hy
      cases hx' with
      | tup hLx hAx =>
      rename_i a xs
      cases hy' with
      | tup hLy hAy =>
      rename_i b ys
      refine ⟨_, rfl, rfl, _, rfl, iteF ?_⟩
      refine ⟨_, rfl, _, _, _, _, _, rfl, .ty _, tyx_D hy, kit_ty kb_tb, _, rfl, iteF ?_⟩
      refine ⟨_, rfl, _, _, _, _, _, rfl, .ty _, tyx_D hy, kit_ty kb_ti, _, rfl, iteF ?_⟩
      refine ⟨_, rfl, _, _, _, _, _, rfl, .ty _, tyx_D hy, kit_ty kb_ts, _, rfl, iteF ?_⟩
      refine ⟨_, rfl, _, _, _, _, _, rfl, .ty _, tyx_D hy, kit_ty kb_tt, _, rfl, _, _, _, _, _, rfl, .ty _, tyx_D hx, kit_ty kb_tt, rfl, _, rfl, iteF ?_⟩
      refine ⟨_, rfl, _, _, _, _, _, rfl, .ty _, tyx_D hy, kit_ty kb_tl, _, rfl, _, _, _, _, _, rfl, .ty _, tyx_D hx, kit_ty kb_tl, rfl, _, rfl, iteF ?_⟩
      obtain ⟨m, rfl⟩ : ∃ m, n = m + 1 := by
        cases n with
        | zero => simp [lv] at hl
        | succ m => exact ⟨m, rfl⟩
      simp only [lv] at hl
      have hLx : SqL K H a xs ∨ SqT K H a xs := .inr hLx
      have hLy : SqL K H b ys ∨ SqT K H b ys := .inr hLy
      have lx := hAx.length
      have ly := hAy.length
      have sq : ∀ {H' : Hp} {c : Addr} {zs : List V}, Same H H' → (SqL K H c zs ∨ SqT K H c zs) → (SqL K H' c zs ∨ SqT K H' c zs) := fun s z => z.imp (fun q => s.seq q) fun q => SqT_same s q
      refine ⟨_, rfl, a, _, rfl, hLx, _, rfl, b, _, rfl, hLy, rfl, _, rfl, iteNS (by rw [lx, ly]) ?_⟩
      refine ⟨_, rfl, b, _, rfl, hLy, _, rfl, by omega, by omega, fun D hD => ?_⟩
      have hn : ((ys.length : Nat) : Int).toNat = ds.length := by omega
      rw [hn]
      refine lc_range (lo := 0) (n := ds.length) (fun i H2 => Same H H2 ∧ H2 D = some (.lst ((List.replicate i true).map V.bl)))
        ⟨Same.upd_new hD, upd_same⟩ ?_ ?_
      · rintro i H2 hi ⟨s2, h2⟩
        obtain ⟨u, hu, hdu⟩ := hAx.get (i := i) (d := ds[i]) (List.getElem?_eq_getElem hi)
        obtain ⟨v, hv, hdv⟩ := hAy.get (i := i) (d := ds[i]) (List.getElem?_eq_getElem hi)
        have e0 : (0 : Int) + (i : Int) = (i : Int) := by omega
        refine ⟨rfl, ?_⟩
        refine ⟨_, rfl, _, rfl, rix_of (sq s2 hLx) (at_of e0 hu) ?_⟩
        refine ⟨_, rfl, _, rfl, rix_of (sq s2 hLy) (at_of e0 hv) ?_⟩
        refine ⟨_, _, ds[i], rfl, hdu.same s2, hdv.same s2, hl.2 _ (List.getElem_mem hi), fun H3 s3 => ?_⟩
        refine ⟨_, s3 _ _ h2, by simp only [List.length_map, List.length_replicate]; exact Nat.lt_of_lt_of_le (Nat.lt_of_lt_of_le hi hl.1) (by decide), fun c o e => ?_, ?_⟩
        · rw [upd_ne (fun q => by rw [q, hD] at e; cases e)]
          exact s3 _ _ (s2 c o e)
        · rw [upd_same, List.replicate_succ', List.map_append]
          rfl
      · rintro H2 ⟨s2, h2⟩
        refine ⟨D, List.replicate ds.length true, rfl, SqL.of h2, ?_⟩
        have : (List.replicate ds.length true).all id = true := by simp
        rw [this]
        exact k _ s2
theorem ok__law_alike (T : Txt K mg) : ∀ n, FnOk P w K mg base CX0 n T.a__law_alike T.fd__law_alike P__law_alike (sp__law_alike T n)
  | 0 => ⟨fun _ _ _ _ h => h.elim, fun _ _ _ _ _ _ _ _ _ _ _ _ _ h => h.elim⟩
  | n + 1 => ok__law_alike_step T n (ok__law_alike T n)

end
end TL

namespace TL
open PySem PySem.Spec PyProof.Rows L2
section
variable {P : Program} {w : World} {K : PySem.W.Frag} {mg : Str → Option Value} {base : Heap}
def sp__law_row (T : Txt K mg) : Sp := fun vs H Q _ => ∃ d : Addr, vs = [.ref d] ∧ DiceAt H d ∧
  ∀ (t : Addr) (r : Row) (H' : Hp), okRow r → H t = none → H' t = some (.tup (rowV r)) → DiceAt H' d → Frm [d] H H' → Q (.ref t) H'
theorem ok__law_row (T : Txt K mg) : FnOk P w K mg base CX0 2 T.a__law_row T.fd__law_row P__law_row (sp__law_row T) := by
  have G__law_off := ok__law_off (P := P) (w := w) (base := base) T
  refine T.F__law_row.ok sc__law_row (fun vs H Q E h => ?_) (fun cdv A outer s H vs Q E hr h => ?_)
  · obtain ⟨d, rfl, _⟩ := h
    rfl
  · obtain ⟨d, rfl, hD, k⟩ := h
    refine ⟨_, (pss_cons (ps_set (i := 1) sc__law_row.nd rfl (by first | exact Or.inl rfl | exact Or.inr rfl) (pe_call G__law_off (hr.mono (by decide)) rfl T.g__law_off T.F__law_off.kp T.b__law_off .nil pass0 (pa_cons (pv 0) (pa_cons (pe_ix ix_list (pe_lst (pa_cons pe_int (pa_cons pe_int pa_nil))) (pe_call G__law_off (hr.mono (by decide)) rfl T.g__law_off T.F__law_off.kp T.b__law_off .nil pass0 (pa_cons (pv 0) (pa_cons pe_int pa_nil))) (fun _ _ => rfl)) pa_nil))))
    (pss_cons (ps_set (i := 2) sc__law_row.nd rfl (by first | exact Or.inl rfl | exact Or.inr rfl) (pe_ifExp (pt_cmpR op_gt (pe_call G__law_off (hr.mono (by decide)) rfl T.g__law_off T.F__law_off.kp T.b__law_off .nil pass0 (pa_cons (pv 0) (pa_cons pe_int pa_nil))) pe_int (nomark _)) (pv 1) (pe_call G__law_off (hr.mono (by decide)) rfl T.g__law_off T.F__law_off.kp T.b__law_off .nil pass0 (pa_cons (pv 0) (pa_cons pe_int pa_nil)))))
    (pss_one (ps_ret (pe_tup (pa_cons (pv 1) (pa_cons (pe_cmpR op_gt (pe_call G__law_off (hr.mono (by decide)) rfl T.g__law_off T.F__law_off.kp T.b__law_off .nil pass0 (pa_cons (pv 0) (pa_cons pe_int pa_nil))) pe_int (nomark _)) (pa_cons (pv 2) (pa_cons (pe_cmpR op_gt (pe_call G__law_off (hr.mono (by decide)) rfl T.g__law_off T.F__law_off.kp T.b__law_off .nil pass0 (pa_cons (pv 0) (pa_cons pe_int pa_nil))) pe_int (nomark _)) pa_nil))))))))), ?_⟩
    -- mine
    refine ⟨_, rfl, (by show 2 ≤ sizeLine; decide), fun l hl => ?_⟩
    have f1 : Frm [d] H (upd H l (.lst [.int 2, .int 10])) := Frm.new hl
    have nld := hD.ne_new hl
    refine ⟨_, rfl, d, 2, rfl, hD.new hl, by decide, by decide, fun r H1 r0 r2 D1 g1 => ?_⟩
    have hl1 : H1 l = some (.lst [.int 2, .int 10]) := g1 _ _ upd_same (by simp [nld])
    obtain ⟨m, hm, hm0, hm1⟩ : ∃ m : Int, atI [V.int 2, V.int 10] r = some (.int m) ∧ 0 < m ∧ m ≤ 10 := by
      have : r = 0 ∨ r = 1 := by omega
      rcases this with rfl | rfl
      · exact ⟨2, rfl, by decide, by decide⟩
      · exact ⟨10, rfl, by decide, by decide⟩
    refine ⟨l, _, r, _, rfl, rfl, SqL.of hl1, hm, ?_⟩
    refine ⟨d, m, rfl, D1, hm0, by omega, fun mine H2 a0 a1 D2 g2 => ?_⟩
    have f2 := (f1.trans g1).trans g2
    -- yours
    refine ⟨_, rfl, d, 4, rfl, D2, by decide, by decide, fun z H3 z0 z4 D3 g3 => ?_⟩
    have f3 := f2.trans g3
    refine ⟨_, _, rfl, rfl, _, rfl, ?_⟩
    have fin : ∀ (yours : Int) (H4 : Hp), 0 ≤ yours → yours ≤ 9 → DiceAt H4 d → Frm [d] H H4 →
        tRet (tTup (tCons (tVar 1) (tCons (tOp (rI0 fun i j => .bl (decide (j < i))) (tCall (sp__law_off T) [] E0 (tCons (tVar 0) (tCons (tC (.int 3)) tNil))) (tC (.int 0))) (tCons (tVar 2) (tCons (tOp (rI0 fun i j => .bl (decide (j < i))) (tCall (sp__law_off T) [] E0 (tCons (tVar 0) (tCons (tC (.int 3)) tNil))) (tC (.int 0))) tNil)))))
          { nx := fun _ H' => Q .non H', rt := Q } [some (.ref d), some (.int mine), some (.int yours)] H4 := by
      intro yours H4 y0 y9 D4 f4
      refine ⟨_, rfl, _, rfl, d, 3, rfl, D4, by decide, by decide, fun u H5 _ _ D5 g5 => ?_⟩
      refine ⟨_, _, rfl, rfl, _, rfl, _, rfl, d, 3, rfl, D5, by decide, by decide, fun w' H6 _ _ D6 g6 => ?_⟩
      refine ⟨_, _, rfl, rfl, (by show 4 ≤ sizeLine; decide), fun t ht => ?_⟩
      have f6 := (f4.trans g5).trans g6
      refine k t (mine, decide (0 < u), yours, decide (0 < w')) _ ⟨⟨a0, by omega⟩, y0, y9⟩ (f6.free ht (by simp [D6.ne_new ht])) (by rw [upd_same]; rfl) (D6.new ht) (f6.trans (Frm.new ht))
    refine iteD (fun _ => ?_) (fun _ => ?_)
    · exact ⟨_, rfl, fin mine H3 a0 (by omega) D3 f3⟩
    · refine ⟨_, rfl, d, 10, rfl, D3, by decide, by decide, fun y H4 y0 y1 D4 g4 => ?_⟩
      exact fin y H4 y0 (by omega) D4 (f3.trans g4)

end
end TL

namespace TL
open PySem PySem.Spec PyProof.Rows L2
section
variable {P : Program} {w : World} {K : PySem.W.Frag} {mg : Str → Option Value} {base : Heap}
def sp__law_log (T : Txt K mg) : Sp := fun vs H Q _ => ∃ d : Addr, vs = [.ref d] ∧ DiceAt H d ∧
  ∀ (p : Addr) (xs : List V) (rs : List Row) (H' : Hp), (∀ r ∈ rs, okRow r) → rs.length ≤ 40 → H p = none → H' p = some (.lst xs) → ImAll H' xs (rs.map rowD) → DiceAt H' d → Frm [d] H H' → Q (.ref p) H'
theorem ok__law_log (T : Txt K mg) : FnOk P w K mg base CX0 3 T.a__law_log T.fd__law_log P__law_log (sp__law_log T) := by
  have G__law_off := ok__law_off (P := P) (w := w) (base := base) T
  have G__law_row := ok__law_row (P := P) (w := w) (base := base) T
  refine T.F__law_log.ok sc__law_log (fun vs H Q E h => ?_) (fun cdv A outer s H vs Q E hr h => ?_)
  · obtain ⟨d, rfl, _⟩ := h
    rfl
  · obtain ⟨d, rfl, hD, k⟩ := h
    have hu64 := hr.units
    refine ⟨_, (pss_cons (ps_set (i := 1) sc__law_log.nd rfl (by first | exact Or.inl rfl | exact Or.inr rfl) (pe_lst pa_nil))
    (pss_cons (ps_for PassesOwn.never rfl (pi_range1 rfl T.n_range (pa_cons (pe_call G__law_off (hr.mono (by decide)) rfl T.g__law_off T.F__law_off.kp T.b__law_off .nil pass0 (pa_cons (pv 0) (pa_cons (pe_ix ix_list (pe_lst (pa_cons pe_int (pa_cons pe_int pa_nil))) (pe_call G__law_off (hr.mono (by decide)) rfl T.g__law_off T.F__law_off.kp T.b__law_off .nil pass0 (pa_cons (pv 0) (pa_cons pe_int pa_nil))) (fun _ _ => rfl)) pa_nil))) pa_nil)) (pg_name (i := 2) sc__law_log.nd rfl (by first | exact Or.inl rfl | exact Or.inr rfl))
      (pss_one (ps_expr (pe_bm PySem.F.plainAttrs_list PySem.F.slot_list_append PySem.F.type_list_append mt_append (pv 1) (pa_cons (pe_ifExp (PW.pt (pw_and (pt_cmpR (op_neD hu64) (pv 1) (pe_lst pa_nil) (nomark _)) (pw_and1 (pt_cmpR op_eq (pe_call G__law_off (hr.mono (by decide)) rfl T.g__law_off T.F__law_off.kp T.b__law_off .nil pass0 (pa_cons (pv 0) (pa_cons pe_int pa_nil))) pe_int (nomark _))))) (pe_ix ix_list (pv 1) (pe_un un_neg pe_int) (fun _ _ => rfl)) (pe_call G__law_row (hr.mono (by decide)) rfl T.g__law_row T.F__law_row.kp T.b__law_row .nil pass0 (pa_cons (pv 0) pa_nil))) pa_nil)))))
    (pss_one (ps_ret (pv 1))))), ?_⟩
    refine ⟨(by show 0 ≤ sizeLine; decide), fun p hp => ?_⟩
    have npd := hD.ne_new hp
    refine ⟨_, rfl, (by show 2 ≤ sizeLine; decide), fun l hl => ?_⟩
    have D0 := (hD.new (o := .lst []) hp).new (o := .lst [.int 8, .int 40]) hl
    have nld := (hD.new (o := .lst []) hp).ne_new hl
    have npl : p ≠ l := fun e => by rw [← e, upd_same] at hl; cases hl
    have f1 : Frm [d] H (upd (upd H p (.lst [])) l (.lst [.int 8, .int 40])) := (Frm.new hp).trans (Frm.new hl)
    refine ⟨_, rfl, d, 2, rfl, D0, by decide, by decide, fun r H1 r0 r2 D1 g1 => ?_⟩
    have hl1 : H1 l = some (.lst [.int 8, .int 40]) := g1 _ _ upd_same (by simp [nld])
    have hp1 : H1 p = some (.lst []) := g1 _ _ (by rw [upd_ne npl]; exact upd_same) (by simp [npd])
    obtain ⟨m, hm, hm0, hm1⟩ : ∃ m : Int, atI [V.int 8, V.int 40] r = some (.int m) ∧ 0 < m ∧ m ≤ 40 := by
      have : r = 0 ∨ r = 1 := by omega
      rcases this with rfl | rfl
      · exact ⟨8, rfl, by decide, by decide⟩
      · exact ⟨40, rfl, by decide, by decide⟩
    refine ⟨l, _, r, _, rfl, rfl, SqL.of hl1, hm, ?_⟩
    refine ⟨d, m, rfl, D1, hm0, by omega, fun n H2 n0 n1 D2 g2 => ?_⟩
    have hp2 : H2 p = some (.lst []) := g2 _ _ hp1 (by simp [npd])
    have f2 := (f1.trans g1).trans g2
    refine ⟨n, rfl, by omega, by omega, for_range (lo := 0) (n := n.toNat) (fun i σ H3 => (∃ v : Option V, σ = [some (.ref d), some (.ref p), v]) ∧ DiceAt H3 d ∧ Frm [d] H H3 ∧ ∃ (xs : List V) (rs : List Row), H3 p = some (.lst xs) ∧ ImAll H3 xs (rs.map rowD) ∧ (∀ r ∈ rs, okRow r) ∧ rs.length = i)
      ⟨⟨_, rfl⟩, D2, f2, [], [], hp2, .nil, by simp, rfl⟩ ?_ ?_⟩
    · rintro i σ H3 hi ⟨⟨v, rfl⟩, D3, f3, xs, rs, hp3, hA, hok, hln⟩
      have hxl := rows_len hA
      refine ⟨_, rfl, .inl ⟨rfl, _, SqL.of hp3⟩, ?_⟩
      refine ⟨_, rfl, (by show 0 ≤ sizeLine; decide), fun e he => ?_⟩
      have s4 : Same H3 (upd H3 e (.lst [])) := Same.upd_new he
      have f4 : Frm [d] H (upd H3 e (.lst [])) := f3.trans (Frm.of_same s4)
      have hp4 := s4 _ _ hp3
      have hA4 := hA.same s4
      have new : ∀ H5, DiceAt H5 d → Frm [d] H H5 → H5 p = some (.lst xs) → ImAll H5 xs (rs.map rowD) → tCall (sp__law_row T) [] E0 (tCons (tVar 0) tNil) [some (.ref d), some (.ref p), some (.int (0 + (i : Nat)))] H5
          (fun x H6 => rAppend (.ref p) [x] H6 fun _ H7 => (∃ v : Option V, ([some (.ref d), some (.ref p), some (.int (0 + (i : Nat)))] : List (Option V)) = [some (.ref d), some (.ref p), v]) ∧ DiceAt H7 d ∧ Frm [d] H H7 ∧ ∃ (xs : List V) (rs : List Row), H7 p = some (.lst xs) ∧ ImAll H7 xs (rs.map rowD) ∧ (∀ r ∈ rs, okRow r) ∧ rs.length = i + 1) := by
        intro H5 D5 f5 hp5 hA5
        refine ⟨_, rfl, d, rfl, D5, fun t r H6 ok ht ht6 D6 g6 => ?_⟩
        have hp6 : H6 p = some (.lst xs) := g6 _ _ hp5 (by simp [npd])
        refine ⟨p, xs, _, rfl, rfl, hp6, small1000 (by omega), ⟨_, rfl⟩, D6.upd_ne (Ne.symm npd), (f5.trans g6).own hp (Frm.updL hp6), _, rs ++ [r], upd_same, ?_, fun x hx => ?_, by simp [hln]⟩
        · rw [List.map_append]
          refine ImAll.append ((hA5.frm g6).updL hp6) (.cons (im_row ?_) .nil)
          rw [upd_ne (ne_of ht6 hp6 (by intro q; cases q))]
          exact ht6
        · rcases List.mem_append.mp hx with h1 | h1
          · exact hok x h1
          · simp at h1; subst h1; exact ok
      have hlv := lv_rows (rs := rs) (by omega)
      refine ⟨.list (rs.map rowD), .list [], .lst (SqL.of hp4) hA4.dp, .lst (SqL.of upd_same) .nil, shaped_lv hlv (by decide), rfl, _, rfl, ?_⟩
      rw [eqv_rows_nil]
      refine iteN (fun hne => ?_) (fun he0 => iteF (new _ (D3.same s4) f4 hp4 hA4))
      refine ⟨_, rfl, d, 3, rfl, D3.same s4, by decide, by decide, fun z H5 z0 z3 D5 g5 => ?_⟩
      have hp5 : H5 p = some (.lst xs) := g5 _ _ hp4 (by simp [npd])
      have hA5 := hA4.frm g5
      refine ⟨rfl, _, rfl, ?_⟩
      refine iteD (fun _ => ?_) (fun _ => new _ D5 (f4.trans g5) hp5 hA5)
      -- the last one again
      have hpos : 0 < rs.length := List.length_pos_iff.mpr hne
      obtain ⟨t, ht, htt⟩ := rows_get hA5 (i := rs.length - 1) (r := rs[rs.length - 1]) (List.getElem?_eq_getElem (by omega))
      have hat : atI xs (-1) = some (.ref t) := by
        unfold atI ixN
        rw [if_neg (by omega), if_pos (by omega)]
        have : ((-1 : Int) + (xs.length : Nat)).toNat = rs.length - 1 := by omega
        rw [this]
        exact ht
      refine ⟨_, rfl, _, rfl, p, _, _, _, rfl, rfl, SqL.of hp5, hat, ?_⟩
      refine ⟨p, xs, _, rfl, rfl, hp5, small1000 (by omega), ⟨_, rfl⟩, D5.upd_ne (Ne.symm npd), (f4.trans g5).own hp (Frm.updL hp5), _, rs ++ [rs[rs.length - 1]], upd_same, ?_, fun x hx => ?_, by simp [hln]⟩
      · rw [List.map_append]
        refine ImAll.append (hA5.updL hp5) (.cons (im_row ?_) .nil)
        rw [upd_ne (ne_of htt hp5 (by intro q; cases q))]
        exact htt
      · rcases List.mem_append.mp hx with h1 | h1
        · exact hok x h1
        · simp at h1
          rw [h1]
          exact hok _ (List.getElem_mem _)
    · rintro σ H3 ⟨⟨v, rfl⟩, D3, f3, xs, rs, hp3, hA, hok, hln⟩
      exact ⟨_, rfl, k p xs rs H3 hok (by omega) hp hp3 hA D3 f3⟩

end
end TL

namespace TL
open PySem PySem.Spec PyProof.Rows L2
section
variable {P : Program} {w : World} {K : PySem.W.Frag} {mg : Str → Option Value} {base : Heap}
def spLaw (K : PySem.W.Frag) : Sp := fun vs H Q _ => ∃ (a : Addr) (ns : List Int), vs = [.ref a] ∧ SqL K H a (ns.map V.int) ∧ ns.length ≤ 63 ∧ ∀ H', Q (.bl true) H'
abbrev sp_law (T : Txt K mg) : Sp := spLaw K
/-- what stands within a turn: the dice, the rows at p -/
structure Got (H : Hp) (d p : Addr) (xs : List V) (rs : List Row) : Prop where
  D : DiceAt H d
  L : H p = some (.lst xs)
  A : ImAll H xs (rs.map rowD)
  ok : ∀ r ∈ rs, okRow r
  len : rs.length ≤ 300
  np : p ≠ d
theorem Got.same {H H' : Hp} {d p : Addr} {xs : List V} {rs : List Row} (g : Got H d p xs rs) (e : Same H H') : Got H' d p xs rs := ⟨g.D.same e, e _ _ g.L, g.A.same e, g.ok, g.len, g.np⟩
/-- another list is written -/
theorem Got.updL {H : Hp} {d p : Addr} {xs : List V} {rs : List Row} (g : Got H d p xs rs) {l : Addr} {ys : List V} {o : HO} (h : H l = some (.lst ys)) (n1 : l ≠ d) (n2 : l ≠ p) : Got (upd H l o) d p xs rs :=
  ⟨g.D.upd_ne (Ne.symm n1), by rw [upd_ne (Ne.symm n2)]; exact g.L, g.A.updL h, g.ok, g.len, g.np⟩
theorem ok_law (T : Txt K mg) : FnOk P w K mg base CX0 5 T.a_law T.fd_law P_law (sp_law T) := by
  have G__law_dice := ok__law_dice (P := P) (w := w) (base := base) T
  have G__law_log := ok__law_log (P := P) (w := w) (base := base) T
  have G__law_off := ok__law_off (P := P) (w := w) (base := base) T
  have G_stretches := ok_stretches (P := P) (w := w) (base := base) T
  have G__law_alike := ok__law_alike (P := P) (w := w) (base := base) T 4
  have G__law_row := ok__law_row (P := P) (w := w) (base := base) T
  refine T.F_law.ok sc_law (fun vs H Q E h => ?_) (fun cdv A outer s H vs Q E hr h => ?_)
  · obtain ⟨a, ns, rfl, _⟩ := h
    rfl
  · obtain ⟨a, ns, rfl, hS, hlen, k⟩ := h
    have hu64 := hr.units
    refine ⟨_, (pss_cons (ps_set (i := 1) sc_law.nd rfl (by first | exact Or.inl rfl | exact Or.inr rfl) (pe_call G__law_dice (hr.mono (by decide)) rfl T.g__law_dice T.F__law_dice.kp T.b__law_dice .nil pass0 (pa_cons (pv 0) (pa_cons pe_int pa_nil))))
    (pss_cons (ps_for PassesOwn.never rfl (pi_range1 rfl T.n_range (pa_cons pe_int pa_nil)) (pg_name (i := 2) sc_law.nd rfl (by first | exact Or.inl rfl | exact Or.inr rfl))
      (pss_cons (ps_set (i := 3) sc_law.nd rfl (by first | exact Or.inl rfl | exact Or.inr rfl) (pe_call G__law_log (hr.mono (by decide)) rfl T.g__law_log T.F__law_log.kp T.b__law_log .nil pass0 (pa_cons (pv 1) pa_nil)))
      (pss_cons (ps_cut (ps_if (pt_cmpR op_eq (pe_call G__law_off (hr.mono (by decide)) rfl T.g__law_off T.F__law_off.kp T.b__law_off .nil pass0 (pa_cons (pv 1) (pa_cons pe_int pa_nil))) pe_int (nomark _))
        (pss_one (ps_set (i := 3) sc_law.nd rfl (by first | exact Or.inl rfl | exact Or.inr rfl) (pe_op op_rep (pe_lst (pa_cons (pe_ix ix_list (pe_lst (pa_cons (pe_tup (pa_cons pe_int (pa_cons pe_bl (pa_cons pe_int (pa_cons pe_bl pa_nil))))) (pa_cons (pe_call G__law_row (hr.mono (by decide)) rfl T.g__law_row T.F__law_row.kp T.b__law_row .nil pass0 (pa_cons (pv 1) pa_nil)) pa_nil))) (pe_call G__law_off (hr.mono (by decide)) rfl T.g__law_off T.F__law_off.kp T.b__law_off .nil pass0 (pa_cons (pv 1) (pa_cons pe_int pa_nil))) (fun _ _ => rfl)) pa_nil)) pe_int)))
        pss_nil))
      (pss_cons (ps_cut (ps_if (pt_cmpR op_eq (pe_call G__law_off (hr.mono (by decide)) rfl T.g__law_off T.F__law_off.kp T.b__law_off .nil pass0 (pa_cons (pv 1) (pa_cons pe_int pa_nil))) pe_int (nomark _))
        (pss_one (ps_set (i := 3) sc_law.nd rfl (by first | exact Or.inl rfl | exact Or.inr rfl) (pe_slice sl_list (pe_op op_rep (pv 3) pe_int) po_none (po_some pe_int))))
        pss_nil))
      (pss_cons (ps_setLc (i := 4) (own := [("_law_mine", 5), ("_law_joined", 6), ("_law_yours", 7), ("_law_likewise", 8)]) (g := (gTup K 4 (gCons (gName 5) (gCons (gName 6) (gCons (gName 7) (gCons (gName 8) gNil)))))) (tt := tYes) (te := (tIf (tAnd (tB (tVar 6)) (tAnd (tB (tVar 8)) (tTest (tOp rEq (tVar 5) (tVar 7))))) (tVar 5) (tC .non))) rfl sc_law.nd rfl rfl (sw_true rfl rfl rfl (by decide +kernel)) (pi_list (pv 3)) (blkOk_by (own := [("_law_mine", 5), ("_law_joined", 6), ("_law_yours", 7), ("_law_likewise", 8)]) (N := N_law) (sc := defScope s_law) (by decide +kernel)) (fun _ _ _ _ _ => (pg_tup rfl (pgs_cons (pg_name (i := 5) sc_law.nd rfl (by first | exact Or.inl rfl | exact Or.inr rfl)) (pgs_cons (pg_name (i := 6) sc_law.nd rfl (by first | exact Or.inl rfl | exact Or.inr rfl)) (pgs_cons (pg_name (i := 7) sc_law.nd rfl (by first | exact Or.inl rfl | exact Or.inr rfl)) (pgs_cons (pg_name (i := 8) sc_law.nd rfl (by first | exact Or.inl rfl | exact Or.inr rfl)) pgs_nil)))))) (fun _ _ _ _ _ => pts_nil) (fun _ _ _ _ _ => (pe_ifExp (PW.pt (pw_and (pt_val (pv 6)) (pw_and (pt_val (pv 8)) (pw_and1 (pt_cmpR op_eq (pv 5) (pv 7) (nomark _)))))) (pv 5) pe_non)))
      (pss_cons (ps_set (i := 9) sc_law.nd rfl (by first | exact Or.inl rfl | exact Or.inr rfl) (pe_lst pa_nil))
      (pss_cons (ps_set (i := 10) sc_law.nd rfl (by first | exact Or.inl rfl | exact Or.inr rfl) pe_int)
      (pss_cons (ps_while PassesOwn.never (pt_cmpR op_lt (pv 10) (pe_callB call_len_seq (by rfl) T.n_len (by decide +kernel) (pa_cons (pv 3) pa_nil)) (nomark _))
        (pss_cons (ps_set (i := 11) sc_law.nd rfl (by first | exact Or.inl rfl | exact Or.inr rfl) (pe_op op_add (pv 10) pe_int))
        (pss_cons (ps_while PassesOwn.never (PW.pt (pw_and (pt_cmpR op_lt (pv 11) (pe_callB call_len_seq (by rfl) T.n_len (by decide +kernel) (pa_cons (pv 3) pa_nil)) (nomark _)) (pw_and (pt_cmpR op_notN1 (pe_ix ix_list (pv 4) (pv 10) (fun _ _ => rfl)) pe_non (nomark _)) (pw_and1 (pt_cmpR op_eq (pe_ix ix_list (pv 4) (pv 11) (fun _ _ => rfl)) (pe_ix ix_list (pv 4) (pv 10) (fun _ _ => rfl)) (nomark _))))))
          (pss_one (ps_set (i := 11) sc_law.nd rfl (by first | exact Or.inl rfl | exact Or.inr rfl) (pe_op op_add (pv 11) pe_int))))
        (pss_cons (ps_if (pt_cmpR op_notN1 (pe_ix ix_list (pv 4) (pv 10) (fun _ _ => rfl)) pe_non (nomark _))
          (pss_one (ps_expr (pe_bm PySem.F.plainAttrs_list PySem.F.slot_list_append PySem.F.type_list_append mt_append (pv 9) (pa_cons (pe_tup (pa_cons (pe_ix ix_list (pv 4) (pv 10) (fun _ _ => rfl)) (pa_cons (pv 10) (pa_cons (pv 11) pa_nil)))) pa_nil))))
          pss_nil)
        (pss_one (ps_set (i := 10) sc_law.nd rfl (by first | exact Or.inl rfl | exact Or.inr rfl) (pv 11)))))))
      (pss_cons (ps_set (i := 12) sc_law.nd rfl (by first | exact Or.inl rfl | exact Or.inr rfl) (pe_callTy call_list_of (by rfl) T.n_list (by decide +kernel) (pa_cons (pv 3) pa_nil)))
      (pss_one (ps_for PassesOwn.never rfl (pi_range1 rfl T.n_range (pa_cons pe_int pa_nil)) (pg_name (i := 13) sc_law.nd rfl (by first | exact Or.inl rfl | exact Or.inr rfl))
        (pss_cons (ps_set (i := 14) sc_law.nd rfl (by first | exact Or.inl rfl | exact Or.inr rfl) (pe_call G_stretches (hr.mono (by decide)) rfl T.g_stretches T.F_stretches.kp T.b_stretches .nil pass0 (pa_cons (pv 12) pa_nil)))
        (pss_cons (ps_if (PW.pt (pw_or (pt_not (pt_val (pe_call G__law_alike (hr.mono (by decide)) rfl T.g__law_alike T.F__law_alike.kp T.b__law_alike .nil pass0 (pa_cons (pv 14) (pa_cons (pv 9) pa_nil))))) (pw_or1 (pt_cmpR (op_neD hu64) (pv 12) (pv 3) (nomark _)))))
          (pss_one (ps_ret pe_bl))
          pss_nil)
        (pss_one (ps_expr (pe_bm PySem.F.plainAttrs_list PySem.F.slot_list_append PySem.F.type_list_append mt_append (pv 14) (pa_cons (pe_tup pa_nil) pa_nil)))))))))))))))))
    (pss_one (ps_ret pe_bl)))), ?_⟩
    refine ⟨_, rfl, a, ns, 0, rfl, hS, hlen, fun d H0 hd D0 s0 => ?_⟩
    refine ⟨8, rfl, by decide, by decide, for_range (lo := 0) (n := 8) (fun i σ H2 => (∃ v2 v3 v4 v5 v6 v7 v8 v9 v10 v11 v12 v13 v14 : Option V, σ = [some (.ref a), some (.ref d), v2, v3, v4, v5, v6, v7, v8, v9, v10, v11, v12, v13, v14]) ∧ DiceAt H2 d)
      ⟨⟨_, _, _, _, _, _, _, _, _, _, _, _, _, rfl⟩, D0⟩ ?_ ?_⟩
    · rintro i σ H2 hi ⟨⟨v2, v3, v4, v5, v6, v7, v8, v9, v10, v11, v12, v13, v14, rfl⟩, D2⟩
      -- rows
      refine ⟨_, rfl, d, rfl, D2, fun p1 xs1 rs1 H3 ok1 hl1 hp1n hp1 hA1 D3 f3 => ?_⟩
      refine ⟨fun σ' H' => ∃ (p : Addr) (xs : List V) (rs : List Row), σ' = [some (.ref a), some (.ref d), some (.int (0 + (i : Nat))), some (.ref p), v4, v5, v6, v7, v8, v9, v10, v11, v12, v13, v14] ∧ Got H' d p xs rs, ?_, ?_⟩
      · refine ⟨_, rfl, d, 9, rfl, D3, by decide, by decide, fun r H4 r0 r9 D4 f4 => ⟨rfl, _, rfl, ?_⟩⟩
        have hp4 : H4 p1 = some (.lst xs1) := f4 _ _ hp1 (by simp [D2.ne_new hp1n])
        refine iteD (fun _ => ?_) (fun _ => ⟨p1, xs1, rs1, rfl, D4, hp4, hA1.frm f4, ok1, by omega, D2.ne_new hp1n⟩)
        -- one row, three hundred times
        refine ⟨(by show 4 ≤ sizeLine; decide), fun t1 ht1 => ?_⟩
        have D5 := D4.new (o := .tup [.int 3, .bl true, .int 3, .bl true]) ht1
        refine ⟨_, rfl, d, rfl, D5, fun t2 r2 H6 ok2 ht2n ht2 D6 f6 => ?_⟩
        have ht1' : H6 t1 = some (.tup (rowV (3, true, 3, true))) := f6.tups _ _ upd_same
        refine ⟨(by show 2 ≤ sizeLine; decide), fun l hl => ?_⟩
        have D7 := D6.new (o := .lst [.ref t1, .ref t2]) hl
        refine ⟨_, rfl, d, 2, rfl, D7, by decide, by decide, fun z H8 z0 z2 D8 f8 => ?_⟩
        have hl8 : H8 l = some (.lst [.ref t1, .ref t2]) := f8 _ _ upd_same (by simp [D6.ne_new hl])
        have h1 : H8 t1 = some (.tup (rowV (3, true, 3, true))) := f8.tups _ _ (by rw [upd_ne (ne_of_none ht1' hl)]; exact ht1')
        have h2 : H8 t2 = some (.tup (rowV r2)) := f8.tups _ _ (by rw [upd_ne (ne_of_none ht2 hl)]; exact ht2)
        obtain ⟨t, r, hat, htt, okr⟩ : ∃ (t : Addr) (r : Row), atI [V.ref t1, V.ref t2] z = some (.ref t) ∧ H8 t = some (.tup (rowV r)) ∧ okRow r := by
          have : z = 0 ∨ z = 1 := by omega
          rcases this with rfl | rfl
          · exact ⟨t1, _, rfl, h1, ⟨by decide, by decide⟩, by decide, by decide⟩
          · exact ⟨t2, _, rfl, h2, ok2⟩
        refine ⟨l, _, z, _, rfl, rfl, SqL.of hl8, hat, (by show 1 ≤ sizeLine; decide), fun q hq => ?_⟩
        have htq : (upd H8 q (.lst [.ref t])) t = some (.tup (rowV r)) := by rw [upd_ne (ne_of_none htt hq)]; exact htt
        refine ⟨q, 300, _, rfl, rfl, upd_same, by decide, by decide, (by show 1 * 300 ≤ sizeLine; decide), fun u hu => ?_⟩
        refine ⟨u, _, List.replicate 300 r, rfl, (D8.new hq).new hu, upd_same, ?_, fun x hx => ?_, by simp, (D8.new hq).ne_new hu⟩
        · have e1 : (List.replicate 300 r).map rowD = (List.replicate (300 : Int).toNat [rowD r]).flatten := by
            rw [List.map_replicate]
            rfl
          rw [e1]
          exact ((ImAll.cons (im_row htq) .nil).new hu).rep _
        · rw [List.mem_replicate] at hx
          rw [hx.2]
          exact okr
      rintro σ' H5 ⟨p, xs, rs, rfl, g5⟩
      refine ⟨fun σ' H' => ∃ (p : Addr) (xs : List V) (rs : List Row), σ' = [some (.ref a), some (.ref d), some (.int (0 + (i : Nat))), some (.ref p), v4, v5, v6, v7, v8, v9, v10, v11, v12, v13, v14] ∧ Got H' d p xs rs, ?_, ?_⟩
      · refine ⟨_, rfl, d, 3, rfl, g5.D, by decide, by decide, fun r H6 r0 r3 D6 f6 => ⟨rfl, _, rfl, ?_⟩⟩
        have g6 : Got H6 d p xs rs := ⟨D6, f6 _ _ g5.L (by simp [g5.np]), g5.A.frm f6, g5.ok, g5.len, g5.np⟩
        refine iteD (fun _ => ?_) (fun _ => ⟨p, xs, rs, rfl, g6⟩)
        have hxl := rows_len g6.A
        have hln := g6.len
        refine ⟨_, rfl, p, 40, xs, rfl, rfl, g6.L, by decide, by decide, (by show xs.length * 40 ≤ 16777216; omega), fun q hq => ?_⟩
        refine ⟨300, rfl, q, _, rfl, SqL.of upd_same, fun u hu => ?_⟩
        have hA7 : ImAll (upd H6 q (.lst (List.replicate (40 : Int).toNat xs).flatten)) (List.replicate (40 : Int).toNat xs).flatten ((List.replicate (40 : Int).toNat rs).flatten.map rowD) := by
          have := (g6.A.new (o := .lst (List.replicate (40 : Int).toNat xs).flatten) hq).rep (40 : Int).toNat
          rw [List.map_flatten, List.map_replicate]
          exact this
        refine ⟨u, _, (List.replicate (40 : Int).toNat rs).flatten.take 300, rfl, (g6.D.new hq).new hu, upd_same, ?_, fun x hx => ?_, by rw [List.length_take]; omega, (g6.D.new hq).ne_new hu⟩
        · have e1 : cutV (List.replicate (40 : Int).toNat xs).flatten none (some 300) = (List.replicate (40 : Int).toNat xs).flatten.take 300 := by
            unfold cutV
            rw [HT.sIx_none, List.drop_zero, Nat.sub_zero]
            have : HT.sIx (List.replicate (40 : Int).toNat xs).flatten.length (List.replicate (40 : Int).toNat xs).flatten.length (some 300) = min 300 (List.replicate (40 : Int).toNat xs).flatten.length := HT.sIx_nat _ _ 300
            rw [this]
            apply List.take_eq_take_iff.mpr
            omega
          rw [e1, List.map_take]
          exact (hA7.take 300).new hu
        · have hx' := List.mem_of_mem_take hx
          rw [List.mem_flatten] at hx'
          obtain ⟨l, hl, hxl⟩ := hx'
          rw [List.mem_replicate] at hl
          rw [hl.2] at hxl
          exact g6.ok x hxl
      rintro σ' H6 ⟨p, xs, rs, rfl, g6⟩
      have hxl := rows_len g6.A
      have hln := g6.len
      -- marks
      refine ⟨_, rfl, p, rfl, ⟨_, SqL.of g6.L⟩, fun M hM => ?_⟩
      have g6M := g6.same (Same.upd_new (o := .lst []) hM)
      refine lc_list (K := K) (a := p) (xs := xs) (fun i H7 => Got H7 d p xs rs ∧ H7 M = some (.lst (((rs.take i).map mark).map markV)))
        ⟨g6M, upd_same⟩ (fun i H7 _ ⟨g, _⟩ => SqL.of g.L) ?_ ?_
      · rintro j x H7 hj ⟨g7, hM7⟩
        obtain ⟨t, r, hrj, rfl, ht⟩ := rows_get' g7.A hj
        have hjl : j < rs.length := (List.getElem?_eq_some_iff.mp hrj).1
        have npM : p ≠ M := fun e => by rw [← e, g6.L] at hM; cases hM
        have fin : ∀ v, v = markV (mark r) → ∃ acc, H7 M = some (.lst acc) ∧ acc.length < sizeLine ∧ (Got (upd H7 M (.lst (acc ++ [v]))) d p xs rs ∧ (upd H7 M (.lst (acc ++ [v]))) M = some (.lst (((rs.take (j + 1)).map mark).map markV))) := by
          intro v hv
          refine ⟨_, hM7, by simp only [List.length_map, List.length_take]; exact small1000 (by omega), g7.updL hM7 (g6.D.ne_new hM) (Ne.symm npM), ?_⟩
          rw [upd_same, take_more hrj, hv]
          simp
        refine ⟨t, _, rfl, SqT.of ht, rfl, _, _, rfl, _, _, rfl, _, _, rfl, _, _, rfl, rfl, rfl, ?_⟩
        refine ⟨_, rfl, _, rfl, ?_⟩
        refine iteB (fun q1 => ?_) (fun q1 => iteF (fin _ ?_))
        · refine ⟨_, rfl, _, rfl, ?_⟩
          refine iteB (fun q2 => ?_) (fun q2 => iteF (fin _ ?_))
          · refine ⟨_, rfl, _, rfl, rfl, _, rfl, ?_⟩
            refine iteD (fun q3 => ?_) (fun q3 => fin _ ?_)
            · refine ⟨_, rfl, fin _ ?_⟩
              unfold mark
              rw [if_pos ⟨q1, q2, vint_inj.mp q3⟩]
              rfl
            · unfold mark
              rw [if_neg]
              · rfl
              · rintro ⟨_, _, z⟩
                exact q3 (by rw [z])
          · unfold mark
            rw [if_neg]
            · rfl
            · rintro ⟨_, z, _⟩
              rw [z] at q2
              cases q2
        · unfold mark
          rw [if_neg]
          · rfl
          · rintro ⟨z, _⟩
            rw [z] at q1
            cases q1
      rintro H7 ⟨g7, hM7⟩
      rw [hxl, List.take_length] at hM7
      generalize hms : rs.map mark = ms at hM7
      have hml : ms.length = rs.length := by rw [← hms, List.length_map]
      -- due, at
      refine ⟨(by show 0 ≤ sizeLine; decide), fun U hU => ?_⟩
      have g8 := g7.same (Same.upd_new (o := .lst []) hU)
      have nUM : U ≠ M := fun e => by rw [e, hM7] at hU; cases hU
      have nUp : U ≠ p := fun e => by rw [e, g7.L] at hU; cases hU
      have nUd : U ≠ d := g7.D.ne_new hU
      have hM8 : (upd H7 U (.lst [])) M = some (.lst (ms.map markV)) := by rw [upd_ne (Ne.symm nUM)]; exact hM7
      refine ⟨fun m σ H9 => ∃ (at_ : Nat) (ys : List V) (v2 v5 v6 v7 v8 v11 : Option V), σ = [some (.ref a), some (.ref d), v2, some (.ref p), some (.ref M), v5, v6, v7, v8, some (.ref U), some (.int at_), v11, v12, v13, v14] ∧ at_ ≤ rs.length ∧ m = rs.length - at_ ∧
        Got H9 d p xs rs ∧ H9 M = some (.lst (ms.map markV)) ∧ H9 U = some (.lst ys) ∧ ImAll H9 ys ((stTo ms at_).map strD) ∧ Fresh ms at_,
        ⟨_, 0, [], _, _, _, _, _, _, rfl, Nat.zero_le _, rfl, g8, hM8, upd_same, .nil, fun k s e z => by simp [stTo] at z⟩, ?_⟩
      · rintro m σ H9 ⟨at_, ys, v2, v5, v6, v7, v8, v11, rfl, hat, rfl, g9, hM9, hU9, hA9, hf9⟩
        refine ⟨_, rfl, _, rfl, p, _, rfl, .inl (SqL.of g9.L), _, _, rfl, rfl, _, rfl, ?_⟩
        refine iteD (fun hlt => ?_) (fun hge => ?_)
        · have hlt' : at_ < rs.length := by omega
          refine ⟨fun σ' H' => ∃ m', m' < rs.length - at_ ∧ ∃ (at_ : Nat) (ys : List V) (v2 v5 v6 v7 v8 v11 : Option V), σ' = [some (.ref a), some (.ref d), v2, some (.ref p), some (.ref M), v5, v6, v7, v8, some (.ref U), some (.int at_), v11, v12, v13, v14] ∧ at_ ≤ rs.length ∧ m' = rs.length - at_ ∧
            Got H' d p xs rs ∧ H' M = some (.lst (ms.map markV)) ∧ H' U = some (.lst ys) ∧ ImAll H' ys ((stTo ms at_).map strD) ∧ Fresh ms at_, fun _ _ z => z, ?_⟩
          have hget : ∀ j : Nat, j < rs.length → atI (ms.map markV) (j : Int) = some (markV (ms.getD j none)) := by
            intro j hj
            refine atI_nat ?_
            rw [List.getElem?_map, List.getD_eq_getElem?_getD, List.getElem?_eq_getElem (by omega)]
            rfl
          refine ⟨_, rfl, _, _, rfl, rfl, ?_⟩
          -- end
          refine ⟨fun m2 σ H' => ∃ en : Nat, σ = [some (.ref a), some (.ref d), v2, some (.ref p), some (.ref M), v5, v6, v7, v8, some (.ref U), some (.int at_), some (.int en), v12, v13, v14] ∧ H' = H9 ∧ at_ < en ∧ en ≤ rs.length ∧ m2 = rs.length - en ∧
              (ms.getD at_ none = none → en = at_ + 1) ∧ (∀ k, ms.getD at_ none = some k → stTo ms en = stTo ms at_ ++ [(k, (at_ : Int), (en : Int))]),
            ⟨_, at_ + 1, rfl, rfl, by omega, by omega, rfl, fun _ => rfl, fun k hk => stTo_first hk hf9⟩, ?_⟩
          rintro m2 σ H' ⟨en, rfl, rfl, h1, h2, rfl, h3, h4⟩
          -- behind the inner loop
          have behind : (en = rs.length ∨ ms.getD at_ none = none ∨ ms.getD en none ≠ ms.getD at_ none) →
              ∀ (N : L2.St → Hp → Prop), (∀ (ys : List V) (H' : Hp), Got H' d p xs rs → H' M = some (.lst (ms.map markV)) → H' U = some (.lst ys) → ImAll H' ys ((stTo ms en).map strD) → Fresh ms en → N [some (.ref a), some (.ref d), v2, some (.ref p), some (.ref M), v5, v6, v7, v8, some (.ref U), some (.int en), some (.int en), v12, v13, v14] H') →
              tSeq (tIfS (tTest (tOp rNotN (tOp (rIxL K) (tVar 4) (tVar 10)) (tC .non))) (tDrop (tBM K "list" rAppend (tVar 9) (tCons (tTup (tCons (tOp (rIxL K) (tVar 4) (tVar 10)) (tCons (tVar 10) (tCons (tVar 11) tNil)))) tNil))) tNext) (tAsg (tVar 11) (gName 10))
                { nx := N, rt := Q } [some (.ref a), some (.ref d), v2, some (.ref p), some (.ref M), v5, v6, v7, v8, some (.ref U), some (.int at_), some (.int en), v12, v13, v14] H' := by
            intro hend N hN
            refine ⟨_, rfl, _, rfl, M, _, _, _, rfl, rfl, SqL.of hM9, hget at_ hlt', rfl, _, rfl, ?_⟩
            cases hmk : ms.getD at_ none with
            | none =>
              refine iteF ⟨_, rfl, ?_⟩
              have e1 := h3 hmk
              subst e1
              refine hN ys H' g9 hM9 hU9 (by rw [stTo_none hmk]; exact hA9) fun k s e z he => ?_
              rw [stTo_none hmk] at z
              have := stTo_end ms at_ _ z
              simp only at this
              omega
            | some k =>
              refine iteT ?_
              refine ⟨_, rfl, .inl ⟨rfl, _, SqL.of hU9⟩, _, rfl, _, rfl, M, _, _, _, rfl, rfl, SqL.of hM9, by rw [hget at_ hlt', hmk], _, rfl, _, rfl, (by show 3 ≤ sizeLine; decide), fun u hu => ?_⟩
              have hU10 : (upd H' u (.tup [.int k, .int at_, .int en])) U = some (.lst ys) := by rw [upd_ne (ne_of_none hU9 hu)]; exact hU9
              have hM10 : (upd H' u (.tup [.int k, .int at_, .int en])) M = some (.lst (ms.map markV)) := by rw [upd_ne (ne_of_none hM9 hu)]; exact hM9
              have g10 := g9.same (Same.upd_new (o := .tup [.int k, .int at_, .int en]) hu)
              have hyl : ys.length ≤ at_ := by rw [hA9.length, List.length_map]; exact stTo_len _ _
              refine ⟨U, ys, _, rfl, rfl, hU10, small1000 (by omega), _, rfl, ?_⟩
              refine hN _ _ (g10.updL hU10 nUd nUp) (by rw [upd_ne (Ne.symm nUM)]; exact hM10) upd_same ?_ ?_
              · rw [h4 k hmk, List.map_append]
                refine ImAll.append ((hA9.new hu).updL hU10) (.cons (im_str (s := (k, (at_ : Int), (en : Int))) ?_) .nil)
                rw [upd_ne (Ne.symm (ne_of_none hU9 hu)), upd_same]
                rfl
              · intro k' s e z he hmm
                rw [h4 k hmk] at z
                simp at z
                obtain ⟨rfl, _, _⟩ := z
                rcases hend with h | h | h
                · rw [h, List.getD_eq_getElem?_getD, List.getElem?_eq_none (by omega)] at hmm
                  cases hmm
                · rw [hmk] at h
                  cases h
                · exact h (hmm.trans hmk.symm)
          have fin : (en = rs.length ∨ ms.getD at_ none = none ∨ ms.getD en none ≠ ms.getD at_ none) → _ := fun hend => behind hend (fun σ' H' => ∃ m', m' < rs.length - at_ ∧ ∃ (at_ : Nat) (ys : List V) (v2 v5 v6 v7 v8 v11 : Option V), σ' = [some (.ref a), some (.ref d), v2, some (.ref p), some (.ref M), v5, v6, v7, v8, some (.ref U), some (.int at_), v11, v12, v13, v14] ∧ at_ ≤ rs.length ∧ m' = rs.length - at_ ∧
            Got H' d p xs rs ∧ H' M = some (.lst (ms.map markV)) ∧ H' U = some (.lst ys) ∧ ImAll H' ys ((stTo ms at_).map strD) ∧ Fresh ms at_)
            fun ys H' a1 a2 a3 a4 a5 => ⟨_, by omega, en, ys, _, _, _, _, _, _, rfl, h2, rfl, a1, a2, a3, a4, a5⟩
          refine ⟨_, rfl, _, rfl, p, _, rfl, .inl (SqL.of g9.L), _, _, rfl, rfl, _, rfl, ?_⟩
          refine iteD (fun hen => ?_) (fun hen => iteF (fin (.inl (by omega))))
          have hen' : en < rs.length := by omega
          have hcs : (∃ k, ms.getD at_ none = some k) ∨ ms.getD at_ none = none := by
            cases ms.getD at_ none with
            | none => exact .inr rfl
            | some k => exact .inl ⟨k, rfl⟩
          rcases hcs with ⟨k, hmk⟩ | hmk
          · refine ⟨_, rfl, _, rfl, M, _, _, markV (some k), rfl, rfl, SqL.of hM9, (by rw [hget at_ hlt', hmk]), rfl, _, rfl, iteT ?_⟩
            have hsc : scal (markV (ms.getD en none)) (markV (some k)) = true := by cases ms.getD en none <;> rfl
            refine ⟨_, rfl, _, rfl, M, _, _, _, rfl, rfl, SqL.of hM9, hget en hen', _, rfl, _, rfl, M, _, _, _, rfl, rfl, SqL.of hM9, by rw [hget at_ hlt', hmk], hsc, _, rfl, ?_⟩
            refine iteD (fun heq => ?_) (fun hneq => fin (.inr (.inr fun z => hneq (by rw [z, hmk]))))
            have heq' : ms.getD en none = some k := by
              cases hz : ms.getD en none with
              | none => rw [hz] at heq; cases heq
              | some z => rw [hz] at heq; cases heq; rfl
            refine ⟨fun σ' H'' => ∃ m', m' < rs.length - en ∧ ∃ en : Nat, σ' = [some (.ref a), some (.ref d), v2, some (.ref p), some (.ref M), v5, v6, v7, v8, some (.ref U), some (.int at_), some (.int en), v12, v13, v14] ∧ H'' = H' ∧ at_ < en ∧ en ≤ rs.length ∧ m' = rs.length - en ∧
              (ms.getD at_ none = none → en = at_ + 1) ∧ (∀ k, ms.getD at_ none = some k → stTo ms en = stTo ms at_ ++ [(k, (at_ : Int), (en : Int))]), fun _ _ z => z, ?_⟩
            refine ⟨_, rfl, _, _, rfl, rfl, ?_⟩
            refine ⟨_, by omega, en + 1, rfl, rfl, by omega, by omega, rfl, (fun z => by rw [hmk] at z; cases z), fun k' hk' => ?_⟩
            have hkk : k' = k := by rw [hmk] at hk'; exact (Option.some.inj hk').symm
            subst hkk
            exact stTo_more heq' (h4 _ hmk)
          · exact ⟨_, rfl, _, rfl, M, _, _, markV none, rfl, rfl, SqL.of hM9, (by rw [hget at_ hlt', hmk]), rfl, _, rfl, iteF (iteF (fin (.inr (.inl hmk))))⟩
        · -- behind the walk
          have hae : at_ = rs.length := by omega
          subst hae
          refine ⟨_, rfl, p, _, rfl, .inl (SqL.of g9.L), fun l hl => ?_⟩
          have s10 := Same.upd_new (o := .lst xs) hl
          have nlp : l ≠ p := fun e => by rw [e, g9.L] at hl; cases hl
          refine ⟨2, rfl, by decide, by decide, for_range (lo := 0) (n := 2) (fun i σ H11 => (∃ v2 v5 v6 v7 v8 v11 v13 v14 : Option V, σ = [some (.ref a), some (.ref d), v2, some (.ref p), some (.ref M), v5, v6, v7, v8, some (.ref U), some (.int rs.length), v11, some (.ref l), v13, v14]) ∧ Same (upd H9 l (.lst xs)) H11)
            ⟨⟨_, _, _, _, _, _, _, _, rfl⟩, .refl _⟩ ?_ ?_⟩
          · rintro j σ H11 hj ⟨⟨v2, v5, v6, v7, v8, v11, v13, v14, rfl⟩, s11⟩
            have s911 := s10.trans s11
            have g11 := g9.same s911
            have hl11 : H11 l = some (.lst xs) := s11 _ _ upd_same
            have hU11 := s911 _ _ hU9
            have hA11 := hA9.same s911
            refine ⟨_, rfl, l, xs, rs, rfl, SqL.of hl11, g11.A, g11.ok, g11.len, fun q zs H12 hq hq12 hz s12 => ?_⟩
            rw [hms] at hz
            have g12 := g11.same s12
            have hU12 := s12 _ _ hU11
            refine ⟨_, rfl, _, rfl, _, _, .list ((stTo ms rs.length).map strD), rfl, .lst (SqL.of hq12) hz.dp, .lst (SqL.of hU12) (hA11.same s12).dp, lv_strs _ (by have := stTo_len ms rs.length; omega), fun H13 s13 => ⟨_, rfl, iteF ?_⟩⟩
            have g13 := g12.same s13
            have hl13 := s13 _ _ (s12 _ _ hl11)
            refine ⟨_, rfl, _, rfl, .list (rs.map rowD), .list (rs.map rowD), .lst (SqL.of hl13) g13.A.dp, .lst (SqL.of g13.L) g13.A.dp, shaped_lv (lv_rows (by omega)) (by decide), shaped_lv (lv_rows (by omega)) (by decide), _, rfl, ?_⟩
            rw [eqv_refl (lv_rows (rs := rs) (by omega))]
            refine iteF ?_
            have hq13 := s13 _ _ hq12
            refine ⟨_, rfl, .inl ⟨rfl, _, SqL.of hq13⟩, (by show 0 ≤ sizeLine; decide), fun e he => ?_⟩
            have hq14 : (upd H13 e (.tup [])) q = some (.lst zs) := by rw [upd_ne (ne_of_none hq13 he)]; exact hq13
            have hzl : zs.length ≤ 300 := by rw [hz.length, List.length_map]; have := stTo_len ms rs.length; omega
            refine ⟨q, zs, _, rfl, rfl, hq14, small1000 (by omega), ⟨_, _, _, _, _, _, _, _, rfl⟩, ?_⟩
            exact (((Frm.of_same (S := []) s11).trans (Frm.of_same ((s12.trans s13).trans (Same.upd_new he)))).own (s11.free hq) (Frm.updL hq14)).same
          · rintro σ H11 ⟨⟨v2, v5, v6, v7, v8, v11, v13, v14, rfl⟩, s11⟩
            exact ⟨⟨_, _, _, _, _, _, _, _, _, _, _, _, _, rfl⟩, (g9.same (s10.trans s11)).D⟩
    · rintro σ H2 ⟨⟨v2, v3, v4, v5, v6, v7, v8, v9, v10, v11, v12, v13, v14, rfl⟩, D2⟩
      exact k H2

end
end TL

namespace TL
open PySem L2
/-! ### what the top has written; the last theorem -/
theorem all_mk {l : PySem.W.OpenLaw} {w : World} {K : PySem.W.Frag} {h : Heap} {mg : Str → Option Value} {fa : Addr} (X : K.In h) (G : h.Ns mainGlobals mg) (hfa : mg "law" = some (.ref fa)) {C_LineError a_is_between a_is_row a_need_log a_stretches a__law_dice a__law_off a__law_alike a__law_row a__law_log a_law : Addr}
    {od_is_between an_is_between od_is_row an_is_row od_need_log an_need_log od_stretches an_stretches od__law_dice an__law_dice od__law_off an__law_off od__law_alike an__law_alike od__law_row an__law_row od__law_log an__law_log od_law an_law : Option Addr} {sl_is_between sl_is_row sl_need_log sl_stretches sl__law_dice sl__law_off sl__law_alike sl__law_row sl__law_log sl_law : Array (Option Value)} {oc_is_between kV_is_between dc_is_between pm_is_between cd_is_between ct_is_between oc_is_row kV_is_row dc_is_row pm_is_row cd_is_row ct_is_row oc_need_log kV_need_log dc_need_log pm_need_log cd_need_log ct_need_log oc_stretches kV_stretches dc_stretches pm_stretches cd_stretches ct_stretches oc__law_dice kV__law_dice dc__law_dice pm__law_dice cd__law_dice ct__law_dice oc__law_off kV__law_off dc__law_off pm__law_off cd__law_off ct__law_off oc__law_alike kV__law_alike dc__law_alike pm__law_alike cd__law_alike ct__law_alike oc__law_row kV__law_row dc__law_row pm__law_row cd__law_row ct__law_row oc__law_log kV__law_log dc__law_log pm__law_log cd__law_log ct__law_log oc_law kV_law dc_law pm_law cd_law ct_law : Value} {tk_MOST tk_MOST_ROWS : Tok}
    (hC_LineError : PySem.W.nsIn K mainGlobals "LineError" = some (some (.ref C_LineError)))
    (hg_is_between : PySem.W.nsIn K mainGlobals "is_between" = some (some (.ref a_is_between)))
    (hl_is_between : K.lookup a_is_between = some ⟨oc_is_between, od_is_between, .func (PySem.W.fnOf "is_between" "is_between" (defArgs s_is_between) (defBody s_is_between) (defScope s_is_between) .none kV_is_between dc_is_between pm_is_between an_is_between cd_is_between ct_is_between), sl_is_between⟩)
    (hc_is_between : PySem.W.codeIn K cd_is_between "is_between" = true)
    (hk_is_between : PySem.W.keepIn K (.ref a_is_between) = true)
    (hg_is_row : PySem.W.nsIn K mainGlobals "is_row" = some (some (.ref a_is_row)))
    (hl_is_row : K.lookup a_is_row = some ⟨oc_is_row, od_is_row, .func (PySem.W.fnOf "is_row" "is_row" (defArgs s_is_row) (defBody s_is_row) (defScope s_is_row) .none kV_is_row dc_is_row pm_is_row an_is_row cd_is_row ct_is_row), sl_is_row⟩)
    (hc_is_row : PySem.W.codeIn K cd_is_row "is_row" = true)
    (hk_is_row : PySem.W.keepIn K (.ref a_is_row) = true)
    (hg_need_log : PySem.W.nsIn K mainGlobals "need_log" = some (some (.ref a_need_log)))
    (hl_need_log : K.lookup a_need_log = some ⟨oc_need_log, od_need_log, .func (PySem.W.fnOf "need_log" "need_log" (defArgs s_need_log) (defBody s_need_log) (defScope s_need_log) .none kV_need_log dc_need_log pm_need_log an_need_log cd_need_log ct_need_log), sl_need_log⟩)
    (hc_need_log : PySem.W.codeIn K cd_need_log "need_log" = true)
    (hk_need_log : PySem.W.keepIn K (.ref a_need_log) = true)
    (hg_stretches : PySem.W.nsIn K mainGlobals "stretches" = some (some (.ref a_stretches)))
    (hl_stretches : K.lookup a_stretches = some ⟨oc_stretches, od_stretches, .func (PySem.W.fnOf "stretches" "stretches" (defArgs s_stretches) (defBody s_stretches) (defScope s_stretches) .none kV_stretches dc_stretches pm_stretches an_stretches cd_stretches ct_stretches), sl_stretches⟩)
    (hc_stretches : PySem.W.codeIn K cd_stretches "stretches" = true)
    (hk_stretches : PySem.W.keepIn K (.ref a_stretches) = true)
    (hg__law_dice : PySem.W.nsIn K mainGlobals "_law_dice" = some (some (.ref a__law_dice)))
    (hl__law_dice : K.lookup a__law_dice = some ⟨oc__law_dice, od__law_dice, .func (PySem.W.fnOf "_law_dice" "_law_dice" (defArgs s__law_dice) (defBody s__law_dice) (defScope s__law_dice) .none kV__law_dice dc__law_dice pm__law_dice an__law_dice cd__law_dice ct__law_dice), sl__law_dice⟩)
    (hc__law_dice : PySem.W.codeIn K cd__law_dice "_law_dice" = true)
    (hk__law_dice : PySem.W.keepIn K (.ref a__law_dice) = true)
    (hg__law_off : PySem.W.nsIn K mainGlobals "_law_off" = some (some (.ref a__law_off)))
    (hl__law_off : K.lookup a__law_off = some ⟨oc__law_off, od__law_off, .func (PySem.W.fnOf "_law_off" "_law_off" (defArgs s__law_off) (defBody s__law_off) (defScope s__law_off) .none kV__law_off dc__law_off pm__law_off an__law_off cd__law_off ct__law_off), sl__law_off⟩)
    (hc__law_off : PySem.W.codeIn K cd__law_off "_law_off" = true)
    (hk__law_off : PySem.W.keepIn K (.ref a__law_off) = true)
    (hg__law_alike : PySem.W.nsIn K mainGlobals "_law_alike" = some (some (.ref a__law_alike)))
    (hl__law_alike : K.lookup a__law_alike = some ⟨oc__law_alike, od__law_alike, .func (PySem.W.fnOf "_law_alike" "_law_alike" (defArgs s__law_alike) (defBody s__law_alike) (defScope s__law_alike) .none kV__law_alike dc__law_alike pm__law_alike an__law_alike cd__law_alike ct__law_alike), sl__law_alike⟩)
    (hc__law_alike : PySem.W.codeIn K cd__law_alike "_law_alike" = true)
    (hk__law_alike : PySem.W.keepIn K (.ref a__law_alike) = true)
    (hg__law_row : PySem.W.nsIn K mainGlobals "_law_row" = some (some (.ref a__law_row)))
    (hl__law_row : K.lookup a__law_row = some ⟨oc__law_row, od__law_row, .func (PySem.W.fnOf "_law_row" "_law_row" (defArgs s__law_row) (defBody s__law_row) (defScope s__law_row) .none kV__law_row dc__law_row pm__law_row an__law_row cd__law_row ct__law_row), sl__law_row⟩)
    (hc__law_row : PySem.W.codeIn K cd__law_row "_law_row" = true)
    (hk__law_row : PySem.W.keepIn K (.ref a__law_row) = true)
    (hg__law_log : PySem.W.nsIn K mainGlobals "_law_log" = some (some (.ref a__law_log)))
    (hl__law_log : K.lookup a__law_log = some ⟨oc__law_log, od__law_log, .func (PySem.W.fnOf "_law_log" "_law_log" (defArgs s__law_log) (defBody s__law_log) (defScope s__law_log) .none kV__law_log dc__law_log pm__law_log an__law_log cd__law_log ct__law_log), sl__law_log⟩)
    (hc__law_log : PySem.W.codeIn K cd__law_log "_law_log" = true)
    (hk__law_log : PySem.W.keepIn K (.ref a__law_log) = true)
    (hg_law : PySem.W.nsIn K mainGlobals "law" = some (some (.ref a_law)))
    (hl_law : K.lookup a_law = some ⟨oc_law, od_law, .func (PySem.W.fnOf "law" "law" (defArgs s_law) (defBody s_law) (defScope s_law) .none kV_law dc_law pm_law an_law cd_law ct_law), sl_law⟩)
    (hc_law : PySem.W.codeIn K cd_law "law" = true)
    (hk_law : PySem.W.keepIn K (.ref a_law) = true)
    (x_LineError : PySem.W.excIn K C_LineError [.type "ValueError", .type "Exception", .type "BaseException", .type "object"] "ValueError.__new__" = true)
    (k_LineError : PySem.W.keepIn K (.ref C_LineError) = true)
    (s_LineError : PySem.W.subIn K (.ref C_LineError) (.type "BaseException") = some true)
    (t_LineError : PySem.W.typeIn K (.ref C_LineError) = some (.type "type"))
    (hv_MOST : PySem.W.nsIn K mainGlobals "MOST" = some (some (.int 9 tk_MOST)))
    (hv_MOST_ROWS : PySem.W.nsIn K mainGlobals "MOST_ROWS" = some (some (.int 300 tk_MOST_ROWS)))
    (z_abs : PySem.W.nsIn K mainGlobals "abs" = some none)
    (z_all : PySem.W.nsIn K mainGlobals "all" = some none)
    (z_bool : PySem.W.nsIn K mainGlobals "bool" = some none)
    (z_enumerate : PySem.W.nsIn K mainGlobals "enumerate" = some none)
    (z_int : PySem.W.nsIn K mainGlobals "int" = some none)
    (z_isinstance : PySem.W.nsIn K mainGlobals "isinstance" = some none)
    (z_len : PySem.W.nsIn K mainGlobals "len" = some none)
    (z_list : PySem.W.nsIn K mainGlobals "list" = some none)
    (z_range : PySem.W.nsIn K mainGlobals "range" = some none)
    (z_str : PySem.W.nsIn K mainGlobals "str" = some none)
    (z_tuple : PySem.W.nsIn K mainGlobals "tuple" = some none) :
    ∃ fd : FuncData, (∀ (s : Shared) (v : Value), BindsTo s fd ⟨[v], []⟩ [("_law_script", v)]) ∧ ∀ base : Heap, K.In base → base.Ns mainGlobals mg → FnOk l.prog w K mg base CX0 5 fa fd ["_law_script"] (spLaw K) := by
  have e := hfa.symm.trans (PySem.W.mg_of X G hg_law)
  cases e
  let T : Txt K mg := {
    a_is_between := a_is_between
    fd_is_between := _
    F_is_between := fun_mk (st := s_is_between) hl_is_between hc_is_between hk_is_between
    g_is_between := PySem.W.mg_of X G hg_is_between
    b_is_between := (fun_mk (st := s_is_between) hl_is_between hc_is_between hk_is_between).binds (ps := P_is_between) (fun _ _ _ _ _ _ us hl => match us, hl with | [_, _, _], _ => rfl)
    a_is_row := a_is_row
    fd_is_row := _
    F_is_row := fun_mk (st := s_is_row) hl_is_row hc_is_row hk_is_row
    g_is_row := PySem.W.mg_of X G hg_is_row
    b_is_row := (fun_mk (st := s_is_row) hl_is_row hc_is_row hk_is_row).binds (ps := P_is_row) (fun _ _ _ _ _ _ us hl => match us, hl with | [_], _ => rfl)
    a_need_log := a_need_log
    fd_need_log := _
    F_need_log := fun_mk (st := s_need_log) hl_need_log hc_need_log hk_need_log
    g_need_log := PySem.W.mg_of X G hg_need_log
    b_need_log := (fun_mk (st := s_need_log) hl_need_log hc_need_log hk_need_log).binds (ps := P_need_log) (fun _ _ _ _ _ _ us hl => match us, hl with | [_], _ => rfl)
    a_stretches := a_stretches
    fd_stretches := _
    F_stretches := fun_mk (st := s_stretches) hl_stretches hc_stretches hk_stretches
    g_stretches := PySem.W.mg_of X G hg_stretches
    b_stretches := (fun_mk (st := s_stretches) hl_stretches hc_stretches hk_stretches).binds (ps := P_stretches) (fun _ _ _ _ _ _ us hl => match us, hl with | [_], _ => rfl)
    a__law_dice := a__law_dice
    fd__law_dice := _
    F__law_dice := fun_mk (st := s__law_dice) hl__law_dice hc__law_dice hk__law_dice
    g__law_dice := PySem.W.mg_of X G hg__law_dice
    b__law_dice := (fun_mk (st := s__law_dice) hl__law_dice hc__law_dice hk__law_dice).binds (ps := P__law_dice) (fun _ _ _ _ _ _ us hl => match us, hl with | [_, _], _ => rfl)
    a__law_off := a__law_off
    fd__law_off := _
    F__law_off := fun_mk (st := s__law_off) hl__law_off hc__law_off hk__law_off
    g__law_off := PySem.W.mg_of X G hg__law_off
    b__law_off := (fun_mk (st := s__law_off) hl__law_off hc__law_off hk__law_off).binds (ps := P__law_off) (fun _ _ _ _ _ _ us hl => match us, hl with | [_, _], _ => rfl)
    a__law_alike := a__law_alike
    fd__law_alike := _
    F__law_alike := fun_mk (st := s__law_alike) hl__law_alike hc__law_alike hk__law_alike
    g__law_alike := PySem.W.mg_of X G hg__law_alike
    b__law_alike := (fun_mk (st := s__law_alike) hl__law_alike hc__law_alike hk__law_alike).binds (ps := P__law_alike) (fun _ _ _ _ _ _ us hl => match us, hl with | [_, _], _ => rfl)
    a__law_row := a__law_row
    fd__law_row := _
    F__law_row := fun_mk (st := s__law_row) hl__law_row hc__law_row hk__law_row
    g__law_row := PySem.W.mg_of X G hg__law_row
    b__law_row := (fun_mk (st := s__law_row) hl__law_row hc__law_row hk__law_row).binds (ps := P__law_row) (fun _ _ _ _ _ _ us hl => match us, hl with | [_], _ => rfl)
    a__law_log := a__law_log
    fd__law_log := _
    F__law_log := fun_mk (st := s__law_log) hl__law_log hc__law_log hk__law_log
    g__law_log := PySem.W.mg_of X G hg__law_log
    b__law_log := (fun_mk (st := s__law_log) hl__law_log hc__law_log hk__law_log).binds (ps := P__law_log) (fun _ _ _ _ _ _ us hl => match us, hl with | [_], _ => rfl)
    a_law := fa
    fd_law := _
    F_law := fun_mk (st := s_law) hl_law hc_law hk_law
    g_law := PySem.W.mg_of X G hg_law
    b_law := (fun_mk (st := s_law) hl_law hc_law hk_law).binds (ps := P_law) (fun _ _ _ _ _ _ us hl => match us, hl with | [_], _ => rfl)
    C_LineError := C_LineError
    c_LineError := PySem.W.mg_of X G hC_LineError
    k_LineError := k_LineError
    s_LineError := s_LineError
    t_LineError := t_LineError
    x_LineError := x_LineError
    tk_MOST := tk_MOST
    v_MOST := PySem.W.mg_of X G hv_MOST
    tk_MOST_ROWS := tk_MOST_ROWS
    v_MOST_ROWS := PySem.W.mg_of X G hv_MOST_ROWS
    n_abs := PySem.W.mg_none_of X G z_abs
    n_all := PySem.W.mg_none_of X G z_all
    n_bool := PySem.W.mg_none_of X G z_bool
    n_enumerate := PySem.W.mg_none_of X G z_enumerate
    n_int := PySem.W.mg_none_of X G z_int
    n_isinstance := PySem.W.mg_none_of X G z_isinstance
    n_len := PySem.W.mg_none_of X G z_len
    n_list := PySem.W.mg_none_of X G z_list
    n_range := PySem.W.mg_none_of X G z_range
    n_str := PySem.W.mg_none_of X G z_str
    n_tuple := PySem.W.mg_none_of X G z_tuple }
  exact ⟨_, fun s v => .of_eq rfl, fun base _ _ => ok_law T⟩
theorem walk {l : PySem.W.OpenLaw} {q : Program} {loose : List Str} {XP : (Str → Option Value) → Heap → Prop} {YP : World → Heap → Prop} {d : DefRec} {K : Params → PySem.W.Frag} (hn : l.most = some 63) (hdf : d.params.defaults = [])
    (hY : ∀ (w : World) (h : Heap), YP w h → (K w.params).In h)
    (F : ∀ (w : World) (mg : Str → Option Value) (fa : Addr) (h : Heap), (K w.params).In h → h.Ns mainGlobals mg → mg d.name = some (.ref fa) →
      ∃ fd : FuncData, (∀ (s : Shared) (u : Value), BindsTo s fd ⟨[u], []⟩ [("_law_script", u)]) ∧ ∀ base : Heap, (K w.params).In base → base.Ns mainGlobals mg → FnOk l.prog w (K w.params) mg base CX0 5 fa fd ["_law_script"] (spLaw (K w.params))) :
    PySem.W.WalkO q loose XP YP l.row.toRowW d [] (fun f vs => PySem.call f vs) :=
  L2.walk_of (n := 63) (k := 5) (x := "_law_script") (CX := fun _ => CX0) (sp := fun w => spLaw (K w.params)) hn (by decide) hdf ⟨rfl, by decide, by decide⟩ hY F (fun _ _ a ns hl _ hS => ⟨a, ns, rfl, hS, hl, fun _ => rfl⟩) fun _ _ _ _ _ z => z
end TL
open PySem PySem.W PyProof.Rows
set_option maxRecDepth 100000 in
set_option maxHeartbeats 0 in
theorem PySem.Challenge.cw_trainline_k12_stretches_holds : PySem.Challenge.rw_trainline_k12_stretches.Holds := by
  w_on; o_law; k_head; (case hw => w_witness2)
  k_fill
  refine TL.walk (l := PySem.Challenge.rw_trainline_k12_stretches) rfl rfl (fun w h Y => PySem.W.kIn_of Y) ?F
  case F =>
    intro w mg fa h KX G hmg
    refine' TL.all_mk KX G hmg ?hC_LineError ?hg_is_between ?hl_is_between ?hc_is_between ?hk_is_between ?hg_is_row ?hl_is_row ?hc_is_row ?hk_is_row ?hg_need_log ?hl_need_log ?hc_need_log ?hk_need_log ?hg_stretches ?hl_stretches ?hc_stretches ?hk_stretches ?hg__law_dice ?hl__law_dice ?hc__law_dice ?hk__law_dice ?hg__law_off ?hl__law_off ?hc__law_off ?hk__law_off ?hg__law_alike ?hl__law_alike ?hc__law_alike ?hk__law_alike ?hg__law_row ?hl__law_row ?hc__law_row ?hk__law_row ?hg__law_log ?hl__law_log ?hc__law_log ?hk__law_log ?hg_law ?hl_law ?hc_law ?hk_law ?x_LineError ?k_LineError ?s_LineError ?t_LineError ?hv_MOST ?hv_MOST_ROWS ?z_abs ?z_all ?z_bool ?z_enumerate ?z_int ?z_isinstance ?z_len ?z_list ?z_range ?z_str ?z_tuple
    (case hC_LineError => first | k_is | rfl)
    (case hg_is_between => first | k_is | rfl)
    (case hl_is_between => first | k_is | rfl)
    (case hc_is_between => first | k_is | rfl)
    (case hk_is_between => first | k_is | rfl)
    (case hg_is_row => first | k_is | rfl)
    (case hl_is_row => first | k_is | rfl)
    (case hc_is_row => first | k_is | rfl)
    (case hk_is_row => first | k_is | rfl)
    (case hg_need_log => first | k_is | rfl)
    (case hl_need_log => first | k_is | rfl)
    (case hc_need_log => first | k_is | rfl)
    (case hk_need_log => first | k_is | rfl)
    (case hg_stretches => first | k_is | rfl)
    (case hl_stretches => first | k_is | rfl)
    (case hc_stretches => first | k_is | rfl)
    (case hk_stretches => first | k_is | rfl)
    (case hg__law_dice => first | k_is | rfl)
    (case hl__law_dice => first | k_is | rfl)
    (case hc__law_dice => first | k_is | rfl)
    (case hk__law_dice => first | k_is | rfl)
    (case hg__law_off => first | k_is | rfl)
    (case hl__law_off => first | k_is | rfl)
    (case hc__law_off => first | k_is | rfl)
    (case hk__law_off => first | k_is | rfl)
    (case hg__law_alike => first | k_is | rfl)
    (case hl__law_alike => first | k_is | rfl)
    (case hc__law_alike => first | k_is | rfl)
    (case hk__law_alike => first | k_is | rfl)
    (case hg__law_row => first | k_is | rfl)
    (case hl__law_row => first | k_is | rfl)
    (case hc__law_row => first | k_is | rfl)
    (case hk__law_row => first | k_is | rfl)
    (case hg__law_log => first | k_is | rfl)
    (case hl__law_log => first | k_is | rfl)
    (case hc__law_log => first | k_is | rfl)
    (case hk__law_log => first | k_is | rfl)
    (case hg_law => first | k_is | rfl)
    (case hl_law => first | k_is | rfl)
    (case hc_law => first | k_is | rfl)
    (case hk_law => first | k_is | rfl)
    (case x_LineError => k_exc)
    (case k_LineError => first | k_is | rfl)
    (case s_LineError => first | k_is | rfl)
    (case t_LineError => first | k_is | rfl)
    (case hv_MOST => first | k_is | rfl)
    (case hv_MOST_ROWS => first | k_is | rfl)
    (case z_abs => first | k_is | rfl)
    (case z_all => first | k_is | rfl)
    (case z_bool => first | k_is | rfl)
    (case z_enumerate => first | k_is | rfl)
    (case z_int => first | k_is | rfl)
    (case z_isinstance => first | k_is | rfl)
    (case z_len => first | k_is | rfl)
    (case z_list => first | k_is | rfl)
    (case z_range => first | k_is | rfl)
    (case z_str => first | k_is | rfl)
    (case z_tuple => first | k_is | rfl)
