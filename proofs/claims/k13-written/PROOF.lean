import PyProof.Rows.All
import Wide.All
import OpenK.AllK
import Wide.FinOn
import HandS.ForMost
import HandS.Exc
import HandS.TryOnly
import HandS.ExcOwn
import HandS.WordsExc
import HandS.IsInst
import HandS.TupAny
import HandS.SetFor
import HandS.Strs
import HandS.Steps
import HandS.Style
import HandS.Deep
import PySem.Challenge.RW_trainline_k13_written_and_read
set_option Elab.async false
set_option linter.all false
set_option maxRecDepth 100000
set_option maxHeartbeats 4000000
namespace TL
open PySem PySem.Spec PyProof.Rows L2
/-! ### heaps -/
/-- what was tracked and isn't in S stays; tuples stay -/
structure Frm (S : List Addr) (H H' : Hp) : Prop where
  keep : ∀ b o, H b = some o → b ∉ S → H' b = some o
  tups : ∀ b ys, H b = some (.tup ys) → H' b = some (.tup ys)
instance {S : List Addr} {H H' : Hp} : CoeFun (Frm S H H') (fun _ => ∀ b o, H b = some o → b ∉ S → H' b = some o) := ⟨Frm.keep⟩
theorem Frm.refl (S : List Addr) (H : Hp) : Frm S H H := ⟨fun _ _ e _ => e, fun _ _ e => e⟩
theorem Frm.trans {S : List Addr} {H H1 H2 : Hp} (a : Frm S H H1) (b : Frm S H1 H2) : Frm S H H2 := ⟨fun c o e h => b.keep c o (a.keep c o e h) h, fun c o e => b.tups c o (a.tups c o e)⟩
theorem Frm.mono {S S' : List Addr} {H H1 : Hp} (a : Frm S H H1) (h : ∀ x ∈ S, x ∈ S') : Frm S' H H1 := ⟨fun c o e hn => a.keep c o e fun z => hn (h _ z), a.tups⟩
theorem Frm.of_same {S : List Addr} {H H1 : Hp} (a : Same H H1) : Frm S H H1 := ⟨fun c o e _ => a c o e, fun c o e => a c _ e⟩
theorem Frm.same {H H1 : Hp} (a : Frm [] H H1) : Same H H1 := fun c o e => a.keep c o e (by simp)
/-- something that is no tuple is written -/
theorem Frm.updN {H : Hp} {d : Addr} {o : HO} (n : ∀ ys, H d ≠ some (.tup ys)) : Frm [d] H (L2.upd H d o) := ⟨fun b u e h => by
  rw [upd_ne (fun z => h (by simp [z]))]
  exact e, fun b ys e => by
  rw [upd_ne (fun z => by rw [z] at e; exact n ys e)]
  exact e⟩
theorem Frm.updL {H : Hp} {d : Addr} {o : HO} {xs : List V} (h : H d = some (.lst xs)) : Frm [d] H (L2.upd H d o) := Frm.updN fun ys z => by rw [h] at z; cases z
theorem Frm.updI {H : Hp} {d C dx : Addr} {o : HO} {fs : List (Str × V)} (h : H d = some (.ins C dx fs)) : Frm [d] H (L2.upd H d o) := Frm.updN fun ys z => by rw [h] at z; cases z
theorem Frm.updK {H : Hp} {d : Addr} {o : HO} {kvs : List (Key × V)} (h : H d = some (.dK kvs)) : Frm [d] H (L2.upd H d o) := Frm.updN fun ys z => by rw [h] at z; cases z
theorem Frm.new {S : List Addr} {H : Hp} {p : Addr} {o : HO} (n : H p = none) : Frm S H (L2.upd H p o) := ⟨fun b u e _ => by
  rw [upd_ne (ne_of_none e n)]
  exact e, fun b u e => by
  rw [upd_ne (ne_of_none e n)]
  exact e⟩
/-- what is written was made since: all that stood ahead stands -/
theorem Frm.own {S : List Addr} {H H1 H2 : Hp} (a : Frm S H H1) {l : Addr} (hl : H l = none) (b : Frm [l] H1 H2) : Frm S H H2 := ⟨fun c o e h => b.keep c o (a.keep c o e h) (by
  simp only [List.mem_singleton]
  exact ne_of_none e hl), fun c o e => b.tups c o (a.tups c o e)⟩
theorem Frm.free {S : List Addr} {H H1 : Hp} (a : Frm S H H1) {l : Addr} (h : H1 l = none) (hs : l ∉ S) : H l = none := by
  cases q : H l with
  | none => rfl
  | some o => rw [a.keep l o q hs] at h; cases h
theorem Same.upd_new {H : Hp} {p : Addr} {o : HO} (n : H p = none) : Same H (L2.upd H p o) := fun b u e => by
  rw [upd_ne (ne_of_none e n)]
  exact e
/-- a tuple isn't among what may be written -/
theorem iteD {p A B : Prop} [Decidable p] (h1 : p → A) (h2 : ¬ p → B) : if decide p = true then A else B := by
  by_cases h : p
  · rw [if_pos (decide_eq_true h)]
    exact h1 h
  · rw [if_neg (by simp [h])]
    exact h2 h
theorem iteN {p A B : Prop} [Decidable p] (h1 : ¬ p → A) (h2 : p → B) : if (!decide p) = true then A else B := by
  by_cases h : p
  · rw [if_neg (by simp [h])]
    exact h2 h
  · rw [if_pos (by simp [h])]
    exact h1 h
theorem iteB {b : Bool} {A B : Prop} (h1 : b = true → A) (h2 : b = false → B) : if b = true then A else B := by
  cases b
  · rw [if_neg (by simp)]; exact h2 rfl
  · rw [if_pos rfl]; exact h1 rfl
theorem vint_inj {i j : Int} : (V.int i = V.int j) ↔ i = j := ⟨fun h => by cases h; rfl, fun h => by rw [h]⟩
theorem getmap {α : Type} {f : α → V} {ns : List α} {i : Nat} {y : V} (h : (ns.map f)[i]? = some y) : ∃ z, ns[i]? = some z ∧ y = f z := by
  rw [List.getElem?_map] at h
  cases e : ns[i]? with
  | none => rw [e] at h; cases h
  | some z => rw [e] at h; exact ⟨z, rfl, (Option.some.inj h).symm⟩
theorem take_more {α : Type} : ∀ {l : List α} {i : Nat} {x : α}, l[i]? = some x → l.take (i + 1) = l.take i ++ [x]
  | [], i, x, h => by simp at h
  | a :: l, 0, x, h => by
    have e : a = x := Option.some.inj h
    subst e
    rfl
  | a :: l, i + 1, x, h => by
    have ih := take_more (l := l) (i := i) (x := x) h
    show a :: l.take (i + 1) = a :: l.take i ++ [x]
    rw [ih]
    rfl
/-! ### loops over enumerate(..) -/
/-- the invariant of a for over J -/
abbrev ForW (J : It) (g : TG) (tb : TS) (D : Ends) (σ : L2.St) (H : Hp) : Prop :=
  ∃ W : Nat → Nat → L2.St → Hp → Prop, (∃ m, W 0 m σ H) ∧ ∀ i m σ H, W i m σ H → (J.stop i H ∧ D.nx σ H) ∨
    (J.go i H ∧ ∃ N : L2.St → Hp → Prop, (∀ σ' H', N σ' H' → ∃ m', m' < m ∧ W (i + 1) m' σ' H') ∧ ∀ x H', J.yld i H x H' → g x σ H' fun σ2 H2 => tb { D with nx := N, ct := N, bk := D.nx } σ2 H2)
abbrev LcW (J : It) (g : TG) (tt : TT) (te : TE) (vs : List Nat) (σ : L2.St) (H1 : Hp) (D : Addr) (Qd : Hp → Prop) : Prop :=
  ∃ W : Nat → Nat → Hp → Prop, (∃ m, W 0 m (upd H1 D (.lst []))) ∧ ∀ i m H, W i m H → (J.stop i H ∧ Qd H) ∨
    (J.go i H ∧ ∃ Nx : Hp → Prop, (∀ H', Nx H' → ∃ m', m' < m ∧ W (i + 1) m' H') ∧ ∀ x H', J.yld i H x H' → g x (wipe σ vs) H' fun σ2 H2 => wipe σ2 vs = wipe σ vs ∧ tt σ2 H2 fun b H3 =>
      if b = true then te σ2 H3 fun y H4 => ∃ acc, H4 D = some (.lst acc) ∧ acc.length < sizeLine ∧ Nx (upd H4 D (.lst (acc ++ [y]))) else Nx H3)
theorem for_enum {K : PySem.W.Frag} {a : Addr} {xs : List V} {g : TG} {tb : TS} {D : Ends} {σ : L2.St} {H : Hp} (Pv : Nat → L2.St → Hp → Prop) (h0 : Pv 0 σ H) (hl : ∀ i σ H, i ≤ xs.length → Pv i σ H → SqL K H a xs)
    (hs : ∀ (i : Nat) (x : V) (T : Addr) (σ : L2.St) (H : Hp), xs[i]? = some x → Pv i σ H → H T = none → g (.ref T) σ (upd H T (.tup [.int (i : Nat), x])) fun σ2 H2 => tb { D with nx := Pv (i + 1), ct := Pv (i + 1), bk := D.nx } σ2 H2)
    (hd : ∀ σ H, Pv xs.length σ H → D.nx σ H) : ForW (Ite K a) g tb D σ H := by
  refine ⟨fun i m σ H => m = xs.length - i ∧ i ≤ xs.length ∧ Pv i σ H, ⟨_, rfl, Nat.zero_le _, h0⟩, fun i m σ H hw => ?_⟩
  obtain ⟨rfl, hi, p⟩ := hw
  have q := hl i σ H hi p
  rcases Nat.lt_or_ge i xs.length with hlt | hge
  · refine .inr ⟨⟨xs, xs[i], q, by simp [hlt]⟩, Pv (i + 1), fun σ' H' p' => ⟨xs.length - (i + 1), by omega, rfl, hlt, p'⟩, fun v H' y => ?_⟩
    obtain ⟨T, x, rfl, hT, rfl, hx⟩ := y
    exact hs i x T σ H (hx xs q) p hT
  · have e : i = xs.length := by omega
    subst e
    exact .inl ⟨⟨xs, q, Nat.le_refl _⟩, hd σ H p⟩
theorem lc_enum {K : PySem.W.Frag} {a : Addr} {xs : List V} {g : TG} {tt : TT} {te : TE} {vs : List Nat} {σ : L2.St} {H1 : Hp} {D : Addr} {Qd : Hp → Prop} (Pv : Nat → Hp → Prop) (h0 : Pv 0 (upd H1 D (.lst []))) (hl : ∀ i H, i ≤ xs.length → Pv i H → SqL K H a xs)
    (hs : ∀ (i : Nat) (x : V) (T : Addr) (H : Hp), xs[i]? = some x → Pv i H → H T = none → g (.ref T) (wipe σ vs) (upd H T (.tup [.int (i : Nat), x])) fun σ2 H2 => wipe σ2 vs = wipe σ vs ∧ tt σ2 H2 fun b H3 =>
      if b = true then te σ2 H3 fun y H4 => ∃ acc, H4 D = some (.lst acc) ∧ acc.length < sizeLine ∧ Pv (i + 1) (upd H4 D (.lst (acc ++ [y]))) else Pv (i + 1) H3)
    (hd : ∀ H, Pv xs.length H → Qd H) : LcW (Ite K a) g tt te vs σ H1 D Qd := by
  refine ⟨fun i m H => m = xs.length - i ∧ i ≤ xs.length ∧ Pv i H, ⟨_, rfl, Nat.zero_le _, h0⟩, fun i m H hw => ?_⟩
  obtain ⟨rfl, hi, p⟩ := hw
  have q := hl i H hi p
  rcases Nat.lt_or_ge i xs.length with hlt | hge
  · refine .inr ⟨⟨xs, xs[i], q, by simp [hlt]⟩, Pv (i + 1), fun H' p' => ⟨xs.length - (i + 1), by omega, rfl, hlt, p'⟩, fun v H' y => ?_⟩
    obtain ⟨T, x, rfl, hT, rfl, hx⟩ := y
    exact hs i x T H (hx xs q) p hT
  · have e : i = xs.length := by omega
    subst e
    exact .inl ⟨⟨xs, q, Nat.le_refl _⟩, hd H p⟩
/-! ### where ways come together -/
/-- behind t N holds, and from N on the rest goes -/
def tCut (t : TS) : TS := fun D σ H => ∃ N : L2.St → Hp → Prop, t { D with nx := N } σ H ∧ ∀ σ' H', N σ' H' → D.nx σ' H'
theorem ps_cut {X : Cx} {st : Stmt} {t : TS} (h : PS X st t) : PS X st (tCut t) := ⟨fun pins s σ H D I ⟨N, h1, h2⟩ => thn (h.run pins s σ H { D with nx := N } I h1) fun f s' q => by
  cases f with
  | next =>
    obtain ⟨σ', H', I', n⟩ := q
    exact ⟨σ', H', I', h2 _ _ n⟩
  | brk => exact q
  | cont => exact q
  | ret u => exact q⟩
/-! ### set(t), t a tuple of whole numbers -/
section
variable {X : Cx}
def rSetT (K : PySem.W.Frag) (w : World) : List V → Hp → VK → Prop := fun xs H Q => ∃ (p : Addr) (ns : List Int), xs = [.ref p] ∧ SqT K H p (ns.map V.int) ∧ ns.length ≤ 1000 ∧
  ∀ (q : Addr) (c : Nat), H q = none → c ≤ ns.length → Q (.ref q) (upd H q (SetO w q (fun j => decide (j ∈ ns)) c))
theorem cr_setT (hc : X.calm = true) : CallR X (.type "set") (rSetT X.K X.w) := by
  intro pins s σ H xs us Q I rv h
  obtain ⟨p0, ns, rfl, hq, hl, q⟩ := h
  cases rv with
  | cons r rr =>
    cases rr
    cases r
    obtain ⟨its, rv, pt, hz⟩ := I.tuple hq
    have hi : IntsAre its.toArray.toList ns := ints_of_vals rv
    refine call_set_tupI ns (I.ok.hd hc) (show s.heap.IsTuple p0 its.toArray from pt) hi (by unfold scanBound; omega) fun h' tk c R1 hcn k => ?_
    exact ⟨.ref _, upd H s.heap.objs.size (SetO X.w s.heap.objs.size (fun j => decide (j ∈ ns)) c), I.laid (t' := tk) k (Nat.le_refl _) (setO_new R1), rfl, q _ _ (I.hok.fresh (Nat.le_refl _)) hcn⟩
/-! ### xs.count(y), flat items -/
def rCountF (K : PySem.W.Frag) : V → List V → Hp → VK → Prop := fun x xs H Q => ∃ (p : Addr) (ys : List V) (y : V), x = .ref p ∧ xs = [y] ∧ SqL K H p ys ∧ flatV y = true ∧ ys.all flatV = true ∧ Q (.int (ys.countP (fun z => eqV z y) : Nat)) H
theorem countP_eqU {y : V} : ∀ {ys : List V} {us : List Value}, Vals ys us → ys.all flatV = true → us.countP (eqU y) = ys.countP (fun z => eqV z y)
  | _, _, .nil, _ => rfl
  | _, _, .cons r t, f => by
    simp only [List.all_cons, Bool.and_eq_true] at f
    rw [List.countP_cons, List.countP_cons, countP_eqU t f.2, eqU_of r f.1]
theorem mt_countF : MtR X "list.count" (rCountF X.K) := by
  intro pins s σ H x xs v us Q I rx rxs h
  obtain ⟨p, ys, y, rfl, rfl, hs, fy, fys, q⟩ := h
  cases rx
  obtain ⟨u, rfl, ru⟩ := rxs.one
  obtain ⟨its, rv, ⟨⟨cls, dd, data, sl⟩, n, ho, hc, hdn, hd⟩, hlen⟩ := I.list hs
  simp only at hc hd
  subst hc hd
  refine call_meets PySem.F.slot_list_count ⟨_, ho, rfl⟩ PySem.F.entry_list_count (PySem.F.args_list_count_2 _ _)
    (SeqAt.list_countAt p its.toArray n dd sl u (eqU y)) ⟨ho, fun z hz => mem_eqAt ru fy rv fys z (by simpa using hz), ?_⟩
  have ec : its.toArray.toList.countP (eqU y) = ys.countP (fun z => eqV z y) := countP_eqU rv fys
  refine ⟨.int (ys.countP (fun z => eqV z y) : Nat), H, I.tok _, ⟨s.toks, ?_⟩, q⟩
  show Value.int ((its.toArray.toList.countP (eqU y) : Nat) : Int) s.toks = Value.int ((ys.countP (fun z => eqV z y) : Nat) : Int) s.toks
  rw [ec]
end
theorem count_int (ns : List Int) (k : Int) : (ns.map V.int).countP (fun z => eqV z (.int k)) = ns.count k := by
  induction ns with
  | nil => rfl
  | cons a r ih =>
    rw [List.map_cons, List.countP_cons, ih, List.count_cons]
    rfl
/-! ### data and ints -/
theorem flat_ints (ns : List Int) : (ns.map V.int).all flatV = true := by
  rw [List.all_map, List.all_eq_true]
  intro _ _
  rfl
theorem inV_int (k : Int) (ns : List Int) : inV (.int k) (ns.map V.int) = decide (k ∈ ns) := by
  unfold inV
  rw [List.any_map]
  induction ns with
  | nil => rfl
  | cons a r ih =>
    rw [List.any_cons, ih]
    show (a == k || decide (k ∈ r)) = _
    by_cases e : a = k
    · subst e; simp
    · have e' : ¬ k = a := fun z => e z.symm
      simp [e, e']
end TL

namespace L2
open PySem PySem.Spec PyProof.Rows
mutual
theorem Dp.same {K : PySem.W.Frag} {H H' : Hp} (e : Same H H') : ∀ {x : V} {d : PyData}, Dp K H x d → Dp K H' x d
  | _, _, .non => .non
  | _, _, .bl b => .bl b
  | _, _, .int i => .int i
  | _, _, .str z => .str z
  | _, _, .lst h a => .lst (e.seq h) (DpAll.same e a)
  | _, _, .tup h a => .tup (by
      rcases h with (h | ⟨o, h⟩) | h
      · exact .inl (.inl (e _ _ h))
      · exact .inl (.inr ⟨o, e _ _ h⟩)
      · exact .inr h) (DpAll.same e a)
theorem DpAll.same {K : PySem.W.Frag} {H H' : Hp} (e : Same H H') : ∀ {xs : List V} {ds : List PyData}, DpAll K H xs ds → DpAll K H' xs ds
  | _, _, .nil => .nil
  | _, _, .cons h t => .cons (Dp.same e h) (DpAll.same e t)
end
theorem SqT_same {K : PySem.W.Frag} {H H' : Hp} {a : Addr} {xs : List V} (e : Same H H') (h : SqT K H a xs) : SqT K H' a xs := by
  rcases h with (h | ⟨o, h⟩) | h
  · exact .inl (.inl (e _ _ h))
  · exact .inl (.inr ⟨o, e _ _ h⟩)
  · exact .inr h
theorem DpAll.length {K : PySem.W.Frag} {H : Hp} : ∀ {xs : List V} {ds : List PyData}, DpAll K H xs ds → xs.length = ds.length
  | _, _, .nil => rfl
  | _, _, .cons _ t => by rw [List.length_cons, List.length_cons, DpAll.length t]
theorem DpAll.get {K : PySem.W.Frag} {H : Hp} : ∀ {xs : List V} {ds : List PyData} {i : Nat} {d : PyData}, DpAll K H xs ds → ds[i]? = some d → ∃ x, xs[i]? = some x ∧ Dp K H x d
  | _, _, i, d, .nil, e => by simp at e
  | _, _, 0, d, .cons h t, e => by simp at e; subst e; exact ⟨_, rfl, h⟩
  | _, _, i + 1, d, .cons h t, e => by
    obtain ⟨x, h1, h2⟩ := DpAll.get (i := i) (d := d) t (by simpa using e)
    exact ⟨x, by simpa using h1, h2⟩
theorem dp_ints {K : PySem.W.Frag} {H : Hp} : ∀ ns : List Int, DpAll K H (ns.map V.int) (ns.map PyData.int)
  | [] => .nil
  | n :: r => .cons (.int n) (dp_ints r)
theorem DpAll.append {K : PySem.W.Frag} {H : Hp} : ∀ {xs ys : List V} {ds es : List PyData}, DpAll K H xs ds → DpAll K H ys es → DpAll K H (xs ++ ys) (ds ++ es)
  | _, _, _, _, .nil, b => b
  | _, _, _, _, .cons h t, b => .cons h (DpAll.append t b)
theorem DpAll.get' {K : PySem.W.Frag} {H : Hp} : ∀ {xs : List V} {ds : List PyData} {i : Nat} {x : V}, DpAll K H xs ds → xs[i]? = some x → ∃ d, ds[i]? = some d ∧ Dp K H x d
  | _, _, i, d, .nil, e => by simp at e
  | _, _, 0, d, .cons h t, e => by simp at e; subst e; exact ⟨_, rfl, h⟩
  | _, _, i + 1, d, .cons h t, e => by
    obtain ⟨x, h1, h2⟩ := DpAll.get' (i := i) (x := d) t (by simpa using e)
    exact ⟨x, by simpa using h1, h2⟩
theorem DpAll.ints_inv {K : PySem.W.Frag} {H : Hp} : ∀ {xs : List V} {ns : List Int}, DpAll K H xs (ns.map .int) → xs = ns.map V.int
  | _, [], .nil => rfl
  | _, n :: r, .cons h t => by
    cases h
    rw [List.map_cons, DpAll.ints_inv t]
end L2
namespace TL
open PySem PySem.Spec PyProof.Rows L2
/-! ### isinstance, by the kinds -/
theorem kb_ii : kitB "int" "int" = some true := by decide +kernel
theorem kb_ib : kitB "int" "bool" = some false := by decide +kernel
theorem kb_is : kitB "int" "str" = some false := by decide +kernel
theorem kb_it : kitB "int" "tuple" = some false := by decide +kernel
theorem kb_il : kitB "int" "list" = some false := by decide +kernel
theorem kb_bi : kitB "bool" "int" = some true := by decide +kernel
theorem kb_bb : kitB "bool" "bool" = some true := by decide +kernel
theorem kb_bt : kitB "bool" "tuple" = some false := by decide +kernel
theorem kb_bs : kitB "bool" "str" = some false := by decide +kernel
theorem kb_si : kitB "str" "int" = some false := by decide +kernel
theorem kb_sb : kitB "str" "bool" = some false := by decide +kernel
theorem kb_ss : kitB "str" "str" = some true := by decide +kernel
theorem kb_st : kitB "str" "tuple" = some false := by decide +kernel
theorem kb_ni : kitB "NoneType" "int" = some false := by decide +kernel
theorem kb_nb : kitB "NoneType" "bool" = some false := by decide +kernel
theorem kb_nt : kitB "NoneType" "tuple" = some false := by decide +kernel
theorem kb_ns : kitB "NoneType" "str" = some false := by decide +kernel
theorem kb_ti : kitB "tuple" "int" = some false := by decide +kernel
theorem kb_tb : kitB "tuple" "bool" = some false := by decide +kernel
theorem kb_ts : kitB "tuple" "str" = some false := by decide +kernel
theorem kb_tt : kitB "tuple" "tuple" = some true := by decide +kernel
theorem kb_tl : kitB "tuple" "list" = some false := by decide +kernel
theorem kb_li : kitB "list" "int" = some false := by decide +kernel
theorem kb_lb : kitB "list" "bool" = some false := by decide +kernel
theorem kb_ls : kitB "list" "str" = some false := by decide +kernel
theorem kb_lt : kitB "list" "tuple" = some false := by decide +kernel
theorem kb_ll : kitB "list" "list" = some true := by decide +kernel
theorem tyx_L {K : PySem.W.Frag} {H : Hp} {a : Addr} {xs : List V} (h : SqL K H a xs) : TyX K H (.ref a) (.type "list") := by
  rcases h with (h | ⟨o, h⟩) | ⟨o, its, n, hk, hc, _⟩
  · exact .base (.lst h)
  · exact .base (.frz h)
  · exact .kList hk hc
theorem tyx_T {K : PySem.W.Frag} {H : Hp} {a : Addr} {xs : List V} (h : SqT K H a xs) : TyX K H (.ref a) (.type "tuple") := by
  rcases h with (h | ⟨o, h⟩) | ⟨o, its, n, hk, hc, _⟩
  · exact .base (.tup h)
  · exact .fTuple h
  · exact .kTuple hk hc
/-- what is, by its kind: the type that isinstance asks -/
def kty : PyData → String
  | .none => "NoneType" | .bool _ => "bool" | .int _ => "int" | .str _ => "str" | .list _ => "list" | .tuple _ => "tuple" | .dict _ => "dict"
theorem tyx_D {K : PySem.W.Frag} {H : Hp} {x : V} {d : PyData} (h : Dp K H x d) : TyX K H x (.type (kty d)) := by
  cases h with
  | non => exact .base .non
  | bl b => exact .base (.bl b)
  | int i => exact .base (.int i)
  | str z => exact .base (.str z)
  | lst h _ => exact tyx_L h
  | tup h _ => exact tyx_T h
/-- isinstance(x, c) of data -/
theorem isi_D {K : PySem.W.Frag} {H : Hp} {x : V} {d : PyData} {c : String} {b : Bool} {Q : VK} (h : Dp K H x d) (k : kitB (kty d) c = some b) (q : Q (.bl b) H) : rIsi K [x, .ty c] H Q :=
  ⟨x, .ty c, _, _, b, rfl, .ty c, tyx_D h, kit_ty k, q⟩
/-- numbers, texts, truths, None, lists and tuples of these, nested no more than n deep -/
def lv : Nat → PyData → Prop
  | _, .none => True | _, .bool _ => True | _, .int _ => True | _, .str x => (PyData.str x).canLay0 = true
  | n + 1, .list ds => ds.length ≤ 100000 ∧ ∀ d ∈ ds, lv n d
  | n + 1, .tuple ds => ds.length ≤ 100000 ∧ ∀ d ∈ ds, lv n d
  | _, _ => False
/-- such data are laid out and compared -/
theorem lv_ok : ∀ (n : Nat) (d : PyData), lv n d → d.canLay0 = true ∧ d.depth ≤ n
  | _, .none, _ => ⟨rfl, by simp [PyData.depth]⟩
  | _, .bool _, _ => ⟨rfl, by simp [PyData.depth]⟩
  | _, .int _, _ => ⟨rfl, by simp [PyData.depth]⟩
  | _, .str _, h => ⟨by simpa [lv] using h, by simp [PyData.depth]⟩
  | 0, .list _, h => by simp [lv] at h
  | 0, .tuple _, h => by simp [lv] at h
  | n + 1, .list ds, h => by
    simp only [lv] at h
    have q : ∀ es : List PyData, (∀ d ∈ es, lv n d) → PyData.canLayAll0 es = true ∧ PyData.depthAll es ≤ n := by
      intro es
      induction es with
      | nil => intro _; exact ⟨rfl, by simp [PyData.depthAll]⟩
      | cons e r ih =>
        intro z
        obtain ⟨a1, a2⟩ := lv_ok n e (z e (by simp))
        obtain ⟨b1, b2⟩ := ih fun d hd => z d (by simp [hd])
        exact ⟨by simp [PyData.canLayAll0, a1, b1], by simp only [PyData.depthAll]; omega⟩
    obtain ⟨q1, q2⟩ := q ds h.2
    exact ⟨by simpa [PyData.canLay0] using q1, by simp only [PyData.depth]; omega⟩
  | n + 1, .tuple ds, h => by
    simp only [lv] at h
    have q : ∀ es : List PyData, (∀ d ∈ es, lv n d) → PyData.canLayAll0 es = true ∧ PyData.depthAll es ≤ n := by
      intro es
      induction es with
      | nil => intro _; exact ⟨rfl, by simp [PyData.depthAll]⟩
      | cons e r ih =>
        intro z
        obtain ⟨a1, a2⟩ := lv_ok n e (z e (by simp))
        obtain ⟨b1, b2⟩ := ih fun d hd => z d (by simp [hd])
        exact ⟨by simp [PyData.canLayAll0, a1, b1], by simp only [PyData.depthAll]; omega⟩
    obtain ⟨q1, q2⟩ := q ds h.2
    exact ⟨by simpa [PyData.canLay0] using q1, by simp only [PyData.depth]; omega⟩
  | 0, .dict _, h => by simp [lv] at h
  | _ + 1, .dict _, h => by simp [lv] at h
theorem shaped_lv {n : Nat} {d : PyData} (h : lv n d) (hn : n ≤ 64) : SeqAt.shaped d = true := by
  obtain ⟨a, b⟩ := lv_ok n d h
  unfold SeqAt.shaped
  rw [a, decide_eq_true (Nat.le_trans b hn)]
  rfl
theorem eqvAll_ints : ∀ ns ms : List Int, PyData.eqvAll (ns.map .int) (ms.map .int) = decide (ns = ms)
  | [], [] => rfl
  | [], _ :: _ => rfl
  | _ :: _, [] => rfl
  | a :: r, b :: s => by
    rw [List.map_cons, List.map_cons]
    show (PyData.eqv (.int a) (.int b) && PyData.eqvAll _ _) = _
    rw [eqvAll_ints r s]
    show ((a == b) && decide (r = s)) = _
    by_cases h : a = b
    · subst h; simp
    · simp [h]
theorem canLay_ints (ns : List Int) : (PyData.list (ns.map .int)).canLay0 = true := by
  induction ns with
  | nil => rfl
  | cons a r ih => exact ih
theorem depth_ints (ns : List Int) : (PyData.list (ns.map .int)).depth ≤ 2 := by
  induction ns with
  | nil => decide
  | cons a r ih =>
    revert ih
    simp only [PyData.depth, PyData.depthAll, List.map_cons]
    omega
theorem shaped_ints (ns : List Int) : SeqAt.shaped (.list (ns.map .int)) = true := by
  unfold SeqAt.shaped
  rw [canLay_ints, decide_eq_true (Nat.le_trans (depth_ints ns) (by decide))]
  rfl
/-! ### what can't be changed: numbers, texts, truths, None, tuples of these -/
mutual
inductive Im (H : Hp) : V → PyData → Prop
  | non : Im H .non .none
  | bl (b : Bool) : Im H (.bl b) (.bool b)
  | int (i : Int) : Im H (.int i) (.int i)
  | str (x : Str) : Im H (.str x) (.str x)
  | tup {a : Addr} {xs : List V} {ds : List PyData} : H a = some (.tup xs) → ImAll H xs ds → Im H (.ref a) (.tuple ds)
inductive ImAll (H : Hp) : List V → List PyData → Prop
  | nil : ImAll H [] []
  | cons {v : V} {vs : List V} {d : PyData} {ds : List PyData} : Im H v d → ImAll H vs ds → ImAll H (v :: vs) (d :: ds)
end
mutual
theorem Im.dp {K : PySem.W.Frag} {H : Hp} : ∀ {x : V} {d : PyData}, Im H x d → Dp K H x d
  | _, _, .non => .non
  | _, _, .bl b => .bl b
  | _, _, .int i => .int i
  | _, _, .str z => .str z
  | _, _, .tup h a => .tup (SqT.of h) (ImAll.dp a)
theorem ImAll.dp {K : PySem.W.Frag} {H : Hp} : ∀ {xs : List V} {ds : List PyData}, ImAll H xs ds → DpAll K H xs ds
  | _, _, .nil => .nil
  | _, _, .cons h t => .cons (Im.dp h) (ImAll.dp t)
end
mutual
theorem Im.frm {S : List Addr} {H H' : Hp} (e : Frm S H H') : ∀ {x : V} {d : PyData}, Im H x d → Im H' x d
  | _, _, .non => .non
  | _, _, .bl b => .bl b
  | _, _, .int i => .int i
  | _, _, .str z => .str z
  | _, _, .tup h a => .tup (e.tups _ _ h) (ImAll.frm e a)
theorem ImAll.frm {S : List Addr} {H H' : Hp} (e : Frm S H H') : ∀ {xs : List V} {ds : List PyData}, ImAll H xs ds → ImAll H' xs ds
  | _, _, .nil => .nil
  | _, _, .cons h t => .cons (Im.frm e h) (ImAll.frm e t)
end
theorem ImAll.same {H H' : Hp} {xs : List V} {ds : List PyData} (h : ImAll H xs ds) (e : Same H H') : ImAll H' xs ds := h.frm (S := []) (.of_same e)
theorem Im.same {H H' : Hp} {x : V} {d : PyData} (h : Im H x d) (e : Same H H') : Im H' x d := h.frm (S := []) (.of_same e)
theorem ImAll.new {H : Hp} {xs : List V} {ds : List PyData} {p : Addr} {o : HO} (h : ImAll H xs ds) (n : H p = none) : ImAll (upd H p o) xs ds := h.same (Same.upd_new n)
theorem Im.new {H : Hp} {x : V} {d : PyData} {p : Addr} {o : HO} (h : Im H x d) (n : H p = none) : Im (upd H p o) x d := h.same (Same.upd_new n)
theorem ImAll.updL {H : Hp} {xs : List V} {ds : List PyData} {p : Addr} {o : HO} {ys : List V} (h : ImAll H xs ds) (n : H p = some (.lst ys)) : ImAll (upd H p o) xs ds := h.frm (Frm.updL n)
theorem ImAll.length {H : Hp} : ∀ {xs : List V} {ds : List PyData}, ImAll H xs ds → xs.length = ds.length
  | _, _, .nil => rfl
  | _, _, .cons _ t => by rw [List.length_cons, List.length_cons, ImAll.length t]
theorem ImAll.append {H : Hp} : ∀ {xs ys : List V} {ds es : List PyData}, ImAll H xs ds → ImAll H ys es → ImAll H (xs ++ ys) (ds ++ es)
  | _, _, _, _, .nil, b => b
  | _, _, _, _, .cons h t, b => .cons h (ImAll.append t b)
theorem ImAll.get {H : Hp} : ∀ {xs : List V} {ds : List PyData} {i : Nat} {d : PyData}, ImAll H xs ds → ds[i]? = some d → ∃ x, xs[i]? = some x ∧ Im H x d
  | _, _, i, d, .nil, e => by simp at e
  | _, _, 0, d, .cons h t, e => by simp at e; subst e; exact ⟨_, rfl, h⟩
  | _, _, i + 1, d, .cons h t, e => by
    obtain ⟨x, h1, h2⟩ := ImAll.get (i := i) (d := d) t (by simpa using e)
    exact ⟨x, by simpa using h1, h2⟩
theorem ImAll.get' {H : Hp} : ∀ {xs : List V} {ds : List PyData} {i : Nat} {x : V}, ImAll H xs ds → xs[i]? = some x → ∃ d, ds[i]? = some d ∧ Im H x d
  | _, _, i, d, .nil, e => by simp at e
  | _, _, 0, d, .cons h t, e => by simp at e; subst e; exact ⟨_, rfl, h⟩
  | _, _, i + 1, d, .cons h t, e => by
    obtain ⟨x, h1, h2⟩ := ImAll.get' (i := i) (x := d) t (by simpa using e)
    exact ⟨x, by simpa using h1, h2⟩
theorem ImAll.take {H : Hp} : ∀ {xs : List V} {ds : List PyData} (n : Nat), ImAll H xs ds → ImAll H (xs.take n) (ds.take n)
  | _, _, 0, _ => .nil
  | _, _, n + 1, .nil => .nil
  | _, _, n + 1, .cons h t => .cons h (ImAll.take n t)
theorem ImAll.drop {H : Hp} : ∀ {xs : List V} {ds : List PyData} (n : Nat), ImAll H xs ds → ImAll H (xs.drop n) (ds.drop n)
  | _, _, 0, h => h
  | _, _, n + 1, .nil => .nil
  | _, _, n + 1, .cons h t => ImAll.drop n t
theorem ImAll.set {H : Hp} {x : V} {d : PyData} (h : Im H x d) : ∀ {xs : List V} {ds : List PyData} (n : Nat), ImAll H xs ds → ImAll H (xs.set n x) (ds.set n d)
  | _, _, _, .nil => .nil
  | _, _, 0, .cons _ t => .cons h t
  | _, _, n + 1, .cons g t => .cons g (ImAll.set h n t)
theorem ImAll.rep {H : Hp} {xs : List V} {ds : List PyData} (h : ImAll H xs ds) : ∀ n : Nat, ImAll H (List.replicate n xs).flatten (List.replicate n ds).flatten
  | 0 => .nil
  | n + 1 => by
    rw [List.replicate_succ, List.replicate_succ, List.flatten_cons, List.flatten_cons]
    exact h.append (ImAll.rep h n)
theorem im_ints {H : Hp} : ∀ ns : List Int, ImAll H (ns.map V.int) (ns.map PyData.int)
  | [] => .nil
  | n :: r => .cons (.int n) (im_ints r)
mutual
theorem eqv_refl : ∀ {n : Nat} {d : PyData}, lv n d → PyData.eqv d d = true
  | _, .none, _ => rfl
  | _, .bool b, _ => by simp [PyData.eqv]
  | _, .int i, _ => by simp [PyData.eqv]
  | _, .str z, _ => by simp [PyData.eqv]
  | 0, .list _, h => by simp [lv] at h
  | 0, .tuple _, h => by simp [lv] at h
  | n + 1, .list ds, h => by
    simp only [lv] at h
    simp only [PyData.eqv]
    exact eqvAll_refl h.2
  | n + 1, .tuple ds, h => by
    simp only [lv] at h
    simp only [PyData.eqv]
    exact eqvAll_refl h.2
  | 0, .dict _, h => by simp [lv] at h
  | _ + 1, .dict _, h => by simp [lv] at h
theorem eqvAll_refl : ∀ {n : Nat} {ds : List PyData}, (∀ d ∈ ds, lv n d) → PyData.eqvAll ds ds = true
  | _, [], _ => rfl
  | n, d :: r, h => by
    simp only [PyData.eqvAll, Bool.and_eq_true]
    exact ⟨eqv_refl (h d (by simp)), eqvAll_refl (n := n) fun x hx => h x (by simp [hx])⟩
end
theorem lv_mono : ∀ {n : Nat} {d : PyData}, lv n d → lv (n + 1) d
  | _, .none, _ => by simp [lv]
  | _, .bool b, _ => by simp [lv]
  | _, .int i, _ => by simp [lv]
  | _, .str z, h => by simpa [lv] using h
  | 0, .list _, h => by simp [lv] at h
  | 0, .tuple _, h => by simp [lv] at h
  | n + 1, .list ds, h => by
    simp only [lv] at h ⊢
    exact ⟨h.1, fun d hd => lv_mono (h.2 d hd)⟩
  | n + 1, .tuple ds, h => by
    simp only [lv] at h ⊢
    exact ⟨h.1, fun d hd => lv_mono (h.2 d hd)⟩
  | 0, .dict _, h => by simp [lv] at h
  | _ + 1, .dict _, h => by simp [lv] at h
end TL

namespace TL
open PySem PySem.Spec PyProof.Rows L2
/-- the dice: a list of whole numbers, two at least -/
def DiceAt (H : Hp) (d : Addr) : Prop := ∃ ns : List Int, H d = some (.lst (ns.map V.int)) ∧ 2 ≤ ns.length ∧ ns.length ≤ 65
theorem DiceAt.frm {S : List Addr} {H H' : Hp} {d : Addr} (h : DiceAt H d) (e : Frm S H H') (n : d ∉ S) : DiceAt H' d := by
  obtain ⟨ns, h1, h2⟩ := h
  exact ⟨ns, e _ _ h1 n, h2⟩
theorem DiceAt.upd_ne {H : Hp} {d l : Addr} {o : HO} (h : DiceAt H d) (n : d ≠ l) : DiceAt (upd H l o) d := by
  obtain ⟨ns, h1, h2⟩ := h
  exact ⟨ns, by rw [L2.upd_ne n]; exact h1, h2⟩
theorem DiceAt.same {H H' : Hp} {d : Addr} (h : DiceAt H d) (e : Same H H') : DiceAt H' d := by
  obtain ⟨ns, h1, h2⟩ := h
  exact ⟨ns, e _ _ h1, h2⟩
theorem DiceAt.new {H : Hp} {d l : Addr} {o : HO} (h : DiceAt H d) (n : H l = none) : DiceAt (upd H l o) d := h.same (Same.upd_new n)
theorem DiceAt.ne_new {H : Hp} {d l : Addr} (h : DiceAt H d) (n : H l = none) : l ≠ d := by
  obtain ⟨ns, h1, h2⟩ := h
  exact fun e => by rw [e, h1] at n; cases n
theorem DiceAt.ne_tup {H : Hp} {d t : Addr} {xs : List V} (h : DiceAt H d) (e : H t = some (.tup xs)) : t ≠ d := by
  obtain ⟨ns, h1, h2⟩ := h
  exact ne_of e h1 (by intro q; cases q)
/-! ### manners -/
def intOf : PyData → Int
  | .int i => i
  | _ => 0
/-- a number within bounds -/
def between : PyData → Int → Int → Bool
  | .int i, lo, hi => decide (lo ≤ i) && decide (i ≤ hi)
  | _, _, _ => false
def isMan : PyData → Bool
  | .tuple ds => ds.all (fun e => between e 0 9) && (decide ((ds.map intOf).Pairwise (· < ·)) && decide (0 ∈ ds.map intOf))
  | _ => false
/-- what may be handed in in the place of manners -/
def mdat : PyData → Prop
  | .list _ => False
  | .dict _ => False
  | .str x => (PyData.str x).canLay0 = true
  | .tuple ds => ds.length ≤ 60 ∧ ∀ e ∈ ds, (∀ l, e ≠ .list l) ∧ lv 1 e
  | _ => True
theorem mdat.nolist {d : PyData} (h : mdat d) : ∀ ds, d ≠ .list ds := fun ds e => by subst e; exact h
theorem ints_of_between : ∀ {ds : List PyData}, ds.all (fun e => between e 0 9) = true → ds = (ds.map intOf).map .int
  | [], _ => rfl
  | d :: r, h => by
    rw [List.all_cons, Bool.and_eq_true] at h
    rw [List.map_cons, List.map_cons, ← ints_of_between h.2]
    cases d with
    | int i => rfl
    | _ => exact absurd h.1 (by simp [between])
theorem between_of {ds : List PyData} (h : ds.all (fun e => between e 0 9) = true) : ∀ i ∈ ds.map intOf, 0 ≤ i ∧ i ≤ 9 := fun i hi => by
  obtain ⟨d, hd, rfl⟩ := List.mem_map.mp hi
  have q := List.all_eq_true.mp h d hd
  cases d with
  | int j => simpa [between, intOf] using q
  | _ => exact absurd q (by simp [between])
/-- manners as numbers -/
def Can (ms : List Int) : Prop := (∀ i ∈ ms, 0 ≤ i ∧ i ≤ 9) ∧ ms.Pairwise (· < ·) ∧ 0 ∈ ms ∧ ms.length ≤ 60
theorem isMan_ints {ms : List Int} (h : Can ms) : isMan (.tuple (ms.map .int)) = true := by
  have e : (ms.map PyData.int).map intOf = ms := by
    rw [List.map_map]
    have : (intOf ∘ PyData.int) = id := rfl
    rw [this, List.map_id]
  simp only [isMan]
  rw [e, decide_eq_true h.2.1, decide_eq_true h.2.2.1]
  simp only [Bool.and_true, List.all_map, List.all_eq_true]
  intro i hi
  have := h.1 i hi
  simp [between, this]
theorem mdat_ints {ms : List Int} (h : ms.length ≤ 60) : mdat (.tuple (ms.map .int)) := by
  refine ⟨by rw [List.length_map]; exact h, fun e he => ?_⟩
  obtain ⟨i, _, rfl⟩ := List.mem_map.mp he
  exact ⟨fun l z => PyData.noConfusion z, trivial⟩
theorem sorted_ext : ∀ {a b : List Int}, a.Pairwise (· < ·) → b.Pairwise (· < ·) → (∀ k, k ∈ a ↔ k ∈ b) → a = b
  | [], [], _, _, _ => rfl
  | [], y :: s, _, _, h => absurd ((h y).mpr (by simp)) (by simp)
  | x :: r, [], _, _, h => absurd ((h x).mp (by simp)) (by simp)
  | x :: r, y :: s, ha, hb, h => by
    rw [List.pairwise_cons] at ha hb
    have hxy : x = y := by
      rcases List.mem_cons.mp ((h x).mp (by simp)) with e | e
      · exact e
      · rcases List.mem_cons.mp ((h y).mpr (by simp)) with e' | e'
        · exact e'.symm
        · have := ha.1 y e'
          have := hb.1 x e
          omega
    subst hxy
    rw [sorted_ext ha.2 hb.2 fun k => ?_]
    constructor
    · intro hk
      rcases List.mem_cons.mp ((h k).mp (by simp [hk])) with e | e
      · have := ha.1 k hk
        omega
      · exact e
    · intro hk
      rcases List.mem_cons.mp ((h k).mpr (by simp [hk])) with e | e
      · have := hb.1 k hk
        omega
      · exact e
/-- the greatest that both can and that isn't bad -/
def chosenF (one other bad : List Int) : Int := (one.filter fun m => decide (m ∈ other) && !decide (m ∈ bad)).foldl max 0
def IsChosen (one other bad : List Int) (m : Int) : Prop := (m = 0 ∨ (m ∈ one ∧ m ∈ other ∧ m ∉ bad)) ∧ 0 ≤ m ∧ ∀ y ∈ one, y ∈ other → y ∉ bad → y ≤ m
theorem foldl_max : ∀ (l : List Int) (a : Int), a ≤ l.foldl max a ∧ (∀ y ∈ l, y ≤ l.foldl max a) ∧ (l.foldl max a = a ∨ l.foldl max a ∈ l)
  | [], a => ⟨Int.le_refl _, by simp, .inl rfl⟩
  | x :: r, a => by
    obtain ⟨h1, h2, h3⟩ := foldl_max r (max a x)
    rw [List.foldl_cons]
    refine ⟨by omega, fun y hy => ?_, ?_⟩
    · rcases List.mem_cons.mp hy with rfl | hy
      · omega
      · exact h2 y hy
    · rcases h3 with h3 | h3
      · rw [h3]
        by_cases hax : a ≤ x
        · right
          rw [Int.max_eq_right hax]
          simp
        · left
          exact Int.max_eq_left (by omega)
      · right
        exact List.mem_cons_of_mem _ h3
theorem isChosen_F (one other bad : List Int) : IsChosen one other bad (chosenF one other bad) := by
  obtain ⟨h1, h2, h3⟩ := foldl_max (one.filter fun m => decide (m ∈ other) && !decide (m ∈ bad)) 0
  refine ⟨?_, h1, fun y h4 h5 h6 => h2 y ?_⟩
  · rcases h3 with h3 | h3
    · exact .inl h3
    · right
      have := List.mem_filter.mp h3
      simp only [Bool.and_eq_true, decide_eq_true_eq, Bool.not_eq_true', decide_eq_false_iff_not] at this
      exact this
  · rw [List.mem_filter]
    simp [h4, h5, h6]
theorem IsChosen.unique {one other bad : List Int} {m k : Int} (a : IsChosen one other bad m) (b : IsChosen one other bad k) : m = k := by
  have h1 : m ≤ k := by
    rcases a.1 with e | ⟨e1, e2, e3⟩
    · rw [e]; exact b.2.1
    · exact b.2.2 m e1 e2 e3
  have h2 : k ≤ m := by
    rcases b.1 with e | ⟨e1, e2, e3⟩
    · rw [e]; exact a.2.1
    · exact a.2.2 k e1 e2 e3
  omega
theorem IsChosen.eq {one other bad : List Int} {m : Int} (a : IsChosen one other bad m) : m = chosenF one other bad := a.unique (isChosen_F _ _ _)
theorem IsChosen.symm {one other bad : List Int} {m : Int} (a : IsChosen one other bad m) : IsChosen other one bad m :=
  ⟨a.1.imp id fun h => ⟨h.2.1, h.1, h.2.2⟩, a.2.1, fun y h1 h2 h3 => a.2.2 y h2 h1 h3⟩
theorem IsChosen.congr {one other bad bad' : List Int} {m : Int} (a : IsChosen one other bad m) (h : ∀ x, x ∈ bad ↔ x ∈ bad') : IsChosen one other bad' m :=
  ⟨a.1.imp id fun z => ⟨z.1, z.2.1, fun q => z.2.2 ((h _).mpr q)⟩, a.2.1, fun y h1 h2 h3 => a.2.2 y h1 h2 fun q => h3 ((h _).mp q)⟩
end TL

namespace TL
open PySem PySem.Spec PyProof.Rows L2
/-! ### rows of a log -/
abbrev Row := Int × Bool × Int × Bool
def rowV (r : Row) : List V := [.int r.1, .bl r.2.1, .int r.2.2.1, .bl r.2.2.2]
def rowD (r : Row) : PyData := .tuple [.int r.1, .bool r.2.1, .int r.2.2.1, .bool r.2.2.2]
def okRow (r : Row) : Prop := (0 ≤ r.1 ∧ r.1 ≤ 9) ∧ 0 ≤ r.2.2.1 ∧ r.2.2.1 ≤ 9
theorem im_row {H : Hp} {t : Addr} {r : Row} (h : H t = some (.tup (rowV r))) : Im H (.ref t) (rowD r) :=
  .tup h (.cons (.int _) (.cons (.bl _) (.cons (.int _) (.cons (.bl _) .nil))))
theorem im_row_inv {H : Hp} {x : V} {r : Row} (h : Im H x (rowD r)) : ∃ t, x = .ref t ∧ H t = some (.tup (rowV r)) := by
  obtain ⟨a, b, c, d⟩ := r
  generalize e : rowD (a, b, c, d) = dd at h
  cases h with
  | tup ht ha =>
    rename_i t xs ds
    injection e with e
    subst e
    cases ha with
    | cons h1 ha => cases h1; cases ha with
      | cons h1 ha => cases h1; cases ha with
        | cons h1 ha => cases h1; cases ha with
          | cons h1 ha => cases h1; cases ha; exact ⟨t, rfl, ht⟩
  | _ => exact PyData.noConfusion e
theorem rows_get {H : Hp} {xs : List V} {rs : List Row} {i : Nat} {r : Row} (h : ImAll H xs (rs.map rowD)) (e : rs[i]? = some r) : ∃ t, xs[i]? = some (.ref t) ∧ H t = some (.tup (rowV r)) := by
  obtain ⟨x, h1, h2⟩ := h.get (i := i) (d := rowD r) (by rw [List.getElem?_map, e]; rfl)
  obtain ⟨t, rfl, h3⟩ := im_row_inv h2
  exact ⟨t, h1, h3⟩
theorem rows_get' {H : Hp} {xs : List V} {rs : List Row} {i : Nat} {x : V} (h : ImAll H xs (rs.map rowD)) (e : xs[i]? = some x) : ∃ t r, rs[i]? = some r ∧ x = .ref t ∧ H t = some (.tup (rowV r)) := by
  obtain ⟨d, h1, h2⟩ := h.get' e
  rw [List.getElem?_map] at h1
  cases q : rs[i]? with
  | none => rw [q] at h1; cases h1
  | some r =>
    rw [q] at h1
    have h1' : rowD r = d := Option.some.inj h1
    subst h1'
    obtain ⟨t, h3, h4⟩ := im_row_inv h2
    exact ⟨t, r, rfl, h3, h4⟩
theorem rows_len {H : Hp} {xs : List V} {rs : List Row} (h : ImAll H xs (rs.map rowD)) : xs.length = rs.length := by
  rw [h.length, List.length_map]
theorem lv_row (r : Row) : lv 1 (rowD r) := by
  refine ⟨by show 4 ≤ 100000; decide, fun d hd => ?_⟩
  simp at hd
  rcases hd with rfl | rfl | rfl | rfl <;> exact trivial
theorem lv_rows {rs : List Row} (h : rs.length ≤ 100000) : lv 2 (.list (rs.map rowD)) := by
  refine ⟨by rw [List.length_map]; exact h, fun d hd => ?_⟩
  obtain ⟨r, _, rfl⟩ := List.mem_map.mp hd
  exact lv_row r
theorem eqv_rows_nil (rs : List Row) : PyData.eqv (.list (rs.map rowD)) (.list []) = decide (rs = []) := by
  cases rs with
  | nil => rfl
  | cons a r => rfl
/-! ### what is a row -/
def isB : PyData → Bool
  | .bool _ => true
  | _ => false
def isRowD : PyData → Bool
  | .tuple [a, b, c, d] => between a 0 9 && (between c 0 9 && (isB b && isB d))
  | _ => false
theorem isRow_row {r : Row} (h : okRow r) : isRowD (rowD r) = true := by
  obtain ⟨⟨h1, h2⟩, h3, h4⟩ := h
  simp [isRowD, rowD, between, isB, h1, h2, h3, h4]
/-- what may be handed in as a row -/
def rdat : PyData → Prop
  | .list _ => False
  | .dict _ => False
  | .tuple ds => ∀ e ∈ ds, ∀ l, e ≠ .list l
  | _ => True
theorem rdat_row (r : Row) : rdat (rowD r) := by
  intro e he l
  simp at he
  rcases he with rfl | rfl | rfl | rfl <;> exact fun z => PyData.noConfusion z
theorem rdat.nolist {d : PyData} (h : rdat d) : ∀ ds, d ≠ .list ds := fun ds e => by subst e; exact h
/-! ### stretches -/
/-- the manner by which both were joined -/
def mark (r : Row) : Option Int := if r.2.1 = true ∧ r.2.2.2 = true ∧ r.1 = r.2.2.1 then some r.1 else none
abbrev Str3 := Int × Int × Int
def strV (s : Str3) : List V := [.int s.1, .int s.2.1, .int s.2.2]
def strD (s : Str3) : PyData := .tuple [.int s.1, .int s.2.1, .int s.2.2]
theorem im_str {H : Hp} {t : Addr} {s : Str3} (h : H t = some (.tup (strV s))) : Im H (.ref t) (strD s) := .tup h (.cons (.int _) (.cons (.int _) (.cons (.int _) .nil)))
theorem im_str_inv {H : Hp} {x : V} {s : Str3} (h : Im H x (strD s)) : ∃ t, x = .ref t ∧ H t = some (.tup (strV s)) := by
  obtain ⟨a, b, c⟩ := s
  generalize e : strD (a, b, c) = dd at h
  cases h with
  | tup ht ha =>
    rename_i t xs ds
    injection e with e
    subst e
    cases ha with
    | cons h1 ha => cases h1; cases ha with
      | cons h1 ha => cases h1; cases ha with
        | cons h1 ha => cases h1; cases ha; exact ⟨t, rfl, ht⟩
  | _ => exact PyData.noConfusion e
/-- one row more: the last stretch grows, or a new one begins -/
def stStep (acc : List Str3) (i : Nat) (m : Option Int) : List Str3 :=
  match m with
  | none => acc
  | some m => match acc.getLast? with
    | some (k, s, e) => if k = m ∧ e = (i : Int) then acc.dropLast ++ [(m, s, (i : Int) + 1)] else acc ++ [(m, (i : Int), (i : Int) + 1)]
    | none => acc ++ [(m, (i : Int), (i : Int) + 1)]
/-- the stretches of the first i rows -/
def stTo (ms : List (Option Int)) : Nat → List Str3
  | 0 => []
  | i + 1 => stStep (stTo ms i) i (ms.getD i none)
theorem stTo_len (ms : List (Option Int)) : ∀ i, (stTo ms i).length ≤ i
  | 0 => Nat.le_refl _
  | i + 1 => by
    have ih := stTo_len ms i
    unfold stTo stStep
    cases ms.getD i none with
    | none => exact Nat.le_succ_of_le ih
    | some m =>
      cases h : (stTo ms i).getLast? with
      | none => simp; omega
      | some k =>
        obtain ⟨k, s, e⟩ := k
        simp only
        split
        · simp; omega
        · simp; omega
/-- no stretch ends behind what was gone through -/
theorem stTo_end (ms : List (Option Int)) : ∀ i (x : Str3), (stTo ms i).getLast? = some x → x.2.2 ≤ i
  | 0, x, h => by simp [stTo] at h
  | i + 1, x, h => by
    have ih := stTo_end ms i
    unfold stTo stStep at h
    cases hm : ms.getD i none with
    | none =>
      rw [hm] at h
      have := ih x h
      omega
    | some m =>
      rw [hm] at h
      cases hl : (stTo ms i).getLast? with
      | none =>
        rw [hl] at h
        simp at h
        subst h
        simp
      | some k =>
        obtain ⟨k, s, e⟩ := k
        rw [hl] at h
        simp only at h
        split at h
        · simp at h
          subst h
          simp
        · simp at h
          subst h
          simp
/-- at i a new stretch begins, if one does -/
def Fresh (ms : List (Option Int)) (i : Nat) : Prop := ∀ k s e, (stTo ms i).getLast? = some (k, s, e) → e = (i : Int) → ms.getD i none ≠ some k
theorem stTo_none {ms : List (Option Int)} {i : Nat} (h : ms.getD i none = none) : stTo ms (i + 1) = stTo ms i := by
  show stStep _ _ _ = _
  rw [h]
  rfl
theorem stTo_first {ms : List (Option Int)} {i : Nat} {m : Int} (h : ms.getD i none = some m) (f : Fresh ms i) : stTo ms (i + 1) = stTo ms i ++ [(m, (i : Int), (i : Int) + 1)] := by
  show stStep _ _ _ = _
  rw [h]
  unfold stStep
  cases hl : (stTo ms i).getLast? with
  | none => rfl
  | some k =>
    obtain ⟨k, s, e⟩ := k
    simp only
    rw [if_neg]
    rintro ⟨rfl, h2⟩
    exact f _ _ _ hl h2 h
theorem stTo_more {ms : List (Option Int)} {a j : Nat} {m : Int} (h : ms.getD j none = some m) (e : stTo ms j = stTo ms a ++ [(m, (a : Int), (j : Int))]) : stTo ms (j + 1) = stTo ms a ++ [(m, (a : Int), (j : Int) + 1)] := by
  show stStep _ _ _ = _
  rw [h, e]
  unfold stStep
  simp
def markV : Option Int → V
  | none => .non
  | some m => .int m
theorem lv_strs (l : List Str3) (h : l.length ≤ 100000) : lv 3 (.list (l.map strD)) := by
  refine lv_mono ⟨by rw [List.length_map]; exact h, fun d hd => ?_⟩
  obtain ⟨s, _, rfl⟩ := List.mem_map.mp hd
  refine ⟨by show 3 ≤ 100000; decide, fun d hd => ?_⟩
  simp at hd
  rcases hd with rfl | rfl | rfl <;> exact trivial
/-- what stands within a turn: the dice, the rows at p -/
structure Got (H : Hp) (d p : Addr) (xs : List V) (rs : List Row) : Prop where
  D : DiceAt H d
  L : H p = some (.lst xs)
  A : ImAll H xs (rs.map rowD)
  ok : ∀ r ∈ rs, okRow r
  len : rs.length ≤ 300
  np : p ≠ d
theorem Got.same {H H' : Hp} {d p : Addr} {xs : List V} {rs : List Row} (g : Got H d p xs rs) (e : Same H H') : Got H' d p xs rs := ⟨g.D.same e, e _ _ g.L, g.A.same e, g.ok, g.len, g.np⟩
/-- another list is written -/
theorem Got.updL {H : Hp} {d p : Addr} {xs : List V} {rs : List Row} (g : Got H d p xs rs) {l : Addr} {ys : List V} {o : HO} (h : H l = some (.lst ys)) (n1 : l ≠ d) (n2 : l ≠ p) : Got (upd H l o) d p xs rs :=
  ⟨g.D.upd_ne (Ne.symm n1), by rw [upd_ne (Ne.symm n2)]; exact g.L, g.A.updL h, g.ok, g.len, g.np⟩
end TL

namespace TL
open PySem PySem.Spec PyProof.Rows L2
/-! ### rows as texts -/
def dgS (i : Int) : Str := Str.ofString (toString i)
def sgS (b : Bool) : Str := ⟨#[if b = true then 43 else 45]⟩
def wordOf (i : Int) (b : Bool) : Str := dgS i ++ sgS b
def lineOf (r : Row) : Str := dgS r.1 ++ sgS r.2.1 ++ " " ++ dgS r.2.2.1 ++ sgS r.2.2.2
def logText (rs : List Row) : Str := Txt.join "\n" (rs.map lineOf)
theorem tl_dg {i : Int} (h0 : 0 ≤ i) (h9 : i ≤ 9) : tl (dgS i) = [48 + i.toNat] := by
  obtain ⟨n, rfl⟩ : ∃ n : Nat, i = (n : Int) := ⟨i.toNat, by omega⟩
  have h := tl_num n
  rw [numL_lt (by omega)] at h
  exact h
theorem tl_sg (b : Bool) : tl (sgS b) = [if b = true then 43 else 45] := rfl
theorem tl_sp : tl (" " : Str) = [32] := by decide +kernel
theorem tl_nl : tl ("\n" : Str) = [10] := by decide +kernel
theorem tl_word {i : Int} {b : Bool} (h0 : 0 ≤ i) (h9 : i ≤ 9) : tl (wordOf i b) = [48 + i.toNat, if b = true then 43 else 45] := by
  unfold wordOf
  rw [tl_append, tl_dg h0 h9, tl_sg]
  rfl
theorem lineOf_join (r : Row) : lineOf r = Txt.join " " [wordOf r.1 r.2.1, wordOf r.2.2.1 r.2.2.2] := by
  apply ext_tl
  rw [join_eq, tl_join]
  unfold lineOf wordOf
  simp only [List.map, joinL, tl_append, List.append_assoc]
theorem tl_line {r : Row} (h : okRow r) : tl (lineOf r) = [48 + r.1.toNat, (if r.2.1 = true then 43 else 45), 32, 48 + r.2.2.1.toNat, (if r.2.2.2 = true then 43 else 45)] := by
  unfold lineOf
  rw [tl_append, tl_append, tl_append, tl_append, tl_dg h.1.1 h.1.2, tl_dg h.2.1 h.2.2, tl_sg, tl_sg, tl_sp]
  rfl
/-- a word's half: a manner, whether joined -/
def halfL : List Nat → Option (Int × Bool)
  | [a, b] => if (48 ≤ a ∧ a ≤ 57) ∧ (b = 43 ∨ b = 45) then some ((a : Int) - 48, decide (b = 43)) else none
  | _ => none
def rowHalves : List (Option (Int × Bool)) → Option Row
  | [some a, some b] => some (a.1, a.2, b.1, b.2)
  | _ => none
def halvesOf (line : Str) : List (Option (Int × Bool)) := (Txt.split line " ").map fun w => halfL (tl w)
def rowOfL (line : Str) : Option Row := rowHalves (halvesOf line)
theorem half_word {i : Int} {b : Bool} (h0 : 0 ≤ i) (h9 : i ≤ 9) : halfL (tl (wordOf i b)) = some (i, b) := by
  rw [tl_word h0 h9]
  have e1 : ((48 + i.toNat : Nat) : Int) - 48 = i := by omega
  cases b
  · simp only [halfL]
    rw [if_pos (by simp; omega), e1]
    rfl
  · simp only [halfL]
    rw [if_pos (by simp; omega), e1]
    rfl
theorem word_nosp {i : Int} {b : Bool} (h0 : 0 ≤ i) (h9 : i ≤ 9) : 32 ∉ tl (wordOf i b) := by
  rw [tl_word h0 h9]
  cases b <;> simp <;> omega
theorem rowOf_line {r : Row} (h : okRow r) : rowOfL (lineOf r) = some r := by
  unfold rowOfL halvesOf
  rw [lineOf_join, split_join (s := 32) (S := []) tl_sp (by decide +kernel) (by simp) (by
    intro p hp
    simp at hp
    rcases hp with rfl | rfl
    · exact word_nosp h.1.1 h.1.2
    · exact word_nosp h.2.1 h.2.2)]
  simp only [List.map, half_word h.1.1 h.1.2, half_word h.2.1 h.2.2, rowHalves]
theorem line_nonl {r : Row} (h : okRow r) : 10 ∉ tl (lineOf r) := by
  rw [tl_line h]
  obtain ⟨a, b, c, d⟩ := r
  cases b <;> cases d <;> simp <;> omega
theorem split_log {rs : List Row} (h : ∀ r ∈ rs, okRow r) (hne : rs ≠ []) : Txt.split (logText rs) "\n" = rs.map lineOf :=
  split_join (s := 10) (S := []) tl_nl (by decide +kernel) (by simpa using hne) (by
    intro p hp
    obtain ⟨r, hr, rfl⟩ := List.mem_map.mp hp
    exact line_nonl (h r hr))
theorem line_len {r : Row} (h : okRow r) : (lineOf r).length = 5 := by rw [len_tl, tl_line h]; rfl
theorem joinL_len (S : List Nat) : ∀ ps : List (List Nat), (joinL S ps).length ≤ (ps.map List.length).sum + ps.length * S.length
  | [] => by simp [joinL]
  | [p] => by simp [joinL]
  | p :: q :: r => by
    have ih := joinL_len S (q :: r)
    simp only [joinL, List.length_append, List.map_cons, List.sum_cons, List.length_cons] at ih ⊢
    have : (r.length + 1 + 1) * S.length = (r.length + 1) * S.length + S.length := Nat.succ_mul _ _
    omega
theorem lines_sum {rs : List Row} (h : ∀ r ∈ rs, okRow r) : ((rs.map lineOf).map (·.length)).sum = 5 * rs.length := by
  induction rs with
  | nil => rfl
  | cons a r ih =>
    simp only [List.map_cons, List.sum_cons, List.length_cons]
    rw [line_len (h a (by simp)), ih fun x hx => h x (by simp [hx])]
    omega
theorem log_len {rs : List Row} (h : ∀ r ∈ rs, okRow r) : (logText rs).length ≤ 6 * rs.length := by
  rw [len_tl]
  unfold logText
  rw [join_eq, tl_join, tl_nl]
  have h1 := joinL_len [10] ((rs.map lineOf).map tl)
  have h2 : (((rs.map lineOf).map tl).map List.length) = (rs.map lineOf).map (·.length) := by
    rw [List.map_map]
    exact List.map_congr_left fun x _ => (len_tl x).symm
  rw [h2, lines_sum h] at h1
  simp only [List.length_map, List.length_cons, List.length_nil] at h1
  omega
theorem log_ne {rs : List Row} (h : ∀ r ∈ rs, okRow r) (hne : rs ≠ []) : logText rs ≠ "" := by
  intro e
  have h1 := split_log h hne
  rw [e] at h1
  have h2 : Txt.split ("" : Str) "\n" = ([("" : Str)] : List Str) := by decide +kernel
  rw [h2] at h1
  match rs, hne with
  | a :: r, _ =>
    rw [List.map_cons] at h1
    injection h1 with h1 _
    have := line_len (h a (by simp))
    rw [← h1] at this
    exact absurd this (by decide +kernel)
theorem joinL_lt : ∀ ps : List (List Nat), (∀ p ∈ ps, ∀ c ∈ p, c < 0x110000) → ∀ c ∈ joinL [10] ps, c < 0x110000
  | [], _, c, hc => by simp [joinL] at hc
  | [p], z, c, hc => z p (by simp) c (by simpa [joinL] using hc)
  | p :: q :: r, z, c, hc => by
    simp only [joinL, List.mem_append] at hc
    rcases hc with hc | hc | hc
    · exact z p (by simp) c hc
    · simp at hc; omega
    · exact joinL_lt (q :: r) (fun x hx => z x (by simp at hx ⊢; exact .inr hx)) c hc
theorem strOk_log {rs : List Row} (h : ∀ r ∈ rs, okRow r) : (PyData.str (logText rs)).canLay0 = true := by
  have key : ∀ c ∈ tl (logText rs), c < 0x110000 := by
    intro c hc
    unfold logText at hc
    rw [join_eq, tl_join, tl_nl] at hc
    refine joinL_lt _ ?_ c hc
    intro p hp c hc
    simp only [List.map_map, List.mem_map, Function.comp] at hp
    obtain ⟨r, hr, rfl⟩ := hp
    have hok := h r hr
    rw [tl_line hok] at hc
    obtain ⟨⟨h1, h2⟩, h3, h4⟩ := hok
    simp at hc
    rcases hc with rfl | hc | rfl | rfl | hc
    · omega
    · split at hc <;> omega
    · omega
    · omega
    · split at hc <;> omega
  show (logText rs).cps.all (· < 0x110000) = true
  rw [Array.all_eq_true]
  intro i hi
  have := key ((logText rs).cps[i]) (by simp [tl])
  simpa using this
theorem spl_len (S : List Nat) : ∀ (l : List Nat) (k : Nat) (acc : List Nat), (spl S k acc l).length ≤ l.length + 1
  | [], k, acc => by rw [spl_nil]; simp
  | c :: r, 0, acc => by
    by_cases h : pre S (c :: r) = true
    · rw [spl_hit h]
      have := spl_len S r (S.length - 1) []
      simp only [List.length_cons]
      omega
    · rw [spl_miss (by simpa using h)]
      have := spl_len S r 0 (acc ++ [c])
      simp only [List.length_cons]
      omega
  | c :: r, k + 1, acc => by
    have := spl_len S r k acc
    show (spl S k acc r).length ≤ _
    simp only [List.length_cons]
    omega
theorem split_len (x y : Str) (hy : tl y ≠ []) (hk : y.cps.all (· < 256) = true) : (Txt.split x y).length ≤ x.length + 1 := by
  have h := congrArg List.length (split_spl x y hy (kind_ok hk))
  rw [List.length_map] at h
  rw [h, len_tl]
  exact spl_len _ _ _ _
theorem spl_word (S : List Nat) : ∀ (l : List Nat) (k : Nat) (acc : List Nat), ∀ p ∈ spl S k acc l, p.length ≤ acc.length + l.length
  | [], k, acc => by rw [spl_nil]; simp
  | c :: r, 0, acc => by
    intro p hp
    by_cases h : pre S (c :: r) = true
    · rw [spl_hit h] at hp
      rcases List.mem_cons.mp hp with rfl | hp
      · simp
      · have := spl_word S r (S.length - 1) [] p hp
        simp only [List.length_cons, List.length_nil] at this ⊢
        omega
    · rw [spl_miss (by simpa using h)] at hp
      have := spl_word S r 0 (acc ++ [c]) p hp
      simp only [List.length_append, List.length_cons, List.length_nil] at this ⊢
      omega
  | c :: r, k + 1, acc => by
    intro p hp
    have := spl_word S r k acc p hp
    simp only [List.length_cons]
    omega
theorem split_word (x y : Str) (hy : tl y ≠ []) (hk : y.cps.all (· < 256) = true) : ∀ w ∈ Txt.split x y, w.length ≤ x.length := by
  intro w hw
  have h := split_spl x y hy (kind_ok hk)
  have hm : tl w ∈ spl (tl y) 0 [] (tl x) := by rw [← h]; exact List.mem_map_of_mem hw
  have := spl_word _ _ _ _ _ hm
  rw [len_tl, len_tl]
  simpa using this
end TL

namespace TL
open PySem PySem.Spec PyProof.Rows L2
def top (i : Nat) : Stmt := PySem.Challenge.pw_trainline_k13_written_and_read.main.body.getD i (.Pass ⟨0, 0, 0, 0⟩)
abbrev s_is_between : Stmt := top 6
abbrev N_is_between : List Str := ["part", "low", "high"]
abbrev P_is_between : List Str := ["part", "low", "high"]
theorem sc_is_between : FnScope N_is_between P_is_between (defScope s_is_between) := ⟨rfl, rfl, rfl, by decide +kernel, rfl, by decide +kernel, by decide +kernel⟩
abbrev s_is_row : Stmt := top 9
abbrev N_is_row : List Str := ["row"]
abbrev P_is_row : List Str := ["row"]
theorem sc_is_row : FnScope N_is_row P_is_row (defScope s_is_row) := ⟨rfl, rfl, rfl, by decide +kernel, rfl, by decide +kernel, by decide +kernel⟩
abbrev s_need_log : Stmt := top 10
abbrev N_need_log : List Str := ["rows", "number", "row"]
abbrev P_need_log : List Str := ["rows"]
theorem sc_need_log : FnScope N_need_log P_need_log (defScope s_need_log) := ⟨rfl, rfl, rfl, by decide +kernel, rfl, by decide +kernel, by decide +kernel⟩
abbrev s_written : Stmt := top 14
abbrev N_written : List Str := ["rows", "found", "mine", "joined", "yours", "likewise"]
abbrev P_written : List Str := ["rows"]
theorem sc_written : FnScope N_written P_written (defScope s_written) := ⟨rfl, rfl, rfl, by decide +kernel, rfl, by decide +kernel, by decide +kernel⟩
abbrev s_half_of : Stmt := top 15
abbrev N_half_of : List Str := ["word"]
abbrev P_half_of : List Str := ["word"]
theorem sc_half_of : FnScope N_half_of P_half_of (defScope s_half_of) := ⟨rfl, rfl, rfl, by decide +kernel, rfl, by decide +kernel, by decide +kernel⟩
abbrev s_row_of : Stmt := top 16
abbrev N_row_of : List Str := ["line", "halves", "word"]
abbrev P_row_of : List Str := ["line"]
theorem sc_row_of : FnScope N_row_of P_row_of (defScope s_row_of) := ⟨rfl, rfl, rfl, by decide +kernel, rfl, by decide +kernel, by decide +kernel⟩
abbrev s_read : Stmt := top 17
abbrev N_read : List Str := ["text", "found", "number", "line", "row"]
abbrev P_read : List Str := ["text"]
theorem sc_read : FnScope N_read P_read (defScope s_read) := ⟨rfl, rfl, rfl, by decide +kernel, rfl, by decide +kernel, by decide +kernel⟩
abbrev s__law_dice : Stmt := top 19
abbrev N__law_dice : List Str := ["_law_script", "_law_k", "_law_found", "_law_cell"]
abbrev P__law_dice : List Str := ["_law_script", "_law_k"]
theorem sc__law_dice : FnScope N__law_dice P__law_dice (defScope s__law_dice) := ⟨rfl, rfl, rfl, by decide +kernel, rfl, by decide +kernel, by decide +kernel⟩
abbrev s__law_off : Stmt := top 20
abbrev N__law_off : List Str := ["_law_d", "_law_most", "_law_found"]
abbrev P__law_off : List Str := ["_law_d", "_law_most"]
theorem sc__law_off : FnScope N__law_off P__law_off (defScope s__law_off) := ⟨rfl, rfl, rfl, by decide +kernel, rfl, by decide +kernel, by decide +kernel⟩
abbrev s__law_alike : Stmt := top 21
abbrev N__law_alike : List Str := ["_law_found", "_law_due", "_law_k"]
abbrev P__law_alike : List Str := ["_law_found", "_law_due"]
theorem sc__law_alike : FnScope N__law_alike P__law_alike (defScope s__law_alike) := ⟨rfl, rfl, rfl, by decide +kernel, rfl, by decide +kernel, by decide +kernel⟩
abbrev s__law_row : Stmt := top 22
abbrev N__law_row : List Str := ["_law_d", "_law_mine", "_law_yours"]
abbrev P__law_row : List Str := ["_law_d"]
theorem sc__law_row : FnScope N__law_row P__law_row (defScope s__law_row) := ⟨rfl, rfl, rfl, by decide +kernel, rfl, by decide +kernel, by decide +kernel⟩
abbrev s__law_log : Stmt := top 23
abbrev N__law_log : List Str := ["_law_d", "_law_found", "_law_turn"]
abbrev P__law_log : List Str := ["_law_d"]
theorem sc__law_log : FnScope N__law_log P__law_log (defScope s__law_log) := ⟨rfl, rfl, rfl, by decide +kernel, rfl, by decide +kernel, by decide +kernel⟩
abbrev s_law : Stmt := top 24
abbrev N_law : List Str := ["_law_script", "_law_d", "_law_turn", "_law_rows", "_law_lines", "_law_mine", "_law_joined", "_law_yours", "_law_likewise", "_law_text", "_law_again", "_law_found"]
abbrev P_law : List Str := ["_law_script"]
theorem sc_law : FnScope N_law P_law (defScope s_law) := ⟨rfl, rfl, rfl, by decide +kernel, rfl, by decide +kernel, by decide +kernel⟩
/-- what the top has written -/
structure Txt (K : PySem.W.Frag) (mg : Str → Option Value) where
  a_is_between : Addr
  fd_is_between : FuncData
  F_is_between : Fun K "is_between" "is_between" s_is_between a_is_between fd_is_between
  g_is_between : mg "is_between" = some (.ref a_is_between)
  b_is_between : Binds K fd_is_between P_is_between []
  a_is_row : Addr
  fd_is_row : FuncData
  F_is_row : Fun K "is_row" "is_row" s_is_row a_is_row fd_is_row
  g_is_row : mg "is_row" = some (.ref a_is_row)
  b_is_row : Binds K fd_is_row P_is_row []
  a_need_log : Addr
  fd_need_log : FuncData
  F_need_log : Fun K "need_log" "need_log" s_need_log a_need_log fd_need_log
  g_need_log : mg "need_log" = some (.ref a_need_log)
  b_need_log : Binds K fd_need_log P_need_log []
  a_written : Addr
  fd_written : FuncData
  F_written : Fun K "written" "written" s_written a_written fd_written
  g_written : mg "written" = some (.ref a_written)
  b_written : Binds K fd_written P_written []
  a_half_of : Addr
  fd_half_of : FuncData
  F_half_of : Fun K "half_of" "half_of" s_half_of a_half_of fd_half_of
  g_half_of : mg "half_of" = some (.ref a_half_of)
  b_half_of : Binds K fd_half_of P_half_of []
  a_row_of : Addr
  fd_row_of : FuncData
  F_row_of : Fun K "row_of" "row_of" s_row_of a_row_of fd_row_of
  g_row_of : mg "row_of" = some (.ref a_row_of)
  b_row_of : Binds K fd_row_of P_row_of []
  a_read : Addr
  fd_read : FuncData
  F_read : Fun K "read" "read" s_read a_read fd_read
  g_read : mg "read" = some (.ref a_read)
  b_read : Binds K fd_read P_read []
  a__law_dice : Addr
  fd__law_dice : FuncData
  F__law_dice : Fun K "_law_dice" "_law_dice" s__law_dice a__law_dice fd__law_dice
  g__law_dice : mg "_law_dice" = some (.ref a__law_dice)
  b__law_dice : Binds K fd__law_dice P__law_dice []
  a__law_off : Addr
  fd__law_off : FuncData
  F__law_off : Fun K "_law_off" "_law_off" s__law_off a__law_off fd__law_off
  g__law_off : mg "_law_off" = some (.ref a__law_off)
  b__law_off : Binds K fd__law_off P__law_off []
  a__law_alike : Addr
  fd__law_alike : FuncData
  F__law_alike : Fun K "_law_alike" "_law_alike" s__law_alike a__law_alike fd__law_alike
  g__law_alike : mg "_law_alike" = some (.ref a__law_alike)
  b__law_alike : Binds K fd__law_alike P__law_alike []
  a__law_row : Addr
  fd__law_row : FuncData
  F__law_row : Fun K "_law_row" "_law_row" s__law_row a__law_row fd__law_row
  g__law_row : mg "_law_row" = some (.ref a__law_row)
  b__law_row : Binds K fd__law_row P__law_row []
  a__law_log : Addr
  fd__law_log : FuncData
  F__law_log : Fun K "_law_log" "_law_log" s__law_log a__law_log fd__law_log
  g__law_log : mg "_law_log" = some (.ref a__law_log)
  b__law_log : Binds K fd__law_log P__law_log []
  a_law : Addr
  fd_law : FuncData
  F_law : Fun K "law" "law" s_law a_law fd_law
  g_law : mg "law" = some (.ref a_law)
  b_law : Binds K fd_law P_law []
  C_LineError : Addr
  c_LineError : mg "LineError" = some (.ref C_LineError)
  x_LineError : PySem.W.excIn K C_LineError [.type "ValueError", .type "Exception", .type "BaseException", .type "object"] "ValueError.__new__" = true
  k_LineError : PySem.W.keepIn K (.ref C_LineError) = true
  s_LineError : PySem.W.subIn K (.ref C_LineError) (.type "BaseException") = some true
  t_LineError : PySem.W.typeIn K (.ref C_LineError) = some (.type "type")
  tk_MOST : Tok
  v_MOST : mg "MOST" = some (.int 9 tk_MOST)
  tk_MOST_ROWS : Tok
  v_MOST_ROWS : mg "MOST_ROWS" = some (.int 300 tk_MOST_ROWS)
  tk_MARKS : Tok
  v_MARKS : mg "MARKS" = some (.str "-+" tk_MARKS)
  tk_FIGURES : Tok
  v_FIGURES : mg "FIGURES" = some (.str "0123456789" tk_FIGURES)
  n_abs : mg "abs" = none
  n_all : mg "all" = none
  n_bool : mg "bool" = none
  n_enumerate : mg "enumerate" = none
  n_int : mg "int" = none
  n_isinstance : mg "isinstance" = none
  n_len : mg "len" = none
  n_list : mg "list" = none
  n_range : mg "range" = none
  n_str : mg "str" = none
  n_tuple : mg "tuple" = none
end TL

namespace TL
open PySem PySem.Spec PyProof.Rows L2
section
variable {P : Program} {w : World} {K : PySem.W.Frag} {mg : Str → Option Value} {base : Heap}
def sp_is_between (T : Txt K mg) : Sp := fun vs H Q _ => ∃ (x : V) (d : PyData) (lo hi : Int), vs = [x, .int lo, .int hi] ∧ Dp K H x d ∧ (∀ ds, d ≠ .list ds) ∧ Q (.bl (between d lo hi)) H
theorem ok_is_between (T : Txt K mg) : FnOk P w K mg base CX0 1 T.a_is_between T.fd_is_between P_is_between (sp_is_between T) := by
  skip
  refine T.F_is_between.ok sc_is_between (fun vs H Q E h => ?_) (fun cdv A outer s H vs Q E hr h => ?_)
  · obtain ⟨x, d, lo, hi, rfl, _⟩ := h
    rfl
  · obtain ⟨x, d, lo, hi, rfl, hd, nl, k⟩ := h
    refine ⟨_, (pss_one (ps_ret (pe_and (pe_callB call_isi (by rfl) T.n_isinstance (by decide +kernel) (pa_cons (pv 0) (pa_cons (pe_bltn (v := .ty "int") (u := .type "int") (by rfl) T.n_int (by decide +kernel) rfl) pa_nil))) (pe_and (pe_not (pe_callB call_isi (by rfl) T.n_isinstance (by decide +kernel) (pa_cons (pv 0) (pa_cons (pe_bltn (v := .ty "bool") (u := .type "bool") (by rfl) T.n_bool (by decide +kernel) rfl) pa_nil)))) (pe_one (pe_chain op_le op_le (pv 1) (pv 0) (pv 2))))))), ?_⟩
    have k0 : ∀ {b : Bool}, between d lo hi = b → Q (.bl b) H := fun e => by rw [← e]; exact k
    cases d with
    | int i =>
      cases hd
      refine ⟨_, rfl, _, _, _, _, _, rfl, .ty _, tyx_D (.int i), kit_ty kb_ii, _, rfl, iteT ?_⟩
      refine ⟨_, rfl, _, _, _, _, _, rfl, .ty _, tyx_D (.int i), kit_ty kb_ib, _, rfl, _, rfl, iteT ?_⟩
      refine ⟨_, rfl, _, rfl, _, _, rfl, rfl, _, rfl, ?_⟩
      refine iteD (fun h1 => ⟨_, rfl, _, _, rfl, rfl, k0 ?_⟩) (fun h1 => k0 ?_)
      · simp [between, h1]
      · simp [between, h1]
    | bool b =>
      cases hd
      refine ⟨_, rfl, _, _, _, _, _, rfl, .ty _, tyx_D (.bl b), kit_ty kb_bi, _, rfl, iteT ?_⟩
      refine ⟨_, rfl, _, _, _, _, _, rfl, .ty _, tyx_D (.bl b), kit_ty kb_bb, _, rfl, _, rfl, iteF ?_⟩
      exact k0 rfl
    | none =>
      cases hd
      refine ⟨_, rfl, _, _, _, _, _, rfl, .ty _, tyx_D .non, kit_ty kb_ni, _, rfl, iteF ?_⟩
      exact k0 rfl
    | str z =>
      cases hd
      refine ⟨_, rfl, _, _, _, _, _, rfl, .ty _, tyx_D (.str z), kit_ty kb_si, _, rfl, iteF ?_⟩
      exact k0 rfl
    | tuple ds =>
      refine ⟨_, rfl, _, _, _, _, _, rfl, .ty _, tyx_D hd, kit_ty kb_ti, _, rfl, iteF ?_⟩
      exact k0 rfl
    | list ds => exact (nl ds rfl).elim
    | dict _ => cases hd

end
end TL

namespace TL
open PySem PySem.Spec PyProof.Rows L2
section
variable {P : Program} {w : World} {K : PySem.W.Frag} {mg : Str → Option Value} {base : Heap}
def sp_is_row (T : Txt K mg) : Sp := fun vs H Q _ => ∃ (x : V) (d : PyData), vs = [x] ∧ Dp K H x d ∧ rdat d ∧ Q (.bl (isRowD d)) H
theorem ok_is_row (T : Txt K mg) : FnOk P w K mg base CX0 2 T.a_is_row T.fd_is_row P_is_row (sp_is_row T) := by
  have G_is_between := ok_is_between (P := P) (w := w) (base := base) T
  refine T.F_is_row.ok sc_is_row (fun vs H Q E h => ?_) (fun cdv A outer s H vs Q E hr h => ?_)
  · obtain ⟨x, d, rfl, _⟩ := h
    rfl
  · obtain ⟨x, d, rfl, hd, hm, k⟩ := h
    refine ⟨_, (pss_cons (ps_if (PW.pt (pw_or (pt_not (pt_val (pe_callB call_isi (by rfl) T.n_isinstance (by decide +kernel) (pa_cons (pv 0) (pa_cons (pe_bltn (v := .ty "tuple") (u := .type "tuple") (by rfl) T.n_tuple (by decide +kernel) rfl) pa_nil))))) (pw_or1 (pt_cmpR op_ne (pe_callB call_len_seq (by rfl) T.n_len (by decide +kernel) (pa_cons (pv 0) pa_nil)) pe_int (nomark _)))))
      (pss_one (ps_ret pe_bl))
      pss_nil)
    (pss_cons (ps_if (PW.pt (pw_or (pt_not (pt_val (pe_call G_is_between (hr.mono (by decide)) rfl T.g_is_between T.F_is_between.kp T.b_is_between .nil pass0 (pa_cons (pe_ix ix_tup (pv 0) pe_int (fun _ _ => rfl)) (pa_cons pe_int (pa_cons (pe_glob (v := .int 9) rfl T.v_MOST ⟨_, rfl⟩) pa_nil)))))) (pw_or1 (pt_not (pt_val (pe_call G_is_between (hr.mono (by decide)) rfl T.g_is_between T.F_is_between.kp T.b_is_between .nil pass0 (pa_cons (pe_ix ix_tup (pv 0) pe_int (fun _ _ => rfl)) (pa_cons pe_int (pa_cons (pe_glob (v := .int 9) rfl T.v_MOST ⟨_, rfl⟩) pa_nil)))))))))
      (pss_one (ps_ret pe_bl))
      pss_nil)
    (pss_one (ps_ret (pe_and (pe_callB call_isi (by rfl) T.n_isinstance (by decide +kernel) (pa_cons (pe_ix ix_tup (pv 0) pe_int (fun _ _ => rfl)) (pa_cons (pe_bltn (v := .ty "bool") (u := .type "bool") (by rfl) T.n_bool (by decide +kernel) rfl) pa_nil))) (pe_one (pe_callB call_isi (by rfl) T.n_isinstance (by decide +kernel) (pa_cons (pe_ix ix_tup (pv 0) pe_int (fun _ _ => rfl)) (pa_cons (pe_bltn (v := .ty "bool") (u := .type "bool") (by rfl) T.n_bool (by decide +kernel) rfl) pa_nil))))))))), ?_⟩
    have k0 : ∀ {b : Bool}, isRowD d = b → Q (.bl b) H := fun e => by rw [← e]; exact k
    cases d with
    | none => cases hd; exact ⟨_, rfl, _, _, _, _, _, rfl, .ty _, tyx_D .non, kit_ty kb_nt, _, rfl, iteT (iteT (k0 rfl))⟩
    | bool b => cases hd; exact ⟨_, rfl, _, _, _, _, _, rfl, .ty _, tyx_D (.bl b), kit_ty kb_bt, _, rfl, iteT (iteT (k0 rfl))⟩
    | int i => cases hd; exact ⟨_, rfl, _, _, _, _, _, rfl, .ty _, tyx_D (.int i), kit_ty kb_it, _, rfl, iteT (iteT (k0 rfl))⟩
    | str z => cases hd; exact ⟨_, rfl, _, _, _, _, _, rfl, .ty _, tyx_D (.str z), kit_ty kb_st, _, rfl, iteT (iteT (k0 rfl))⟩
    | list ds => exact hm.elim
    | dict _ => cases hd
    | tuple ds =>
      have hd' := hd
      cases hd' with
      | tup hT hA =>
      rename_i a xs
      have hxl := hA.length
      refine ⟨_, rfl, _, _, _, _, _, rfl, .ty _, tyx_D hd, kit_ty kb_tt, _, rfl, iteF ?_⟩
      refine ⟨_, rfl, a, _, rfl, .inr hT, rfl, _, rfl, ?_⟩
      refine iteN (fun hne => k0 ?_) (fun he => ?_)
      · match ds, hxl with
        | [], _ => rfl
        | [_], _ => rfl
        | [_, _], _ => rfl
        | [_, _, _], _ => rfl
        | [_, _, _, _], hxl => exact (hne (by rw [hxl]; rfl)).elim
        | _ :: _ :: _ :: _ :: _ :: _, _ => rfl
      · have hl4 : ds.length = 4 := by
          have := vint_inj.mp he
          omega
        obtain ⟨d0, d1, d2, d3, rfl⟩ : ∃ d0 d1 d2 d3, ds = [d0, d1, d2, d3] := by
          match ds, hl4 with
          | [d0, d1, d2, d3], _ => exact ⟨d0, d1, d2, d3, rfl⟩
        cases hA with
        | cons h0 hA => cases hA with
          | cons h1 hA => cases hA with
            | cons h2 hA => cases hA with
              | cons h3 hA =>
              cases hA
              rename_i v0 v1 v2 v3
              have e : isRowD (.tuple [d0, d1, d2, d3]) = (between d0 0 9 && (between d2 0 9 && (isB d1 && isB d3))) := rfl
              refine ⟨_, rfl, a, _, _, _, rfl, rfl, hT, atI_nat (j := 0) rfl, ?_⟩
              refine ⟨v0, d0, 0, 9, rfl, h0, hm d0 (by simp), _, rfl, ?_⟩
              refine iteB (fun hb => ?_) (fun hb => ?_)
              · have hb : between d0 0 9 = false := by simpa using hb
                exact iteT (k0 (by rw [e, hb]; rfl))
              have hb : between d0 0 9 = true := by simpa using hb
              refine ⟨_, rfl, a, _, _, _, rfl, rfl, hT, atI_nat (j := 2) rfl, ?_⟩
              refine ⟨v2, d2, 0, 9, rfl, h2, hm d2 (by simp), _, rfl, ?_⟩
              refine iteB (fun hc => ?_) (fun hc => ?_)
              · have hc : between d2 0 9 = false := by simpa using hc
                exact k0 (by rw [e, hb, hc]; rfl)
              have hc : between d2 0 9 = true := by simpa using hc
              have isb : ∀ {d : PyData}, (∀ l, d ≠ .list l) → (∀ l, d ≠ .dict l) → kitB (kty d) "bool" = some (isB d) := by
                intro d n1 n2
                cases d with
                | none => exact kb_nb
                | bool b => exact kb_bb
                | int i => exact kb_ib
                | str z => exact kb_sb
                | tuple ds => exact kb_tb
                | list ds => exact (n1 ds rfl).elim
                | dict ds => exact (n2 ds rfl).elim
              have nd : ∀ {v : V} {d : PyData}, Dp K H v d → ∀ l, d ≠ .dict l := fun h l z => by subst z; cases h
              refine ⟨_, rfl, a, _, _, _, rfl, rfl, hT, atI_nat (j := 1) rfl, ?_⟩
              refine ⟨_, _, _, _, _, rfl, .ty _, tyx_D h1, kit_ty (isb (hm d1 (by simp)) (nd h1)), _, rfl, ?_⟩
              refine iteB (fun hx => ?_) (fun hx => k0 (by rw [e, hb, hc, hx]; rfl))
              refine ⟨_, rfl, a, _, _, _, rfl, rfl, hT, atI_nat (j := 3) rfl, ?_⟩
              refine ⟨_, _, _, _, _, rfl, .ty _, tyx_D h3, kit_ty (isb (hm d3 (by simp)) (nd h3)), k0 (by rw [e, hb, hc, hx]; rfl)⟩

end
end TL

namespace TL
open PySem PySem.Spec PyProof.Rows L2
section
variable {P : Program} {w : World} {K : PySem.W.Frag} {mg : Str → Option Value} {base : Heap}
/-- of a log, three hundred rows at most -/
def sp_need_log (T : Txt K mg) : Sp := fun vs H Q _ => ∃ (a : Addr) (xs : List V) (rs : List Row), vs = [.ref a] ∧ SqL K H a xs ∧ ImAll H xs (rs.map rowD) ∧ (∀ r ∈ rs, okRow r) ∧ rs.length ≤ 300 ∧ ∀ H', Same H H' → Q .non H'
theorem ok_need_log (T : Txt K mg) : FnOk P w K mg base CX0 3 T.a_need_log T.fd_need_log P_need_log (sp_need_log T) := by
  have G_is_row := ok_is_row (P := P) (w := w) (base := base) T
  refine T.F_need_log.ok sc_need_log (fun vs H Q E h => ?_) (fun cdv A outer s H vs Q E hr h => ?_)
  · obtain ⟨a, xs, rs, rfl, _⟩ := h
    rfl
  · obtain ⟨a, xs, rs, rfl, hL, hA, hok, hl, k⟩ := h
    refine ⟨_, (pss_one (ps_for PassesOwn.never rfl (pi_enum (by rfl) T.n_enumerate (pa_cons (pv 0) pa_nil)) (pg_tup rfl (pgs_cons (pg_name (i := 1) sc_need_log.nd rfl (by first | exact Or.inl rfl | exact Or.inr rfl)) (pgs_cons (pg_name (i := 2) sc_need_log.nd rfl (by first | exact Or.inl rfl | exact Or.inr rfl)) pgs_nil)))
      (pss_one (ps_if (PW.pt (pw_or (pt_cmpR op_ge (pv 1) (pe_glob (v := .int 300) rfl T.v_MOST_ROWS ⟨_, rfl⟩) (nomark _)) (pw_or1 (pt_not (pt_val (pe_call G_is_row (hr.mono (by decide)) rfl T.g_is_row T.F_is_row.kp T.b_is_row .nil pass0 (pa_cons (pv 2) pa_nil)))))))
        (pss_one ps_never)
        pss_nil)))), ?_⟩
    have hxl := rows_len hA
    refine ⟨_, rfl, a, xs, rfl, hL, for_enum (K := K) (a := a) (xs := xs) (fun i σ H2 => Same H H2 ∧ ∃ v1 v2 : Option V, σ = [some (.ref a), v1, v2])
      ⟨.refl _, _, _, rfl⟩ (fun i σ H2 _ ⟨s2, _⟩ => s2.seq hL) ?_ ?_⟩
    · rintro i x N σ H2 hi ⟨s2, v1, v2, rfl⟩ hN
      have s3 : Same H (upd H2 N (.tup [.int (i : Nat), x])) := s2.trans (Same.upd_new hN)
      obtain ⟨t, r, hr, rfl, ht⟩ := rows_get' hA hi
      have hil : i < rs.length := (List.getElem?_eq_some_iff.mp hr).1
      refine ⟨N, _, rfl, SqT.of upd_same, rfl, _, _, rfl, _, _, rfl, rfl, ?_⟩
      refine ⟨_, rfl, _, _, rfl, rfl, _, rfl, ?_⟩
      refine iteD (fun h => by omega) (fun _ => ?_)
      refine ⟨_, rfl, _, _, rfl, ((im_row ht).same s3).dp, rdat_row r, _, rfl, ?_⟩
      rw [isRow_row (hok r (List.mem_of_getElem? hr))]
      exact iteF ⟨s3, _, _, rfl⟩
    · rintro σ H2 ⟨s2, v1, v2, rfl⟩
      exact k H2 s2

end
end TL

namespace TL
open PySem PySem.Spec PyProof.Rows L2
section
variable {P : Program} {w : World} {K : PySem.W.Frag} {mg : Str → Option Value} {base : Heap}
def sp_written (T : Txt K mg) : Sp := fun vs H Q _ => ∃ (a : Addr) (xs : List V) (rs : List Row), vs = [.ref a] ∧ SqL K H a xs ∧ ImAll H xs (rs.map rowD) ∧ (∀ r ∈ rs, okRow r) ∧ rs.length ≤ 300 ∧ ∀ H', Same H H' → Q (.str (logText rs)) H'
theorem mark_at (b : Bool) : atI ("-+" : Str).cps.toList (if b = true then 1 else 0) = some (if b = true then 43 else 45) := by
  cases b <;> decide +kernel
theorem log2_small {i : Int} (h0 : 0 ≤ i) (h9 : i ≤ 9) : i.natAbs.log2 < 1920 := by
  have : i.natAbs < 2 ^ 1920 := Nat.lt_of_lt_of_le (show i.natAbs < 2 ^ 4 by omega) (Nat.pow_le_pow_right (by decide) (by decide))
  by_cases z : i.natAbs = 0
  · rw [z]; decide
  · exact (Nat.log2_lt z).mpr this
theorem ok_written (T : Txt K mg) : FnOk P w K mg base CX0 4 T.a_written T.fd_written P_written (sp_written T) := by
  have G_need_log := ok_need_log (P := P) (w := w) (base := base) T
  refine T.F_written.ok sc_written (fun vs H Q E h => ?_) (fun cdv A outer s H vs Q E hr h => ?_)
  · obtain ⟨a, xs, rs, rfl, _⟩ := h
    rfl
  · obtain ⟨a, xs, rs, rfl, hL, hA, hok, hl, k⟩ := h
    refine ⟨_, (pss_cons (ps_expr (pe_call G_need_log (hr.mono (by decide)) rfl T.g_need_log T.F_need_log.kp T.b_need_log .nil pass0 (pa_cons (pv 0) pa_nil)))
    (pss_cons (ps_set (i := 1) sc_written.nd rfl (by first | exact Or.inl rfl | exact Or.inr rfl) (pe_lst pa_nil))
    (pss_cons (ps_for PassesOwn.never rfl (pi_list (pv 0)) (pg_tup rfl (pgs_cons (pg_name (i := 2) sc_written.nd rfl (by first | exact Or.inl rfl | exact Or.inr rfl)) (pgs_cons (pg_name (i := 3) sc_written.nd rfl (by first | exact Or.inl rfl | exact Or.inr rfl)) (pgs_cons (pg_name (i := 4) sc_written.nd rfl (by first | exact Or.inl rfl | exact Or.inr rfl)) (pgs_cons (pg_name (i := 5) sc_written.nd rfl (by first | exact Or.inl rfl | exact Or.inr rfl)) pgs_nil)))))
      (pss_one (ps_expr (pe_bm PySem.F.plainAttrs_list PySem.F.slot_list_append PySem.F.type_list_append mt_append (pv 1) (pa_cons (pe_op op_add_str (pe_op op_add_str (pe_op op_add_str (pe_op op_add_str (pe_callTy call_str_int (by rfl) T.n_str (by decide +kernel) (pa_cons (pv 2) pa_nil)) (pe_ix ix_str (pe_glob (v := .str "-+") rfl T.v_MARKS ⟨_, rfl⟩) (pe_callTy call_int1 (by rfl) T.n_int (by decide +kernel) (pa_cons (pv 3) pa_nil)) (fun _ _ => rfl))) pe_str) (pe_callTy call_str_int (by rfl) T.n_str (by decide +kernel) (pa_cons (pv 4) pa_nil))) (pe_ix ix_str (pe_glob (v := .str "-+") rfl T.v_MARKS ⟨_, rfl⟩) (pe_callTy call_int1 (by rfl) T.n_int (by decide +kernel) (pa_cons (pv 5) pa_nil)) (fun _ _ => rfl))) pa_nil)))))
    (pss_one (ps_ret (pe_join pe_str (pv 1))))))), ?_⟩
    have hxl := rows_len hA
    refine ⟨_, rfl, a, xs, rs, rfl, hL, hA, hok, hl, fun H1 s1 => ?_⟩
    refine ⟨(by show 0 ≤ sizeLine; decide), fun p hp => ?_⟩
    have s2 := s1.trans (Same.upd_new (o := .lst []) hp)
    have hpH := s1.free hp
    refine ⟨_, rfl, a, rfl, ⟨_, s2.seq hL⟩, for_list (K := K) (a := a) (xs := xs) (fun i σ H2 => (∃ v2 v3 v4 v5 : Option V, σ = [some (.ref a), some (.ref p), v2, v3, v4, v5]) ∧ Same H H2 ∧ H2 p = some (.lst (((rs.take i).map lineOf).map V.str)))
      ⟨⟨_, _, _, _, rfl⟩, s2, upd_same⟩ (fun i σ H2 _ ⟨_, s3, _⟩ => s3.seq hL) ?_ ?_⟩
    · rintro i x σ H2 hi ⟨⟨v2, v3, v4, v5, rfl⟩, s3, hp3⟩
      obtain ⟨t, r, hr, rfl, ht⟩ := rows_get' hA hi
      have hil : i < rs.length := (List.getElem?_eq_some_iff.mp hr).1
      have hrok := hok r (List.mem_of_getElem? hr)
      have ht3 := s3 _ _ ht
      have l1 : (dgS r.1).length = 1 := by rw [len_tl, tl_dg hrok.1.1 hrok.1.2]; rfl
      have l2 : (dgS r.2.2.1).length = 1 := by rw [len_tl, tl_dg hrok.2.1 hrok.2.2]; rfl
      have l3 : ∀ b, (sgS b).length = 1 := fun b => by rw [len_tl]; rfl
      have l4 : (" " : Str).length = 1 := by decide +kernel
      have app : ∀ x y : Str, (x ++ y).length = x.length + y.length := fun x y => by rw [len_tl, len_tl, len_tl, tl_append, List.length_append]
      refine ⟨t, _, rfl, SqT.of ht3, rfl, _, _, rfl, _, _, rfl, _, _, rfl, _, _, rfl, rfl, ?_⟩
      refine ⟨_, rfl, .inl ⟨rfl, _, SqL.of hp3⟩, ?_⟩
      refine ⟨_, rfl, _, rfl, log2_small hrok.1.1 hrok.1.2, _, rfl, .inr ⟨_, rfl, ?_⟩⟩
      refine ⟨_, _, _, rfl, rfl, (by show 2 ≤ sizeLine; decide), mark_at r.2.1, dgS r.1, sgS r.2.1, rfl, rfl, ?_, ?_⟩
      · rw [l1, l3]; decide
      refine ⟨_, (" " : Str), rfl, rfl, ?_, ?_⟩
      · rw [app, l1, l3, l4]; decide
      refine ⟨_, rfl, _, rfl, log2_small hrok.2.1 hrok.2.2, _, dgS r.2.2.1, rfl, rfl, ?_, ?_⟩
      · rw [app, app, l1, l2, l3, l4]; decide
      refine ⟨_, rfl, .inr ⟨_, rfl, ?_⟩⟩
      refine ⟨_, _, _, rfl, rfl, (by show 2 ≤ sizeLine; decide), mark_at r.2.2.2, _, sgS r.2.2.2, rfl, rfl, ?_, ?_⟩
      · rw [app, app, app, l1, l2, l3, l3, l4]; decide
      refine ⟨p, _, _, rfl, rfl, hp3, by simp only [List.length_map, List.length_take]; exact small1000 (by omega), ⟨_, _, _, _, rfl⟩, ((Frm.of_same s3).own hpH (Frm.updL hp3)).same, ?_⟩
      rw [upd_same, take_more hr]
      simp only [List.map_append, List.map_cons, List.map_nil]
      rfl
    · rintro σ H2 ⟨⟨v2, v3, v4, v5, rfl⟩, s3, hp3⟩
      rw [hxl, List.take_length] at hp3
      refine ⟨⟨_, rfl⟩, _, rfl, _, p, _, rfl, rfl, .inl (SqL.of hp3), ?_, k H2 s3⟩
      rw [lines_sum hok, List.length_map]
      have : ("\n" : Str).length = 1 := by decide +kernel
      rw [this]
      omega

end
end TL

namespace TL
open PySem PySem.Spec PyProof.Rows L2
section
variable {P : Program} {w : World} {K : PySem.W.Frag} {mg : Str → Option Value} {base : Heap}
def sp_half_of (T : Txt K mg) : Sp := fun vs H Q _ => ∃ z : Str, vs = [.str z] ∧ z.length ≤ sizeLine ∧ (halfL (tl z) = none → Q .non H) ∧
  (∀ a b, halfL (tl z) = some (a, b) → ∀ t, H t = none → Q (.ref t) (upd H t (.tup [.int a, .bl b])))
theorem fig_mem {c : Nat} : c ∈ tl ("0123456789" : Str) ↔ 48 ≤ c ∧ c ≤ 57 := by
  have e : tl ("0123456789" : Str) = [48, 49, 50, 51, 52, 53, 54, 55, 56, 57] := by decide +kernel
  rw [e]
  simp only [List.mem_cons, List.not_mem_nil, or_false]
  omega
theorem mrk_mem {c : Nat} : c ∈ tl ("-+" : Str) ↔ c = 43 ∨ c = 45 := by
  have e : tl ("-+" : Str) = [45, 43] := by decide +kernel
  rw [e]
  simp only [List.mem_cons, List.not_mem_nil, or_false]
  omega
theorem one_sign {c k : Nat} {z : Str} (h : tl z = [k]) : (V.str ⟨#[c]⟩ = V.str z) ↔ c = k := by
  constructor
  · intro e
    have e' : (⟨#[c]⟩ : Str) = z := by injection e
    have e2 : [c] = [k] := by
      have := congrArg tl e'
      rw [h] at this
      exact this
    simpa using e2
  · rintro rfl
    have : (⟨#[c]⟩ : Str) = z := ext_tl (by rw [h])
    rw [this]
theorem int_sign {c : Nat} (h1 : 48 ≤ c) (h2 : c ≤ 57) : PySem.intText? ⟨#[c]⟩ = some ((c : Int) - 48) := by
  obtain ⟨n, rfl⟩ : ∃ n, c = 48 + n := ⟨c - 48, by omega⟩
  have e : (⟨#[48 + n]⟩ : Str) = Str.ofString (toString ((n : Nat) : Int)) := ext_tl (by rw [tl_num, numL_lt (by omega)])
  have e2 : (((48 + n : Nat) : Int) - 48) = ((n : Nat) : Int) := by omega
  rw [e, e2]
  exact int_num (by rw [numL_lt (by omega)]; show 1 ≤ 4300; decide)
theorem ok_half_of (T : Txt K mg) : FnOk P w K mg base CX0 1 T.a_half_of T.fd_half_of P_half_of (sp_half_of T) := by
  skip
  refine T.F_half_of.ok sc_half_of (fun vs H Q E h => ?_) (fun cdv A outer s H vs Q E hr h => ?_)
  · obtain ⟨z, rfl, _⟩ := h
    rfl
  · obtain ⟨z, rfl, hz, k1, k2⟩ := h
    refine ⟨_, (pss_cons (ps_if (PW.pt (pw_or (pt_cmpR op_ne (pe_callB call_len_str (by rfl) T.n_len (by decide +kernel) (pa_cons (pv 0) pa_nil)) pe_int (nomark _)) (pw_or (pt_cmpR op_notInS (pe_ix ix_str (pv 0) pe_int (fun _ _ => rfl)) (pe_glob (v := .str "0123456789") rfl T.v_FIGURES ⟨_, rfl⟩) (by rfl)) (pw_or1 (pt_cmpR op_notInS (pe_ix ix_str (pv 0) pe_int (fun _ _ => rfl)) (pe_glob (v := .str "-+") rfl T.v_MARKS ⟨_, rfl⟩) (by rfl))))))
      (pss_one (ps_ret pe_non))
      pss_nil)
    (pss_one (ps_ret (pe_tup (pa_cons (pe_callTy call_int_str (by rfl) T.n_int (by decide +kernel) (pa_cons (pe_ix ix_str (pv 0) pe_int (fun _ _ => rfl)) pa_nil)) (pa_cons (pe_cmpR op_eq (pe_ix ix_str (pv 0) pe_int (fun _ _ => rfl)) pe_str (nomark _)) pa_nil)))))), ?_⟩
    have hzl := len_tl z
    refine ⟨_, rfl, z, rfl, hz, rfl, _, rfl, ?_⟩
    refine iteN (fun hne => iteT (k1 ?_)) (fun he => ?_)
    · unfold halfL
      split
      · rename_i a b hab
        rw [hab] at hzl
        exact (hne (by rw [hzl]; rfl)).elim
      · rfl
    have hz2 : (tl z).length = 2 := by
      have := vint_inj.mp he
      omega
    obtain ⟨a, b, hab⟩ : ∃ a b, tl z = [a, b] := by
      match tl z, hz2 with
      | [a, b], _ => exact ⟨a, b, rfl⟩
    have at0 : atI z.cps.toList 0 = some a := atI_nat (j := 0) (by show (tl z)[0]? = _; rw [hab]; rfl)
    have at1 : atI z.cps.toList 1 = some b := atI_nat (j := 1) (by show (tl z)[1]? = _; rw [hab]; rfl)
    refine ⟨_, rfl, z, _, a, rfl, rfl, hz, at0, a, _, rfl, rfl, _, rfl, ?_⟩
    have ea : (!decide (a ∈ ("0123456789" : Str).cps.toList)) = !decide (48 ≤ a ∧ a ≤ 57) := by
      congr 1
      exact decide_eq_decide.mpr fig_mem
    rw [ea]
    refine iteN (fun hn => iteT (k1 ?_)) (fun ha => ?_)
    · rw [hab]
      simp only [halfL]
      rw [if_neg fun q => hn q.1]
    refine ⟨_, rfl, z, _, b, rfl, rfl, hz, at1, b, _, rfl, rfl, _, rfl, ?_⟩
    have eb : (!decide (b ∈ ("-+" : Str).cps.toList)) = !decide (b = 43 ∨ b = 45) := by
      congr 1
      exact decide_eq_decide.mpr mrk_mem
    rw [eb]
    refine iteN (fun hn => k1 ?_) (fun hb => ?_)
    · rw [hab]
      simp only [halfL]
      rw [if_neg fun q => hn q.2]
    have hh : halfL (tl z) = some ((a : Int) - 48, decide (b = 43)) := by
      rw [hab]
      simp only [halfL]
      rw [if_pos ⟨ha, hb⟩]
    refine ⟨_, rfl, z, _, a, rfl, rfl, hz, at0, _, _, rfl, int_sign ha.1 ha.2, (by show 1 ≤ 640; decide), ?_⟩
    refine ⟨_, rfl, z, _, b, rfl, rfl, hz, at1, rfl, (by show 2 ≤ sizeLine; decide), fun t ht => ?_⟩
    have ec : decide (V.str ⟨#[b]⟩ = V.str "+") = decide (b = 43) := decide_eq_decide.mpr (one_sign (by decide +kernel))
    rw [ec]
    exact k2 _ _ hh t ht

end
end TL

namespace TL
open PySem PySem.Spec PyProof.Rows L2
section
variable {P : Program} {w : World} {K : PySem.W.Frag} {mg : Str → Option Value} {base : Heap}
def sp_row_of (T : Txt K mg) : Sp := fun vs H Q _ => ∃ z : Str, vs = [.str z] ∧ z.length + 2 ≤ sizeLine ∧ (rowOfL z = none → ∀ H', Same H H' → Q .non H') ∧
  (∀ r, rowOfL z = some r → ∀ t H', Same H H' → H' t = some (.tup (rowV r)) → Q (.ref t) H')
/-- a word's half as data -/
def halfP : Option (Int × Bool) → PyData
  | none => .none
  | some (a, b) => .tuple [.int a, .bool b]
theorem lv_half (o : Option (Int × Bool)) : lv 1 (halfP o) := by
  cases o with
  | none => exact trivial
  | some x => exact ⟨by show 2 ≤ 100000; decide, fun d hd => by simp at hd; rcases hd with rfl | rfl <;> exact trivial⟩
theorem lay_halves (l : List (Option (Int × Bool))) : SeqAt.shaped (.list (l.map halfP)) = true := by
  have h : PyData.canLayAll0 (l.map halfP) = true ∧ PyData.depthAll (l.map halfP) ≤ 1 := by
    induction l with
    | nil => exact ⟨rfl, by simp [PyData.depthAll]⟩
    | cons a r ih =>
      obtain ⟨a1, a2⟩ := lv_ok 1 _ (lv_half a)
      refine ⟨by simp [PyData.canLayAll0, a1, ih.1], ?_⟩
      simp only [List.map_cons, PyData.depthAll]
      omega
  unfold SeqAt.shaped
  have h1 : (PyData.list (l.map halfP)).canLay0 = true := by simpa [PyData.canLay0] using h.1
  have h2 : (PyData.list (l.map halfP)).depth ≤ 64 := by simp only [PyData.depth]; omega
  rw [h1, decide_eq_true h2]
  rfl
theorem im_half {H : Hp} {x : V} {o : Option (Int × Bool)} (h : Im H x (halfP o)) : (o = none ∧ x = .non) ∨ ∃ a b t, o = some (a, b) ∧ x = .ref t ∧ H t = some (.tup [.int a, .bl b]) := by
  cases o with
  | none => cases h; exact .inl ⟨rfl, rfl⟩
  | some y =>
    obtain ⟨a, b⟩ := y
    generalize e : halfP (some (a, b)) = dd at h
    cases h with
    | tup ht ha =>
      rename_i t xs ds
      injection e with e
      subst e
      cases ha with
      | cons h1 ha => cases h1; cases ha with
        | cons h1 ha => cases h1; cases ha; exact .inr ⟨a, b, t, rfl, rfl, ht⟩
    | _ => exact PyData.noConfusion e
theorem ok_row_of (T : Txt K mg) : FnOk P w K mg base CX0 2 T.a_row_of T.fd_row_of P_row_of (sp_row_of T) := by
  have G_half_of := ok_half_of (P := P) (w := w) (base := base) T
  refine T.F_row_of.ok sc_row_of (fun vs H Q E h => ?_) (fun cdv A outer s H vs Q E hr h => ?_)
  · obtain ⟨z, rfl, _⟩ := h
    rfl
  · obtain ⟨z, rfl, hz, k1, k2⟩ := h
    have hu65 : (A.deeper (envOfC "row_of" (defScope s_row_of) s.heap.objs.size T.a_row_of cdv)).units + 65 < cLine := by have := hr.un; omega
    refine ⟨_, (pss_cons (ps_setLc (i := 1) (own := [("word", 2)]) (g := (gName 2)) (tt := tYes) (te := (tCall _ [] E0 (tCons (tVar 2) tNil))) rfl sc_row_of.nd rfl rfl (sw_true rfl rfl rfl (by decide +kernel)) (pi_list (pe_split (pv 0) pe_str)) (blkOk_by (own := [("word", 2)]) (N := N_row_of) (sc := defScope s_row_of) (by decide +kernel)) (fun _ _ _ _ _ => (pg_name (i := 2) sc_row_of.nd rfl (by first | exact Or.inl rfl | exact Or.inr rfl))) (fun _ _ _ _ _ => pts_nil) (fun _ _ _ _ _ => (pe_call G_half_of (hr.mono (by decide)) rfl T.g_half_of T.F_half_of.kp T.b_half_of .nil pass0 (pa_cons (pv 2) pa_nil))))
    (pss_one (ps_ret (pe_ifExp (PW.pt (pw_or (pt_cmpR op_ne (pe_callB call_len_seq (by rfl) T.n_len (by decide +kernel) (pa_cons (pv 1) pa_nil)) pe_int (nomark _)) (pw_or1 (pt_cmpR (op_inD hu65) pe_non (pv 1) (by rfl))))) pe_non (pe_op op_catA (pe_ix ix_list (pv 1) pe_int (fun _ _ => rfl)) (pe_ix ix_list (pv 1) pe_int (fun _ _ => rfl))))))), ?_⟩
    have hws := split_len z " " (by rw [tl_sp]; simp) (by decide +kernel)
    have hww := split_word z " " (by rw [tl_sp]; simp) (by decide +kernel)
    refine ⟨_, rfl, ⟨z, rfl⟩, z, _, rfl, rfl, rfl, hz, fun W hW => ?_⟩
    refine ⟨W, rfl, ⟨_, SqL.of upd_same⟩, fun D hD => ?_⟩
    have s1 : Same H (upd H W (.lst ((Txt.split z " ").map V.str))) := Same.upd_new hW
    have hDH := s1.free hD
    refine lc_list (K := K) (a := W) (xs := (Txt.split z " ").map V.str) (fun i H2 => Same (upd H W (.lst ((Txt.split z " ").map V.str))) H2 ∧ ∃ xs, H2 D = some (.lst xs) ∧ ImAll H2 xs (((halvesOf z).take i).map halfP))
      ⟨Same.upd_new hD, [], upd_same, .nil⟩ (fun i H2 _ ⟨s2, _⟩ => SqL.of (s2 _ _ upd_same)) ?_ ?_
    · rintro i y H2 hi ⟨s2, xs, hD2, hA2⟩
      obtain ⟨w0, hw0, rfl⟩ := getmap hi
      have hil : i < (Txt.split z " ").length := (List.getElem?_eq_some_iff.mp hw0).1
      have hhi : (halvesOf z)[i]? = some (halfL (tl w0)) := by unfold halvesOf; rw [List.getElem?_map, hw0]; rfl
      have hwl := hww w0 (List.mem_of_getElem? hw0)
      have hxl : xs.length ≤ i := by rw [hA2.length, List.length_map]; exact List.length_take_le _ _
      have hxs : xs.length < sizeLine := by
        have := hz
        omega
      have fin : ∀ (v : V) (H3 : Hp), Same H2 H3 → Im H3 v (halfP (halfL (tl w0))) → ∃ acc, H3 D = some (.lst acc) ∧ acc.length < sizeLine ∧ (Same (upd H W (.lst ((Txt.split z " ").map V.str))) (upd H3 D (.lst (acc ++ [v]))) ∧ ∃ xs, (upd H3 D (.lst (acc ++ [v]))) D = some (.lst xs) ∧ ImAll (upd H3 D (.lst (acc ++ [v]))) xs (((halvesOf z).take (i + 1)).map halfP)) := by
        intro v H3 s3 hv
        have hD3 := s3 _ _ hD2
        refine ⟨xs, hD3, hxs, ((Frm.of_same (s2.trans s3)).own hD (Frm.updL hD3)).same, _, upd_same, ?_⟩
        rw [take_more hhi, List.map_append]
        exact ((hA2.same s3).append (.cons hv .nil)).updL hD3
      refine ⟨rfl, _, rfl, w0, rfl, by omega, fun hn => fin _ _ (.refl _) (by rw [hn]; exact .non), fun a b hab t ht => fin _ _ (Same.upd_new ht) ?_⟩
      rw [hab]
      exact .tup upd_same (.cons (.int _) (.cons (.bl _) .nil))
    · rintro H2 ⟨s2, xs, hD2, hA2⟩
      have htk : (halvesOf z).take ((Txt.split z " ").map V.str).length = halvesOf z := by
        apply List.take_of_length_le
        unfold halvesOf
        simp
      rw [htk] at hA2
      have hxl : xs.length = (halvesOf z).length := by rw [hA2.length, List.length_map]
      have s02 := s1.trans s2
      -- None, where there aren't two halves
      refine ⟨_, rfl, D, _, rfl, .inl (SqL.of hD2), rfl, _, rfl, ?_⟩
      refine iteN (fun hne => iteT (k1 ?_ H2 s02)) (fun he => ?_)
      · unfold rowOfL
        generalize halvesOf z = l at hxl hne
        unfold rowHalves
        split
        · exact (hne (by rw [hxl]; rfl)).elim
        · rfl
      have h2 : (halvesOf z).length = 2 := by
        have := vint_inj.mp he
        omega
      obtain ⟨o1, o2, h12⟩ : ∃ o1 o2, halvesOf z = [o1, o2] := by
        match halvesOf z, h2 with
        | [o1, o2], _ => exact ⟨o1, o2, rfl⟩
      rw [h12] at hA2 hxl
      cases hA2 with
      | cons g1 hA2 => cases hA2 with
        | cons g2 hA2 =>
        cases hA2
        rename_i x1 x2
        refine ⟨_, rfl, .none, [o1, o2].map halfP, .non, .lst (SqL.of hD2) (.cons g1.dp (.cons g2.dp .nil)), rfl, lay_halves _, _, rfl, ?_⟩
        have hro : rowOfL z = rowHalves [o1, o2] := by unfold rowOfL; rw [h12]
        rcases im_half g1 with ⟨rfl, rfl⟩ | ⟨a1, b1, t1, rfl, rfl, ht1⟩
        · exact iteT (k1 (by rw [hro]; rfl) H2 s02)
        · rcases im_half g2 with ⟨rfl, rfl⟩ | ⟨a2, b2, t2, rfl, rfl, ht2⟩
          · exact iteT (k1 (by rw [hro]; rfl) H2 s02)
          · refine iteF ?_
            refine ⟨_, rfl, D, _, _, _, rfl, rfl, SqL.of hD2, atI_nat (j := 0) rfl, _, rfl, D, _, _, _, rfl, rfl, SqL.of hD2, atI_nat (j := 1) rfl, ?_⟩
            refine ⟨t1, t2, _, _, rfl, rfl, SqT.of ht1, SqT.of ht2, (by show 4 ≤ sizeLine; decide), (fun q => by cases q), (fun _ q => by cases q), fun _ _ t ht => ?_⟩
            exact k2 (a1, b1, a2, b2) (by rw [hro]; rfl) t _ (s02.trans (Same.upd_new ht)) (by rw [upd_same]; rfl)

end
end TL

namespace TL
open PySem PySem.Spec PyProof.Rows L2
section
variable {P : Program} {w : World} {K : PySem.W.Frag} {mg : Str → Option Value} {base : Heap}
/-- a text's lines -/
def linesOf (z : Str) : List Str := if z = "" then [] else Txt.split z "\n"
def sp_read (T : Txt K mg) : Sp := fun vs H Q _ => ∃ (z : Str) (rs : List Row), vs = [.str z] ∧ z.length + 2 ≤ sizeLine ∧ (linesOf z).map rowOfL = rs.map some ∧ rs.length ≤ 300 ∧
  ∀ (p : Addr) (xs : List V) (H' : Hp), H p = none → H' p = some (.lst xs) → ImAll H' xs (rs.map rowD) → Same H H' → Q (.ref p) H'
theorem ok_read (T : Txt K mg) : FnOk P w K mg base CX0 3 T.a_read T.fd_read P_read (sp_read T) := by
  have G_row_of := ok_row_of (P := P) (w := w) (base := base) T
  refine T.F_read.ok sc_read (fun vs H Q E h => ?_) (fun cdv A outer s H vs Q E hr h => ?_)
  · obtain ⟨z, rs, rfl, _⟩ := h
    rfl
  · obtain ⟨z, rs, rfl, hz, hrs, hl, k⟩ := h
    refine ⟨_, (pss_cons (ps_set (i := 1) sc_read.nd rfl (by first | exact Or.inl rfl | exact Or.inr rfl) (pe_lst pa_nil))
    (pss_cons (ps_for PassesOwn.never rfl (pi_enum (by rfl) T.n_enumerate (pa_cons (pe_ifExp (pt_cmpR op_ne (pv 0) pe_str (nomark _)) (pe_split (pv 0) pe_str) (pe_lst pa_nil)) pa_nil)) (pg_tup rfl (pgs_cons (pg_name (i := 2) sc_read.nd rfl (by first | exact Or.inl rfl | exact Or.inr rfl)) (pgs_cons (pg_name (i := 3) sc_read.nd rfl (by first | exact Or.inl rfl | exact Or.inr rfl)) pgs_nil)))
      (pss_cons (ps_set (i := 4) sc_read.nd rfl (by first | exact Or.inl rfl | exact Or.inr rfl) (pe_call G_row_of (hr.mono (by decide)) rfl T.g_row_of T.F_row_of.kp T.b_row_of .nil pass0 (pa_cons (pv 3) pa_nil)))
      (pss_cons (ps_if (PW.pt (pw_or (pt_cmpR op_isN1 (pv 4) pe_non (nomark _)) (pw_or1 (pt_cmpR op_ge (pv 2) (pe_glob (v := .int 300) rfl T.v_MOST_ROWS ⟨_, rfl⟩) (nomark _)))))
        (pss_one ps_never)
        pss_nil)
      (pss_one (ps_expr (pe_bm PySem.F.plainAttrs_list PySem.F.slot_list_append PySem.F.type_list_append mt_append (pv 1) (pa_cons (pv 4) pa_nil)))))))
    (pss_one (ps_ret (pv 1))))), ?_⟩
    refine ⟨(by show 0 ≤ sizeLine; decide), fun p hp => ?_⟩
    have s0 : Same H (upd H p (.lst [])) := Same.upd_new hp
    have hll : (linesOf z).length = rs.length := by have := congrArg List.length hrs; simpa using this
    have hww : ∀ l ∈ linesOf z, l.length ≤ z.length := by
      intro l hl
      unfold linesOf at hl
      split at hl
      · simp at hl
      · exact split_word z "\n" (by rw [tl_nl]; simp) (by decide +kernel) l hl
    -- the text's lines at L
    have go : ∀ (L : Addr) (H1 : Hp) (D : Ends), Same (upd H p (.lst [])) H1 → H1 L = some (.lst ((linesOf z).map V.str)) →
        (∀ (σ : L2.St) (xs : List V) (H2 : Hp), (∃ v2 v3 v4 : Option V, σ = [some (.str z), some (.ref p), v2, v3, v4]) → H2 p = some (.lst xs) → ImAll H2 xs (rs.map rowD) → Same H H2 → D.nx σ H2) →
        ForW (Ite K L) (gTup K 2 (gCons (gName 2) (gCons (gName 3) gNil))) (tSeq (tAsg (tCall (sp_row_of T) [] E0 (tCons (tVar 3) tNil)) (gName 4)) (tSeq (tIfS (tOr (tTest (tOp rIsN (tVar 4) (tC .non))) (tTest (tOp (rI0 fun i j => .bl (decide (j ≤ i))) (tVar 2) (tC (.int 300))))) tNever tNext)
          (tDrop (tBM K "list" rAppend (tVar 1) (tCons (tVar 4) tNil))))) D [some (.str z), some (.ref p), none, none, none] H1 := by
      intro L H1 D s1 hL hend
      refine for_enum (K := K) (a := L) (xs := (linesOf z).map V.str) (fun i σ H2 => (∃ v2 v3 v4 : Option V, σ = [some (.str z), some (.ref p), v2, v3, v4]) ∧ Same H H2 ∧ H2 L = some (.lst ((linesOf z).map V.str)) ∧ ∃ xs, H2 p = some (.lst xs) ∧ ImAll H2 xs ((rs.take i).map rowD))
        ⟨⟨_, _, _, rfl⟩, s0.trans s1, hL, [], s1 _ _ upd_same, .nil⟩ (fun i σ H2 _ ⟨_, _, h2, _⟩ => SqL.of h2) ?_ ?_
      · rintro i y N σ H2 hi ⟨⟨v2, v3, v4, rfl⟩, s2, hL2, xs, hp2, hA2⟩ hN
        obtain ⟨l, hli, rfl⟩ := getmap hi
        have hil : i < rs.length := by rw [← hll]; exact (List.getElem?_eq_some_iff.mp hli).1
        have hri : rs[i]? = some rs[i] := List.getElem?_eq_getElem hil
        have hro : rowOfL l = some rs[i] := by
          have h1 : ((linesOf z).map rowOfL)[i]? = (rs.map some)[i]? := by rw [hrs]
          rw [List.getElem?_map, List.getElem?_map, hli, hri] at h1
          simpa using h1
        have hlz := hww l (List.mem_of_getElem? hli)
        have s3 : Same H2 (upd H2 N (.tup [.int (i : Nat), .str l])) := Same.upd_new hN
        refine ⟨N, _, rfl, SqT.of upd_same, rfl, _, _, rfl, _, _, rfl, rfl, ?_⟩
        refine ⟨_, rfl, l, rfl, by omega, (fun q => by rw [hro] at q; cases q), fun r hr t H3 s4 ht => ?_⟩
        rw [hro] at hr
        cases hr
        refine ⟨_, rfl, rfl, _, rfl, iteF ?_⟩
        refine ⟨_, rfl, _, _, rfl, rfl, _, rfl, ?_⟩
        refine iteD (fun q => by omega) (fun _ => ?_)
        have s23 := s3.trans s4
        have hp3 := s23 _ _ hp2
        have hL3 := s23 _ _ hL2
        have npL : L ≠ p := by
          intro e
          have hpL := s1 _ _ (upd_same (H := H) (a := p) (o := .lst []))
          rw [← e, hL] at hpL
          have : (linesOf z).map V.str = [] := by injection hpL with q; injection q
          have h0 : (linesOf z).length = 0 := by rw [← List.length_map (f := V.str), this]; rfl
          omega
        have hxl : xs.length ≤ i := by rw [hA2.length, List.length_map]; exact List.length_take_le _ _
        refine ⟨_, rfl, .inl ⟨rfl, _, SqL.of hp3⟩, _, rfl, p, xs, _, rfl, rfl, hp3, small1000 (by omega), ⟨_, _, _, rfl⟩, ((Frm.of_same (s2.trans s23)).own hp (Frm.updL hp3)).same, by rw [upd_ne npL]; exact hL3, _, upd_same, ?_⟩
        rw [take_more hri, List.map_append]
        exact ((hA2.same s23).append (.cons (im_row ht) .nil)).updL hp3
      · rintro σ H2 ⟨hσ, s2, hL2, xs, hp2, hA2⟩
        rw [List.length_map, hll, List.take_length] at hA2
        exact hend σ xs H2 hσ hp2 hA2 s2
    have fin : ∀ (σ : L2.St) (xs : List V) (H2 : Hp), (∃ v2 v3 v4 : Option V, σ = [some (.str z), some (.ref p), v2, v3, v4]) → H2 p = some (.lst xs) → ImAll H2 xs (rs.map rowD) → Same H H2 → tRet (tVar 1) { nx := fun _ H' => Q .non H', rt := Q } σ H2 := by
      rintro σ xs H2 ⟨v2, v3, v4, rfl⟩ h1 h2 h3
      exact ⟨_, rfl, k p xs H2 hp h1 h2 h3⟩
    refine ⟨_, rfl, rfl, _, rfl, ?_⟩
    refine iteN (fun hne => ?_) (fun he => ?_)
    · have hz0 : z ≠ "" := fun e => hne (by rw [e])
      have hlz : linesOf z = Txt.split z "\n" := by unfold linesOf; rw [if_neg hz0]
      refine ⟨_, rfl, ⟨z, rfl⟩, z, _, rfl, rfl, rfl, hz, fun L hL => ?_⟩
      refine ⟨L, _, rfl, SqL.of upd_same, go L _ _ (Same.upd_new hL) (by rw [upd_same, hlz]) fin⟩
    · have hz0 : z = "" := by injection he
      have hlz : linesOf z = [] := by unfold linesOf; rw [if_pos hz0]
      refine ⟨(by show 0 ≤ sizeLine; decide), fun L hL => ?_⟩
      refine ⟨L, _, rfl, SqL.of upd_same, go L _ _ (Same.upd_new hL) (by rw [upd_same, hlz]; rfl) fin⟩

end
end TL

namespace TL
open PySem PySem.Spec PyProof.Rows L2
section
variable {P : Program} {w : World} {K : PySem.W.Frag} {mg : Str → Option Value} {base : Heap}
def sp__law_dice (T : Txt K mg) : Sp := fun vs H Q _ => ∃ (a : Addr) (ns : List Int) (k : Int), vs = [.ref a, .int k] ∧ SqL K H a (ns.map V.int) ∧ ns.length ≤ 63 ∧
  ∀ (p : Addr) (H' : Hp), H p = none → DiceAt H' p → Same H H' → Q (.ref p) H'
theorem ok__law_dice (T : Txt K mg) : FnOk P w K mg base CX0 1 T.a__law_dice T.fd__law_dice P__law_dice (sp__law_dice T) := by
  skip
  refine T.F__law_dice.ok sc__law_dice (fun vs H Q E h => ?_) (fun cdv A outer s H vs Q E hr h => ?_)
  · obtain ⟨a, ns, k, rfl, _⟩ := h
    rfl
  · obtain ⟨a, ns, kz, rfl, hS, hl, k⟩ := h
    refine ⟨_, (pss_cons (ps_set (i := 2) sc__law_dice.nd rfl (by first | exact Or.inl rfl | exact Or.inr rfl) (pv 1))
    (pss_cons (ps_for PassesOwn.never rfl (pi_list (pv 0)) (pg_name (i := 3) sc__law_dice.nd rfl (by first | exact Or.inl rfl | exact Or.inr rfl))
      (pss_one (ps_set (i := 2) sc__law_dice.nd rfl (by first | exact Or.inl rfl | exact Or.inr rfl) (pe_op op_mod (pe_op op_add (pe_op op_mul (pv 2) pe_int) (pe_callB call_abs (by rfl) T.n_abs (by decide +kernel) (pa_cons (pv 3) pa_nil))) pe_int))))
    (pss_one (ps_ret (pe_op op_cat (pe_lst (pa_cons (pv 2) (pa_cons pe_int pa_nil))) (pe_lc (own := [("_law_cell", 3)]) (g := (gName 3)) (tt := (tTest (tOp (rI0 fun i j => .bl (decide (j ≤ i))) (tVar 3) (tOp (rI CPow fun i j => .int (i ^ j.toNat)) (tC (.int 10)) (tC (.int 18)))))) (te := (tVar 3)) rfl sc__law_dice.nd (pi_list (pv 0)) (blkOk_by (own := [("_law_cell", 3)]) (N := N__law_dice) (sc := defScope s__law_dice) (by decide +kernel)) (fun _ _ _ _ _ => (pg_name (i := 3) sc__law_dice.nd rfl (by first | exact Or.inl rfl | exact Or.inr rfl))) (fun _ _ _ _ _ => (pts_one (pt_cmpR op_ge (pv 3) (pe_op op_pow pe_int pe_int) (nomark _)))) (fun _ _ _ _ _ => (pv 3)))))))), ?_⟩
    refine ⟨_, rfl, ?_⟩
    refine ⟨_, rfl, a, rfl, ⟨_, hS⟩, for_list (K := K) (a := a) (xs := ns.map V.int) (fun i σ H2 => H2 = H ∧ ∃ (f : Int) (v : Option V), σ = [some (.ref a), some (.int kz), some (.int f), v])
      ⟨rfl, _, _, rfl⟩ (fun i σ H2 _ ⟨e, _⟩ => by rw [e]; exact hS) ?_ ?_⟩
    · rintro i y σ H2 hi ⟨rfl, f, v, rfl⟩
      obtain ⟨z, hz, rfl⟩ := getmap hi
      exact ⟨_, rfl, _, _, rfl, rfl, .inr (by decide), _, rfl, _, rfl, _, _, rfl, rfl, _, _, rfl, rfl, (by show (0 : Int) < 2147483647; decide), rfl, _, _, rfl⟩
    · rintro σ H2 ⟨rfl, f, v, rfl⟩
      refine ⟨_, rfl, (by show 2 ≤ sizeLine; decide), fun l hlz => ?_⟩
      have s1 : Same H2 (upd H2 l (.lst [.int f, .int 0])) := Same.upd_new hlz
      refine ⟨_, rfl, a, rfl, ⟨_, s1.seq hS⟩, fun D hD => ?_⟩
      refine lc_list (K := K) (a := a) (xs := ns.map V.int) (fun i H3 => ∃ ms : List Int, H3 D = some (.lst (ms.map V.int)) ∧ ms.length ≤ i ∧ Same (upd H2 l (.lst [.int f, .int 0])) H3)
        ⟨[], upd_same, Nat.le_refl _, Same.upd_new hD⟩ (fun i H3 _ ⟨_, _, _, s3⟩ => s3.seq (s1.seq hS)) ?_ ?_
      · rintro i y H3 hi ⟨ms, hm, hml, s3⟩
        obtain ⟨z, hz, rfl⟩ := getmap hi
        have hil : i < ns.length := (List.getElem?_eq_some_iff.mp hz).1
        refine ⟨rfl, _, rfl, _, _, rfl, rfl, ⟨by decide, by decide, by decide⟩, _, _, rfl, rfl, _, rfl, ?_⟩
        refine iteD (fun h0 => ?_) (fun h0 => ⟨ms, hm, Nat.le_succ_of_le hml, s3⟩)
        refine ⟨_, rfl, _, hm, by rw [List.length_map]; exact small1000 (by omega), ms ++ [z], by rw [upd_same, List.map_append]; rfl, by simp; omega, fun b o e => ?_⟩
        rw [upd_ne (fun q => ?_)]
        · exact s3 b o e
        · subst q
          rw [hD] at e
          cases e
      · rintro H3 ⟨ms, hm, hml, s3⟩
        rw [List.length_map] at hml
        have hlH : H3 l = some (.lst [.int f, .int 0]) := s3 _ _ upd_same
        refine ⟨l, D, _, _, rfl, rfl, hlH, hm, by rw [List.length_map]; exact Nat.le_of_lt (small1000 (by simp; omega)), fun p hp => ?_⟩
        refine k p _ ((s1.trans s3).free hp) ⟨f :: 0 :: ms, by rw [upd_same]; rfl, by simp, by simp; omega⟩ ((s1.trans s3).trans (Same.upd_new hp))

end
end TL

namespace TL
open PySem PySem.Spec PyProof.Rows L2
section
variable {P : Program} {w : World} {K : PySem.W.Frag} {mg : Str → Option Value} {base : Heap}
def sp__law_off (T : Txt K mg) : Sp := fun vs H Q _ => ∃ (d : Addr) (m : Int), vs = [.ref d, .int m] ∧ DiceAt H d ∧ 0 < m ∧ m < 1073741824 ∧
  ∀ (r : Int) (H' : Hp), 0 ≤ r → r < m → DiceAt H' d → Frm [d] H H' → Q (.int r) H'
theorem ok__law_off (T : Txt K mg) : FnOk P w K mg base CX0 1 T.a__law_off T.fd__law_off P__law_off (sp__law_off T) := by
  skip
  refine T.F__law_off.ok sc__law_off (fun vs H Q E h => ?_) (fun cdv A outer s H vs Q E hr h => ?_)
  · obtain ⟨d, m, rfl, _⟩ := h
    rfl
  · obtain ⟨d, m, rfl, ⟨ns, hd, hl, hl2⟩, hm0, hm1, k⟩ := h
    obtain ⟨a, b, r, rfl⟩ : ∃ a b r, ns = a :: b :: r := by
      match ns, hl with
      | a :: b :: r, _ => exact ⟨a, b, r, rfl⟩
    refine ⟨_, (pss_cons (ps_if (PW.pt (pw_and (pt_cmpR op_eq (pe_ix ix_list (pv 0) pe_int (fun _ _ => rfl)) pe_int (nomark _)) (pw_and1 (pt_cmpR op_gt (pe_callB call_len_seq (by rfl) T.n_len (by decide +kernel) (pa_cons (pv 0) pa_nil)) pe_int (nomark _)))))
      (pss_one (ps_asg (pe_bm PySem.F.plainAttrs_list PySem.F.slot_list_pop PySem.F.type_list_pop mt_popAt (pv 0) (pa_cons pe_int pa_nil)) (pg_sub (pv 0) pe_int set_list)))
      pss_nil)
    (pss_cons (ps_if (pt_cmpR op_gt (pe_ix ix_list (pv 0) pe_int (fun _ _ => rfl)) pe_int (nomark _))
      (pss_cons (ps_set (i := 2) sc__law_off.nd rfl (by first | exact Or.inl rfl | exact Or.inr rfl) (pe_op op_mod (pe_ix ix_list (pv 0) pe_int (fun _ _ => rfl)) (pv 1)))
      (pss_cons (ps_asg (pe_op op_fdiv (pe_ix ix_list (pv 0) pe_int (fun _ _ => rfl)) (pv 1)) (pg_sub (pv 0) pe_int set_list))
      (pss_one (ps_ret (pv 2)))))
      pss_nil)
    (pss_cons (ps_asg (pe_op op_mod (pe_op op_add (pe_op op_mul (pe_ix ix_list (pv 0) pe_int (fun _ _ => rfl)) pe_int) pe_int) pe_int) (pg_sub (pv 0) pe_int set_list))
    (pss_one (ps_ret (pe_op op_mod (pe_op op_fdiv (pe_ix ix_list (pv 0) pe_int (fun _ _ => rfl)) pe_int) (pv 1))))))), ?_⟩
    have key : ∀ (H1 : Hp) (a b : Int) (r : List Int), H1 d = some (.lst ((a :: b :: r).map V.int)) → (a :: b :: r).length ≤ 65 → Frm [d] H H1 → tSeq (tIfS (tTest (tOp (rI0 fun i j => .bl (decide (j < i))) (tOp (rIxL K) (tVar 0) (tC (.int 1))) (tC (.int 0)))) (tSeq (tAsg (tOp (rI (fun _ j => 0 < j) fun i j => .int (i % j)) (tOp (rIxL K) (tVar 0) (tC (.int 1))) (tVar 1)) (gName 2)) (tSeq (tAsg (tOp (rI CDiv fun i j => .int (i / j)) (tOp (rIxL K) (tVar 0) (tC (.int 1))) (tVar 1)) (gSub (tVar 0) (tC (.int 1)) rSetL)) (tRet (tVar 2)))) tNext)
        (tSeq (tAsg (tOp (rI (fun _ j => 0 < j) fun i j => .int (i % j)) (tOp (rI0 fun i j => .int (i + j)) (tOp (rI CMul fun i j => .int (i * j)) (tOp (rIxL K) (tVar 0) (tC (.int 0))) (tC (.int 48271))) (tC (.int 11))) (tC (.int 2147483647))) (gSub (tVar 0) (tC (.int 0)) rSetL))
          (tRet (tOp (rI (fun _ j => 0 < j) fun i j => .int (i % j)) (tOp (rI CDiv fun i j => .int (i / j)) (tOp (rIxL K) (tVar 0) (tC (.int 0))) (tC (.int 64))) (tVar 1))))
        { nx := fun _ H' => Q .non H', rt := Q } [some (.ref d), some (.int m), none] H1 := by
      intro H1 a b r h1 hl e1
      have dz : (ixN ((a :: b :: r).map V.int).length 1) = some 1 := by
        unfold ixN
        simp only [List.length_map, List.length_cons]
        rw [if_pos (by omega), if_pos (by omega)]
        rfl
      have dz0 : (ixN ((a :: b :: r).map V.int).length 0) = some 0 := by
        unfold ixN
        simp only [List.length_map, List.length_cons]
        rw [if_pos (by omega), if_pos (by omega)]
        rfl
      refine ⟨_, rfl, d, _, _, .int b, rfl, rfl, SqL.of h1, atI_nat (j := 1) rfl, _, _, rfl, rfl, _, rfl, ?_⟩
      refine iteD (fun h0 => ?_) (fun h0 => ?_)
      · refine ⟨_, rfl, d, _, _, .int b, rfl, rfl, SqL.of h1, atI_nat (j := 1) rfl, _, rfl, _, _, rfl, rfl, hm0, ?_⟩
        refine ⟨_, rfl, d, _, _, .int b, rfl, rfl, SqL.of h1, atI_nat (j := 1) rfl, _, rfl, _, _, rfl, rfl, ⟨hm0, hm1⟩, ?_⟩
        refine ⟨_, rfl, d, _, _, 1, rfl, rfl, h1, dz, _, rfl, ?_⟩
        refine k _ _ (Int.emod_nonneg _ (by omega)) (Int.emod_lt_of_pos _ hm0) ⟨a :: (b / m) :: r, upd_same, by simp, hl⟩ (e1.trans (Frm.updL h1))
      · refine ⟨_, rfl, d, _, _, .int a, rfl, rfl, SqL.of h1, atI_nat (j := 0) rfl, _, _, rfl, rfl, .inr (by decide), _, _, rfl, rfl, _, _, rfl, rfl, (by show (0 : Int) < 2147483647; decide), ?_⟩
        refine ⟨_, rfl, d, _, _, 0, rfl, rfl, h1, dz0, ?_⟩
        refine ⟨_, rfl, d, _, _, .int ((a * 48271 + 11) % 2147483647), rfl, rfl, SqL.of upd_same, atI_nat (j := 0) rfl, _, _, rfl, rfl, ⟨by decide, by decide⟩, _, rfl, _, _, rfl, rfl, hm0, ?_⟩
        exact k _ _ (Int.emod_nonneg _ (by omega)) (Int.emod_lt_of_pos _ hm0) ⟨((a * 48271 + 11) % 2147483647) :: b :: r, upd_same, by simp, hl⟩ (e1.trans (Frm.updL h1))
    -- d[1] == 0 and len(d) > 2
    refine ⟨_, rfl, d, _, _, .int b, rfl, rfl, SqL.of hd, atI_nat (j := 1) rfl, rfl, _, rfl, ?_⟩
    refine iteD (fun h0 => ?_) (fun h0 => iteF (key H a b r hd hl2 (.refl _ _)))
    refine ⟨_, rfl, d, _, rfl, .inl (SqL.of hd), _, _, rfl, rfl, _, rfl, ?_⟩
    refine iteD (fun h1 => ?_) (fun h1 => key H a b r hd hl2 (.refl _ _))
    obtain ⟨c, r', rfl⟩ : ∃ c r', r = c :: r' := by
      match r, h1 with
      | c :: r', _ => exact ⟨c, r', rfl⟩
      | [], h1 => exact absurd h1 (by simp)
    have s2 : seqIndex? 2 ((a :: b :: c :: r').map V.int).length = some 2 := by
      have e : ixN ((a :: b :: c :: r').map V.int).length 2 = some 2 := by
        unfold ixN
        simp only [List.length_map, List.length_cons]
        rw [if_pos (by omega), if_pos (by omega)]
        rfl
      exact (ixN_seq e).1
    refine ⟨_, rfl, .inl ⟨rfl, _, SqL.of hd⟩, d, _, _, 2, .int c, rfl, rfl, hd, by decide, by decide, s2, rfl, ?_⟩
    have dz : (ixN (((a :: b :: c :: r').map V.int).eraseIdx 2).length 1) = some 1 := by
      unfold ixN
      show (if (0 : Int) ≤ 1 then (if (1 : Int) < ((V.int a :: V.int b :: r'.map V.int).length : Nat) then _ else _) else _) = _
      simp only [List.length_cons]
      rw [if_pos (by omega), if_pos (by omega)]
      rfl
    refine ⟨_, rfl, d, _, _, 1, rfl, rfl, upd_same, dz, ?_⟩
    refine key _ a c r' (by rw [upd_same]; rfl) (by simp only [List.length_cons] at hl2 ⊢; omega) ((Frm.updL hd).trans (Frm.updL upd_same))

end
end TL

namespace TL
open PySem PySem.Spec PyProof.Rows L2
section
variable {P : Program} {w : World} {K : PySem.W.Frag} {mg : Str → Option Value} {base : Heap}
/-- of two things that are the same data True is told; n: how deep they may be, and one more -/
def sp__law_alike (T : Txt K mg) : Nat → Sp
  | 0 => fun _ _ _ _ => False
  | n + 1 => fun vs H Q _ => ∃ (x y : V) (d : PyData), vs = [x, y] ∧ Dp K H x d ∧ Dp K H y d ∧ lv n d ∧ ∀ H', Same H H' → Q (.bl true) H'
theorem rix_of {H : Hp} {p : Addr} {xs : List V} {i : Int} {v : V} {Q : VK} (h : SqL K H p xs ∨ SqT K H p xs) (e : atI xs i = some v) (q : Q v H) : rIx K (.ref p) (.int i) H Q := by
  rcases h with h | h
  · exact .inl ⟨p, xs, i, v, rfl, rfl, h, e, q⟩
  · exact .inr (.inl ⟨p, xs, i, v, rfl, rfl, h, e, q⟩)
theorem ok__law_alike_step (T : Txt K mg) (n : Nat) (G__law_alike : FnOk P w K mg base CX0 n T.a__law_alike T.fd__law_alike P__law_alike (sp__law_alike T n)) : FnOk P w K mg base CX0 (n + 1) T.a__law_alike T.fd__law_alike P__law_alike (sp__law_alike T (n + 1)) := by
  refine T.F__law_alike.ok sc__law_alike (fun vs H Q E h => ?_) (fun cdv A outer s H vs Q E hr h => ?_)
  · obtain ⟨x, y, d, rfl, _⟩ := h
    rfl
  · obtain ⟨x, y, d, rfl, hx, hy, hl, k⟩ := h
    have hrS := hr
    refine ⟨_, (pss_cons (ps_if (pt_cmpR op_isN1 (pv 1) pe_non (nomark _))
      (pss_one (ps_ret (pe_cmpR op_isN1 (pv 0) pe_non (nomark _))))
      pss_nil)
    (pss_cons (ps_if (pt_val (pe_callB call_isi (by rfl) T.n_isinstance (by decide +kernel) (pa_cons (pv 1) (pa_cons (pe_bltn (v := .ty "bool") (u := .type "bool") (by rfl) T.n_bool (by decide +kernel) rfl) pa_nil))))
      (pss_one (ps_ret (pe_and (pe_callB call_isi (by rfl) T.n_isinstance (by decide +kernel) (pa_cons (pv 0) (pa_cons (pe_bltn (v := .ty "bool") (u := .type "bool") (by rfl) T.n_bool (by decide +kernel) rfl) pa_nil))) (pe_one (pe_cmpR op_eq (pv 0) (pv 1) (nomark _))))))
      pss_nil)
    (pss_cons (ps_if (pt_val (pe_callB call_isi (by rfl) T.n_isinstance (by decide +kernel) (pa_cons (pv 1) (pa_cons (pe_bltn (v := .ty "int") (u := .type "int") (by rfl) T.n_int (by decide +kernel) rfl) pa_nil))))
      (pss_one (ps_ret (pe_and (pe_callB call_isi (by rfl) T.n_isinstance (by decide +kernel) (pa_cons (pv 0) (pa_cons (pe_bltn (v := .ty "int") (u := .type "int") (by rfl) T.n_int (by decide +kernel) rfl) pa_nil))) (pe_and (pe_not (pe_callB call_isi (by rfl) T.n_isinstance (by decide +kernel) (pa_cons (pv 0) (pa_cons (pe_bltn (v := .ty "bool") (u := .type "bool") (by rfl) T.n_bool (by decide +kernel) rfl) pa_nil)))) (pe_one (pe_cmpR op_eq (pv 0) (pv 1) (nomark _)))))))
      pss_nil)
    (pss_cons (ps_if (pt_val (pe_callB call_isi (by rfl) T.n_isinstance (by decide +kernel) (pa_cons (pv 1) (pa_cons (pe_bltn (v := .ty "str") (u := .type "str") (by rfl) T.n_str (by decide +kernel) rfl) pa_nil))))
      (pss_one (ps_ret (pe_and (pe_callB call_isi (by rfl) T.n_isinstance (by decide +kernel) (pa_cons (pv 0) (pa_cons (pe_bltn (v := .ty "str") (u := .type "str") (by rfl) T.n_str (by decide +kernel) rfl) pa_nil))) (pe_one (pe_cmpR op_eq (pv 0) (pv 1) (nomark _))))))
      pss_nil)
    (pss_cons (ps_if (PW.pt (pw_or (pt_cmpR op_ne (pe_callB call_isi (by rfl) T.n_isinstance (by decide +kernel) (pa_cons (pv 1) (pa_cons (pe_bltn (v := .ty "tuple") (u := .type "tuple") (by rfl) T.n_tuple (by decide +kernel) rfl) pa_nil))) (pe_callB call_isi (by rfl) T.n_isinstance (by decide +kernel) (pa_cons (pv 0) (pa_cons (pe_bltn (v := .ty "tuple") (u := .type "tuple") (by rfl) T.n_tuple (by decide +kernel) rfl) pa_nil))) (nomark _)) (pw_or1 (pt_cmpR op_ne (pe_callB call_isi (by rfl) T.n_isinstance (by decide +kernel) (pa_cons (pv 1) (pa_cons (pe_bltn (v := .ty "list") (u := .type "list") (by rfl) T.n_list (by decide +kernel) rfl) pa_nil))) (pe_callB call_isi (by rfl) T.n_isinstance (by decide +kernel) (pa_cons (pv 0) (pa_cons (pe_bltn (v := .ty "list") (u := .type "list") (by rfl) T.n_list (by decide +kernel) rfl) pa_nil))) (nomark _)))))
      (pss_one (ps_ret pe_bl))
      pss_nil)
    (pss_cons (ps_if (pt_cmpR op_ne (pe_callB call_len_seq (by rfl) T.n_len (by decide +kernel) (pa_cons (pv 0) pa_nil)) (pe_callB call_len_seq (by rfl) T.n_len (by decide +kernel) (pa_cons (pv 1) pa_nil)) (nomark _))
      (pss_one (ps_ret pe_bl))
      pss_nil)
    (pss_one (ps_ret (pe_callB (cr_all rfl) (by rfl) T.n_all (by decide +kernel) (pa_cons (pe_lc (own := [("_law_k", 2)]) (g := (gName 2)) (tt := tYes) (te := (tCall _ [] E0 (tCons (tOp (rIx K) (tVar 0) (tVar 2)) (tCons (tOp (rIx K) (tVar 1) (tVar 2)) tNil)))) rfl sc__law_alike.nd (pi_range1 rfl T.n_range (pa_cons (pe_callB call_len_seq (by rfl) T.n_len (by decide +kernel) (pa_cons (pv 1) pa_nil)) pa_nil)) (blkOk_by (own := [("_law_k", 2)]) (N := N__law_alike) (sc := defScope s__law_alike) (by decide +kernel)) (fun _ _ _ _ _ => (pg_name (i := 2) sc__law_alike.nd rfl (by first | exact Or.inl rfl | exact Or.inr rfl))) (fun _ _ _ _ _ => pts_nil) (fun _ _ _ _ _ => (pe_call G__law_alike hrS rfl T.g__law_alike T.F__law_alike.kp T.b__law_alike .nil pass0 (pa_cons (pe_ix ix_seq (pv 0) (pv 2) (fun _ _ => rfl)) (pa_cons (pe_ix ix_seq (pv 1) (pv 2) (fun _ _ => rfl)) pa_nil))))) pa_nil)))))))))), ?_⟩
    have kk : ∀ {p : Prop} [Decidable p], p → Q (.bl (decide p)) H := fun hp => by rw [decide_eq_true hp]; exact k _ (.refl _)
    cases d with
    | none =>
      cases hx; cases hy
      exact ⟨_, rfl, rfl, _, rfl, iteT ⟨_, rfl, rfl, k _ (.refl _)⟩⟩
    | bool b =>
      cases hx; cases hy
      refine ⟨_, rfl, rfl, _, rfl, iteF ?_⟩
      refine ⟨_, rfl, _, _, _, _, _, rfl, .ty _, tyx_D (.bl b), kit_ty kb_bb, _, rfl, iteT ?_⟩
      exact ⟨_, rfl, _, _, _, _, _, rfl, .ty _, tyx_D (.bl b), kit_ty kb_bb, _, rfl, iteT ⟨_, rfl, _, rfl, rfl, kk rfl⟩⟩
    | int i =>
      cases hx; cases hy
      refine ⟨_, rfl, rfl, _, rfl, iteF ?_⟩
      refine ⟨_, rfl, _, _, _, _, _, rfl, .ty _, tyx_D (.int i), kit_ty kb_ib, _, rfl, iteF ?_⟩
      refine ⟨_, rfl, _, _, _, _, _, rfl, .ty _, tyx_D (.int i), kit_ty kb_ii, _, rfl, iteT ?_⟩
      refine ⟨_, rfl, _, _, _, _, _, rfl, .ty _, tyx_D (.int i), kit_ty kb_ii, _, rfl, iteT ?_⟩
      exact ⟨_, rfl, _, _, _, _, _, rfl, .ty _, tyx_D (.int i), kit_ty kb_ib, _, rfl, _, rfl, iteT ⟨_, rfl, _, rfl, rfl, kk rfl⟩⟩
    | str z =>
      cases hx; cases hy
      refine ⟨_, rfl, rfl, _, rfl, iteF ?_⟩
      refine ⟨_, rfl, _, _, _, _, _, rfl, .ty _, tyx_D (.str z), kit_ty kb_sb, _, rfl, iteF ?_⟩
      refine ⟨_, rfl, _, _, _, _, _, rfl, .ty _, tyx_D (.str z), kit_ty kb_si, _, rfl, iteF ?_⟩
      refine ⟨_, rfl, _, _, _, _, _, rfl, .ty _, tyx_D (.str z), kit_ty kb_ss, _, rfl, iteT ?_⟩
      exact ⟨_, rfl, _, _, _, _, _, rfl, .ty _, tyx_D (.str z), kit_ty kb_ss, _, rfl, iteT ⟨_, rfl, _, rfl, rfl, kk rfl⟩⟩
    | dict _ => cases hx
    | list ds =>
      have hx' := hx
      have hy' := hy
      cases hx' with
      | lst hLx hAx =>
      rename_i a xs
      cases hy' with
      | lst hLy hAy =>
      rename_i b ys
      refine ⟨_, rfl, rfl, _, rfl, iteF ?_⟩
      refine ⟨_, rfl, _, _, _, _, _, rfl, .ty _, tyx_D hy, kit_ty kb_lb, _, rfl, iteF ?_⟩
      refine ⟨_, rfl, _, _, _, _, _, rfl, .ty _, tyx_D hy, kit_ty kb_li, _, rfl, iteF ?_⟩
      refine ⟨_, rfl, _, _, _, _, _, rfl, .ty _, tyx_D hy, kit_ty kb_ls, _, rfl, iteF ?_⟩
      refine ⟨_, rfl, _, _, _, _, _, rfl, .ty _, tyx_D hy, kit_ty kb_lt, _, rfl, _, _, _, _, _, rfl, .ty _, tyx_D hx, kit_ty kb_lt, rfl, _, rfl, iteF ?_⟩
      refine ⟨_, rfl, _, _, _, _, _, rfl, .ty _, tyx_D hy, kit_ty kb_ll, _, rfl, _, _, _, _, _, rfl, .ty _, tyx_D hx, kit_ty kb_ll, rfl, _, rfl, iteF ?_⟩
      obtain ⟨m, rfl⟩ : ∃ m, n = m + 1 := by
        cases n with
        | zero => simp [lv] at hl
        | succ m => exact ⟨m, rfl⟩
      simp only [lv] at hl
      have hLx : SqL K H a xs ∨ SqT K H a xs := .inl hLx
      have hLy : SqL K H b ys ∨ SqT K H b ys := .inl hLy
      have lx := hAx.length
      have ly := hAy.length
      have sq : ∀ {H' : Hp} {c : Addr} {zs : List V}, Same H H' → (SqL K H c zs ∨ SqT K H c zs) → (SqL K H' c zs ∨ SqT K H' c zs) := fun s z => z.imp (fun q => s.seq q) fun q => SqT_same s q
      refine ⟨_, rfl, a, _, rfl, hLx, _, rfl, b, _, rfl, hLy, rfl, _, rfl, iteNS (by rw [lx, ly]) ?_⟩
      refine ⟨_, rfl, b, _, rfl, hLy, _, rfl, by omega, by omega, fun D hD => ?_⟩
      have hn : ((ys.length : Nat) : Int).toNat = ds.length := by omega
      rw [hn]
      refine lc_range (lo := 0) (n := ds.length) (fun i H2 => Same H H2 ∧ H2 D = some (.lst ((List.replicate i true).map V.bl)))
        ⟨Same.upd_new hD, upd_same⟩ ?_ ?_
      · rintro i H2 hi ⟨s2, h2⟩
        obtain ⟨u, hu, hdu⟩ := hAx.get (i := i) (d := ds[i]) (List.getElem?_eq_getElem hi)
        obtain ⟨v, hv, hdv⟩ := hAy.get (i := i) (d := ds[i]) (List.getElem?_eq_getElem hi)
        have e0 : (0 : Int) + (i : Int) = (i : Int) := by omega
        refine ⟨rfl, ?_⟩
        refine ⟨_, rfl, _, rfl, rix_of (sq s2 hLx) (at_of e0 hu) ?_⟩
        refine ⟨_, rfl, _, rfl, rix_of (sq s2 hLy) (at_of e0 hv) ?_⟩
        refine ⟨_, _, ds[i], rfl, hdu.same s2, hdv.same s2, hl.2 _ (List.getElem_mem hi), fun H3 s3 => ?_⟩
        refine ⟨_, s3 _ _ h2, by simp only [List.length_map, List.length_replicate]; exact Nat.lt_of_lt_of_le (Nat.lt_of_lt_of_le hi hl.1) (by decide), fun c o e => ?_, ?_⟩
        · rw [upd_ne (fun q => by rw [q, hD] at e; cases e)]
          exact s3 _ _ (s2 c o e)
        · rw [upd_same, List.replicate_succ', List.map_append]
          rfl
      · rintro H2 ⟨s2, h2⟩
        refine ⟨D, List.replicate ds.length true, rfl, SqL.of h2, ?_⟩
        have : (List.replicate ds.length true).all id = true := by simp
        rw [this]
        exact k _ s2
    | tuple ds =>
      have hx' := hx
      have hy' := hy
      cases hx' with
      | tup hLx hAx =>
      rename_i a xs
      cases hy' with
      | tup hLy hAy =>
      rename_i b ys
      refine ⟨_, rfl, rfl, _, rfl, iteF ?_⟩
      refine ⟨_, rfl, _, _, _, _, _, rfl, .ty _, tyx_D hy, kit_ty kb_tb, _, rfl, iteF ?_⟩
      refine ⟨_, rfl, _, _, _, _, _, rfl, .ty _, tyx_D hy, kit_ty kb_ti, _, rfl, iteF ?_⟩
      refine ⟨_, rfl, _, _, _, _, _, rfl, .ty _, tyx_D hy, kit_ty kb_ts, _, rfl, iteF ?_⟩
      refine ⟨_, rfl, _, _, _, _, _, rfl, .ty _, tyx_D hy, kit_ty kb_tt, _, rfl, _, _, _, _, _, rfl, .ty _, tyx_D hx, kit_ty kb_tt, rfl, _, rfl, iteF ?_⟩
      refine ⟨_, rfl, _, _, _, _, _, rfl, .ty _, tyx_D hy, kit_ty kb_tl, _, rfl, _, _, _, _, _, rfl, .ty _, tyx_D hx, kit_ty kb_tl, rfl, _, rfl, iteF ?_⟩
      obtain ⟨m, rfl⟩ : ∃ m, n = m + 1 := by
        cases n with
        | zero => simp [lv] at hl
        | succ m => exact ⟨m, rfl⟩
      simp only [lv] at hl
      have hLx : SqL K H a xs ∨ SqT K H a xs := .inr hLx
      have hLy : SqL K H b ys ∨ SqT K H b ys := .inr hLy
      have lx := hAx.length
      have ly := hAy.length
      have sq : ∀ {H' : Hp} {c : Addr} {zs : List V}, Same H H' → (SqL K H c zs ∨ SqT K H c zs) → (SqL K H' c zs ∨ SqT K H' c zs) := fun s z => z.imp (fun q => s.seq q) fun q => SqT_same s q
      refine ⟨_, rfl, a, _, rfl, hLx, _, rfl, b, _, rfl, hLy, rfl, _, rfl, iteNS (by rw [lx, ly]) ?_⟩
      refine ⟨_, rfl, b, _, rfl, hLy, _, rfl, by omega, by omega, fun D hD => ?_⟩
      have hn : ((ys.length : Nat) : Int).toNat = ds.length := by omega
      rw [hn]
      refine lc_range (lo := 0) (n := ds.length) (fun i H2 => Same H H2 ∧ H2 D = some (.lst ((List.replicate i true).map V.bl)))
        ⟨Same.upd_new hD, upd_same⟩ ?_ ?_
      · rintro i H2 hi ⟨s2, h2⟩
        obtain ⟨u, hu, hdu⟩ := hAx.get (i := i) (d := ds[i]) (List.getElem?_eq_getElem hi)
        obtain ⟨v, hv, hdv⟩ := hAy.get (i := i) (d := ds[i]) (List.getElem?_eq_getElem hi)
        have e0 : (0 : Int) + (i : Int) = (i : Int) := by omega
        refine ⟨rfl, ?_⟩
        refine ⟨_, rfl, _, rfl, rix_of (sq s2 hLx) (at_of e0 hu) ?_⟩
        refine ⟨_, rfl, _, rfl, rix_of (sq s2 hLy) (at_of e0 hv) ?_⟩
        refine ⟨_, _, ds[i], rfl, hdu.same s2, hdv.same s2, hl.2 _ (List.getElem_mem hi), fun H3 s3 => ?_⟩
        refine ⟨_, s3 _ _ h2, by simp only [List.length_map, List.length_replicate]; exact Nat.lt_of_lt_of_le (Nat.lt_of_lt_of_le hi hl.1) (by decide), fun c o e => ?_, ?_⟩
        · rw [upd_ne (fun q => by rw [q, hD] at e; cases e)]
          exact s3 _ _ (s2 c o e)
        · rw [upd_same, List.replicate_succ', List.map_append]
          rfl
      · rintro H2 ⟨s2, h2⟩
        refine ⟨D, List.replicate ds.length true, rfl, SqL.of h2, ?_⟩
        have : (List.replicate ds.length true).all id = true := by simp
        rw [this]
        exact k _ s2
theorem ok__law_alike (T : Txt K mg) : ∀ n, FnOk P w K mg base CX0 n T.a__law_alike T.fd__law_alike P__law_alike (sp__law_alike T n)
  | 0 => ⟨fun _ _ _ _ h => h.elim, fun _ _ _ _ _ _ _ _ _ _ _ _ _ h => h.elim⟩
  | n + 1 => ok__law_alike_step T n (ok__law_alike T n)

end
end TL

namespace TL
open PySem PySem.Spec PyProof.Rows L2
section
variable {P : Program} {w : World} {K : PySem.W.Frag} {mg : Str → Option Value} {base : Heap}
def sp__law_row (T : Txt K mg) : Sp := fun vs H Q _ => ∃ d : Addr, vs = [.ref d] ∧ DiceAt H d ∧
  ∀ (t : Addr) (r : Row) (H' : Hp), okRow r → H t = none → H' t = some (.tup (rowV r)) → DiceAt H' d → Frm [d] H H' → Q (.ref t) H'
theorem ok__law_row (T : Txt K mg) : FnOk P w K mg base CX0 2 T.a__law_row T.fd__law_row P__law_row (sp__law_row T) := by
  have G__law_off := ok__law_off (P := P) (w := w) (base := base) T
  refine T.F__law_row.ok sc__law_row (fun vs H Q E h => ?_) (fun cdv A outer s H vs Q E hr h => ?_)
  · obtain ⟨d, rfl, _⟩ := h
    rfl
  · obtain ⟨d, rfl, hD, k⟩ := h
    refine ⟨_, (pss_cons (ps_set (i := 1) sc__law_row.nd rfl (by first | exact Or.inl rfl | exact Or.inr rfl) (pe_call G__law_off (hr.mono (by decide)) rfl T.g__law_off T.F__law_off.kp T.b__law_off .nil pass0 (pa_cons (pv 0) (pa_cons (pe_ix ix_list (pe_lst (pa_cons pe_int (pa_cons pe_int pa_nil))) (pe_call G__law_off (hr.mono (by decide)) rfl T.g__law_off T.F__law_off.kp T.b__law_off .nil pass0 (pa_cons (pv 0) (pa_cons pe_int pa_nil))) (fun _ _ => rfl)) pa_nil))))
    (pss_cons (ps_set (i := 2) sc__law_row.nd rfl (by first | exact Or.inl rfl | exact Or.inr rfl) (pe_ifExp (pt_cmpR op_gt (pe_call G__law_off (hr.mono (by decide)) rfl T.g__law_off T.F__law_off.kp T.b__law_off .nil pass0 (pa_cons (pv 0) (pa_cons pe_int pa_nil))) pe_int (nomark _)) (pv 1) (pe_call G__law_off (hr.mono (by decide)) rfl T.g__law_off T.F__law_off.kp T.b__law_off .nil pass0 (pa_cons (pv 0) (pa_cons pe_int pa_nil)))))
    (pss_one (ps_ret (pe_tup (pa_cons (pv 1) (pa_cons (pe_cmpR op_gt (pe_call G__law_off (hr.mono (by decide)) rfl T.g__law_off T.F__law_off.kp T.b__law_off .nil pass0 (pa_cons (pv 0) (pa_cons pe_int pa_nil))) pe_int (nomark _)) (pa_cons (pv 2) (pa_cons (pe_cmpR op_gt (pe_call G__law_off (hr.mono (by decide)) rfl T.g__law_off T.F__law_off.kp T.b__law_off .nil pass0 (pa_cons (pv 0) (pa_cons pe_int pa_nil))) pe_int (nomark _)) pa_nil))))))))), ?_⟩
    -- mine
    refine ⟨_, rfl, (by show 2 ≤ sizeLine; decide), fun l hl => ?_⟩
    have f1 : Frm [d] H (upd H l (.lst [.int 2, .int 10])) := Frm.new hl
    have nld := hD.ne_new hl
    refine ⟨_, rfl, d, 2, rfl, hD.new hl, by decide, by decide, fun r H1 r0 r2 D1 g1 => ?_⟩
    have hl1 : H1 l = some (.lst [.int 2, .int 10]) := g1 _ _ upd_same (by simp [nld])
    obtain ⟨m, hm, hm0, hm1⟩ : ∃ m : Int, atI [V.int 2, V.int 10] r = some (.int m) ∧ 0 < m ∧ m ≤ 10 := by
      have : r = 0 ∨ r = 1 := by omega
      rcases this with rfl | rfl
      · exact ⟨2, rfl, by decide, by decide⟩
      · exact ⟨10, rfl, by decide, by decide⟩
    refine ⟨l, _, r, _, rfl, rfl, SqL.of hl1, hm, ?_⟩
    refine ⟨d, m, rfl, D1, hm0, by omega, fun mine H2 a0 a1 D2 g2 => ?_⟩
    have f2 := (f1.trans g1).trans g2
    -- yours
    refine ⟨_, rfl, d, 4, rfl, D2, by decide, by decide, fun z H3 z0 z4 D3 g3 => ?_⟩
    have f3 := f2.trans g3
    refine ⟨_, _, rfl, rfl, _, rfl, ?_⟩
    have fin : ∀ (yours : Int) (H4 : Hp), 0 ≤ yours → yours ≤ 9 → DiceAt H4 d → Frm [d] H H4 →
        tRet (tTup (tCons (tVar 1) (tCons (tOp (rI0 fun i j => .bl (decide (j < i))) (tCall (sp__law_off T) [] E0 (tCons (tVar 0) (tCons (tC (.int 3)) tNil))) (tC (.int 0))) (tCons (tVar 2) (tCons (tOp (rI0 fun i j => .bl (decide (j < i))) (tCall (sp__law_off T) [] E0 (tCons (tVar 0) (tCons (tC (.int 3)) tNil))) (tC (.int 0))) tNil)))))
          { nx := fun _ H' => Q .non H', rt := Q } [some (.ref d), some (.int mine), some (.int yours)] H4 := by
      intro yours H4 y0 y9 D4 f4
      refine ⟨_, rfl, _, rfl, d, 3, rfl, D4, by decide, by decide, fun u H5 _ _ D5 g5 => ?_⟩
      refine ⟨_, _, rfl, rfl, _, rfl, _, rfl, d, 3, rfl, D5, by decide, by decide, fun w' H6 _ _ D6 g6 => ?_⟩
      refine ⟨_, _, rfl, rfl, (by show 4 ≤ sizeLine; decide), fun t ht => ?_⟩
      have f6 := (f4.trans g5).trans g6
      refine k t (mine, decide (0 < u), yours, decide (0 < w')) _ ⟨⟨a0, by omega⟩, y0, y9⟩ (f6.free ht (by simp [D6.ne_new ht])) (by rw [upd_same]; rfl) (D6.new ht) (f6.trans (Frm.new ht))
    refine iteD (fun _ => ?_) (fun _ => ?_)
    · exact ⟨_, rfl, fin mine H3 a0 (by omega) D3 f3⟩
    · refine ⟨_, rfl, d, 10, rfl, D3, by decide, by decide, fun y H4 y0 y1 D4 g4 => ?_⟩
      exact fin y H4 y0 (by omega) D4 (f3.trans g4)

end
end TL

namespace TL
open PySem PySem.Spec PyProof.Rows L2
section
variable {P : Program} {w : World} {K : PySem.W.Frag} {mg : Str → Option Value} {base : Heap}
def sp__law_log (T : Txt K mg) : Sp := fun vs H Q _ => ∃ d : Addr, vs = [.ref d] ∧ DiceAt H d ∧
  ∀ (p : Addr) (xs : List V) (rs : List Row) (H' : Hp), (∀ r ∈ rs, okRow r) → rs.length ≤ 40 → H p = none → H' p = some (.lst xs) → ImAll H' xs (rs.map rowD) → DiceAt H' d → Frm [d] H H' → Q (.ref p) H'
theorem ok__law_log (T : Txt K mg) : FnOk P w K mg base CX0 3 T.a__law_log T.fd__law_log P__law_log (sp__law_log T) := by
  have G__law_off := ok__law_off (P := P) (w := w) (base := base) T
  have G__law_row := ok__law_row (P := P) (w := w) (base := base) T
  refine T.F__law_log.ok sc__law_log (fun vs H Q E h => ?_) (fun cdv A outer s H vs Q E hr h => ?_)
  · obtain ⟨d, rfl, _⟩ := h
    rfl
  · obtain ⟨d, rfl, hD, k⟩ := h
    have hu64 := hr.units
    refine ⟨_, (pss_cons (ps_set (i := 1) sc__law_log.nd rfl (by first | exact Or.inl rfl | exact Or.inr rfl) (pe_lst pa_nil))
    (pss_cons (ps_for PassesOwn.never rfl (pi_range1 rfl T.n_range (pa_cons (pe_call G__law_off (hr.mono (by decide)) rfl T.g__law_off T.F__law_off.kp T.b__law_off .nil pass0 (pa_cons (pv 0) (pa_cons (pe_ix ix_list (pe_lst (pa_cons pe_int (pa_cons pe_int pa_nil))) (pe_call G__law_off (hr.mono (by decide)) rfl T.g__law_off T.F__law_off.kp T.b__law_off .nil pass0 (pa_cons (pv 0) (pa_cons pe_int pa_nil))) (fun _ _ => rfl)) pa_nil))) pa_nil)) (pg_name (i := 2) sc__law_log.nd rfl (by first | exact Or.inl rfl | exact Or.inr rfl))
      (pss_one (ps_expr (pe_bm PySem.F.plainAttrs_list PySem.F.slot_list_append PySem.F.type_list_append mt_append (pv 1) (pa_cons (pe_ifExp (PW.pt (pw_and (pt_cmpR (op_neD hu64) (pv 1) (pe_lst pa_nil) (nomark _)) (pw_and1 (pt_cmpR op_eq (pe_call G__law_off (hr.mono (by decide)) rfl T.g__law_off T.F__law_off.kp T.b__law_off .nil pass0 (pa_cons (pv 0) (pa_cons pe_int pa_nil))) pe_int (nomark _))))) (pe_ix ix_list (pv 1) (pe_un un_neg pe_int) (fun _ _ => rfl)) (pe_call G__law_row (hr.mono (by decide)) rfl T.g__law_row T.F__law_row.kp T.b__law_row .nil pass0 (pa_cons (pv 0) pa_nil))) pa_nil)))))
    (pss_one (ps_ret (pv 1))))), ?_⟩
    refine ⟨(by show 0 ≤ sizeLine; decide), fun p hp => ?_⟩
    have npd := hD.ne_new hp
    refine ⟨_, rfl, (by show 2 ≤ sizeLine; decide), fun l hl => ?_⟩
    have D0 := (hD.new (o := .lst []) hp).new (o := .lst [.int 8, .int 40]) hl
    have nld := (hD.new (o := .lst []) hp).ne_new hl
    have npl : p ≠ l := fun e => by rw [← e, upd_same] at hl; cases hl
    have f1 : Frm [d] H (upd (upd H p (.lst [])) l (.lst [.int 8, .int 40])) := (Frm.new hp).trans (Frm.new hl)
    refine ⟨_, rfl, d, 2, rfl, D0, by decide, by decide, fun r H1 r0 r2 D1 g1 => ?_⟩
    have hl1 : H1 l = some (.lst [.int 8, .int 40]) := g1 _ _ upd_same (by simp [nld])
    have hp1 : H1 p = some (.lst []) := g1 _ _ (by rw [upd_ne npl]; exact upd_same) (by simp [npd])
    obtain ⟨m, hm, hm0, hm1⟩ : ∃ m : Int, atI [V.int 8, V.int 40] r = some (.int m) ∧ 0 < m ∧ m ≤ 40 := by
      have : r = 0 ∨ r = 1 := by omega
      rcases this with rfl | rfl
      · exact ⟨8, rfl, by decide, by decide⟩
      · exact ⟨40, rfl, by decide, by decide⟩
    refine ⟨l, _, r, _, rfl, rfl, SqL.of hl1, hm, ?_⟩
    refine ⟨d, m, rfl, D1, hm0, by omega, fun n H2 n0 n1 D2 g2 => ?_⟩
    have hp2 : H2 p = some (.lst []) := g2 _ _ hp1 (by simp [npd])
    have f2 := (f1.trans g1).trans g2
    refine ⟨n, rfl, by omega, by omega, for_range (lo := 0) (n := n.toNat) (fun i σ H3 => (∃ v : Option V, σ = [some (.ref d), some (.ref p), v]) ∧ DiceAt H3 d ∧ Frm [d] H H3 ∧ ∃ (xs : List V) (rs : List Row), H3 p = some (.lst xs) ∧ ImAll H3 xs (rs.map rowD) ∧ (∀ r ∈ rs, okRow r) ∧ rs.length = i)
      ⟨⟨_, rfl⟩, D2, f2, [], [], hp2, .nil, by simp, rfl⟩ ?_ ?_⟩
    · rintro i σ H3 hi ⟨⟨v, rfl⟩, D3, f3, xs, rs, hp3, hA, hok, hln⟩
      have hxl := rows_len hA
      refine ⟨_, rfl, .inl ⟨rfl, _, SqL.of hp3⟩, ?_⟩
      refine ⟨_, rfl, (by show 0 ≤ sizeLine; decide), fun e he => ?_⟩
      have s4 : Same H3 (upd H3 e (.lst [])) := Same.upd_new he
      have f4 : Frm [d] H (upd H3 e (.lst [])) := f3.trans (Frm.of_same s4)
      have hp4 := s4 _ _ hp3
      have hA4 := hA.same s4
      have new : ∀ H5, DiceAt H5 d → Frm [d] H H5 → H5 p = some (.lst xs) → ImAll H5 xs (rs.map rowD) → tCall (sp__law_row T) [] E0 (tCons (tVar 0) tNil) [some (.ref d), some (.ref p), some (.int (0 + (i : Nat)))] H5
          (fun x H6 => rAppend (.ref p) [x] H6 fun _ H7 => (∃ v : Option V, ([some (.ref d), some (.ref p), some (.int (0 + (i : Nat)))] : List (Option V)) = [some (.ref d), some (.ref p), v]) ∧ DiceAt H7 d ∧ Frm [d] H H7 ∧ ∃ (xs : List V) (rs : List Row), H7 p = some (.lst xs) ∧ ImAll H7 xs (rs.map rowD) ∧ (∀ r ∈ rs, okRow r) ∧ rs.length = i + 1) := by
        intro H5 D5 f5 hp5 hA5
        refine ⟨_, rfl, d, rfl, D5, fun t r H6 ok ht ht6 D6 g6 => ?_⟩
        have hp6 : H6 p = some (.lst xs) := g6 _ _ hp5 (by simp [npd])
        refine ⟨p, xs, _, rfl, rfl, hp6, small1000 (by omega), ⟨_, rfl⟩, D6.upd_ne (Ne.symm npd), (f5.trans g6).own hp (Frm.updL hp6), _, rs ++ [r], upd_same, ?_, fun x hx => ?_, by simp [hln]⟩
        · rw [List.map_append]
          refine ImAll.append ((hA5.frm g6).updL hp6) (.cons (im_row ?_) .nil)
          rw [upd_ne (ne_of ht6 hp6 (by intro q; cases q))]
          exact ht6
        · rcases List.mem_append.mp hx with h1 | h1
          · exact hok x h1
          · simp at h1; subst h1; exact ok
      have hlv := lv_rows (rs := rs) (by omega)
      refine ⟨.list (rs.map rowD), .list [], .lst (SqL.of hp4) hA4.dp, .lst (SqL.of upd_same) .nil, shaped_lv hlv (by decide), rfl, _, rfl, ?_⟩
      rw [eqv_rows_nil]
      refine iteN (fun hne => ?_) (fun he0 => iteF (new _ (D3.same s4) f4 hp4 hA4))
      refine ⟨_, rfl, d, 3, rfl, D3.same s4, by decide, by decide, fun z H5 z0 z3 D5 g5 => ?_⟩
      have hp5 : H5 p = some (.lst xs) := g5 _ _ hp4 (by simp [npd])
      have hA5 := hA4.frm g5
      refine ⟨rfl, _, rfl, ?_⟩
      refine iteD (fun _ => ?_) (fun _ => new _ D5 (f4.trans g5) hp5 hA5)
      -- the last one again
      have hpos : 0 < rs.length := List.length_pos_iff.mpr hne
      obtain ⟨t, ht, htt⟩ := rows_get hA5 (i := rs.length - 1) (r := rs[rs.length - 1]) (List.getElem?_eq_getElem (by omega))
      have hat : atI xs (-1) = some (.ref t) := by
        unfold atI ixN
        rw [if_neg (by omega), if_pos (by omega)]
        have : ((-1 : Int) + (xs.length : Nat)).toNat = rs.length - 1 := by omega
        rw [this]
        exact ht
      refine ⟨_, rfl, _, rfl, p, _, _, _, rfl, rfl, SqL.of hp5, hat, ?_⟩
      refine ⟨p, xs, _, rfl, rfl, hp5, small1000 (by omega), ⟨_, rfl⟩, D5.upd_ne (Ne.symm npd), (f4.trans g5).own hp (Frm.updL hp5), _, rs ++ [rs[rs.length - 1]], upd_same, ?_, fun x hx => ?_, by simp [hln]⟩
      · rw [List.map_append]
        refine ImAll.append (hA5.updL hp5) (.cons (im_row ?_) .nil)
        rw [upd_ne (ne_of htt hp5 (by intro q; cases q))]
        exact htt
      · rcases List.mem_append.mp hx with h1 | h1
        · exact hok x h1
        · simp at h1
          rw [h1]
          exact hok _ (List.getElem_mem _)
    · rintro σ H3 ⟨⟨v, rfl⟩, D3, f3, xs, rs, hp3, hA, hok, hln⟩
      exact ⟨_, rfl, k p xs rs H3 hok (by omega) hp hp3 hA D3 f3⟩

end
end TL

namespace TL
open PySem PySem.Spec PyProof.Rows L2
section
variable {P : Program} {w : World} {K : PySem.W.Frag} {mg : Str → Option Value} {base : Heap}
def spLaw (K : PySem.W.Frag) : Sp := fun vs H Q _ => ∃ (a : Addr) (ns : List Int), vs = [.ref a] ∧ SqL K H a (ns.map V.int) ∧ ns.length ≤ 63 ∧ ∀ H', Q (.bl true) H'
abbrev sp_law (T : Txt K mg) : Sp := spLaw K
theorem dec1 {b : Bool} : atI [V.str "-", V.str "+"] (if b = true then 1 else 0) = some (.str (sgS b)) := by
  cases b <;> decide +kernel
theorem ok_law (T : Txt K mg) : FnOk P w K mg base CX0 5 T.a_law T.fd_law P_law (sp_law T) := by
  have G__law_dice := ok__law_dice (P := P) (w := w) (base := base) T
  have G__law_log := ok__law_log (P := P) (w := w) (base := base) T
  have G__law_off := ok__law_off (P := P) (w := w) (base := base) T
  have G_read := ok_read (P := P) (w := w) (base := base) T
  have G__law_row := ok__law_row (P := P) (w := w) (base := base) T
  have G__law_alike := ok__law_alike (P := P) (w := w) (base := base) T 4
  have G_written := ok_written (P := P) (w := w) (base := base) T
  refine T.F_law.ok sc_law (fun vs H Q E h => ?_) (fun cdv A outer s H vs Q E hr h => ?_)
  · obtain ⟨a, ns, rfl, _⟩ := h
    rfl
  · obtain ⟨a, ns, rfl, hS, hlen, k⟩ := h
    refine ⟨_, (pss_cons (ps_set (i := 1) sc_law.nd rfl (by first | exact Or.inl rfl | exact Or.inr rfl) (pe_call G__law_dice (hr.mono (by decide)) rfl T.g__law_dice T.F__law_dice.kp T.b__law_dice .nil pass0 (pa_cons (pv 0) (pa_cons pe_int pa_nil))))
    (pss_cons (ps_for PassesOwn.never rfl (pi_range1 rfl T.n_range (pa_cons pe_int pa_nil)) (pg_name (i := 2) sc_law.nd rfl (by first | exact Or.inl rfl | exact Or.inr rfl))
      (pss_cons (ps_set (i := 3) sc_law.nd rfl (by first | exact Or.inl rfl | exact Or.inr rfl) (pe_call G__law_log (hr.mono (by decide)) rfl T.g__law_log T.F__law_log.kp T.b__law_log .nil pass0 (pa_cons (pv 1) pa_nil)))
      (pss_cons (ps_cut (ps_if (pt_cmpR op_eq (pe_call G__law_off (hr.mono (by decide)) rfl T.g__law_off T.F__law_off.kp T.b__law_off .nil pass0 (pa_cons (pv 1) (pa_cons pe_int pa_nil))) pe_int (nomark _))
        (pss_one (ps_set (i := 3) sc_law.nd rfl (by first | exact Or.inl rfl | exact Or.inr rfl) (pe_op op_rep (pe_lst (pa_cons (pe_call G__law_row (hr.mono (by decide)) rfl T.g__law_row T.F__law_row.kp T.b__law_row .nil pass0 (pa_cons (pv 1) pa_nil)) pa_nil)) pe_int)))
        pss_nil))
      (pss_cons (ps_set (i := 4) sc_law.nd rfl (by first | exact Or.inl rfl | exact Or.inr rfl) (pe_lst pa_nil))
      (pss_cons (ps_for PassesOwn.never rfl (pi_list (pv 3)) (pg_tup rfl (pgs_cons (pg_name (i := 5) sc_law.nd rfl (by first | exact Or.inl rfl | exact Or.inr rfl)) (pgs_cons (pg_name (i := 6) sc_law.nd rfl (by first | exact Or.inl rfl | exact Or.inr rfl)) (pgs_cons (pg_name (i := 7) sc_law.nd rfl (by first | exact Or.inl rfl | exact Or.inr rfl)) (pgs_cons (pg_name (i := 8) sc_law.nd rfl (by first | exact Or.inl rfl | exact Or.inr rfl)) pgs_nil)))))
        (pss_one (ps_expr (pe_bm PySem.F.plainAttrs_list PySem.F.slot_list_append PySem.F.type_list_append mt_append (pv 4) (pa_cons (pe_op op_add_str (pe_op op_add_str (pe_op op_add_str (pe_op op_add_str (pe_callTy call_str_int (by rfl) T.n_str (by decide +kernel) (pa_cons (pv 5) pa_nil)) (pe_ix ix_list (pe_lst (pa_cons pe_str (pa_cons pe_str pa_nil))) (pe_callTy call_int1 (by rfl) T.n_int (by decide +kernel) (pa_cons (pv 6) pa_nil)) (fun _ _ => rfl))) pe_str) (pe_callTy call_str_int (by rfl) T.n_str (by decide +kernel) (pa_cons (pv 7) pa_nil))) (pe_ix ix_list (pe_lst (pa_cons pe_str (pa_cons pe_str pa_nil))) (pe_callTy call_int1 (by rfl) T.n_int (by decide +kernel) (pa_cons (pv 8) pa_nil)) (fun _ _ => rfl))) pa_nil)))))
      (pss_cons (ps_set (i := 9) sc_law.nd rfl (by first | exact Or.inl rfl | exact Or.inr rfl) (pe_join pe_str (pv 4)))
      (pss_one (ps_for PassesOwn.never rfl (pi_range1 rfl T.n_range (pa_cons pe_int pa_nil)) (pg_name (i := 10) sc_law.nd rfl (by first | exact Or.inl rfl | exact Or.inr rfl))
        (pss_cons (ps_set (i := 11) sc_law.nd rfl (by first | exact Or.inl rfl | exact Or.inr rfl) (pe_call G_read (hr.mono (by decide)) rfl T.g_read T.F_read.kp T.b_read .nil pass0 (pa_cons (pv 9) pa_nil)))
        (pss_cons (ps_if (PW.pt (pw_or (pt_not (pt_val (pe_call G__law_alike (hr.mono (by decide)) rfl T.g__law_alike T.F__law_alike.kp T.b__law_alike .nil pass0 (pa_cons (pe_call G_written (hr.mono (by decide)) rfl T.g_written T.F_written.kp T.b_written .nil pass0 (pa_cons (pe_callTy call_list_of (by rfl) T.n_list (by decide +kernel) (pa_cons (pv 3) pa_nil)) pa_nil)) (pa_cons (pv 9) pa_nil))))) (pw_or1 (pt_not (pt_val (pe_call G__law_alike (hr.mono (by decide)) rfl T.g__law_alike T.F__law_alike.kp T.b__law_alike .nil pass0 (pa_cons (pv 11) (pa_cons (pv 3) pa_nil))))))))
          (pss_one (ps_ret pe_bl))
          pss_nil)
        (pss_one (ps_expr (pe_bm PySem.F.plainAttrs_list PySem.F.slot_list_append PySem.F.type_list_append mt_append (pv 11) (pa_cons (pe_tup pa_nil) pa_nil))))))))))))))
    (pss_one (ps_ret pe_bl)))), ?_⟩
    refine ⟨_, rfl, a, ns, 0, rfl, hS, hlen, fun d H0 hd D0 s0 => ?_⟩
    refine ⟨6, rfl, by decide, by decide, for_range (lo := 0) (n := 6) (fun i σ H2 => (∃ v2 v3 v4 v5 v6 v7 v8 v9 v10 v11 : Option V, σ = [some (.ref a), some (.ref d), v2, v3, v4, v5, v6, v7, v8, v9, v10, v11]) ∧ DiceAt H2 d)
      ⟨⟨_, _, _, _, _, _, _, _, _, _, rfl⟩, D0⟩ ?_ ?_⟩
    · rintro i σ H2 hi ⟨⟨v2, v3, v4, v5, v6, v7, v8, v9, v10, v11, rfl⟩, D2⟩
      refine ⟨_, rfl, d, rfl, D2, fun p1 xs1 rs1 H3 ok1 hl1 hp1n hp1 hA1 D3 f3 => ?_⟩
      refine ⟨fun σ' H' => ∃ (p : Addr) (xs : List V) (rs : List Row), σ' = [some (.ref a), some (.ref d), some (.int (0 + (i : Nat))), some (.ref p), v4, v5, v6, v7, v8, v9, v10, v11] ∧ Got H' d p xs rs, ?_, ?_⟩
      · refine ⟨_, rfl, d, 9, rfl, D3, by decide, by decide, fun r H4 r0 r9 D4 f4 => ⟨rfl, _, rfl, ?_⟩⟩
        have hp4 : H4 p1 = some (.lst xs1) := f4 _ _ hp1 (by simp [D2.ne_new hp1n])
        refine iteD (fun _ => ?_) (fun _ => ⟨p1, xs1, rs1, rfl, D4, hp4, hA1.frm f4, ok1, by omega, D2.ne_new hp1n⟩)
        refine ⟨_, rfl, d, rfl, D4, fun t r H6 okr htn ht D6 f6 => ?_⟩
        refine ⟨(by show 1 ≤ sizeLine; decide), fun q hq => ?_⟩
        have htq : (upd H6 q (.lst [.ref t])) t = some (.tup (rowV r)) := by rw [upd_ne (ne_of_none ht hq)]; exact ht
        refine ⟨q, 300, _, rfl, rfl, upd_same, by decide, by decide, (by show 1 * 300 ≤ sizeLine; decide), fun u hu => ?_⟩
        refine ⟨u, _, List.replicate 300 r, rfl, (D6.new hq).new hu, upd_same, ?_, fun x hx => ?_, by simp, (D6.new hq).ne_new hu⟩
        · have e1 : (List.replicate 300 r).map rowD = (List.replicate (300 : Int).toNat [rowD r]).flatten := by
            rw [List.map_replicate]
            rfl
          rw [e1]
          exact ((ImAll.cons (im_row htq) .nil).new hu).rep _
        · rw [List.mem_replicate] at hx
          rw [hx.2]
          exact okr
      rintro σ' H6 ⟨p, xs, rs, rfl, g6⟩
      have hxl := rows_len g6.A
      have hln := g6.len
      -- lines
      refine ⟨(by show 0 ≤ sizeLine; decide), fun U hU => ?_⟩
      have g7 := g6.same (Same.upd_new (o := .lst []) hU)
      have nUd := g6.D.ne_new hU
      have nUp : U ≠ p := fun e => by rw [e, g6.L] at hU; cases hU
      refine ⟨_, rfl, p, rfl, ⟨_, SqL.of g7.L⟩, for_list (K := K) (a := p) (xs := xs) (fun i σ H8 => (∃ v2 v5 v6 v7 v8 : Option V, σ = [some (.ref a), some (.ref d), v2, some (.ref p), some (.ref U), v5, v6, v7, v8, v9, v10, v11]) ∧ Got H8 d p xs rs ∧ H8 U = some (.lst (((rs.take i).map lineOf).map V.str)))
        ⟨⟨_, _, _, _, _, rfl⟩, g7, upd_same⟩ (fun i σ H8 _ ⟨_, g, _⟩ => SqL.of g.L) ?_ ?_⟩
      · rintro j x σ H8 hj ⟨⟨v2, v5, v6, v7, v8, rfl⟩, g8, hU8⟩
        obtain ⟨t, r, hrj, rfl, ht⟩ := rows_get' g8.A hj
        have hjl : j < rs.length := (List.getElem?_eq_some_iff.mp hrj).1
        have hrok := g8.ok r (List.mem_of_getElem? hrj)
        have l1 : (dgS r.1).length = 1 := by rw [len_tl, tl_dg hrok.1.1 hrok.1.2]; rfl
        have l2 : (dgS r.2.2.1).length = 1 := by rw [len_tl, tl_dg hrok.2.1 hrok.2.2]; rfl
        have l3 : ∀ b, (sgS b).length = 1 := fun b => by rw [len_tl]; rfl
        have l4 : (" " : Str).length = 1 := by decide +kernel
        have app : ∀ x y : Str, (x ++ y).length = x.length + y.length := fun x y => by rw [len_tl, len_tl, len_tl, tl_append, List.length_append]
        refine ⟨t, _, rfl, SqT.of ht, rfl, _, _, rfl, _, _, rfl, _, _, rfl, _, _, rfl, rfl, ?_⟩
        refine ⟨_, rfl, .inl ⟨rfl, _, SqL.of hU8⟩, ?_⟩
        refine ⟨_, rfl, _, rfl, log2_small hrok.1.1 hrok.1.2, (by show 2 ≤ sizeLine; decide), fun l hl => ?_⟩
        have s9 := Same.upd_new (o := .lst [.str "-", .str "+"]) hl
        refine ⟨_, rfl, .inr ⟨_, rfl, ?_⟩⟩
        refine ⟨l, _, _, _, rfl, rfl, SqL.of upd_same, dec1, dgS r.1, sgS r.2.1, rfl, rfl, ?_, ?_⟩
        · rw [l1, l3]; decide
        refine ⟨_, (" " : Str), rfl, rfl, ?_, ?_⟩
        · rw [app, l1, l3, l4]; decide
        refine ⟨_, rfl, _, rfl, log2_small hrok.2.1 hrok.2.2, _, dgS r.2.2.1, rfl, rfl, ?_, ?_⟩
        · rw [app, app, l1, l2, l3, l4]; decide
        refine ⟨(by show 2 ≤ sizeLine; decide), fun l' hl' => ?_⟩
        have s10 := s9.trans (Same.upd_new (o := .lst [.str "-", .str "+"]) hl')
        refine ⟨_, rfl, .inr ⟨_, rfl, ?_⟩⟩
        refine ⟨l', _, _, _, rfl, rfl, SqL.of upd_same, dec1, _, sgS r.2.2.2, rfl, rfl, ?_, ?_⟩
        · rw [app, app, app, l1, l2, l3, l3, l4]; decide
        have hU10 := s10 _ _ hU8
        refine ⟨U, _, _, rfl, rfl, hU10, by simp only [List.length_map, List.length_take]; exact small1000 (by omega), ⟨_, _, _, _, _, rfl⟩, (g8.same s10).updL hU10 nUd nUp, ?_⟩
        rw [upd_same, take_more hrj]
        simp only [List.map_append, List.map_cons, List.map_nil]
        rfl
      rintro σ H8 ⟨⟨v2, v5, v6, v7, v8, rfl⟩, g8, hU8⟩
      rw [hxl, List.take_length] at hU8
      refine ⟨⟨_, rfl⟩, _, rfl, _, U, _, rfl, rfl, .inl (SqL.of hU8), ?_, ?_⟩
      · rw [lines_sum g8.ok, List.length_map]
        have : ("\n" : Str).length = 1 := by decide +kernel
        rw [this]
        omega
      have htx : Txt.join "\n" (rs.map lineOf) = logText rs := rfl
      rw [htx]
      have hll := log_len g8.ok
      have hlines : (linesOf (logText rs)).map rowOfL = rs.map some := by
        unfold linesOf
        by_cases e : rs = []
        · subst e
          rw [if_pos (by decide +kernel)]
          rfl
        · rw [if_neg (log_ne g8.ok e), split_log g8.ok e, List.map_map]
          exact List.map_congr_left fun r hr => rowOf_line (g8.ok r hr)
      refine ⟨2, rfl, by decide, by decide, for_range (lo := 0) (n := 2) (fun i σ H9 => (∃ v2 v5 v6 v7 v8 v10 v11 : Option V, σ = [some (.ref a), some (.ref d), v2, some (.ref p), some (.ref U), v5, v6, v7, v8, some (.str (logText rs)), v10, v11]) ∧ Got H9 d p xs rs)
        ⟨⟨_, _, _, _, _, _, _, rfl⟩, g8⟩ ?_ ?_⟩
      · rintro j σ H9 hj ⟨⟨v2, v5, v6, v7, v8, v10, v11, rfl⟩, g9⟩
        refine ⟨_, rfl, logText rs, rs, rfl, (by show (logText rs).length + 2 ≤ 16777216; omega), hlines, g9.len, fun q zs H10 hq hq10 hz s10 => ?_⟩
        have g10 := g9.same s10
        have nqd := g9.D.ne_new hq
        have nqp : q ≠ p := fun e => by rw [e, g9.L] at hq; cases hq
        refine ⟨_, rfl, p, _, rfl, .inl (SqL.of g10.L), fun l hl => ?_⟩
        have s11 := Same.upd_new (o := .lst xs) hl
        refine ⟨l, xs, rs, rfl, SqL.of upd_same, (g10.same s11).A, g10.ok, g10.len, fun H12 s12 => ?_⟩
        refine ⟨_, rfl, _, _, .str (logText rs), rfl, .str _, .str _, ?_, fun H13 s13 => ⟨_, rfl, iteF ?_⟩⟩
        · exact strOk_log g8.ok
        have s103 := (s11.trans s12).trans s13
        have g13 := g10.same s103
        refine ⟨_, rfl, _, rfl, _, _, .list (rs.map rowD), rfl, .lst (SqL.of (s103 _ _ hq10)) (hz.same s103).dp, .lst (SqL.of g13.L) g13.A.dp, lv_mono (lv_rows (by omega)), fun H14 s14 => ⟨_, rfl, iteF ?_⟩⟩
        have g14 := g13.same s14
        have hq14 := s14 _ _ (s103 _ _ hq10)
        refine ⟨_, rfl, .inl ⟨rfl, _, SqL.of hq14⟩, (by show 0 ≤ sizeLine; decide), fun e he => ?_⟩
        have hq15 : (upd H14 e (.tup [])) q = some (.lst zs) := by rw [upd_ne (ne_of_none hq14 he)]; exact hq14
        have hzl : zs.length ≤ 300 := by rw [hz.length, List.length_map]; exact g9.len
        exact ⟨q, zs, _, rfl, rfl, hq15, small1000 (by omega), ⟨_, _, _, _, _, _, _, rfl⟩, (g14.same (Same.upd_new he)).updL hq15 nqd nqp⟩
      · rintro σ H9 ⟨⟨v2, v5, v6, v7, v8, v10, v11, rfl⟩, g9⟩
        exact ⟨⟨_, _, _, _, _, _, _, _, _, _, rfl⟩, g9.D⟩
    · rintro σ H2 ⟨⟨v2, v3, v4, v5, v6, v7, v8, v9, v10, v11, rfl⟩, D2⟩
      exact k H2

end
end TL

namespace TL
open PySem L2
/-! ### what the top has written; the last theorem -/
theorem all_mk {l : PySem.W.OpenLaw} {w : World} {K : PySem.W.Frag} {h : Heap} {mg : Str → Option Value} {fa : Addr} (X : K.In h) (G : h.Ns mainGlobals mg) (hfa : mg "law" = some (.ref fa)) {C_LineError a_is_between a_is_row a_need_log a_written a_half_of a_row_of a_read a__law_dice a__law_off a__law_alike a__law_row a__law_log a_law : Addr}
    {od_is_between an_is_between od_is_row an_is_row od_need_log an_need_log od_written an_written od_half_of an_half_of od_row_of an_row_of od_read an_read od__law_dice an__law_dice od__law_off an__law_off od__law_alike an__law_alike od__law_row an__law_row od__law_log an__law_log od_law an_law : Option Addr} {sl_is_between sl_is_row sl_need_log sl_written sl_half_of sl_row_of sl_read sl__law_dice sl__law_off sl__law_alike sl__law_row sl__law_log sl_law : Array (Option Value)} {oc_is_between kV_is_between dc_is_between pm_is_between cd_is_between ct_is_between oc_is_row kV_is_row dc_is_row pm_is_row cd_is_row ct_is_row oc_need_log kV_need_log dc_need_log pm_need_log cd_need_log ct_need_log oc_written kV_written dc_written pm_written cd_written ct_written oc_half_of kV_half_of dc_half_of pm_half_of cd_half_of ct_half_of oc_row_of kV_row_of dc_row_of pm_row_of cd_row_of ct_row_of oc_read kV_read dc_read pm_read cd_read ct_read oc__law_dice kV__law_dice dc__law_dice pm__law_dice cd__law_dice ct__law_dice oc__law_off kV__law_off dc__law_off pm__law_off cd__law_off ct__law_off oc__law_alike kV__law_alike dc__law_alike pm__law_alike cd__law_alike ct__law_alike oc__law_row kV__law_row dc__law_row pm__law_row cd__law_row ct__law_row oc__law_log kV__law_log dc__law_log pm__law_log cd__law_log ct__law_log oc_law kV_law dc_law pm_law cd_law ct_law : Value} {tk_MOST tk_MOST_ROWS tk_MARKS tk_FIGURES : Tok}
    (hC_LineError : PySem.W.nsIn K mainGlobals "LineError" = some (some (.ref C_LineError)))
    (hg_is_between : PySem.W.nsIn K mainGlobals "is_between" = some (some (.ref a_is_between)))
    (hl_is_between : K.lookup a_is_between = some ⟨oc_is_between, od_is_between, .func (PySem.W.fnOf "is_between" "is_between" (defArgs s_is_between) (defBody s_is_between) (defScope s_is_between) .none kV_is_between dc_is_between pm_is_between an_is_between cd_is_between ct_is_between), sl_is_between⟩)
    (hc_is_between : PySem.W.codeIn K cd_is_between "is_between" = true)
    (hk_is_between : PySem.W.keepIn K (.ref a_is_between) = true)
    (hg_is_row : PySem.W.nsIn K mainGlobals "is_row" = some (some (.ref a_is_row)))
    (hl_is_row : K.lookup a_is_row = some ⟨oc_is_row, od_is_row, .func (PySem.W.fnOf "is_row" "is_row" (defArgs s_is_row) (defBody s_is_row) (defScope s_is_row) .none kV_is_row dc_is_row pm_is_row an_is_row cd_is_row ct_is_row), sl_is_row⟩)
    (hc_is_row : PySem.W.codeIn K cd_is_row "is_row" = true)
    (hk_is_row : PySem.W.keepIn K (.ref a_is_row) = true)
    (hg_need_log : PySem.W.nsIn K mainGlobals "need_log" = some (some (.ref a_need_log)))
    (hl_need_log : K.lookup a_need_log = some ⟨oc_need_log, od_need_log, .func (PySem.W.fnOf "need_log" "need_log" (defArgs s_need_log) (defBody s_need_log) (defScope s_need_log) .none kV_need_log dc_need_log pm_need_log an_need_log cd_need_log ct_need_log), sl_need_log⟩)
    (hc_need_log : PySem.W.codeIn K cd_need_log "need_log" = true)
    (hk_need_log : PySem.W.keepIn K (.ref a_need_log) = true)
    (hg_written : PySem.W.nsIn K mainGlobals "written" = some (some (.ref a_written)))
    (hl_written : K.lookup a_written = some ⟨oc_written, od_written, .func (PySem.W.fnOf "written" "written" (defArgs s_written) (defBody s_written) (defScope s_written) .none kV_written dc_written pm_written an_written cd_written ct_written), sl_written⟩)
    (hc_written : PySem.W.codeIn K cd_written "written" = true)
    (hk_written : PySem.W.keepIn K (.ref a_written) = true)
    (hg_half_of : PySem.W.nsIn K mainGlobals "half_of" = some (some (.ref a_half_of)))
    (hl_half_of : K.lookup a_half_of = some ⟨oc_half_of, od_half_of, .func (PySem.W.fnOf "half_of" "half_of" (defArgs s_half_of) (defBody s_half_of) (defScope s_half_of) .none kV_half_of dc_half_of pm_half_of an_half_of cd_half_of ct_half_of), sl_half_of⟩)
    (hc_half_of : PySem.W.codeIn K cd_half_of "half_of" = true)
    (hk_half_of : PySem.W.keepIn K (.ref a_half_of) = true)
    (hg_row_of : PySem.W.nsIn K mainGlobals "row_of" = some (some (.ref a_row_of)))
    (hl_row_of : K.lookup a_row_of = some ⟨oc_row_of, od_row_of, .func (PySem.W.fnOf "row_of" "row_of" (defArgs s_row_of) (defBody s_row_of) (defScope s_row_of) .none kV_row_of dc_row_of pm_row_of an_row_of cd_row_of ct_row_of), sl_row_of⟩)
    (hc_row_of : PySem.W.codeIn K cd_row_of "row_of" = true)
    (hk_row_of : PySem.W.keepIn K (.ref a_row_of) = true)
    (hg_read : PySem.W.nsIn K mainGlobals "read" = some (some (.ref a_read)))
    (hl_read : K.lookup a_read = some ⟨oc_read, od_read, .func (PySem.W.fnOf "read" "read" (defArgs s_read) (defBody s_read) (defScope s_read) .none kV_read dc_read pm_read an_read cd_read ct_read), sl_read⟩)
    (hc_read : PySem.W.codeIn K cd_read "read" = true)
    (hk_read : PySem.W.keepIn K (.ref a_read) = true)
    (hg__law_dice : PySem.W.nsIn K mainGlobals "_law_dice" = some (some (.ref a__law_dice)))
    (hl__law_dice : K.lookup a__law_dice = some ⟨oc__law_dice, od__law_dice, .func (PySem.W.fnOf "_law_dice" "_law_dice" (defArgs s__law_dice) (defBody s__law_dice) (defScope s__law_dice) .none kV__law_dice dc__law_dice pm__law_dice an__law_dice cd__law_dice ct__law_dice), sl__law_dice⟩)
    (hc__law_dice : PySem.W.codeIn K cd__law_dice "_law_dice" = true)
    (hk__law_dice : PySem.W.keepIn K (.ref a__law_dice) = true)
    (hg__law_off : PySem.W.nsIn K mainGlobals "_law_off" = some (some (.ref a__law_off)))
    (hl__law_off : K.lookup a__law_off = some ⟨oc__law_off, od__law_off, .func (PySem.W.fnOf "_law_off" "_law_off" (defArgs s__law_off) (defBody s__law_off) (defScope s__law_off) .none kV__law_off dc__law_off pm__law_off an__law_off cd__law_off ct__law_off), sl__law_off⟩)
    (hc__law_off : PySem.W.codeIn K cd__law_off "_law_off" = true)
    (hk__law_off : PySem.W.keepIn K (.ref a__law_off) = true)
    (hg__law_alike : PySem.W.nsIn K mainGlobals "_law_alike" = some (some (.ref a__law_alike)))
    (hl__law_alike : K.lookup a__law_alike = some ⟨oc__law_alike, od__law_alike, .func (PySem.W.fnOf "_law_alike" "_law_alike" (defArgs s__law_alike) (defBody s__law_alike) (defScope s__law_alike) .none kV__law_alike dc__law_alike pm__law_alike an__law_alike cd__law_alike ct__law_alike), sl__law_alike⟩)
    (hc__law_alike : PySem.W.codeIn K cd__law_alike "_law_alike" = true)
    (hk__law_alike : PySem.W.keepIn K (.ref a__law_alike) = true)
    (hg__law_row : PySem.W.nsIn K mainGlobals "_law_row" = some (some (.ref a__law_row)))
    (hl__law_row : K.lookup a__law_row = some ⟨oc__law_row, od__law_row, .func (PySem.W.fnOf "_law_row" "_law_row" (defArgs s__law_row) (defBody s__law_row) (defScope s__law_row) .none kV__law_row dc__law_row pm__law_row an__law_row cd__law_row ct__law_row), sl__law_row⟩)
    (hc__law_row : PySem.W.codeIn K cd__law_row "_law_row" = true)
    (hk__law_row : PySem.W.keepIn K (.ref a__law_row) = true)
    (hg__law_log : PySem.W.nsIn K mainGlobals "_law_log" = some (some (.ref a__law_log)))
    (hl__law_log : K.lookup a__law_log = some ⟨oc__law_log, od__law_log, .func (PySem.W.fnOf "_law_log" "_law_log" (defArgs s__law_log) (defBody s__law_log) (defScope s__law_log) .none kV__law_log dc__law_log pm__law_log an__law_log cd__law_log ct__law_log), sl__law_log⟩)
    (hc__law_log : PySem.W.codeIn K cd__law_log "_law_log" = true)
    (hk__law_log : PySem.W.keepIn K (.ref a__law_log) = true)
    (hg_law : PySem.W.nsIn K mainGlobals "law" = some (some (.ref a_law)))
    (hl_law : K.lookup a_law = some ⟨oc_law, od_law, .func (PySem.W.fnOf "law" "law" (defArgs s_law) (defBody s_law) (defScope s_law) .none kV_law dc_law pm_law an_law cd_law ct_law), sl_law⟩)
    (hc_law : PySem.W.codeIn K cd_law "law" = true)
    (hk_law : PySem.W.keepIn K (.ref a_law) = true)
    (x_LineError : PySem.W.excIn K C_LineError [.type "ValueError", .type "Exception", .type "BaseException", .type "object"] "ValueError.__new__" = true)
    (k_LineError : PySem.W.keepIn K (.ref C_LineError) = true)
    (s_LineError : PySem.W.subIn K (.ref C_LineError) (.type "BaseException") = some true)
    (t_LineError : PySem.W.typeIn K (.ref C_LineError) = some (.type "type"))
    (hv_MOST : PySem.W.nsIn K mainGlobals "MOST" = some (some (.int 9 tk_MOST)))
    (hv_MOST_ROWS : PySem.W.nsIn K mainGlobals "MOST_ROWS" = some (some (.int 300 tk_MOST_ROWS)))
    (hv_MARKS : PySem.W.nsIn K mainGlobals "MARKS" = some (some (.str "-+" tk_MARKS)))
    (hv_FIGURES : PySem.W.nsIn K mainGlobals "FIGURES" = some (some (.str "0123456789" tk_FIGURES)))
    (z_abs : PySem.W.nsIn K mainGlobals "abs" = some none)
    (z_all : PySem.W.nsIn K mainGlobals "all" = some none)
    (z_bool : PySem.W.nsIn K mainGlobals "bool" = some none)
    (z_enumerate : PySem.W.nsIn K mainGlobals "enumerate" = some none)
    (z_int : PySem.W.nsIn K mainGlobals "int" = some none)
    (z_isinstance : PySem.W.nsIn K mainGlobals "isinstance" = some none)
    (z_len : PySem.W.nsIn K mainGlobals "len" = some none)
    (z_list : PySem.W.nsIn K mainGlobals "list" = some none)
    (z_range : PySem.W.nsIn K mainGlobals "range" = some none)
    (z_str : PySem.W.nsIn K mainGlobals "str" = some none)
    (z_tuple : PySem.W.nsIn K mainGlobals "tuple" = some none) :
    ∃ fd : FuncData, (∀ (s : Shared) (v : Value), BindsTo s fd ⟨[v], []⟩ [("_law_script", v)]) ∧ ∀ base : Heap, K.In base → base.Ns mainGlobals mg → FnOk l.prog w K mg base CX0 5 fa fd ["_law_script"] (spLaw K) := by
  have e := hfa.symm.trans (PySem.W.mg_of X G hg_law)
  cases e
  let T : Txt K mg := {
    a_is_between := a_is_between
    fd_is_between := _
    F_is_between := fun_mk (st := s_is_between) hl_is_between hc_is_between hk_is_between
    g_is_between := PySem.W.mg_of X G hg_is_between
    b_is_between := (fun_mk (st := s_is_between) hl_is_between hc_is_between hk_is_between).binds (ps := P_is_between) (fun _ _ _ _ _ _ us hl => match us, hl with | [_, _, _], _ => rfl)
    a_is_row := a_is_row
    fd_is_row := _
    F_is_row := fun_mk (st := s_is_row) hl_is_row hc_is_row hk_is_row
    g_is_row := PySem.W.mg_of X G hg_is_row
    b_is_row := (fun_mk (st := s_is_row) hl_is_row hc_is_row hk_is_row).binds (ps := P_is_row) (fun _ _ _ _ _ _ us hl => match us, hl with | [_], _ => rfl)
    a_need_log := a_need_log
    fd_need_log := _
    F_need_log := fun_mk (st := s_need_log) hl_need_log hc_need_log hk_need_log
    g_need_log := PySem.W.mg_of X G hg_need_log
    b_need_log := (fun_mk (st := s_need_log) hl_need_log hc_need_log hk_need_log).binds (ps := P_need_log) (fun _ _ _ _ _ _ us hl => match us, hl with | [_], _ => rfl)
    a_written := a_written
    fd_written := _
    F_written := fun_mk (st := s_written) hl_written hc_written hk_written
    g_written := PySem.W.mg_of X G hg_written
    b_written := (fun_mk (st := s_written) hl_written hc_written hk_written).binds (ps := P_written) (fun _ _ _ _ _ _ us hl => match us, hl with | [_], _ => rfl)
    a_half_of := a_half_of
    fd_half_of := _
    F_half_of := fun_mk (st := s_half_of) hl_half_of hc_half_of hk_half_of
    g_half_of := PySem.W.mg_of X G hg_half_of
    b_half_of := (fun_mk (st := s_half_of) hl_half_of hc_half_of hk_half_of).binds (ps := P_half_of) (fun _ _ _ _ _ _ us hl => match us, hl with | [_], _ => rfl)
    a_row_of := a_row_of
    fd_row_of := _
    F_row_of := fun_mk (st := s_row_of) hl_row_of hc_row_of hk_row_of
    g_row_of := PySem.W.mg_of X G hg_row_of
    b_row_of := (fun_mk (st := s_row_of) hl_row_of hc_row_of hk_row_of).binds (ps := P_row_of) (fun _ _ _ _ _ _ us hl => match us, hl with | [_], _ => rfl)
    a_read := a_read
    fd_read := _
    F_read := fun_mk (st := s_read) hl_read hc_read hk_read
    g_read := PySem.W.mg_of X G hg_read
    b_read := (fun_mk (st := s_read) hl_read hc_read hk_read).binds (ps := P_read) (fun _ _ _ _ _ _ us hl => match us, hl with | [_], _ => rfl)
    a__law_dice := a__law_dice
    fd__law_dice := _
    F__law_dice := fun_mk (st := s__law_dice) hl__law_dice hc__law_dice hk__law_dice
    g__law_dice := PySem.W.mg_of X G hg__law_dice
    b__law_dice := (fun_mk (st := s__law_dice) hl__law_dice hc__law_dice hk__law_dice).binds (ps := P__law_dice) (fun _ _ _ _ _ _ us hl => match us, hl with | [_, _], _ => rfl)
    a__law_off := a__law_off
    fd__law_off := _
    F__law_off := fun_mk (st := s__law_off) hl__law_off hc__law_off hk__law_off
    g__law_off := PySem.W.mg_of X G hg__law_off
    b__law_off := (fun_mk (st := s__law_off) hl__law_off hc__law_off hk__law_off).binds (ps := P__law_off) (fun _ _ _ _ _ _ us hl => match us, hl with | [_, _], _ => rfl)
    a__law_alike := a__law_alike
    fd__law_alike := _
    F__law_alike := fun_mk (st := s__law_alike) hl__law_alike hc__law_alike hk__law_alike
    g__law_alike := PySem.W.mg_of X G hg__law_alike
    b__law_alike := (fun_mk (st := s__law_alike) hl__law_alike hc__law_alike hk__law_alike).binds (ps := P__law_alike) (fun _ _ _ _ _ _ us hl => match us, hl with | [_, _], _ => rfl)
    a__law_row := a__law_row
    fd__law_row := _
    F__law_row := fun_mk (st := s__law_row) hl__law_row hc__law_row hk__law_row
    g__law_row := PySem.W.mg_of X G hg__law_row
    b__law_row := (fun_mk (st := s__law_row) hl__law_row hc__law_row hk__law_row).binds (ps := P__law_row) (fun _ _ _ _ _ _ us hl => match us, hl with | [_], _ => rfl)
    a__law_log := a__law_log
    fd__law_log := _
    F__law_log := fun_mk (st := s__law_log) hl__law_log hc__law_log hk__law_log
    g__law_log := PySem.W.mg_of X G hg__law_log
    b__law_log := (fun_mk (st := s__law_log) hl__law_log hc__law_log hk__law_log).binds (ps := P__law_log) (fun _ _ _ _ _ _ us hl => match us, hl with | [_], _ => rfl)
    a_law := fa
    fd_law := _
    F_law := fun_mk (st := s_law) hl_law hc_law hk_law
    g_law := PySem.W.mg_of X G hg_law
    b_law := (fun_mk (st := s_law) hl_law hc_law hk_law).binds (ps := P_law) (fun _ _ _ _ _ _ us hl => match us, hl with | [_], _ => rfl)
    C_LineError := C_LineError
    c_LineError := PySem.W.mg_of X G hC_LineError
    k_LineError := k_LineError
    s_LineError := s_LineError
    t_LineError := t_LineError
    x_LineError := x_LineError
    tk_MOST := tk_MOST
    v_MOST := PySem.W.mg_of X G hv_MOST
    tk_MOST_ROWS := tk_MOST_ROWS
    v_MOST_ROWS := PySem.W.mg_of X G hv_MOST_ROWS
    tk_MARKS := tk_MARKS
    v_MARKS := PySem.W.mg_of X G hv_MARKS
    tk_FIGURES := tk_FIGURES
    v_FIGURES := PySem.W.mg_of X G hv_FIGURES
    n_abs := PySem.W.mg_none_of X G z_abs
    n_all := PySem.W.mg_none_of X G z_all
    n_bool := PySem.W.mg_none_of X G z_bool
    n_enumerate := PySem.W.mg_none_of X G z_enumerate
    n_int := PySem.W.mg_none_of X G z_int
    n_isinstance := PySem.W.mg_none_of X G z_isinstance
    n_len := PySem.W.mg_none_of X G z_len
    n_list := PySem.W.mg_none_of X G z_list
    n_range := PySem.W.mg_none_of X G z_range
    n_str := PySem.W.mg_none_of X G z_str
    n_tuple := PySem.W.mg_none_of X G z_tuple }
  exact ⟨_, fun s v => .of_eq rfl, fun base _ _ => ok_law T⟩
theorem walk {l : PySem.W.OpenLaw} {q : Program} {loose : List Str} {XP : (Str → Option Value) → Heap → Prop} {YP : World → Heap → Prop} {d : DefRec} {K : Params → PySem.W.Frag} (hn : l.most = some 63) (hdf : d.params.defaults = [])
    (hY : ∀ (w : World) (h : Heap), YP w h → (K w.params).In h)
    (F : ∀ (w : World) (mg : Str → Option Value) (fa : Addr) (h : Heap), (K w.params).In h → h.Ns mainGlobals mg → mg d.name = some (.ref fa) →
      ∃ fd : FuncData, (∀ (s : Shared) (u : Value), BindsTo s fd ⟨[u], []⟩ [("_law_script", u)]) ∧ ∀ base : Heap, (K w.params).In base → base.Ns mainGlobals mg → FnOk l.prog w (K w.params) mg base CX0 5 fa fd ["_law_script"] (spLaw (K w.params))) :
    PySem.W.WalkO q loose XP YP l.row.toRowW d [] (fun f vs => PySem.call f vs) :=
  L2.walk_of (n := 63) (k := 5) (x := "_law_script") (CX := fun _ => CX0) (sp := fun w => spLaw (K w.params)) hn (by decide) hdf ⟨rfl, by decide, by decide⟩ hY F (fun _ _ a ns hl _ hS => ⟨a, ns, rfl, hS, hl, fun _ => rfl⟩) fun _ _ _ _ _ z => z
end TL
open PySem PySem.W PyProof.Rows
set_option maxRecDepth 100000 in
set_option maxHeartbeats 0 in
theorem PySem.Challenge.cw_trainline_k13_written_and_read_holds : PySem.Challenge.rw_trainline_k13_written_and_read.Holds := by
  w_on; o_law; k_head; (case hw => w_witness2)
  k_fill
  refine TL.walk (l := PySem.Challenge.rw_trainline_k13_written_and_read) rfl rfl (fun w h Y => PySem.W.kIn_of Y) ?F
  case F =>
    intro w mg fa h KX G hmg
    refine' TL.all_mk KX G hmg ?hC_LineError ?hg_is_between ?hl_is_between ?hc_is_between ?hk_is_between ?hg_is_row ?hl_is_row ?hc_is_row ?hk_is_row ?hg_need_log ?hl_need_log ?hc_need_log ?hk_need_log ?hg_written ?hl_written ?hc_written ?hk_written ?hg_half_of ?hl_half_of ?hc_half_of ?hk_half_of ?hg_row_of ?hl_row_of ?hc_row_of ?hk_row_of ?hg_read ?hl_read ?hc_read ?hk_read ?hg__law_dice ?hl__law_dice ?hc__law_dice ?hk__law_dice ?hg__law_off ?hl__law_off ?hc__law_off ?hk__law_off ?hg__law_alike ?hl__law_alike ?hc__law_alike ?hk__law_alike ?hg__law_row ?hl__law_row ?hc__law_row ?hk__law_row ?hg__law_log ?hl__law_log ?hc__law_log ?hk__law_log ?hg_law ?hl_law ?hc_law ?hk_law ?x_LineError ?k_LineError ?s_LineError ?t_LineError ?hv_MOST ?hv_MOST_ROWS ?hv_MARKS ?hv_FIGURES ?z_abs ?z_all ?z_bool ?z_enumerate ?z_int ?z_isinstance ?z_len ?z_list ?z_range ?z_str ?z_tuple
    (case hC_LineError => first | k_is | rfl)
    (case hg_is_between => first | k_is | rfl)
    (case hl_is_between => first | k_is | rfl)
    (case hc_is_between => first | k_is | rfl)
    (case hk_is_between => first | k_is | rfl)
    (case hg_is_row => first | k_is | rfl)
    (case hl_is_row => first | k_is | rfl)
    (case hc_is_row => first | k_is | rfl)
    (case hk_is_row => first | k_is | rfl)
    (case hg_need_log => first | k_is | rfl)
    (case hl_need_log => first | k_is | rfl)
    (case hc_need_log => first | k_is | rfl)
    (case hk_need_log => first | k_is | rfl)
    (case hg_written => first | k_is | rfl)
    (case hl_written => first | k_is | rfl)
    (case hc_written => first | k_is | rfl)
    (case hk_written => first | k_is | rfl)
    (case hg_half_of => first | k_is | rfl)
    (case hl_half_of => first | k_is | rfl)
    (case hc_half_of => first | k_is | rfl)
    (case hk_half_of => first | k_is | rfl)
    (case hg_row_of => first | k_is | rfl)
    (case hl_row_of => first | k_is | rfl)
    (case hc_row_of => first | k_is | rfl)
    (case hk_row_of => first | k_is | rfl)
    (case hg_read => first | k_is | rfl)
    (case hl_read => first | k_is | rfl)
    (case hc_read => first | k_is | rfl)
    (case hk_read => first | k_is | rfl)
    (case hg__law_dice => first | k_is | rfl)
    (case hl__law_dice => first | k_is | rfl)
    (case hc__law_dice => first | k_is | rfl)
    (case hk__law_dice => first | k_is | rfl)
    (case hg__law_off => first | k_is | rfl)
    (case hl__law_off => first | k_is | rfl)
    (case hc__law_off => first | k_is | rfl)
    (case hk__law_off => first | k_is | rfl)
    (case hg__law_alike => first | k_is | rfl)
    (case hl__law_alike => first | k_is | rfl)
    (case hc__law_alike => first | k_is | rfl)
    (case hk__law_alike => first | k_is | rfl)
    (case hg__law_row => first | k_is | rfl)
    (case hl__law_row => first | k_is | rfl)
    (case hc__law_row => first | k_is | rfl)
    (case hk__law_row => first | k_is | rfl)
    (case hg__law_log => first | k_is | rfl)
    (case hl__law_log => first | k_is | rfl)
    (case hc__law_log => first | k_is | rfl)
    (case hk__law_log => first | k_is | rfl)
    (case hg_law => first | k_is | rfl)
    (case hl_law => first | k_is | rfl)
    (case hc_law => first | k_is | rfl)
    (case hk_law => first | k_is | rfl)
    (case x_LineError => k_exc)
    (case k_LineError => first | k_is | rfl)
    (case s_LineError => first | k_is | rfl)
    (case t_LineError => first | k_is | rfl)
    (case hv_MOST => first | k_is | rfl)
    (case hv_MOST_ROWS => first | k_is | rfl)
    (case hv_MARKS => first | k_is | rfl)
    (case hv_FIGURES => first | k_is | rfl)
    (case z_abs => first | k_is | rfl)
    (case z_all => first | k_is | rfl)
    (case z_bool => first | k_is | rfl)
    (case z_enumerate => first | k_is | rfl)
    (case z_int => first | k_is | rfl)
    (case z_isinstance => first | k_is | rfl)
    (case z_len => first | k_is | rfl)
    (case z_list => first | k_is | rfl)
    (case z_range => first | k_is | rfl)
    (case z_str => first | k_is | rfl)
    (case z_tuple => first | k_is | rfl)
