import PyProof.Rows.All
import Wide.All
import OpenK.AllK
import Wide.FinOn
import HandS.ForMost
import HandS.Exc
import HandS.TryOnly
import HandS.ExcOwn
import HandS.WordsExc
import HandS.IsInst
import HandS.TupAny
import HandS.SetFor
import HandS.Strs
import HandS.Steps
import HandS.Style
import PySem.Challenge.RW_trainline_k02_chosen
set_option Elab.async false
set_option linter.all false
set_option maxRecDepth 100000
set_option maxHeartbeats 4000000
namespace TL
open PySem PySem.Spec PyProof.Rows L2
/-! ### heaps -/
/-- what was tracked and isn't in S stays -/
def Frm (S : List Addr) (H H' : Hp) : Prop := ∀ b o, H b = some o → b ∉ S → H' b = some o
theorem Frm.refl (S : List Addr) (H : Hp) : Frm S H H := fun _ _ e _ => e
theorem Frm.trans {S : List Addr} {H H1 H2 : Hp} (a : Frm S H H1) (b : Frm S H1 H2) : Frm S H H2 := fun c o e h => b c o (a c o e h) h
theorem Frm.mono {S S' : List Addr} {H H1 : Hp} (a : Frm S H H1) (h : ∀ x ∈ S, x ∈ S') : Frm S' H H1 := fun c o e hn => a c o e fun z => hn (h _ z)
theorem Frm.of_same {S : List Addr} {H H1 : Hp} (a : Same H H1) : Frm S H H1 := fun c o e _ => a c o e
theorem Frm.upd {H : Hp} {d : Addr} {o : HO} : Frm [d] H (upd H d o) := fun b u e h => by
  rw [upd_ne (fun z => h (by simp [z]))]
  exact e
theorem Frm.new {S : List Addr} {H : Hp} {p : Addr} {o : HO} (n : H p = none) : Frm S H (L2.upd H p o) := fun b u e _ => by
  rw [upd_ne (ne_of_none e n)]
  exact e
theorem Same.upd_new {H : Hp} {p : Addr} {o : HO} (n : H p = none) : Same H (L2.upd H p o) := fun b u e => by
  rw [upd_ne (ne_of_none e n)]
  exact e
/-- a tuple isn't among what may be written -/
theorem iteD {p A B : Prop} [Decidable p] (h1 : p → A) (h2 : ¬ p → B) : if decide p = true then A else B := by
  by_cases h : p
  · rw [if_pos (decide_eq_true h)]
    exact h1 h
  · rw [if_neg (by simp [h])]
    exact h2 h
theorem iteN {p A B : Prop} [Decidable p] (h1 : ¬ p → A) (h2 : p → B) : if (!decide p) = true then A else B := by
  by_cases h : p
  · rw [if_neg (by simp [h])]
    exact h2 h
  · rw [if_pos (by simp [h])]
    exact h1 h
theorem iteB {b : Bool} {A B : Prop} (h1 : b = true → A) (h2 : b = false → B) : if b = true then A else B := by
  cases b
  · rw [if_neg (by simp)]; exact h2 rfl
  · rw [if_pos rfl]; exact h1 rfl
theorem vint_inj {i j : Int} : (V.int i = V.int j) ↔ i = j := ⟨fun h => by cases h; rfl, fun h => by rw [h]⟩
theorem getmap {α : Type} {f : α → V} {ns : List α} {i : Nat} {y : V} (h : (ns.map f)[i]? = some y) : ∃ z, ns[i]? = some z ∧ y = f z := by
  rw [List.getElem?_map] at h
  cases e : ns[i]? with
  | none => rw [e] at h; cases h
  | some z => rw [e] at h; exact ⟨z, rfl, (Option.some.inj h).symm⟩
theorem take_more {α : Type} : ∀ {l : List α} {i : Nat} {x : α}, l[i]? = some x → l.take (i + 1) = l.take i ++ [x]
  | [], i, x, h => by simp at h
  | a :: l, 0, x, h => by
    have e : a = x := Option.some.inj h
    subst e
    rfl
  | a :: l, i + 1, x, h => by
    have ih := take_more (l := l) (i := i) (x := x) h
    show a :: l.take (i + 1) = a :: l.take i ++ [x]
    rw [ih]
    rfl
/-! ### set(t), t a tuple of whole numbers -/
section
variable {X : Cx}
def rSetT (K : PySem.W.Frag) (w : World) : List V → Hp → VK → Prop := fun xs H Q => ∃ (p : Addr) (ns : List Int), xs = [.ref p] ∧ SqT K H p (ns.map V.int) ∧ ns.length ≤ 1000 ∧
  ∀ (q : Addr) (c : Nat), H q = none → c ≤ ns.length → Q (.ref q) (upd H q (SetO w q (fun j => decide (j ∈ ns)) c))
theorem cr_setT (hc : X.calm = true) : CallR X (.type "set") (rSetT X.K X.w) := by
  intro pins s σ H xs us Q I rv h
  obtain ⟨p0, ns, rfl, hq, hl, q⟩ := h
  cases rv with
  | cons r rr =>
    cases rr
    cases r
    obtain ⟨its, rv, pt, hz⟩ := I.tuple hq
    have hi : IntsAre its.toArray.toList ns := ints_of_vals rv
    refine call_set_tupI ns (I.ok.hd hc) (show s.heap.IsTuple p0 its.toArray from pt) hi (by unfold scanBound; omega) fun h' tk c R1 hcn k => ?_
    exact ⟨.ref _, upd H s.heap.objs.size (SetO X.w s.heap.objs.size (fun j => decide (j ∈ ns)) c), I.laid (t' := tk) k (Nat.le_refl _) (setO_new R1), rfl, q _ _ (I.hok.fresh (Nat.le_refl _)) hcn⟩
/-! ### xs.count(y), flat items -/
def rCountF (K : PySem.W.Frag) : V → List V → Hp → VK → Prop := fun x xs H Q => ∃ (p : Addr) (ys : List V) (y : V), x = .ref p ∧ xs = [y] ∧ SqL K H p ys ∧ flatV y = true ∧ ys.all flatV = true ∧ Q (.int (ys.countP (fun z => eqV z y) : Nat)) H
theorem countP_eqU {y : V} : ∀ {ys : List V} {us : List Value}, Vals ys us → ys.all flatV = true → us.countP (eqU y) = ys.countP (fun z => eqV z y)
  | _, _, .nil, _ => rfl
  | _, _, .cons r t, f => by
    simp only [List.all_cons, Bool.and_eq_true] at f
    rw [List.countP_cons, List.countP_cons, countP_eqU t f.2, eqU_of r f.1]
theorem mt_countF : MtR X "list.count" (rCountF X.K) := by
  intro pins s σ H x xs v us Q I rx rxs h
  obtain ⟨p, ys, y, rfl, rfl, hs, fy, fys, q⟩ := h
  cases rx
  obtain ⟨u, rfl, ru⟩ := rxs.one
  obtain ⟨its, rv, ⟨⟨cls, dd, data, sl⟩, n, ho, hc, hdn, hd⟩, hlen⟩ := I.list hs
  simp only at hc hd
  subst hc hd
  refine call_meets PySem.F.slot_list_count ⟨_, ho, rfl⟩ PySem.F.entry_list_count (PySem.F.args_list_count_2 _ _)
    (SeqAt.list_countAt p its.toArray n dd sl u (eqU y)) ⟨ho, fun z hz => mem_eqAt ru fy rv fys z (by simpa using hz), ?_⟩
  have ec : its.toArray.toList.countP (eqU y) = ys.countP (fun z => eqV z y) := countP_eqU rv fys
  refine ⟨.int (ys.countP (fun z => eqV z y) : Nat), H, I.tok _, ⟨s.toks, ?_⟩, q⟩
  show Value.int ((its.toArray.toList.countP (eqU y) : Nat) : Int) s.toks = Value.int ((ys.countP (fun z => eqV z y) : Nat) : Int) s.toks
  rw [ec]
end
theorem count_int (ns : List Int) (k : Int) : (ns.map V.int).countP (fun z => eqV z (.int k)) = ns.count k := by
  induction ns with
  | nil => rfl
  | cons a r ih =>
    rw [List.map_cons, List.countP_cons, ih, List.count_cons]
    rfl
/-! ### data and ints -/
theorem flat_ints (ns : List Int) : (ns.map V.int).all flatV = true := by
  rw [List.all_map, List.all_eq_true]
  intro _ _
  rfl
theorem inV_int (k : Int) (ns : List Int) : inV (.int k) (ns.map V.int) = decide (k ∈ ns) := by
  unfold inV
  rw [List.any_map]
  induction ns with
  | nil => rfl
  | cons a r ih =>
    rw [List.any_cons, ih]
    show (a == k || decide (k ∈ r)) = _
    by_cases e : a = k
    · subst e; simp
    · have e' : ¬ k = a := fun z => e z.symm
      simp [e, e']
end TL

namespace L2
open PySem PySem.Spec PyProof.Rows
mutual
theorem Dp.same {K : PySem.W.Frag} {H H' : Hp} (e : Same H H') : ∀ {x : V} {d : PyData}, Dp K H x d → Dp K H' x d
  | _, _, .non => .non
  | _, _, .bl b => .bl b
  | _, _, .int i => .int i
  | _, _, .str z => .str z
  | _, _, .lst h a => .lst (e.seq h) (DpAll.same e a)
  | _, _, .tup h a => .tup (by
      rcases h with (h | ⟨o, h⟩) | h
      · exact .inl (.inl (e _ _ h))
      · exact .inl (.inr ⟨o, e _ _ h⟩)
      · exact .inr h) (DpAll.same e a)
theorem DpAll.same {K : PySem.W.Frag} {H H' : Hp} (e : Same H H') : ∀ {xs : List V} {ds : List PyData}, DpAll K H xs ds → DpAll K H' xs ds
  | _, _, .nil => .nil
  | _, _, .cons h t => .cons (Dp.same e h) (DpAll.same e t)
end
theorem SqT_same {K : PySem.W.Frag} {H H' : Hp} {a : Addr} {xs : List V} (e : Same H H') (h : SqT K H a xs) : SqT K H' a xs := by
  rcases h with (h | ⟨o, h⟩) | h
  · exact .inl (.inl (e _ _ h))
  · exact .inl (.inr ⟨o, e _ _ h⟩)
  · exact .inr h
theorem DpAll.length {K : PySem.W.Frag} {H : Hp} : ∀ {xs : List V} {ds : List PyData}, DpAll K H xs ds → xs.length = ds.length
  | _, _, .nil => rfl
  | _, _, .cons _ t => by rw [List.length_cons, List.length_cons, DpAll.length t]
theorem DpAll.get {K : PySem.W.Frag} {H : Hp} : ∀ {xs : List V} {ds : List PyData} {i : Nat} {d : PyData}, DpAll K H xs ds → ds[i]? = some d → ∃ x, xs[i]? = some x ∧ Dp K H x d
  | _, _, i, d, .nil, e => by simp at e
  | _, _, 0, d, .cons h t, e => by simp at e; subst e; exact ⟨_, rfl, h⟩
  | _, _, i + 1, d, .cons h t, e => by
    obtain ⟨x, h1, h2⟩ := DpAll.get (i := i) (d := d) t (by simpa using e)
    exact ⟨x, by simpa using h1, h2⟩
theorem dp_ints {K : PySem.W.Frag} {H : Hp} : ∀ ns : List Int, DpAll K H (ns.map V.int) (ns.map PyData.int)
  | [] => .nil
  | n :: r => .cons (.int n) (dp_ints r)
theorem DpAll.append {K : PySem.W.Frag} {H : Hp} : ∀ {xs ys : List V} {ds es : List PyData}, DpAll K H xs ds → DpAll K H ys es → DpAll K H (xs ++ ys) (ds ++ es)
  | _, _, _, _, .nil, b => b
  | _, _, _, _, .cons h t, b => .cons h (DpAll.append t b)
theorem DpAll.get' {K : PySem.W.Frag} {H : Hp} : ∀ {xs : List V} {ds : List PyData} {i : Nat} {x : V}, DpAll K H xs ds → xs[i]? = some x → ∃ d, ds[i]? = some d ∧ Dp K H x d
  | _, _, i, d, .nil, e => by simp at e
  | _, _, 0, d, .cons h t, e => by simp at e; subst e; exact ⟨_, rfl, h⟩
  | _, _, i + 1, d, .cons h t, e => by
    obtain ⟨x, h1, h2⟩ := DpAll.get' (i := i) (x := d) t (by simpa using e)
    exact ⟨x, by simpa using h1, h2⟩
theorem DpAll.ints_inv {K : PySem.W.Frag} {H : Hp} : ∀ {xs : List V} {ns : List Int}, DpAll K H xs (ns.map .int) → xs = ns.map V.int
  | _, [], .nil => rfl
  | _, n :: r, .cons h t => by
    cases h
    rw [List.map_cons, DpAll.ints_inv t]
end L2
namespace TL
open PySem PySem.Spec PyProof.Rows L2
/-! ### isinstance, by the kinds -/
theorem kb_ii : kitB "int" "int" = some true := by decide +kernel
theorem kb_ib : kitB "int" "bool" = some false := by decide +kernel
theorem kb_is : kitB "int" "str" = some false := by decide +kernel
theorem kb_it : kitB "int" "tuple" = some false := by decide +kernel
theorem kb_il : kitB "int" "list" = some false := by decide +kernel
theorem kb_bi : kitB "bool" "int" = some true := by decide +kernel
theorem kb_bb : kitB "bool" "bool" = some true := by decide +kernel
theorem kb_bt : kitB "bool" "tuple" = some false := by decide +kernel
theorem kb_bs : kitB "bool" "str" = some false := by decide +kernel
theorem kb_si : kitB "str" "int" = some false := by decide +kernel
theorem kb_sb : kitB "str" "bool" = some false := by decide +kernel
theorem kb_ss : kitB "str" "str" = some true := by decide +kernel
theorem kb_st : kitB "str" "tuple" = some false := by decide +kernel
theorem kb_ni : kitB "NoneType" "int" = some false := by decide +kernel
theorem kb_nb : kitB "NoneType" "bool" = some false := by decide +kernel
theorem kb_nt : kitB "NoneType" "tuple" = some false := by decide +kernel
theorem kb_ns : kitB "NoneType" "str" = some false := by decide +kernel
theorem kb_ti : kitB "tuple" "int" = some false := by decide +kernel
theorem kb_tb : kitB "tuple" "bool" = some false := by decide +kernel
theorem kb_ts : kitB "tuple" "str" = some false := by decide +kernel
theorem kb_tt : kitB "tuple" "tuple" = some true := by decide +kernel
theorem kb_tl : kitB "tuple" "list" = some false := by decide +kernel
theorem kb_li : kitB "list" "int" = some false := by decide +kernel
theorem kb_lb : kitB "list" "bool" = some false := by decide +kernel
theorem kb_ls : kitB "list" "str" = some false := by decide +kernel
theorem kb_lt : kitB "list" "tuple" = some false := by decide +kernel
theorem kb_ll : kitB "list" "list" = some true := by decide +kernel
theorem tyx_L {K : PySem.W.Frag} {H : Hp} {a : Addr} {xs : List V} (h : SqL K H a xs) : TyX K H (.ref a) (.type "list") := by
  rcases h with (h | ⟨o, h⟩) | ⟨o, its, n, hk, hc, _⟩
  · exact .base (.lst h)
  · exact .base (.frz h)
  · exact .kList hk hc
theorem tyx_T {K : PySem.W.Frag} {H : Hp} {a : Addr} {xs : List V} (h : SqT K H a xs) : TyX K H (.ref a) (.type "tuple") := by
  rcases h with (h | ⟨o, h⟩) | ⟨o, its, n, hk, hc, _⟩
  · exact .base (.tup h)
  · exact .fTuple h
  · exact .kTuple hk hc
/-- what is, by its kind: the type that isinstance asks -/
def kty : PyData → String
  | .none => "NoneType" | .bool _ => "bool" | .int _ => "int" | .str _ => "str" | .list _ => "list" | .tuple _ => "tuple" | .dict _ => "dict"
theorem tyx_D {K : PySem.W.Frag} {H : Hp} {x : V} {d : PyData} (h : Dp K H x d) : TyX K H x (.type (kty d)) := by
  cases h with
  | non => exact .base .non
  | bl b => exact .base (.bl b)
  | int i => exact .base (.int i)
  | str z => exact .base (.str z)
  | lst h _ => exact tyx_L h
  | tup h _ => exact tyx_T h
/-- isinstance(x, c) of data -/
theorem isi_D {K : PySem.W.Frag} {H : Hp} {x : V} {d : PyData} {c : String} {b : Bool} {Q : VK} (h : Dp K H x d) (k : kitB (kty d) c = some b) (q : Q (.bl b) H) : rIsi K [x, .ty c] H Q :=
  ⟨x, .ty c, _, _, b, rfl, .ty c, tyx_D h, kit_ty k, q⟩
/-- numbers, texts, truths, None, lists and tuples of these, nested no more than n deep -/
def lv : Nat → PyData → Prop
  | _, .none => True | _, .bool _ => True | _, .int _ => True | _, .str x => (PyData.str x).canLay0 = true
  | n + 1, .list ds => ds.length ≤ 100000 ∧ ∀ d ∈ ds, lv n d
  | n + 1, .tuple ds => ds.length ≤ 100000 ∧ ∀ d ∈ ds, lv n d
  | _, _ => False
/-- such data are laid out and compared -/
theorem lv_ok : ∀ (n : Nat) (d : PyData), lv n d → d.canLay0 = true ∧ d.depth ≤ n
  | _, .none, _ => ⟨rfl, by simp [PyData.depth]⟩
  | _, .bool _, _ => ⟨rfl, by simp [PyData.depth]⟩
  | _, .int _, _ => ⟨rfl, by simp [PyData.depth]⟩
  | _, .str _, h => ⟨by simpa [lv] using h, by simp [PyData.depth]⟩
  | 0, .list _, h => by simp [lv] at h
  | 0, .tuple _, h => by simp [lv] at h
  | n + 1, .list ds, h => by
    simp only [lv] at h
    have q : ∀ es : List PyData, (∀ d ∈ es, lv n d) → PyData.canLayAll0 es = true ∧ PyData.depthAll es ≤ n := by
      intro es
      induction es with
      | nil => intro _; exact ⟨rfl, by simp [PyData.depthAll]⟩
      | cons e r ih =>
        intro z
        obtain ⟨a1, a2⟩ := lv_ok n e (z e (by simp))
        obtain ⟨b1, b2⟩ := ih fun d hd => z d (by simp [hd])
        exact ⟨by simp [PyData.canLayAll0, a1, b1], by simp only [PyData.depthAll]; omega⟩
    obtain ⟨q1, q2⟩ := q ds h.2
    exact ⟨by simpa [PyData.canLay0] using q1, by simp only [PyData.depth]; omega⟩
  | n + 1, .tuple ds, h => by
    simp only [lv] at h
    have q : ∀ es : List PyData, (∀ d ∈ es, lv n d) → PyData.canLayAll0 es = true ∧ PyData.depthAll es ≤ n := by
      intro es
      induction es with
      | nil => intro _; exact ⟨rfl, by simp [PyData.depthAll]⟩
      | cons e r ih =>
        intro z
        obtain ⟨a1, a2⟩ := lv_ok n e (z e (by simp))
        obtain ⟨b1, b2⟩ := ih fun d hd => z d (by simp [hd])
        exact ⟨by simp [PyData.canLayAll0, a1, b1], by simp only [PyData.depthAll]; omega⟩
    obtain ⟨q1, q2⟩ := q ds h.2
    exact ⟨by simpa [PyData.canLay0] using q1, by simp only [PyData.depth]; omega⟩
  | 0, .dict _, h => by simp [lv] at h
  | _ + 1, .dict _, h => by simp [lv] at h
theorem shaped_lv {n : Nat} {d : PyData} (h : lv n d) (hn : n ≤ 64) : SeqAt.shaped d = true := by
  obtain ⟨a, b⟩ := lv_ok n d h
  unfold SeqAt.shaped
  rw [a, decide_eq_true (Nat.le_trans b hn)]
  rfl
theorem eqvAll_ints : ∀ ns ms : List Int, PyData.eqvAll (ns.map .int) (ms.map .int) = decide (ns = ms)
  | [], [] => rfl
  | [], _ :: _ => rfl
  | _ :: _, [] => rfl
  | a :: r, b :: s => by
    rw [List.map_cons, List.map_cons]
    show (PyData.eqv (.int a) (.int b) && PyData.eqvAll _ _) = _
    rw [eqvAll_ints r s]
    show ((a == b) && decide (r = s)) = _
    by_cases h : a = b
    · subst h; simp
    · simp [h]
theorem canLay_ints (ns : List Int) : (PyData.list (ns.map .int)).canLay0 = true := by
  induction ns with
  | nil => rfl
  | cons a r ih => exact ih
theorem depth_ints (ns : List Int) : (PyData.list (ns.map .int)).depth ≤ 2 := by
  induction ns with
  | nil => decide
  | cons a r ih =>
    revert ih
    simp only [PyData.depth, PyData.depthAll, List.map_cons]
    omega
theorem shaped_ints (ns : List Int) : SeqAt.shaped (.list (ns.map .int)) = true := by
  unfold SeqAt.shaped
  rw [canLay_ints, decide_eq_true (Nat.le_trans (depth_ints ns) (by decide))]
  rfl
end TL

namespace TL
open PySem PySem.Spec PyProof.Rows L2
/-- the dice: a list of whole numbers, two at least -/
def DiceAt (H : Hp) (d : Addr) : Prop := ∃ ns : List Int, H d = some (.lst (ns.map V.int)) ∧ 2 ≤ ns.length ∧ ns.length ≤ 65
theorem DiceAt.frm {S : List Addr} {H H' : Hp} {d : Addr} (h : DiceAt H d) (e : Frm S H H') (n : d ∉ S) : DiceAt H' d := by
  obtain ⟨ns, h1, h2⟩ := h
  exact ⟨ns, e _ _ h1 n, h2⟩
/-! ### manners -/
def intOf : PyData → Int
  | .int i => i
  | _ => 0
/-- a number within bounds -/
def between : PyData → Int → Int → Bool
  | .int i, lo, hi => decide (lo ≤ i) && decide (i ≤ hi)
  | _, _, _ => false
def isMan : PyData → Bool
  | .tuple ds => ds.all (fun e => between e 0 9) && (decide ((ds.map intOf).Pairwise (· < ·)) && decide (0 ∈ ds.map intOf))
  | _ => false
/-- what may be handed in in the place of manners -/
def mdat : PyData → Prop
  | .list _ => False
  | .dict _ => False
  | .str x => (PyData.str x).canLay0 = true
  | .tuple ds => ds.length ≤ 60 ∧ ∀ e ∈ ds, (∀ l, e ≠ .list l) ∧ lv 1 e
  | _ => True
theorem mdat.nolist {d : PyData} (h : mdat d) : ∀ ds, d ≠ .list ds := fun ds e => by subst e; exact h
theorem ints_of_between : ∀ {ds : List PyData}, ds.all (fun e => between e 0 9) = true → ds = (ds.map intOf).map .int
  | [], _ => rfl
  | d :: r, h => by
    rw [List.all_cons, Bool.and_eq_true] at h
    rw [List.map_cons, List.map_cons, ← ints_of_between h.2]
    cases d with
    | int i => rfl
    | _ => exact absurd h.1 (by simp [between])
theorem between_of {ds : List PyData} (h : ds.all (fun e => between e 0 9) = true) : ∀ i ∈ ds.map intOf, 0 ≤ i ∧ i ≤ 9 := fun i hi => by
  obtain ⟨d, hd, rfl⟩ := List.mem_map.mp hi
  have q := List.all_eq_true.mp h d hd
  cases d with
  | int j => simpa [between, intOf] using q
  | _ => exact absurd q (by simp [between])
/-- manners as numbers -/
def Can (ms : List Int) : Prop := (∀ i ∈ ms, 0 ≤ i ∧ i ≤ 9) ∧ ms.Pairwise (· < ·) ∧ 0 ∈ ms ∧ ms.length ≤ 60
theorem isMan_ints {ms : List Int} (h : Can ms) : isMan (.tuple (ms.map .int)) = true := by
  have e : (ms.map PyData.int).map intOf = ms := by
    rw [List.map_map]
    have : (intOf ∘ PyData.int) = id := rfl
    rw [this, List.map_id]
  simp only [isMan]
  rw [e, decide_eq_true h.2.1, decide_eq_true h.2.2.1]
  simp only [Bool.and_true, List.all_map, List.all_eq_true]
  intro i hi
  have := h.1 i hi
  simp [between, this]
theorem mdat_ints {ms : List Int} (h : ms.length ≤ 60) : mdat (.tuple (ms.map .int)) := by
  refine ⟨by rw [List.length_map]; exact h, fun e he => ?_⟩
  obtain ⟨i, _, rfl⟩ := List.mem_map.mp he
  exact ⟨fun l z => PyData.noConfusion z, trivial⟩
theorem sorted_ext : ∀ {a b : List Int}, a.Pairwise (· < ·) → b.Pairwise (· < ·) → (∀ k, k ∈ a ↔ k ∈ b) → a = b
  | [], [], _, _, _ => rfl
  | [], y :: s, _, _, h => absurd ((h y).mpr (by simp)) (by simp)
  | x :: r, [], _, _, h => absurd ((h x).mp (by simp)) (by simp)
  | x :: r, y :: s, ha, hb, h => by
    rw [List.pairwise_cons] at ha hb
    have hxy : x = y := by
      rcases List.mem_cons.mp ((h x).mp (by simp)) with e | e
      · exact e
      · rcases List.mem_cons.mp ((h y).mpr (by simp)) with e' | e'
        · exact e'.symm
        · have := ha.1 y e'
          have := hb.1 x e
          omega
    subst hxy
    rw [sorted_ext ha.2 hb.2 fun k => ?_]
    constructor
    · intro hk
      rcases List.mem_cons.mp ((h k).mp (by simp [hk])) with e | e
      · have := ha.1 k hk
        omega
      · exact e
    · intro hk
      rcases List.mem_cons.mp ((h k).mpr (by simp [hk])) with e | e
      · have := hb.1 k hk
        omega
      · exact e
/-- the greatest that both can and that isn't bad -/
def chosenF (one other bad : List Int) : Int := (one.filter fun m => decide (m ∈ other) && !decide (m ∈ bad)).foldl max 0
def IsChosen (one other bad : List Int) (m : Int) : Prop := (m = 0 ∨ (m ∈ one ∧ m ∈ other ∧ m ∉ bad)) ∧ 0 ≤ m ∧ ∀ y ∈ one, y ∈ other → y ∉ bad → y ≤ m
theorem foldl_max : ∀ (l : List Int) (a : Int), a ≤ l.foldl max a ∧ (∀ y ∈ l, y ≤ l.foldl max a) ∧ (l.foldl max a = a ∨ l.foldl max a ∈ l)
  | [], a => ⟨Int.le_refl _, by simp, .inl rfl⟩
  | x :: r, a => by
    obtain ⟨h1, h2, h3⟩ := foldl_max r (max a x)
    rw [List.foldl_cons]
    refine ⟨by omega, fun y hy => ?_, ?_⟩
    · rcases List.mem_cons.mp hy with rfl | hy
      · omega
      · exact h2 y hy
    · rcases h3 with h3 | h3
      · rw [h3]
        by_cases hax : a ≤ x
        · right
          rw [Int.max_eq_right hax]
          simp
        · left
          exact Int.max_eq_left (by omega)
      · right
        exact List.mem_cons_of_mem _ h3
theorem isChosen_F (one other bad : List Int) : IsChosen one other bad (chosenF one other bad) := by
  obtain ⟨h1, h2, h3⟩ := foldl_max (one.filter fun m => decide (m ∈ other) && !decide (m ∈ bad)) 0
  refine ⟨?_, h1, fun y h4 h5 h6 => h2 y ?_⟩
  · rcases h3 with h3 | h3
    · exact .inl h3
    · right
      have := List.mem_filter.mp h3
      simp only [Bool.and_eq_true, decide_eq_true_eq, Bool.not_eq_true', decide_eq_false_iff_not] at this
      exact this
  · rw [List.mem_filter]
    simp [h4, h5, h6]
theorem IsChosen.unique {one other bad : List Int} {m k : Int} (a : IsChosen one other bad m) (b : IsChosen one other bad k) : m = k := by
  have h1 : m ≤ k := by
    rcases a.1 with e | ⟨e1, e2, e3⟩
    · rw [e]; exact b.2.1
    · exact b.2.2 m e1 e2 e3
  have h2 : k ≤ m := by
    rcases b.1 with e | ⟨e1, e2, e3⟩
    · rw [e]; exact a.2.1
    · exact a.2.2 k e1 e2 e3
  omega
theorem IsChosen.eq {one other bad : List Int} {m : Int} (a : IsChosen one other bad m) : m = chosenF one other bad := a.unique (isChosen_F _ _ _)
theorem IsChosen.symm {one other bad : List Int} {m : Int} (a : IsChosen one other bad m) : IsChosen other one bad m :=
  ⟨a.1.imp id fun h => ⟨h.2.1, h.1, h.2.2⟩, a.2.1, fun y h1 h2 h3 => a.2.2 y h2 h1 h3⟩
theorem IsChosen.congr {one other bad bad' : List Int} {m : Int} (a : IsChosen one other bad m) (h : ∀ x, x ∈ bad ↔ x ∈ bad') : IsChosen one other bad' m :=
  ⟨a.1.imp id fun z => ⟨z.1, z.2.1, fun q => z.2.2 ((h _).mpr q)⟩, a.2.1, fun y h1 h2 h3 => a.2.2 y h1 h2 fun q => h3 ((h _).mp q)⟩
end TL

namespace TL
open PySem PySem.Spec PyProof.Rows L2
def top (i : Nat) : Stmt := PySem.Challenge.pw_trainline_k02_chosen.main.body.getD i (.Pass ⟨0, 0, 0, 0⟩)
abbrev s_is_between : Stmt := top 5
abbrev N_is_between : List Str := ["part", "low", "high"]
abbrev P_is_between : List Str := ["part", "low", "high"]
theorem sc_is_between : FnScope N_is_between P_is_between (defScope s_is_between) := ⟨rfl, rfl, rfl, by decide +kernel, rfl, by decide +kernel, by decide +kernel⟩
abbrev s_are_manners : Stmt := top 6
abbrev N_are_manners : List Str := ["some", "one"]
abbrev P_are_manners : List Str := ["some"]
theorem sc_are_manners : FnScope N_are_manners P_are_manners (defScope s_are_manners) := ⟨rfl, rfl, rfl, by decide +kernel, rfl, by decide +kernel, by decide +kernel⟩
abbrev s_need_manners : Stmt := top 7
abbrev N_need_manners : List Str := ["some"]
abbrev P_need_manners : List Str := ["some"]
theorem sc_need_manners : FnScope N_need_manners P_need_manners (defScope s_need_manners) := ⟨rfl, rfl, rfl, by decide +kernel, rfl, by decide +kernel, by decide +kernel⟩
abbrev s_chosen : Stmt := top 8
abbrev N_chosen : List Str := ["one", "other", "bad", "manner"]
abbrev P_chosen : List Str := ["one", "other", "bad"]
theorem sc_chosen : FnScope N_chosen P_chosen (defScope s_chosen) := ⟨rfl, rfl, rfl, by decide +kernel, rfl, by decide +kernel, by decide +kernel⟩
abbrev s__law_dice : Stmt := top 10
abbrev N__law_dice : List Str := ["_law_script", "_law_k", "_law_found", "_law_cell"]
abbrev P__law_dice : List Str := ["_law_script", "_law_k"]
theorem sc__law_dice : FnScope N__law_dice P__law_dice (defScope s__law_dice) := ⟨rfl, rfl, rfl, by decide +kernel, rfl, by decide +kernel, by decide +kernel⟩
abbrev s__law_off : Stmt := top 11
abbrev N__law_off : List Str := ["_law_d", "_law_most", "_law_found"]
abbrev P__law_off : List Str := ["_law_d", "_law_most"]
theorem sc__law_off : FnScope N__law_off P__law_off (defScope s__law_off) := ⟨rfl, rfl, rfl, by decide +kernel, rfl, by decide +kernel, by decide +kernel⟩
abbrev s__law_alike : Stmt := top 12
abbrev N__law_alike : List Str := ["_law_found", "_law_due", "_law_k"]
abbrev P__law_alike : List Str := ["_law_found", "_law_due"]
theorem sc__law_alike : FnScope N__law_alike P__law_alike (defScope s__law_alike) := ⟨rfl, rfl, rfl, by decide +kernel, rfl, by decide +kernel, by decide +kernel⟩
abbrev s__law_mixed : Stmt := top 13
abbrev N__law_mixed : List Str := ["_law_d", "_law_row", "_law_left", "_law_found"]
abbrev P__law_mixed : List Str := ["_law_d", "_law_row"]
theorem sc__law_mixed : FnScope N__law_mixed P__law_mixed (defScope s__law_mixed) := ⟨rfl, rfl, rfl, by decide +kernel, rfl, by decide +kernel, by decide +kernel⟩
abbrev s__law_can : Stmt := top 14
abbrev N__law_can : List Str := ["_law_d", "_law_often", "_law_manner"]
abbrev P__law_can : List Str := ["_law_d"]
theorem sc__law_can : FnScope N__law_can P__law_can (defScope s__law_can) := ⟨rfl, rfl, rfl, by decide +kernel, rfl, by decide +kernel, by decide +kernel⟩
abbrev s_law : Stmt := top 15
abbrev N_law : List Str := ["_law_script", "_law_d", "_law_turn", "_law_one", "_law_other", "_law_bad", "_law_k", "_law_due", "_law_manner", "_law_handed", "_law_found"]
abbrev P_law : List Str := ["_law_script"]
theorem sc_law : FnScope N_law P_law (defScope s_law) := ⟨rfl, rfl, rfl, by decide +kernel, rfl, by decide +kernel, by decide +kernel⟩
/-- what the top has written -/
structure Txt (K : PySem.W.Frag) (mg : Str → Option Value) where
  a_is_between : Addr
  fd_is_between : FuncData
  F_is_between : Fun K "is_between" "is_between" s_is_between a_is_between fd_is_between
  g_is_between : mg "is_between" = some (.ref a_is_between)
  b_is_between : Binds K fd_is_between P_is_between []
  a_are_manners : Addr
  fd_are_manners : FuncData
  F_are_manners : Fun K "are_manners" "are_manners" s_are_manners a_are_manners fd_are_manners
  g_are_manners : mg "are_manners" = some (.ref a_are_manners)
  b_are_manners : Binds K fd_are_manners P_are_manners []
  a_need_manners : Addr
  fd_need_manners : FuncData
  F_need_manners : Fun K "need_manners" "need_manners" s_need_manners a_need_manners fd_need_manners
  g_need_manners : mg "need_manners" = some (.ref a_need_manners)
  b_need_manners : Binds K fd_need_manners P_need_manners []
  a_chosen : Addr
  fd_chosen : FuncData
  F_chosen : Fun K "chosen" "chosen" s_chosen a_chosen fd_chosen
  g_chosen : mg "chosen" = some (.ref a_chosen)
  b_chosen : Binds K fd_chosen P_chosen []
  a__law_dice : Addr
  fd__law_dice : FuncData
  F__law_dice : Fun K "_law_dice" "_law_dice" s__law_dice a__law_dice fd__law_dice
  g__law_dice : mg "_law_dice" = some (.ref a__law_dice)
  b__law_dice : Binds K fd__law_dice P__law_dice []
  a__law_off : Addr
  fd__law_off : FuncData
  F__law_off : Fun K "_law_off" "_law_off" s__law_off a__law_off fd__law_off
  g__law_off : mg "_law_off" = some (.ref a__law_off)
  b__law_off : Binds K fd__law_off P__law_off []
  a__law_alike : Addr
  fd__law_alike : FuncData
  F__law_alike : Fun K "_law_alike" "_law_alike" s__law_alike a__law_alike fd__law_alike
  g__law_alike : mg "_law_alike" = some (.ref a__law_alike)
  b__law_alike : Binds K fd__law_alike P__law_alike []
  a__law_mixed : Addr
  fd__law_mixed : FuncData
  F__law_mixed : Fun K "_law_mixed" "_law_mixed" s__law_mixed a__law_mixed fd__law_mixed
  g__law_mixed : mg "_law_mixed" = some (.ref a__law_mixed)
  b__law_mixed : Binds K fd__law_mixed P__law_mixed []
  a__law_can : Addr
  fd__law_can : FuncData
  F__law_can : Fun K "_law_can" "_law_can" s__law_can a__law_can fd__law_can
  g__law_can : mg "_law_can" = some (.ref a__law_can)
  b__law_can : Binds K fd__law_can P__law_can []
  a_law : Addr
  fd_law : FuncData
  F_law : Fun K "law" "law" s_law a_law fd_law
  g_law : mg "law" = some (.ref a_law)
  b_law : Binds K fd_law P_law []
  C_LineError : Addr
  c_LineError : mg "LineError" = some (.ref C_LineError)
  x_LineError : PySem.W.excIn K C_LineError [.type "ValueError", .type "Exception", .type "BaseException", .type "object"] "ValueError.__new__" = true
  k_LineError : PySem.W.keepIn K (.ref C_LineError) = true
  s_LineError : PySem.W.subIn K (.ref C_LineError) (.type "BaseException") = some true
  t_LineError : PySem.W.typeIn K (.ref C_LineError) = some (.type "type")
  C_BadManners : Addr
  c_BadManners : mg "BadManners" = some (.ref C_BadManners)
  x_BadManners : PySem.W.excIn K C_BadManners [.type "ValueError", .type "Exception", .type "BaseException", .type "object"] "ValueError.__new__" = true
  k_BadManners : PySem.W.keepIn K (.ref C_BadManners) = true
  s_BadManners : PySem.W.subIn K (.ref C_BadManners) (.type "BaseException") = some true
  t_BadManners : PySem.W.typeIn K (.ref C_BadManners) = some (.type "type")
  tk_MOST : Tok
  v_MOST : mg "MOST" = some (.int 9 tk_MOST)
  n_abs : mg "abs" = none
  n_all : mg "all" = none
  n_bool : mg "bool" = none
  n_int : mg "int" = none
  n_isinstance : mg "isinstance" = none
  n_len : mg "len" = none
  n_list : mg "list" = none
  n_max : mg "max" = none
  n_range : mg "range" = none
  n_set : mg "set" = none
  n_sorted : mg "sorted" = none
  n_str : mg "str" = none
  n_tuple : mg "tuple" = none
end TL

namespace TL
open PySem PySem.Spec PyProof.Rows L2
section
variable {P : Program} {w : World} {K : PySem.W.Frag} {mg : Str → Option Value} {base : Heap}
def sp_is_between (T : Txt K mg) : Sp := fun vs H Q _ => ∃ (x : V) (d : PyData) (lo hi : Int), vs = [x, .int lo, .int hi] ∧ Dp K H x d ∧ (∀ ds, d ≠ .list ds) ∧ Q (.bl (between d lo hi)) H
theorem ok_is_between (T : Txt K mg) : FnOk P w K mg base CX0 1 T.a_is_between T.fd_is_between P_is_between (sp_is_between T) := by
  skip
  refine T.F_is_between.ok sc_is_between (fun vs H Q E h => ?_) (fun cdv A outer s H vs Q E hr h => ?_)
  · obtain ⟨x, d, lo, hi, rfl, _⟩ := h
    rfl
  · obtain ⟨x, d, lo, hi, rfl, hd, nl, k⟩ := h
    refine ⟨_, (pss_one (ps_ret (pe_and (pe_callB call_isi (by rfl) T.n_isinstance (by decide +kernel) (pa_cons (pv 0) (pa_cons (pe_bltn (v := .ty "int") (u := .type "int") (by rfl) T.n_int (by decide +kernel) rfl) pa_nil))) (pe_and (pe_not (pe_callB call_isi (by rfl) T.n_isinstance (by decide +kernel) (pa_cons (pv 0) (pa_cons (pe_bltn (v := .ty "bool") (u := .type "bool") (by rfl) T.n_bool (by decide +kernel) rfl) pa_nil)))) (pe_one (pe_chain op_le op_le (pv 1) (pv 0) (pv 2))))))), ?_⟩
    have k0 : ∀ {b : Bool}, between d lo hi = b → Q (.bl b) H := fun e => by rw [← e]; exact k
    cases d with
    | int i =>
      cases hd
      refine ⟨_, rfl, _, _, _, _, _, rfl, .ty _, tyx_D (.int i), kit_ty kb_ii, _, rfl, iteT ?_⟩
      refine ⟨_, rfl, _, _, _, _, _, rfl, .ty _, tyx_D (.int i), kit_ty kb_ib, _, rfl, _, rfl, iteT ?_⟩
      refine ⟨_, rfl, _, rfl, _, _, rfl, rfl, _, rfl, ?_⟩
      refine iteD (fun h1 => ⟨_, rfl, _, _, rfl, rfl, k0 ?_⟩) (fun h1 => k0 ?_)
      · simp [between, h1]
      · simp [between, h1]
    | bool b =>
      cases hd
      refine ⟨_, rfl, _, _, _, _, _, rfl, .ty _, tyx_D (.bl b), kit_ty kb_bi, _, rfl, iteT ?_⟩
      refine ⟨_, rfl, _, _, _, _, _, rfl, .ty _, tyx_D (.bl b), kit_ty kb_bb, _, rfl, _, rfl, iteF ?_⟩
      exact k0 rfl
    | none =>
      cases hd
      refine ⟨_, rfl, _, _, _, _, _, rfl, .ty _, tyx_D .non, kit_ty kb_ni, _, rfl, iteF ?_⟩
      exact k0 rfl
    | str z =>
      cases hd
      refine ⟨_, rfl, _, _, _, _, _, rfl, .ty _, tyx_D (.str z), kit_ty kb_si, _, rfl, iteF ?_⟩
      exact k0 rfl
    | tuple ds =>
      refine ⟨_, rfl, _, _, _, _, _, rfl, .ty _, tyx_D hd, kit_ty kb_ti, _, rfl, iteF ?_⟩
      exact k0 rfl
    | list ds => exact (nl ds rfl).elim
    | dict _ => cases hd

end
end TL

namespace TL
open PySem PySem.Spec PyProof.Rows L2
section
variable {P : Program} {w : World} {K : PySem.W.Frag} {mg : Str → Option Value} {base : Heap}
def sp_are_manners (T : Txt K mg) : Sp := fun vs H Q _ => ∃ (x : V) (d : PyData), vs = [x] ∧ Dp K H x d ∧ mdat d ∧ ∀ H', Same H H' → Q (.bl (isMan d)) H'
theorem ok_are_manners (T : Txt K mg) : FnOk P w K mg base CX0 2 T.a_are_manners T.fd_are_manners P_are_manners (sp_are_manners T) := by
  have G_is_between := ok_is_between (P := P) (w := w) (base := base) T
  refine T.F_are_manners.ok sc_are_manners (fun vs H Q E h => ?_) (fun cdv A outer s H vs Q E hr h => ?_)
  · obtain ⟨x, d, rfl, _⟩ := h
    rfl
  · obtain ⟨x, d, rfl, hd, hm, k⟩ := h
    have hu64 := hr.units
    refine ⟨_, (pss_cons (ps_if (PW.pt (pw_or (pt_not (pt_val (pe_callB call_isi (by rfl) T.n_isinstance (by decide +kernel) (pa_cons (pv 0) (pa_cons (pe_bltn (v := .ty "tuple") (u := .type "tuple") (by rfl) T.n_tuple (by decide +kernel) rfl) pa_nil))))) (pw_or1 (pt_cmpR (op_neD hu64) (pe_lc (own := [("one", 1)]) (g := (gName 1)) (tt := (tNot (tB (tCall _ [] E0 (tCons (tVar 1) (tCons (tC (.int 0)) (tCons (tC (.int 9)) tNil))))))) (te := (tVar 1)) rfl sc_are_manners.nd (pi_tup (pv 0)) (blkOk_by (own := [("one", 1)]) (N := N_are_manners) (sc := defScope s_are_manners) (by decide +kernel)) (fun _ _ _ _ _ => (pg_name (i := 1) sc_are_manners.nd rfl (by first | exact Or.inl rfl | exact Or.inr rfl))) (fun _ _ _ _ _ => (pts_one (pt_not (pt_val (pe_call G_is_between (hr.mono (by decide)) rfl T.g_is_between T.F_is_between.kp T.b_is_between .nil pass0 (pa_cons (pv 1) (pa_cons pe_int (pa_cons (pe_glob rfl T.v_MOST ⟨_, rfl⟩) pa_nil)))))))) (fun _ _ _ _ _ => (pv 1))) (pe_lst pa_nil) (nomark _)))))
      (pss_one (ps_ret pe_bl))
      pss_nil)
    (pss_one (ps_ret (pe_and (pe_cmpR (op_eqD hu64) (pe_callTy call_list_of (by rfl) T.n_list (by decide +kernel) (pa_cons (pv 0) pa_nil)) (pe_callB (cr_sortedSet rfl) (by rfl) T.n_sorted (by decide +kernel) (pa_cons (pe_callTy (cr_setT rfl) (by rfl) T.n_set (by decide +kernel) (pa_cons (pv 0) pa_nil)) pa_nil)) (nomark _)) (pe_one (pe_cmpR op_in_seq pe_int (pv 0) (by rfl))))))), ?_⟩
    have no : ∀ {c : String} {b : Bool}, kty d = c → kitB c "tuple" = some b → rIsi K [x, .ty "tuple"] H (fun v _ => v = .bl b) := fun e z => ⟨_, _, _, _, _, rfl, .ty _, tyx_D hd, kit_ty (by rw [e]; exact z), rfl⟩
    have k0 : ∀ {b : Bool} {H'}, isMan d = b → Same H H' → Q (.bl b) H' := fun e s => by rw [← e]; exact k _ s
    cases d with
    | none => cases hd; exact ⟨_, rfl, _, _, _, _, _, rfl, .ty _, tyx_D .non, kit_ty kb_nt, _, rfl, iteT (iteT (k0 rfl (.refl _)))⟩
    | bool b => cases hd; exact ⟨_, rfl, _, _, _, _, _, rfl, .ty _, tyx_D (.bl b), kit_ty kb_bt, _, rfl, iteT (iteT (k0 rfl (.refl _)))⟩
    | int i => cases hd; exact ⟨_, rfl, _, _, _, _, _, rfl, .ty _, tyx_D (.int i), kit_ty kb_it, _, rfl, iteT (iteT (k0 rfl (.refl _)))⟩
    | str z => cases hd; exact ⟨_, rfl, _, _, _, _, _, rfl, .ty _, tyx_D (.str z), kit_ty kb_st, _, rfl, iteT (iteT (k0 rfl (.refl _)))⟩
    | list ds => exact hm.elim
    | dict _ => cases hd
    | tuple ds =>
      obtain ⟨hlen, hel⟩ := hm
      have hd' := hd
      cases hd' with
      | tup hT hA =>
        rename_i a xs
        have hxl := hA.length
        refine ⟨_, rfl, _, _, _, _, _, rfl, .ty _, tyx_D hd, kit_ty kb_tt, _, rfl, iteF ?_⟩
        -- the ones that are no manners
        refine ⟨_, rfl, a, rfl, ⟨_, hT⟩, fun D hD => ?_⟩
        refine lc_tup (K := K) (a := a) (xs := xs) (fun i H2 => Same H H2 ∧ ∃ ys : List V, H2 D = some (.lst ys) ∧ DpAll K H ys ((ds.take i).filter fun e => !between e 0 9) ∧ ys.length ≤ i)
          ⟨Same.upd_new hD, [], upd_same, .nil, Nat.le_refl _⟩ (fun i H2 _ ⟨s2, _⟩ => SqT_same s2 hT) ?_ ?_
        · rintro i y H2 hi ⟨s2, ys, hys, hyd, hyl⟩
          obtain ⟨e, he, hde⟩ := hA.get' hi
          have hem : e ∈ ds := List.mem_of_getElem? he
          have htk : ds.take (i + 1) = ds.take i ++ [e] := take_more he
          have hil : i < ds.length := (List.getElem?_eq_some_iff.mp he).1
          refine ⟨rfl, _, rfl, y, e, 0, 9, rfl, hde.same s2, (hel e hem).1, _, rfl, ?_⟩
          refine iteB (fun hb => ?_) (fun hb => ?_)
          · refine ⟨_, rfl, ys, hys, small1000 (by omega), ?_⟩
            have nD : ∀ b o, H b = some o → b ≠ D := fun b o z q => by rw [q, hD] at z; cases z
            have s3 : Same H (upd H2 D (.lst (ys ++ [y]))) := fun b o z => by rw [upd_ne (nD b o z)]; exact s2 b o z
            refine ⟨s3, ys ++ [y], upd_same, ?_, by rw [List.length_append]; simp; omega⟩
            rw [htk, List.filter_append]
            have hf : [e].filter (fun e => !between e 0 9) = [e] := by simp [List.filter, hb]
            rw [hf]
            exact DpAll.append hyd (.cons hde .nil)
          · refine ⟨s2, ys, hys, ?_, by omega⟩
            rw [htk, List.filter_append]
            have hf : [e].filter (fun e => !between e 0 9) = [] := by simp [List.filter, hb]
            rw [hf, List.append_nil]
            exact hyd
        · rintro H2 ⟨s2, ys, hys, hyd, hyl⟩
          rw [hxl, List.take_length] at hyd
          refine ⟨(by show 0 ≤ sizeLine; decide), fun p hp => ?_⟩
          have s3 : Same H2 (upd H2 p (.lst [])) := Same.upd_new hp
          have hlv : lv 2 (.list (ds.filter fun e => !between e 0 9)) := ⟨by have := List.length_filter_le (fun e => !between e 0 9) ds; omega, fun e he => (hel e (List.mem_filter.mp he).1).2⟩
          refine ⟨.list (ds.filter fun e => !between e 0 9), .list [], .lst (SqL.of (s3 _ _ hys)) (hyd.same (s2.trans s3)), .lst (SqL.of upd_same) .nil, shaped_lv hlv (by decide), rfl, _, rfl, ?_⟩
          by_cases hall : ds.all (fun e => between e 0 9) = true
          · have hf0 : (ds.filter fun e => !between e 0 9) = [] := by
              rw [List.filter_eq_nil_iff]
              intro e he
              simp [List.all_eq_true.mp hall e he]
            rw [hf0]
            refine iteF ?_
            -- list(some) == sorted(set(some)) and 0 in some
            have hds := ints_of_between hall
            have hbt := between_of hall
            generalize hns : ds.map intOf = ns at hds hbt
            subst hds
            have hxs := hA.ints_inv
            subst hxs
            have hnl : ns.length ≤ 60 := by rw [List.length_map] at hlen; exact hlen
            have s13 : Same H (upd H2 p (.lst [])) := s2.trans s3
            refine ⟨_, rfl, a, _, rfl, .inr (SqT_same s13 hT), fun l hl => ?_⟩
            have s4 : Same (upd H2 p (.lst [])) (upd (upd H2 p (.lst [])) l (.lst (ns.map V.int))) := Same.upd_new hl
            refine ⟨_, rfl, a, ns, rfl, SqT_same (s13.trans s4) hT, by omega, fun q c hq hc => ?_⟩
            refine ⟨q, _, c, rfl, upd_same, by omega, fun ns' r hs' hm' hl' hr' => ?_⟩
            have s5 := Same.upd_new (o := SetO w q (fun j => decide (j ∈ ns)) c) hq
            have s6 := Same.upd_new (o := .lst (ns'.map V.int)) hr'
            refine ⟨.list (ns.map .int), .list (ns'.map .int), .lst (SqL.of (s6 _ _ (s5 _ _ upd_same))) (dp_ints ns), .lst (SqL.of upd_same) (dp_ints ns'), shaped_ints _, shaped_ints _, _, rfl, ?_⟩
            have s17 := ((s13.trans s4).trans s5).trans s6
            have e1 : PyData.eqv (.list (ns.map .int)) (.list (ns'.map .int)) = decide (ns.Pairwise (· < ·)) := by
              show PyData.eqvAll _ _ = _
              rw [eqvAll_ints]
              by_cases hp : ns.Pairwise (· < ·)
              · rw [decide_eq_true hp, decide_eq_true (sorted_ext hp hs' fun j => by rw [hm']; simp)]
              · rw [decide_eq_false hp, decide_eq_false fun z => hp (by rw [z]; exact hs')]
            have e2 : isMan (.tuple (ns.map .int)) = (decide (ns.Pairwise (· < ·)) && decide (0 ∈ ns)) := by
              have e3 : (ns.map PyData.int).map intOf = ns := hns
              simp only [isMan]
              rw [hall, e3]
              simp
            rw [e1]
            refine iteB (fun hb => ?_) (fun hb => k0 (by rw [e2, hb]; rfl) s17)
            refine ⟨_, rfl, a, _, rfl, .inr (SqT_same s17 hT), rfl, flat_ints ns, ?_⟩
            refine k0 ?_ s17
            rw [e2, hb]
            show (true && decide (0 ∈ ns)) = inV (.int 0) (ns.map V.int)
            rw [inV_int, Bool.true_and]
          · have hne : (ds.filter fun e => !between e 0 9) ≠ [] := by
              intro z
              apply hall
              rw [List.all_eq_true]
              intro e he
              have := List.filter_eq_nil_iff.mp z e he
              simpa using this
            obtain ⟨e, r, her⟩ := List.exists_cons_of_ne_nil hne
            rw [her]
            refine iteT ?_
            have hf : ds.all (fun e => between e 0 9) = false := by simpa using hall
            exact k0 (by simp only [isMan]; rw [hf]; rfl) (s2.trans s3)

end
end TL

namespace TL
open PySem PySem.Spec PyProof.Rows L2
section
variable {P : Program} {w : World} {K : PySem.W.Frag} {mg : Str → Option Value} {base : Heap}
def sp_need_manners (T : Txt K mg) : Sp := fun vs H Q E => ∃ (x : V) (d : PyData), vs = [x] ∧ Dp K H x d ∧ mdat d ∧ (isMan d = true → ∀ H', Same H H' → Q .non H') ∧ (isMan d = false → ∀ H', Same H H' → E (.ref T.C_BadManners) none H')
theorem ok_need_manners (T : Txt K mg) : FnOk P w K mg base (L2.CX P w) 3 T.a_need_manners T.fd_need_manners P_need_manners (sp_need_manners T) := by
  have G_are_manners := ok_are_manners (P := P) (w := w) (base := base) T
  refine T.F_need_manners.okX sc_need_manners (fun vs H Q E h => ?_) (fun cdv A outer s H vs Q E hr h => ?_)
  · obtain ⟨x, d, rfl, _⟩ := h
    rfl
  · obtain ⟨x, d, rfl, hd, hm, k1, k2⟩ := h
    refine ⟨_, (pss_one (ps_if (pt_not (pt_val (pe_call G_are_manners (hr.mono (by decide)) rfl T.g_are_manners T.F_are_manners.kp T.b_are_manners .nil pass0 (pa_cons (pv 0) pa_nil))))
      (pss_one (ps_raise rfl (takes_of rfl rfl rfl rfl) (pmk_own PySem.F.excBase_ValueError T.x_BadManners T.c_BadManners T.k_BadManners (raises_own T.s_BadManners T.t_BadManners) rfl)))
      pss_nil)), ?_⟩
    refine ⟨_, rfl, x, d, rfl, hd, hm, fun H' s' => ⟨_, rfl, ?_⟩⟩
    refine iteB (fun hb => ?_) (fun hb => ?_)
    · exact k2 (by simpa using hb) H' s'
    · exact k1 (by simpa using hb) H' s'

end
end TL

namespace TL
open PySem PySem.Spec PyProof.Rows L2
section
variable {P : Program} {w : World} {K : PySem.W.Frag} {mg : Str → Option Value} {base : Heap}
/-- what is handed in third: a tuple or a list of numbers -/
def sp_chosen (T : Txt K mg) : Sp := fun vs H Q E => ∃ (x y z : V) (dx dy : PyData), vs = [x, y, z] ∧ Dp K H x dx ∧ mdat dx ∧ Dp K H y dy ∧ mdat dy ∧
  (isMan dx = false → ∀ H', Same H H' → E (.ref T.C_BadManners) none H') ∧
  (isMan dx = true → isMan dy = false → ∀ H', Same H H' → E (.ref T.C_BadManners) none H') ∧
  (isMan dx = true → isMan dy = true → ∀ one other, dx = .tuple (one.map .int) → dy = .tuple (other.map .int) → ∃ (b : Addr) (bs : List Int), z = .ref b ∧ (SqL K H b (bs.map V.int) ∨ SqT K H b (bs.map V.int)) ∧ ∀ H', Same H H' → Q (.int (chosenF one other bs)) H')
theorem man_tuple {d : PyData} (h : isMan d = true) : ∃ ns : List Int, d = .tuple (ns.map .int) ∧ (∀ i ∈ ns, 0 ≤ i ∧ i ≤ 9) := by
  cases d with
  | tuple ds =>
    simp only [isMan, Bool.and_eq_true] at h
    exact ⟨ds.map intOf, by rw [← ints_of_between h.1], between_of h.1⟩
  | _ => exact absurd h (by simp [isMan])
theorem ok_chosen (T : Txt K mg) : FnOk P w K mg base (L2.CX P w) 4 T.a_chosen T.fd_chosen P_chosen (sp_chosen T) := by
  have G_need_manners := ok_need_manners (P := P) (w := w) (base := base) T
  refine T.F_chosen.okX sc_chosen (fun vs H Q E h => ?_) (fun cdv A outer s H vs Q E hr h => ?_)
  · obtain ⟨x, y, z, dx, dy, rfl, _⟩ := h
    rfl
  · obtain ⟨x, y, z, dx, dy, rfl, hx, mx, hy, my, k1, k2, k3⟩ := h
    refine ⟨_, (pss_cons (ps_expr (pe_call G_need_manners (hr.mono (by decide)) rfl T.g_need_manners T.F_need_manners.kp T.b_need_manners .nil (passes_call (takes_of rfl rfl rfl rfl) (fun _ _ _ _ h => h)) (pa_cons (pv 0) pa_nil)))
    (pss_cons (ps_expr (pe_call G_need_manners (hr.mono (by decide)) rfl T.g_need_manners T.F_need_manners.kp T.b_need_manners .nil (passes_call (takes_of rfl rfl rfl rfl) (fun _ _ _ _ h => h)) (pa_cons (pv 1) pa_nil)))
    (pss_one (ps_ret (pe_callB (cr_max rfl) (by rfl) T.n_max (by decide +kernel) (pa_cons (pe_op op_cat (pe_lst (pa_cons pe_int pa_nil)) (pe_lc (own := [("manner", 3)]) (g := (gName 3)) (tt := (tAnd (tTest (tOp (rIn K false) (tVar 3) (tVar 1))) (tTest (tOp (rIn K true) (tVar 3) (tVar 2))))) (te := (tVar 3)) rfl sc_chosen.nd (pi_tup (pv 0)) (blkOk_by (own := [("manner", 3)]) (N := N_chosen) (sc := defScope s_chosen) (by decide +kernel)) (fun _ _ _ _ _ => (pg_name (i := 3) sc_chosen.nd rfl (by first | exact Or.inl rfl | exact Or.inr rfl))) (fun _ _ _ _ _ => (pts_one (PW.pt (pw_and (pt_cmpR op_in_seq (pv 3) (pv 1) (by rfl)) (pw_and1 (pt_cmpR op_notIn_seq (pv 3) (pv 2) (by rfl))))))) (fun _ _ _ _ _ => (pv 3)))) pa_nil)))))), ?_⟩
    refine ⟨_, rfl, x, dx, rfl, hx, mx, fun gx H1 s1 => ?_, fun gx H1 s1 => k1 gx H1 s1⟩
    refine ⟨_, rfl, y, dy, rfl, hy.same s1, my, fun gy H2 s2 => ?_, fun gy H2 s2 => k2 gx gy H2 (s1.trans s2)⟩
    obtain ⟨one, rfl, ho⟩ := man_tuple gx
    obtain ⟨other, rfl, hoo⟩ := man_tuple gy
    obtain ⟨b, bs, rfl, hb, k⟩ := k3 gx gy one other rfl rfl
    have s12 := s1.trans s2
    have hl1 : one.length ≤ 60 := by have := mx.1; rw [List.length_map] at this; exact this
    cases hx with
    | tup hTx hAx =>
      rename_i ax xx
      cases hy with
      | tup hTy hAy =>
        rename_i ay yy
        have ex := hAx.ints_inv
        have ey := hAy.ints_inv
        subst ex ey
        refine ⟨(by show 1 ≤ sizeLine; decide), fun p hp => ?_⟩
        have s3 : Same H2 (upd H2 p (.lst [.int 0])) := Same.upd_new hp
        have s13 := s12.trans s3
        refine ⟨_, rfl, ax, rfl, ⟨_, SqT_same s13 hTx⟩, fun D hD => ?_⟩
        have nD : ∀ c o, (upd H2 p (.lst [.int 0])) c = some o → c ≠ D := fun c o e q => by rw [q, hD] at e; cases e
        refine lc_tup (K := K) (a := ax) (xs := one.map V.int) (fun i H3 => Same (upd H2 p (.lst [.int 0])) H3 ∧ H3 D = some (.lst (((one.take i).filter fun m => decide (m ∈ other) && !decide (m ∈ bs)).map V.int)))
          ⟨Same.upd_new hD, upd_same⟩ (fun i H3 _ ⟨s4, _⟩ => SqT_same (s13.trans s4) hTx) ?_ ?_
        · rintro i v H3 hi ⟨s4, hys⟩
          obtain ⟨m, hm, rfl⟩ := getmap hi
          have htk : one.take (i + 1) = one.take i ++ [m] := take_more hm
          have hil : i < one.length := (List.getElem?_eq_some_iff.mp hm).1
          have s14 := s13.trans s4
          have hf : ∀ g : Int → Bool, (one.take (i + 1)).filter g = (one.take i).filter g ++ (if g m = true then [m] else []) := fun g => by
            rw [htk, List.filter_append]
            by_cases q : g m = true
            · simp [List.filter, q]
            · simp [List.filter, q]
          have hb3 : SqL K H3 b (bs.map V.int) ∨ SqT K H3 b (bs.map V.int) := hb.imp (fun z => s14.seq z) (fun z => SqT_same s14 z)
          refine ⟨rfl, _, rfl, _, rfl, ay, _, rfl, .inr (SqT_same s14 hTy), rfl, flat_ints _, _, rfl, ?_⟩
          rw [hf]
          have e1 : inV (.int m) (other.map V.int) = decide (m ∈ other) := inV_int m other
          have e2 : inV (.int m) (bs.map V.int) = decide (m ∈ bs) := inV_int m bs
          show if inV (.int m) (other.map V.int) = true then _ else _
          rw [e1]
          refine iteB (fun q1 => ?_) (fun q1 => ?_)
          · refine ⟨_, rfl, _, rfl, b, _, rfl, hb3, rfl, flat_ints _, _, rfl, ?_⟩
            show if (!inV (.int m) (bs.map V.int)) = true then _ else _
            rw [e2, q1]
            refine iteB (fun q2 => ?_) (fun q2 => ?_)
            · rw [q2]
              refine ⟨_, rfl, _, hys, ?_, fun c o e => ?_, ?_⟩
              · rw [List.length_map]
                have := List.length_filter_le (fun m => decide (m ∈ other) && !decide (m ∈ bs)) (one.take i)
                have := List.length_take_le i one
                exact small1000 (by omega)
              · rw [upd_ne (nD c o e)]
                exact s4 c o e
              · rw [upd_same, List.map_append]
                rfl
            · rw [q2]
              refine ⟨s4, ?_⟩
              rw [hys]
              simp
          · rw [q1]
            refine iteF ⟨s4, ?_⟩
            rw [hys]
            simp
        · rintro H3 ⟨s4, hys⟩
          rw [List.length_map, List.take_length] at hys
          have hpl : H3 p = some (.lst [.int 0]) := s4 _ _ upd_same
          refine ⟨p, D, _, _, rfl, rfl, hpl, hys, ?_, fun q hq => ?_⟩
          · rw [List.length_map]
            have := List.length_filter_le (fun m => decide (m ∈ other) && !decide (m ∈ bs)) one
            exact Nat.le_of_lt (small1000 (by simp only [List.length_cons, List.length_nil]; omega))
          · refine ⟨q, 0 :: (one.filter fun m => decide (m ∈ other) && !decide (m ∈ bs)), rfl, SqL.of (by rw [upd_same]; rfl), by simp, fun m hm hle => ?_⟩
            have e : IsChosen one other bs m := by
              refine ⟨?_, hle 0 (by simp), fun y h1 h2 h3 => hle y ?_⟩
              · rcases List.mem_cons.mp hm with e | e
                · exact .inl e
                · right
                  have := List.mem_filter.mp e
                  simp only [Bool.and_eq_true, decide_eq_true_eq, Bool.not_eq_true', decide_eq_false_iff_not] at this
                  exact this
              · apply List.mem_cons_of_mem
                rw [List.mem_filter]
                simp [h1, h2, h3]
            rw [e.eq]
            exact k _ ((s13.trans s4).trans (Same.upd_new hq))

end
end TL

namespace TL
open PySem PySem.Spec PyProof.Rows L2
section
variable {P : Program} {w : World} {K : PySem.W.Frag} {mg : Str → Option Value} {base : Heap}
def sp__law_dice (T : Txt K mg) : Sp := fun vs H Q _ => ∃ (a : Addr) (ns : List Int) (k : Int), vs = [.ref a, .int k] ∧ SqL K H a (ns.map V.int) ∧ ns.length ≤ 63 ∧
  ∀ (p : Addr) (H' : Hp), H p = none → DiceAt H' p → Same H H' → Q (.ref p) H'
theorem ok__law_dice (T : Txt K mg) : FnOk P w K mg base CX0 1 T.a__law_dice T.fd__law_dice P__law_dice (sp__law_dice T) := by
  skip
  refine T.F__law_dice.ok sc__law_dice (fun vs H Q E h => ?_) (fun cdv A outer s H vs Q E hr h => ?_)
  · obtain ⟨a, ns, k, rfl, _⟩ := h
    rfl
  · obtain ⟨a, ns, kz, rfl, hS, hl, k⟩ := h
    refine ⟨_, (pss_cons (ps_set (i := 2) sc__law_dice.nd rfl (by first | exact Or.inl rfl | exact Or.inr rfl) (pv 1))
    (pss_cons (ps_for PassesOwn.never rfl (pi_list (pv 0)) (pg_name (i := 3) sc__law_dice.nd rfl (by first | exact Or.inl rfl | exact Or.inr rfl))
      (pss_one (ps_set (i := 2) sc__law_dice.nd rfl (by first | exact Or.inl rfl | exact Or.inr rfl) (pe_op op_mod (pe_op op_add (pe_op op_mul (pv 2) pe_int) (pe_callB call_abs (by rfl) T.n_abs (by decide +kernel) (pa_cons (pv 3) pa_nil))) pe_int))))
    (pss_one (ps_ret (pe_op op_cat (pe_lst (pa_cons (pv 2) (pa_cons pe_int pa_nil))) (pe_lc (own := [("_law_cell", 3)]) (g := (gName 3)) (tt := (tTest (tOp (rI0 fun i j => .bl (decide (j ≤ i))) (tVar 3) (tOp (rI CPow fun i j => .int (i ^ j.toNat)) (tC (.int 10)) (tC (.int 18)))))) (te := (tVar 3)) rfl sc__law_dice.nd (pi_list (pv 0)) (blkOk_by (own := [("_law_cell", 3)]) (N := N__law_dice) (sc := defScope s__law_dice) (by decide +kernel)) (fun _ _ _ _ _ => (pg_name (i := 3) sc__law_dice.nd rfl (by first | exact Or.inl rfl | exact Or.inr rfl))) (fun _ _ _ _ _ => (pts_one (pt_cmpR op_ge (pv 3) (pe_op op_pow pe_int pe_int) (nomark _)))) (fun _ _ _ _ _ => (pv 3)))))))), ?_⟩
    refine ⟨_, rfl, ?_⟩
    refine ⟨_, rfl, a, rfl, ⟨_, hS⟩, for_list (K := K) (a := a) (xs := ns.map V.int) (fun i σ H2 => H2 = H ∧ ∃ (f : Int) (v : Option V), σ = [some (.ref a), some (.int kz), some (.int f), v])
      ⟨rfl, _, _, rfl⟩ (fun i σ H2 _ ⟨e, _⟩ => by rw [e]; exact hS) ?_ ?_⟩
    · rintro i y σ H2 hi ⟨rfl, f, v, rfl⟩
      obtain ⟨z, hz, rfl⟩ := getmap hi
      exact ⟨_, rfl, _, _, rfl, rfl, .inr (by decide), _, rfl, _, rfl, _, _, rfl, rfl, _, _, rfl, rfl, (by show (0 : Int) < 2147483647; decide), rfl, _, _, rfl⟩
    · rintro σ H2 ⟨rfl, f, v, rfl⟩
      refine ⟨_, rfl, (by show 2 ≤ sizeLine; decide), fun l hlz => ?_⟩
      have s1 : Same H2 (upd H2 l (.lst [.int f, .int 0])) := Same.upd_new hlz
      refine ⟨_, rfl, a, rfl, ⟨_, s1.seq hS⟩, fun D hD => ?_⟩
      refine lc_list (K := K) (a := a) (xs := ns.map V.int) (fun i H3 => ∃ ms : List Int, H3 D = some (.lst (ms.map V.int)) ∧ ms.length ≤ i ∧ Same (upd H2 l (.lst [.int f, .int 0])) H3)
        ⟨[], upd_same, Nat.le_refl _, Same.upd_new hD⟩ (fun i H3 _ ⟨_, _, _, s3⟩ => s3.seq (s1.seq hS)) ?_ ?_
      · rintro i y H3 hi ⟨ms, hm, hml, s3⟩
        obtain ⟨z, hz, rfl⟩ := getmap hi
        have hil : i < ns.length := (List.getElem?_eq_some_iff.mp hz).1
        refine ⟨rfl, _, rfl, _, _, rfl, rfl, ⟨by decide, by decide, by decide⟩, _, _, rfl, rfl, _, rfl, ?_⟩
        refine iteD (fun h0 => ?_) (fun h0 => ⟨ms, hm, Nat.le_succ_of_le hml, s3⟩)
        refine ⟨_, rfl, _, hm, by rw [List.length_map]; exact small1000 (by omega), ms ++ [z], by rw [upd_same, List.map_append]; rfl, by simp; omega, fun b o e => ?_⟩
        rw [upd_ne (fun q => ?_)]
        · exact s3 b o e
        · subst q
          rw [hD] at e
          cases e
      · rintro H3 ⟨ms, hm, hml, s3⟩
        rw [List.length_map] at hml
        have hlH : H3 l = some (.lst [.int f, .int 0]) := s3 _ _ upd_same
        refine ⟨l, D, _, _, rfl, rfl, hlH, hm, by rw [List.length_map]; exact Nat.le_of_lt (small1000 (by simp; omega)), fun p hp => ?_⟩
        refine k p _ ((s1.trans s3).free hp) ⟨f :: 0 :: ms, by rw [upd_same]; rfl, by simp, by simp; omega⟩ ((s1.trans s3).trans (Same.upd_new hp))

end
end TL

namespace TL
open PySem PySem.Spec PyProof.Rows L2
section
variable {P : Program} {w : World} {K : PySem.W.Frag} {mg : Str → Option Value} {base : Heap}
def sp__law_off (T : Txt K mg) : Sp := fun vs H Q _ => ∃ (d : Addr) (m : Int), vs = [.ref d, .int m] ∧ DiceAt H d ∧ 0 < m ∧ m < 1073741824 ∧
  ∀ (r : Int) (H' : Hp), 0 ≤ r → r < m → DiceAt H' d → Frm [d] H H' → Q (.int r) H'
theorem ok__law_off (T : Txt K mg) : FnOk P w K mg base CX0 1 T.a__law_off T.fd__law_off P__law_off (sp__law_off T) := by
  skip
  refine T.F__law_off.ok sc__law_off (fun vs H Q E h => ?_) (fun cdv A outer s H vs Q E hr h => ?_)
  · obtain ⟨d, m, rfl, _⟩ := h
    rfl
  · obtain ⟨d, m, rfl, ⟨ns, hd, hl, hl2⟩, hm0, hm1, k⟩ := h
    obtain ⟨a, b, r, rfl⟩ : ∃ a b r, ns = a :: b :: r := by
      match ns, hl with
      | a :: b :: r, _ => exact ⟨a, b, r, rfl⟩
    refine ⟨_, (pss_cons (ps_if (PW.pt (pw_and (pt_cmpR op_eq (pe_ix ix_list (pv 0) pe_int (fun _ _ => rfl)) pe_int (nomark _)) (pw_and1 (pt_cmpR op_gt (pe_callB call_len_seq (by rfl) T.n_len (by decide +kernel) (pa_cons (pv 0) pa_nil)) pe_int (nomark _)))))
      (pss_one (ps_asg (pe_bm PySem.F.plainAttrs_list PySem.F.slot_list_pop PySem.F.type_list_pop mt_popAt (pv 0) (pa_cons pe_int pa_nil)) (pg_sub (pv 0) pe_int set_list)))
      pss_nil)
    (pss_cons (ps_if (pt_cmpR op_gt (pe_ix ix_list (pv 0) pe_int (fun _ _ => rfl)) pe_int (nomark _))
      (pss_cons (ps_set (i := 2) sc__law_off.nd rfl (by first | exact Or.inl rfl | exact Or.inr rfl) (pe_op op_mod (pe_ix ix_list (pv 0) pe_int (fun _ _ => rfl)) (pv 1)))
      (pss_cons (ps_asg (pe_op op_fdiv (pe_ix ix_list (pv 0) pe_int (fun _ _ => rfl)) (pv 1)) (pg_sub (pv 0) pe_int set_list))
      (pss_one (ps_ret (pv 2)))))
      pss_nil)
    (pss_cons (ps_asg (pe_op op_mod (pe_op op_add (pe_op op_mul (pe_ix ix_list (pv 0) pe_int (fun _ _ => rfl)) pe_int) pe_int) pe_int) (pg_sub (pv 0) pe_int set_list))
    (pss_one (ps_ret (pe_op op_mod (pe_op op_fdiv (pe_ix ix_list (pv 0) pe_int (fun _ _ => rfl)) pe_int) (pv 1))))))), ?_⟩
    have key : ∀ (H1 : Hp) (a b : Int) (r : List Int), H1 d = some (.lst ((a :: b :: r).map V.int)) → (a :: b :: r).length ≤ 65 → Frm [d] H H1 → tSeq (tIfS (tTest (tOp (rI0 fun i j => .bl (decide (j < i))) (tOp (rIxL K) (tVar 0) (tC (.int 1))) (tC (.int 0)))) (tSeq (tAsg (tOp (rI (fun _ j => 0 < j) fun i j => .int (i % j)) (tOp (rIxL K) (tVar 0) (tC (.int 1))) (tVar 1)) (gName 2)) (tSeq (tAsg (tOp (rI CDiv fun i j => .int (i / j)) (tOp (rIxL K) (tVar 0) (tC (.int 1))) (tVar 1)) (gSub (tVar 0) (tC (.int 1)) rSetL)) (tRet (tVar 2)))) tNext)
        (tSeq (tAsg (tOp (rI (fun _ j => 0 < j) fun i j => .int (i % j)) (tOp (rI0 fun i j => .int (i + j)) (tOp (rI CMul fun i j => .int (i * j)) (tOp (rIxL K) (tVar 0) (tC (.int 0))) (tC (.int 48271))) (tC (.int 11))) (tC (.int 2147483647))) (gSub (tVar 0) (tC (.int 0)) rSetL))
          (tRet (tOp (rI (fun _ j => 0 < j) fun i j => .int (i % j)) (tOp (rI CDiv fun i j => .int (i / j)) (tOp (rIxL K) (tVar 0) (tC (.int 0))) (tC (.int 64))) (tVar 1))))
        { nx := fun _ H' => Q .non H', rt := Q } [some (.ref d), some (.int m), none] H1 := by
      intro H1 a b r h1 hl e1
      have dz : (ixN ((a :: b :: r).map V.int).length 1) = some 1 := by
        unfold ixN
        simp only [List.length_map, List.length_cons]
        rw [if_pos (by omega), if_pos (by omega)]
        rfl
      have dz0 : (ixN ((a :: b :: r).map V.int).length 0) = some 0 := by
        unfold ixN
        simp only [List.length_map, List.length_cons]
        rw [if_pos (by omega), if_pos (by omega)]
        rfl
      refine ⟨_, rfl, d, _, _, .int b, rfl, rfl, SqL.of h1, atI_nat (j := 1) rfl, _, _, rfl, rfl, _, rfl, ?_⟩
      refine iteD (fun h0 => ?_) (fun h0 => ?_)
      · refine ⟨_, rfl, d, _, _, .int b, rfl, rfl, SqL.of h1, atI_nat (j := 1) rfl, _, rfl, _, _, rfl, rfl, hm0, ?_⟩
        refine ⟨_, rfl, d, _, _, .int b, rfl, rfl, SqL.of h1, atI_nat (j := 1) rfl, _, rfl, _, _, rfl, rfl, ⟨hm0, hm1⟩, ?_⟩
        refine ⟨_, rfl, d, _, _, 1, rfl, rfl, h1, dz, _, rfl, ?_⟩
        refine k _ _ (Int.emod_nonneg _ (by omega)) (Int.emod_lt_of_pos _ hm0) ⟨a :: (b / m) :: r, upd_same, by simp, hl⟩ (e1.trans Frm.upd)
      · refine ⟨_, rfl, d, _, _, .int a, rfl, rfl, SqL.of h1, atI_nat (j := 0) rfl, _, _, rfl, rfl, .inr (by decide), _, _, rfl, rfl, _, _, rfl, rfl, (by show (0 : Int) < 2147483647; decide), ?_⟩
        refine ⟨_, rfl, d, _, _, 0, rfl, rfl, h1, dz0, ?_⟩
        refine ⟨_, rfl, d, _, _, .int ((a * 48271 + 11) % 2147483647), rfl, rfl, SqL.of upd_same, atI_nat (j := 0) rfl, _, _, rfl, rfl, ⟨by decide, by decide⟩, _, rfl, _, _, rfl, rfl, hm0, ?_⟩
        exact k _ _ (Int.emod_nonneg _ (by omega)) (Int.emod_lt_of_pos _ hm0) ⟨((a * 48271 + 11) % 2147483647) :: b :: r, upd_same, by simp, hl⟩ (e1.trans Frm.upd)
    -- d[1] == 0 and len(d) > 2
    refine ⟨_, rfl, d, _, _, .int b, rfl, rfl, SqL.of hd, atI_nat (j := 1) rfl, rfl, _, rfl, ?_⟩
    refine iteD (fun h0 => ?_) (fun h0 => iteF (key H a b r hd hl2 (.refl _ _)))
    refine ⟨_, rfl, d, _, rfl, .inl (SqL.of hd), _, _, rfl, rfl, _, rfl, ?_⟩
    refine iteD (fun h1 => ?_) (fun h1 => key H a b r hd hl2 (.refl _ _))
    obtain ⟨c, r', rfl⟩ : ∃ c r', r = c :: r' := by
      match r, h1 with
      | c :: r', _ => exact ⟨c, r', rfl⟩
      | [], h1 => exact absurd h1 (by simp)
    have s2 : seqIndex? 2 ((a :: b :: c :: r').map V.int).length = some 2 := by
      have e : ixN ((a :: b :: c :: r').map V.int).length 2 = some 2 := by
        unfold ixN
        simp only [List.length_map, List.length_cons]
        rw [if_pos (by omega), if_pos (by omega)]
        rfl
      exact (ixN_seq e).1
    refine ⟨_, rfl, .inl ⟨rfl, _, SqL.of hd⟩, d, _, _, 2, .int c, rfl, rfl, hd, by decide, by decide, s2, rfl, ?_⟩
    have dz : (ixN (((a :: b :: c :: r').map V.int).eraseIdx 2).length 1) = some 1 := by
      unfold ixN
      show (if (0 : Int) ≤ 1 then (if (1 : Int) < ((V.int a :: V.int b :: r'.map V.int).length : Nat) then _ else _) else _) = _
      simp only [List.length_cons]
      rw [if_pos (by omega), if_pos (by omega)]
      rfl
    refine ⟨_, rfl, d, _, _, 1, rfl, rfl, upd_same, dz, ?_⟩
    refine key _ a c r' (by rw [upd_same]; rfl) (by simp only [List.length_cons] at hl2 ⊢; omega) (Frm.upd.trans Frm.upd)

end
end TL

namespace TL
open PySem PySem.Spec PyProof.Rows L2
section
variable {P : Program} {w : World} {K : PySem.W.Frag} {mg : Str → Option Value} {base : Heap}
/-- of two things that are the same data True is told; n: how deep they may be, and one more -/
def sp__law_alike (T : Txt K mg) : Nat → Sp
  | 0 => fun _ _ _ _ => False
  | n + 1 => fun vs H Q _ => ∃ (x y : V) (d : PyData), vs = [x, y] ∧ Dp K H x d ∧ Dp K H y d ∧ lv n d ∧ ∀ H', Same H H' → Q (.bl true) H'
theorem rix_of {H : Hp} {p : Addr} {xs : List V} {i : Int} {v : V} {Q : VK} (h : SqL K H p xs ∨ SqT K H p xs) (e : atI xs i = some v) (q : Q v H) : rIx K (.ref p) (.int i) H Q := by
  rcases h with h | h
  · exact .inl ⟨p, xs, i, v, rfl, rfl, h, e, q⟩
  · exact .inr (.inl ⟨p, xs, i, v, rfl, rfl, h, e, q⟩)
theorem ok__law_alike_step (T : Txt K mg) (n : Nat) (G__law_alike : FnOk P w K mg base CX0 n T.a__law_alike T.fd__law_alike P__law_alike (sp__law_alike T n)) : FnOk P w K mg base CX0 (n + 1) T.a__law_alike T.fd__law_alike P__law_alike (sp__law_alike T (n + 1)) := by
  refine T.F__law_alike.ok sc__law_alike (fun vs H Q E h => ?_) (fun cdv A outer s H vs Q E hr h => ?_)
  · obtain ⟨x, y, d, rfl, _⟩ := h
    rfl
  · obtain ⟨x, y, d, rfl, hx, hy, hl, k⟩ := h
    have hrS := hr
    refine ⟨_, (pss_cons (ps_if (pt_cmpR op_isN1 (pv 1) pe_non (nomark _))
      (pss_one (ps_ret (pe_cmpR op_isN1 (pv 0) pe_non (nomark _))))
      pss_nil)
    (pss_cons (ps_if (pt_val (pe_callB call_isi (by rfl) T.n_isinstance (by decide +kernel) (pa_cons (pv 1) (pa_cons (pe_bltn (v := .ty "bool") (u := .type "bool") (by rfl) T.n_bool (by decide +kernel) rfl) pa_nil))))
      (pss_one (ps_ret (pe_and (pe_callB call_isi (by rfl) T.n_isinstance (by decide +kernel) (pa_cons (pv 0) (pa_cons (pe_bltn (v := .ty "bool") (u := .type "bool") (by rfl) T.n_bool (by decide +kernel) rfl) pa_nil))) (pe_one (pe_cmpR op_eq (pv 0) (pv 1) (nomark _))))))
      pss_nil)
    (pss_cons (ps_if (pt_val (pe_callB call_isi (by rfl) T.n_isinstance (by decide +kernel) (pa_cons (pv 1) (pa_cons (pe_bltn (v := .ty "int") (u := .type "int") (by rfl) T.n_int (by decide +kernel) rfl) pa_nil))))
      (pss_one (ps_ret (pe_and (pe_callB call_isi (by rfl) T.n_isinstance (by decide +kernel) (pa_cons (pv 0) (pa_cons (pe_bltn (v := .ty "int") (u := .type "int") (by rfl) T.n_int (by decide +kernel) rfl) pa_nil))) (pe_and (pe_not (pe_callB call_isi (by rfl) T.n_isinstance (by decide +kernel) (pa_cons (pv 0) (pa_cons (pe_bltn (v := .ty "bool") (u := .type "bool") (by rfl) T.n_bool (by decide +kernel) rfl) pa_nil)))) (pe_one (pe_cmpR op_eq (pv 0) (pv 1) (nomark _)))))))
      pss_nil)
    (pss_cons (ps_if (pt_val (pe_callB call_isi (by rfl) T.n_isinstance (by decide +kernel) (pa_cons (pv 1) (pa_cons (pe_bltn (v := .ty "str") (u := .type "str") (by rfl) T.n_str (by decide +kernel) rfl) pa_nil))))
      (pss_one (ps_ret (pe_and (pe_callB call_isi (by rfl) T.n_isinstance (by decide +kernel) (pa_cons (pv 0) (pa_cons (pe_bltn (v := .ty "str") (u := .type "str") (by rfl) T.n_str (by decide +kernel) rfl) pa_nil))) (pe_one (pe_cmpR op_eq (pv 0) (pv 1) (nomark _))))))
      pss_nil)
    (pss_cons (ps_if (PW.pt (pw_or (pt_cmpR op_ne (pe_callB call_isi (by rfl) T.n_isinstance (by decide +kernel) (pa_cons (pv 1) (pa_cons (pe_bltn (v := .ty "tuple") (u := .type "tuple") (by rfl) T.n_tuple (by decide +kernel) rfl) pa_nil))) (pe_callB call_isi (by rfl) T.n_isinstance (by decide +kernel) (pa_cons (pv 0) (pa_cons (pe_bltn (v := .ty "tuple") (u := .type "tuple") (by rfl) T.n_tuple (by decide +kernel) rfl) pa_nil))) (nomark _)) (pw_or1 (pt_cmpR op_ne (pe_callB call_isi (by rfl) T.n_isinstance (by decide +kernel) (pa_cons (pv 1) (pa_cons (pe_bltn (v := .ty "list") (u := .type "list") (by rfl) T.n_list (by decide +kernel) rfl) pa_nil))) (pe_callB call_isi (by rfl) T.n_isinstance (by decide +kernel) (pa_cons (pv 0) (pa_cons (pe_bltn (v := .ty "list") (u := .type "list") (by rfl) T.n_list (by decide +kernel) rfl) pa_nil))) (nomark _)))))
      (pss_one (ps_ret pe_bl))
      pss_nil)
    (pss_cons (ps_if (pt_cmpR op_ne (pe_callB call_len_seq (by rfl) T.n_len (by decide +kernel) (pa_cons (pv 0) pa_nil)) (pe_callB call_len_seq (by rfl) T.n_len (by decide +kernel) (pa_cons (pv 1) pa_nil)) (nomark _))
      (pss_one (ps_ret pe_bl))
      pss_nil)
    (pss_one (ps_ret (pe_callB (cr_all rfl) (by rfl) T.n_all (by decide +kernel) (pa_cons (pe_lc (own := [("_law_k", 2)]) (g := (gName 2)) (tt := tYes) (te := (tCall _ [] E0 (tCons (tOp (rIx K) (tVar 0) (tVar 2)) (tCons (tOp (rIx K) (tVar 1) (tVar 2)) tNil)))) rfl sc__law_alike.nd (pi_range1 rfl T.n_range (pa_cons (pe_callB call_len_seq (by rfl) T.n_len (by decide +kernel) (pa_cons (pv 1) pa_nil)) pa_nil)) (blkOk_by (own := [("_law_k", 2)]) (N := N__law_alike) (sc := defScope s__law_alike) (by decide +kernel)) (fun _ _ _ _ _ => (pg_name (i := 2) sc__law_alike.nd rfl (by first | exact Or.inl rfl | exact Or.inr rfl))) (fun _ _ _ _ _ => pts_nil) (fun _ _ _ _ _ => (pe_call G__law_alike hrS rfl T.g__law_alike T.F__law_alike.kp T.b__law_alike .nil pass0 (pa_cons (pe_ix ix_seq (pv 0) (pv 2) (fun _ _ => rfl)) (pa_cons (pe_ix ix_seq (pv 1) (pv 2) (fun _ _ => rfl)) pa_nil))))) pa_nil)))))))))), ?_⟩
    have kk : ∀ {p : Prop} [Decidable p], p → Q (.bl (decide p)) H := fun hp => by rw [decide_eq_true hp]; exact k _ (.refl _)
    cases d with
    | none =>
      cases hx; cases hy
      exact ⟨_, rfl, rfl, _, rfl, iteT ⟨_, rfl, rfl, k _ (.refl _)⟩⟩
    | bool b =>
      cases hx; cases hy
      refine ⟨_, rfl, rfl, _, rfl, iteF ?_⟩
      refine ⟨_, rfl, _, _, _, _, _, rfl, .ty _, tyx_D (.bl b), kit_ty kb_bb, _, rfl, iteT ?_⟩
      exact ⟨_, rfl, _, _, _, _, _, rfl, .ty _, tyx_D (.bl b), kit_ty kb_bb, _, rfl, iteT ⟨_, rfl, _, rfl, rfl, kk rfl⟩⟩
    | int i =>
      cases hx; cases hy
      refine ⟨_, rfl, rfl, _, rfl, iteF ?_⟩
      refine ⟨_, rfl, _, _, _, _, _, rfl, .ty _, tyx_D (.int i), kit_ty kb_ib, _, rfl, iteF ?_⟩
      refine ⟨_, rfl, _, _, _, _, _, rfl, .ty _, tyx_D (.int i), kit_ty kb_ii, _, rfl, iteT ?_⟩
      refine ⟨_, rfl, _, _, _, _, _, rfl, .ty _, tyx_D (.int i), kit_ty kb_ii, _, rfl, iteT ?_⟩
      exact ⟨_, rfl, _, _, _, _, _, rfl, .ty _, tyx_D (.int i), kit_ty kb_ib, _, rfl, _, rfl, iteT ⟨_, rfl, _, rfl, rfl, kk rfl⟩⟩
    | str z =>
      cases hx; cases hy
      refine ⟨_, rfl, rfl, _, rfl, iteF ?_⟩
      refine ⟨_, rfl, _, _, _, _, _, rfl, .ty _, tyx_D (.str z), kit_ty kb_sb, _, rfl, iteF ?_⟩
      refine ⟨_, rfl, _, _, _, _, _, rfl, .ty _, tyx_D (.str z), kit_ty kb_si, _, rfl, iteF ?_⟩
      refine ⟨_, rfl, _, _, _, _, _, rfl, .ty _, tyx_D (.str z), kit_ty kb_ss, _, rfl, iteT ?_⟩
      exact ⟨_, rfl, _, _, _, _, _, rfl, .ty _, tyx_D (.str z), kit_ty kb_ss, _, rfl, iteT ⟨_, rfl, _, rfl, rfl, kk rfl⟩⟩
    | dict _ => cases hx
    | list ds =>
      have hx' := hx
      have hy' := hy
      cases hx' with
      | lst hLx hAx =>
      rename_i a xs
      cases hy' with
      | lst hLy hAy =>
      rename_i b ys
      refine ⟨_, rfl, rfl, _, rfl, iteF ?_⟩
      refine ⟨_, rfl, _, _, _, _, _, rfl, .ty _, tyx_D hy, kit_ty kb_lb, _, rfl, iteF ?_⟩
      refine ⟨_, rfl, _, _, _, _, _, rfl, .ty _, tyx_D hy, kit_ty kb_li, _, rfl, iteF ?_⟩
      refine ⟨_, rfl, _, _, _, _, _, rfl, .ty _, tyx_D hy, kit_ty kb_ls, _, rfl, iteF ?_⟩
      refine ⟨_, rfl, _, _, _, _, _, rfl, .ty _, tyx_D hy, kit_ty kb_lt, _, rfl, _, _, _, _, _, rfl, .ty _, tyx_D hx, kit_ty kb_lt, rfl, _, rfl, iteF ?_⟩
      refine ⟨_, rfl, _, _, _, _, _, rfl, .ty _, tyx_D hy, kit_ty kb_ll, _, rfl, _, _, _, _, _, rfl, .ty _, tyx_D hx, kit_ty kb_ll, rfl, _, rfl, iteF ?_⟩
      obtain ⟨m, rfl⟩ : ∃ m, n = m + 1 := by
        cases n with
        | zero => simp [lv] at hl
        | succ m => exact ⟨m, rfl⟩
      simp only [lv] at hl
      have hLx : SqL K H a xs ∨ SqT K H a xs := .inl hLx
      have hLy : SqL K H b ys ∨ SqT K H b ys := .inl hLy
      have lx := hAx.length
      have ly := hAy.length
      have sq : ∀ {H' : Hp} {c : Addr} {zs : List V}, Same H H' → (SqL K H c zs ∨ SqT K H c zs) → (SqL K H' c zs ∨ SqT K H' c zs) := fun s z => z.imp (fun q => s.seq q) fun q => SqT_same s q
      refine ⟨_, rfl, a, _, rfl, hLx, _, rfl, b, _, rfl, hLy, rfl, _, rfl, iteNS (by rw [lx, ly]) ?_⟩
      refine ⟨_, rfl, b, _, rfl, hLy, _, rfl, by omega, by omega, fun D hD => ?_⟩
      have hn : ((ys.length : Nat) : Int).toNat = ds.length := by omega
      rw [hn]
      refine lc_range (lo := 0) (n := ds.length) (fun i H2 => Same H H2 ∧ H2 D = some (.lst ((List.replicate i true).map V.bl)))
        ⟨Same.upd_new hD, upd_same⟩ ?_ ?_
      · rintro i H2 hi ⟨s2, h2⟩
        obtain ⟨u, hu, hdu⟩ := hAx.get (i := i) (d := ds[i]) (List.getElem?_eq_getElem hi)
        obtain ⟨v, hv, hdv⟩ := hAy.get (i := i) (d := ds[i]) (List.getElem?_eq_getElem hi)
        have e0 : (0 : Int) + (i : Int) = (i : Int) := by omega
        refine ⟨rfl, ?_⟩
        refine ⟨_, rfl, _, rfl, rix_of (sq s2 hLx) (at_of e0 hu) ?_⟩
        refine ⟨_, rfl, _, rfl, rix_of (sq s2 hLy) (at_of e0 hv) ?_⟩
        refine ⟨_, _, ds[i], rfl, hdu.same s2, hdv.same s2, hl.2 _ (List.getElem_mem hi), fun H3 s3 => ?_⟩
        refine ⟨_, s3 _ _ h2, by simp only [List.length_map, List.length_replicate]; exact Nat.lt_of_lt_of_le (Nat.lt_of_lt_of_le hi hl.1) (by decide), fun c o e => ?_, ?_⟩
        · rw [upd_ne (fun q => by rw [q, hD] at e; cases e)]
          exact s3 _ _ (s2 c o e)
        · rw [upd_same, List.replicate_succ', List.map_append]
          rfl
      · rintro H2 ⟨s2, h2⟩
        refine ⟨D, List.replicate ds.length true, rfl, SqL.of h2, ?_⟩
        have : (List.replicate ds.length true).all id = true := by simp
        rw [this]
        exact k _ s2
    | tuple ds =>
      have hx' := hx
      have hy' := hy
      cases hx' with
      | tup hLx hAx =>
      rename_i a xs
      cases hy' with
      | tup hLy hAy =>
      rename_i b ys
      refine ⟨_, rfl, rfl, _, rfl, iteF ?_⟩
      refine ⟨_, rfl, _, _, _, _, _, rfl, .ty _, tyx_D hy, kit_ty kb_tb, _, rfl, iteF ?_⟩
      refine ⟨_, rfl, _, _, _, _, _, rfl, .ty _, tyx_D hy, kit_ty kb_ti, _, rfl, iteF ?_⟩
      refine ⟨_, rfl, _, _, _, _, _, rfl, .ty _, tyx_D hy, kit_ty kb_ts, _, rfl, iteF ?_⟩
      refine ⟨_, rfl, _, _, _, _, _, rfl, .ty _, tyx_D hy, kit_ty kb_tt, _, rfl, _, _, _, _, _, rfl, .ty _, tyx_D hx, kit_ty kb_tt, rfl, _, rfl, iteF ?_⟩
      refine ⟨_, rfl, _, _, _, _, _, rfl, .ty _, tyx_D hy, kit_ty kb_tl, _, rfl, _, _, _, _, _, rfl, .ty _, tyx_D hx, kit_ty kb_tl, rfl, _, rfl, iteF ?_⟩
      obtain ⟨m, rfl⟩ : ∃ m, n = m + 1 := by
        cases n with
        | zero => simp [lv] at hl
        | succ m => exact ⟨m, rfl⟩
      simp only [lv] at hl
      have hLx : SqL K H a xs ∨ SqT K H a xs := .inr hLx
      have hLy : SqL K H b ys ∨ SqT K H b ys := .inr hLy
      have lx := hAx.length
      have ly := hAy.length
      have sq : ∀ {H' : Hp} {c : Addr} {zs : List V}, Same H H' → (SqL K H c zs ∨ SqT K H c zs) → (SqL K H' c zs ∨ SqT K H' c zs) := fun s z => z.imp (fun q => s.seq q) fun q => SqT_same s q
      refine ⟨_, rfl, a, _, rfl, hLx, _, rfl, b, _, rfl, hLy, rfl, _, rfl, iteNS (by rw [lx, ly]) ?_⟩
      refine ⟨_, rfl, b, _, rfl, hLy, _, rfl, by omega, by omega, fun D hD => ?_⟩
      have hn : ((ys.length : Nat) : Int).toNat = ds.length := by omega
      rw [hn]
      refine lc_range (lo := 0) (n := ds.length) (fun i H2 => Same H H2 ∧ H2 D = some (.lst ((List.replicate i true).map V.bl)))
        ⟨Same.upd_new hD, upd_same⟩ ?_ ?_
      · rintro i H2 hi ⟨s2, h2⟩
        obtain ⟨u, hu, hdu⟩ := hAx.get (i := i) (d := ds[i]) (List.getElem?_eq_getElem hi)
        obtain ⟨v, hv, hdv⟩ := hAy.get (i := i) (d := ds[i]) (List.getElem?_eq_getElem hi)
        have e0 : (0 : Int) + (i : Int) = (i : Int) := by omega
        refine ⟨rfl, ?_⟩
        refine ⟨_, rfl, _, rfl, rix_of (sq s2 hLx) (at_of e0 hu) ?_⟩
        refine ⟨_, rfl, _, rfl, rix_of (sq s2 hLy) (at_of e0 hv) ?_⟩
        refine ⟨_, _, ds[i], rfl, hdu.same s2, hdv.same s2, hl.2 _ (List.getElem_mem hi), fun H3 s3 => ?_⟩
        refine ⟨_, s3 _ _ h2, by simp only [List.length_map, List.length_replicate]; exact Nat.lt_of_lt_of_le (Nat.lt_of_lt_of_le hi hl.1) (by decide), fun c o e => ?_, ?_⟩
        · rw [upd_ne (fun q => by rw [q, hD] at e; cases e)]
          exact s3 _ _ (s2 c o e)
        · rw [upd_same, List.replicate_succ', List.map_append]
          rfl
      · rintro H2 ⟨s2, h2⟩
        refine ⟨D, List.replicate ds.length true, rfl, SqL.of h2, ?_⟩
        have : (List.replicate ds.length true).all id = true := by simp
        rw [this]
        exact k _ s2
theorem ok__law_alike (T : Txt K mg) : ∀ n, FnOk P w K mg base CX0 n T.a__law_alike T.fd__law_alike P__law_alike (sp__law_alike T n)
  | 0 => ⟨fun _ _ _ _ h => h.elim, fun _ _ _ _ _ _ _ _ _ _ _ _ _ h => h.elim⟩
  | n + 1 => ok__law_alike_step T n (ok__law_alike T n)

end
end TL

namespace TL
open PySem PySem.Spec PyProof.Rows L2
section
variable {P : Program} {w : World} {K : PySem.W.Frag} {mg : Str → Option Value} {base : Heap}
def sp__law_mixed (T : Txt K mg) : Sp := fun vs H Q _ => ∃ (d r : Addr) (ns : List Int), vs = [.ref d, .ref r] ∧ DiceAt H d ∧ SqL K H r (ns.map V.int) ∧ ns.length ≤ 1000 ∧
  ∀ (p : Addr) (ms : List Int) (H' : Hp), (∀ k, k ∈ ms ↔ k ∈ ns) → H p = none → H' p = some (.lst (ms.map V.int)) → DiceAt H' d → Frm [d] H H' → Q (.ref p) H'
theorem ok__law_mixed (T : Txt K mg) : FnOk P w K mg base CX0 2 T.a__law_mixed T.fd__law_mixed P__law_mixed (sp__law_mixed T) := by
  have G__law_off := ok__law_off (P := P) (w := w) (base := base) T
  refine T.F__law_mixed.ok sc__law_mixed (fun vs H Q E h => ?_) (fun cdv A outer s H vs Q E hr h => ?_)
  · obtain ⟨d, r, ns, rfl, _⟩ := h
    rfl
  · obtain ⟨d, r, ns, rfl, hD, hR, hn, k⟩ := h
    have hu64 := hr.units
    refine ⟨_, (pss_cons (ps_set (i := 2) sc__law_mixed.nd rfl (by first | exact Or.inl rfl | exact Or.inr rfl) (pe_callTy call_list_of (by rfl) T.n_list (by decide +kernel) (pa_cons (pv 1) pa_nil)))
    (pss_cons (ps_set (i := 3) sc__law_mixed.nd rfl (by first | exact Or.inl rfl | exact Or.inr rfl) (pe_lst pa_nil))
    (pss_cons (ps_while PassesOwn.never (pt_cmpR (op_neD hu64) (pv 2) (pe_lst pa_nil) (nomark _))
      (pss_one (ps_expr (pe_bm PySem.F.plainAttrs_list PySem.F.slot_list_append PySem.F.type_list_append mt_append (pv 3) (pa_cons (pe_bm PySem.F.plainAttrs_list PySem.F.slot_list_pop PySem.F.type_list_pop mt_popAt (pv 2) (pa_cons (pe_call G__law_off (hr.mono (by decide)) rfl T.g__law_off T.F__law_off.kp T.b__law_off .nil pass0 (pa_cons (pv 0) (pa_cons (pe_callB call_len_seq (by rfl) T.n_len (by decide +kernel) (pa_cons (pv 2) pa_nil)) pa_nil))) pa_nil)) pa_nil)))))
    (pss_one (ps_ret (pv 3)))))), ?_⟩
    refine ⟨_, rfl, r, _, rfl, .inl hR, fun l hl => ?_⟩
    have f1 : Same H (upd H l (.lst (ns.map V.int))) := Same.upd_new hl
    refine ⟨(by show 0 ≤ sizeLine; decide), fun p hp => ?_⟩
    have f2 : Same (upd H l (.lst (ns.map V.int))) (upd (upd H l (.lst (ns.map V.int))) p (.lst [])) := Same.upd_new hp
    have npl : p ≠ l := fun e => by rw [e, upd_same] at hp; cases hp
    have hpH : H p = none := f1.free hp
    obtain ⟨od, hod⟩ : ∃ o, H d = some o := let ⟨_, e, _⟩ := hD; ⟨_, e⟩
    have nld : l ≠ d := Ne.symm (ne_of_none hod hl)
    have npd : p ≠ d := Ne.symm (ne_of_none hod hpH)
    refine ⟨fun m σ H2 => ∃ (ls fs : List Int), σ = [some (.ref d), some (.ref r), some (.ref l), some (.ref p)] ∧ H2 l = some (.lst (ls.map V.int)) ∧ H2 p = some (.lst (fs.map V.int)) ∧ ls.length = m ∧ (∀ k, k ∈ ns ↔ k ∈ ls ∨ k ∈ fs) ∧ ls.length + fs.length = ns.length ∧ DiceAt H2 d ∧ Frm [d] H H2,
      ⟨_, ns, [], rfl, f2 _ _ upd_same, upd_same, rfl, by simp, by simp, hD.frm (Frm.of_same (S := []) (f1.trans f2)) (by simp), Frm.of_same (f1.trans f2)⟩, ?_⟩
    rintro m σ H2 ⟨ls, fs, rfl, hl2, hp2, hm, hmem, hlen, d2, g2⟩
    refine ⟨_, rfl, (by show 0 ≤ sizeLine; decide), fun q hq => ?_⟩
    have g3 : Same H2 (upd H2 q (.lst [])) := Same.upd_new hq
    refine ⟨.list (ls.map .int), .list (([] : List Int).map .int), .lst (SqL.of (g3 _ _ hl2)) (dp_ints ls), .lst (SqL.of upd_same) .nil, shaped_ints _, shaped_ints _, _, rfl, ?_⟩
    have e1 : PyData.eqv (.list (ls.map .int)) (.list (([] : List Int).map .int)) = decide (ls = []) := eqvAll_ints ls []
    rw [e1]
    refine iteN (fun hne => ?_) (fun he => ?_)
    · refine ⟨fun σ' H' => ∃ m', m' < m ∧ ∃ (ls fs : List Int), σ' = [some (.ref d), some (.ref r), some (.ref l), some (.ref p)] ∧ H' l = some (.lst (ls.map V.int)) ∧ H' p = some (.lst (fs.map V.int)) ∧ ls.length = m' ∧ (∀ k, k ∈ ns ↔ k ∈ ls ∨ k ∈ fs) ∧ ls.length + fs.length = ns.length ∧ DiceAt H' d ∧ Frm [d] H H', fun σ' H' z => z, ?_⟩
      have hpos : 0 < ls.length := List.length_pos_iff.mpr hne
      have d3 : DiceAt (upd H2 q (.lst [])) d := d2.frm (Frm.of_same (S := []) g3) (by simp)
      refine ⟨_, rfl, .inl ⟨rfl, _, SqL.of (g3 _ _ hp2)⟩, ?_⟩
      refine ⟨_, rfl, .inl ⟨rfl, _, SqL.of (g3 _ _ hl2)⟩, ?_⟩
      refine ⟨_, rfl, _, rfl, l, _, rfl, .inl (SqL.of (g3 _ _ hl2)), ?_⟩
      refine ⟨d, _, rfl, d3, by rw [List.length_map]; omega, by rw [List.length_map]; omega, fun z H4 z0 zm d4 g4 => ?_⟩
      rw [List.length_map] at zm
      have hl4 : H4 l = some (.lst (ls.map V.int)) := g4 _ _ (g3 _ _ hl2) (by simp [nld])
      have hp4 : H4 p = some (.lst (fs.map V.int)) := g4 _ _ (g3 _ _ hp2) (by simp [npd])
      obtain ⟨j, rfl⟩ : ∃ j : Nat, z = (j : Int) := ⟨z.toNat, by omega⟩
      have hj : j < ls.length := by omega
      have hx : (ls.map V.int)[j]? = some (.int ls[j]) := by rw [List.getElem?_map, List.getElem?_eq_getElem hj]; rfl
      have hsi : seqIndex? (j : Int) (ls.map V.int).length = some j := by
        have : ixN (ls.map V.int).length (j : Int) = some j := by
          unfold ixN
          rw [List.length_map, if_pos (by omega), if_pos (by omega)]
          simp
        exact (ixN_seq this).1
      refine ⟨l, _, _, j, _, rfl, rfl, hl4, by omega, by omega, hsi, hx, ?_⟩
      have e5 : (ls.map V.int).eraseIdx j = (ls.eraseIdx j).map V.int := erase_mapI ls j
      rw [e5]
      refine ⟨p, _, _, rfl, rfl, by rw [upd_ne npl]; exact hp4, by rw [List.length_map]; exact small1000 (by omega), ?_⟩
      have hle : (ls.eraseIdx j).length = ls.length - 1 := List.length_eraseIdx_of_lt hj
      refine ⟨ls.length - 1, by omega, ls.eraseIdx j, fs ++ [ls[j]], rfl, by rw [upd_ne (Ne.symm npl), upd_same], by rw [upd_same, List.map_append]; rfl, hle, fun k => ?_, by simp; omega, ?_, fun b o e hb => ?_⟩
      · rw [hmem]
        have hk : k ∈ ls ↔ k ∈ ls.eraseIdx j ∨ k = ls[j] := by
          constructor
          · intro hk
            obtain ⟨i, hi, rfl⟩ := List.getElem_of_mem hk
            by_cases hij : i = j
            · right; subst hij; rfl
            · left
              rw [List.mem_eraseIdx_iff_getElem]
              exact ⟨i, hi, hij, rfl⟩
          · rintro (hk | rfl)
            · exact List.mem_of_mem_eraseIdx hk
            · exact List.getElem_mem hj
        rw [hk, List.mem_append, List.mem_singleton]
        constructor
        · rintro ((h1 | h1) | h1)
          · exact .inl h1
          · exact .inr (.inr h1)
          · exact .inr (.inl h1)
        · rintro (h1 | h1 | h1)
          · exact .inl (.inl h1)
          · exact .inr h1
          · exact .inl (.inr h1)
      · exact (d4.frm (Frm.upd (d := l)) (by simp [Ne.symm nld])).frm (Frm.upd (d := p)) (by simp [Ne.symm npd])
      · have n1 : b ≠ p := fun q => by rw [q, hpH] at e; cases e
        have n2 : b ≠ l := fun q => by rw [q, hl] at e; cases e
        rw [upd_ne n1, upd_ne n2]
        exact g4 b o (g3 b o (g2 b o e hb)) hb
    · subst he
      refine ⟨_, rfl, ?_⟩
      exact k p fs _ (fun j => by rw [hmem]; simp) hpH (g3 _ _ hp2) (d2.frm (Frm.of_same (S := []) g3) (by simp)) (g2.trans (Frm.of_same g3))

end
end TL

namespace TL
open PySem PySem.Spec PyProof.Rows L2
section
variable {P : Program} {w : World} {K : PySem.W.Frag} {mg : Str → Option Value} {base : Heap}
def sp__law_can (T : Txt K mg) : Sp := fun vs H Q _ => ∃ d : Addr, vs = [.ref d] ∧ DiceAt H d ∧
  ∀ (t : Addr) (ms : List Int) (H' : Hp), Can ms → H' t = some (.tup (ms.map V.int)) → DiceAt H' d → Frm [d] H H' → Q (.ref t) H'
theorem ok__law_can (T : Txt K mg) : FnOk P w K mg base CX0 2 T.a__law_can T.fd__law_can P__law_can (sp__law_can T) := by
  have G__law_off := ok__law_off (P := P) (w := w) (base := base) T
  refine T.F__law_can.ok sc__law_can (fun vs H Q E h => ?_) (fun cdv A outer s H vs Q E hr h => ?_)
  · obtain ⟨d, rfl, _⟩ := h
    rfl
  · obtain ⟨d, rfl, hD, k⟩ := h
    refine ⟨_, (pss_cons (ps_set (i := 1) sc__law_can.nd rfl (by first | exact Or.inl rfl | exact Or.inr rfl) (pe_ix ix_list (pe_lst (pa_cons pe_int (pa_cons pe_int (pa_cons pe_int (pa_cons pe_int pa_nil))))) (pe_call G__law_off (hr.mono (by decide)) rfl T.g__law_off T.F__law_off.kp T.b__law_off .nil pass0 (pa_cons (pv 0) (pa_cons pe_int pa_nil))) (fun _ _ => rfl)))
    (pss_one (ps_ret (pe_op op_catA (pe_tup (pa_cons pe_int pa_nil)) (pe_callTy call_tuple_of (by rfl) T.n_tuple (by decide +kernel) (pa_cons (pe_lc (own := [("_law_manner", 2)]) (g := (gName 2)) (tt := (tTest (tOp rEq (tCall _ [] E0 (tCons (tVar 0) (tCons (tVar 1) tNil))) (tC (.int 0))))) (te := (tVar 2)) rfl sc__law_can.nd (pi_range2 rfl T.n_range (pa_cons pe_int (pa_cons pe_int pa_nil))) (blkOk_by (own := [("_law_manner", 2)]) (N := N__law_can) (sc := defScope s__law_can) (by decide +kernel)) (fun _ _ _ _ _ => (pg_name (i := 2) sc__law_can.nd rfl (by first | exact Or.inl rfl | exact Or.inr rfl))) (fun _ _ _ _ _ => (pts_one (pt_cmpR op_eq (pe_call G__law_off (hr.mono (by decide)) rfl T.g__law_off T.F__law_off.kp T.b__law_off .nil pass0 (pa_cons (pv 0) (pa_cons (pv 1) pa_nil))) pe_int (nomark _)))) (fun _ _ _ _ _ => (pv 2))) pa_nil)))))), ?_⟩
    have hD0 : ∃ o, H d = some o := let ⟨ns, e, _⟩ := hD; ⟨_, e⟩
    obtain ⟨od, hod⟩ := hD0
    refine ⟨(by show 4 ≤ sizeLine; decide), fun l hl => ?_⟩
    have nld : d ≠ l := ne_of_none hod hl
    have f1 : Frm [d] H (upd H l (.lst [.int 1, .int 2, .int 2, .int 4])) := Frm.new hl
    refine ⟨_, rfl, d, 4, rfl, hD.frm (Frm.new (S := []) hl) (by simp), (by decide), (by decide), fun r H1 r0 r4 hD1 g1 => ?_⟩
    have hl1 : H1 l = some (.lst [.int 1, .int 2, .int 2, .int 4]) := g1 _ _ upd_same (by simp [Ne.symm nld])
    obtain ⟨m, hm, hm0, hm4⟩ : ∃ m : Int, atI [V.int 1, V.int 2, V.int 2, V.int 4] r = some (.int m) ∧ 0 < m ∧ m ≤ 4 := by
      have : r = 0 ∨ r = 1 ∨ r = 2 ∨ r = 3 := by omega
      rcases this with rfl | rfl | rfl | rfl
      · exact ⟨1, rfl, by decide, by decide⟩
      · exact ⟨2, rfl, by decide, by decide⟩
      · exact ⟨2, rfl, by decide, by decide⟩
      · exact ⟨4, rfl, by decide, by decide⟩
    refine ⟨l, _, r, _, rfl, rfl, SqL.of hl1, hm, ?_⟩
    have f2 := f1.trans g1
    -- (0,) + tuple([..])
    refine ⟨(by show 1 ≤ sizeLine; decide), fun p hp => ?_⟩
    have f3 : Frm [d] H1 (upd H1 p (.tup [.int 0])) := Frm.new hp
    obtain ⟨od1, hod1⟩ : ∃ o, H1 d = some o := let ⟨ns, e, _⟩ := hD1; ⟨_, e⟩
    have npd : d ≠ p := ne_of_none hod1 hp
    have hD2 : DiceAt (upd H1 p (.tup [.int 0])) d := hD1.frm (Frm.new (S := []) hp) (by simp)
    refine ⟨1, 10, rfl, ⟨by decide, by decide, by decide, by decide⟩, fun D hDn => ?_⟩
    have nDd : D ≠ d := fun e => by
      obtain ⟨ns, z, _⟩ := hD2
      rw [← e, hDn] at z
      cases z
    have nDp : D ≠ p := fun e => by rw [e, upd_same] at hDn; cases hDn
    refine lc_range (lo := 1) (n := 9) (fun i H2 => DiceAt H2 d ∧ Frm [d] H H2 ∧ H2 p = some (.tup [.int 0]) ∧ ∃ ms : List Int, H2 D = some (.lst (ms.map V.int)) ∧ ms.Pairwise (· < ·) ∧ (∀ x ∈ ms, 1 ≤ x ∧ x < 1 + i) ∧ ms.length ≤ i)
      ⟨hD2.frm (Frm.new (S := []) hDn) (by simp), (f2.trans f3).trans (Frm.new hDn), by rw [upd_ne (Ne.symm nDp), upd_same], [], upd_same, List.Pairwise.nil, by simp, Nat.le_refl _⟩ ?_ ?_
    · rintro i H2 hi ⟨d2, f, hp2, ms, hms, hpw, hb, hln⟩
      have hS : (wipe [some (V.ref d), some (V.int m), none] [2]).set 2 (some (.int (1 + i))) = [some (V.ref d), some (V.int m), some (.int (1 + i))] := rfl
      refine ⟨rfl, _, rfl, _, rfl, d, m, rfl, d2, hm0, by omega, fun r H3 r0 rm d3 g3 => ?_⟩
      have e3 : H3 D = some (.lst (ms.map V.int)) := g3 _ _ hms (by simp [nDd])
      have p3 : H3 p = some (.tup [.int 0]) := g3 _ _ hp2 (by simp [Ne.symm npd])
      refine ⟨rfl, _, rfl, ?_⟩
      refine iteD (fun _ => ?_) (fun _ => ?_)
      · refine ⟨_, rfl, _, e3, by rw [List.length_map]; exact small1000 (by omega), ?_⟩
        refine ⟨d3.frm (Frm.upd (d := D)) (by simp [Ne.symm nDd]), fun b o e hb2 => ?_, by rw [upd_ne (Ne.symm nDp)]; exact p3, ms ++ [1 + (i : Int)], by rw [upd_same, List.map_append]; rfl, ?_, ?_, by simp; omega⟩
        · have nb : b ≠ D := fun q => by
            subst q
            by_cases hbp : b = p
            · exact nDp hbp
            · rw [upd_ne hbp] at hDn
              have := f2 b o e hb2
              rw [hDn] at this
              cases this
          rw [upd_ne nb]
          exact g3 b o (f b o e hb2) hb2
        · rw [List.pairwise_append]
          refine ⟨hpw, by simp, fun x hx y hy => ?_⟩
          simp at hy
          have := hb x hx
          omega
        · intro x hx
          rcases List.mem_append.mp hx with h1 | h1
          · have := hb x h1
            omega
          · simp at h1
            omega
      · exact ⟨d3, f.trans g3, p3, ms, e3, hpw, fun x hx => by have := hb x hx; omega, by omega⟩
    · rintro H2 ⟨d2, f, hp2, ms, hms, hpw, hb, hln⟩
      have hcan : Can (0 :: ms) := by
        refine ⟨fun i hi => ?_, ?_, by simp, by simp; omega⟩
        · rcases List.mem_cons.mp hi with e | e
          · omega
          · have := hb i e
            omega
        · rw [List.pairwise_cons]
          exact ⟨fun x hx => by have := hb x hx; omega, hpw⟩
      refine ⟨D, _, rfl, .inl ⟨SqL.of hms, fun q hq => ?_⟩⟩
      have p3 : (upd H2 q (.tup (ms.map V.int))) p = some (.tup [.int 0]) := by rw [upd_ne (ne_of_none hp2 hq)]; exact hp2
      have fq : Frm [d] H2 (upd H2 q (.tup (ms.map V.int))) := Frm.new hq
      have dq : DiceAt (upd H2 q (.tup (ms.map V.int))) d := d2.frm (Frm.new (S := []) hq) (by simp)
      refine ⟨p, q, _, _, rfl, rfl, SqT.of p3, SqT.of upd_same, ?_, (fun z => by cases z), fun _ z => ?_, fun _ _ u hu => ?_⟩
      · rw [List.length_map]
        exact Nat.le_of_lt (small1000 (by simp; omega))
      · have e0 : ms = [] := by simpa using z
        subst e0
        exact k p [0] _ hcan p3 dq (f.trans fq)
      · exact k u (0 :: ms) _ hcan (by rw [upd_same]; rfl) (dq.frm (Frm.new (S := []) hu) (by simp)) ((f.trans fq).trans (Frm.new hu))

end
end TL

namespace TL
open PySem PySem.Spec PyProof.Rows L2
section
variable {P : Program} {w : World} {K : PySem.W.Frag} {mg : Str → Option Value} {base : Heap}
def spLaw (K : PySem.W.Frag) : Sp := fun vs H Q _ => ∃ (a : Addr) (ns : List Int), vs = [.ref a] ∧ SqL K H a (ns.map V.int) ∧ ns.length ≤ 63 ∧ ∀ H', Q (.bl true) H'
abbrev sp_law (T : Txt K mg) : Sp := spLaw K
/-- the greatest so far -/
def DueTo (one other bad : List Int) (i : Nat) (m : Int) : Prop := (m = 0 ∨ (m ∈ one ∧ m ∈ other ∧ m ∉ bad)) ∧ 0 ≤ m ∧ m ≤ i ∧ ∀ y : Int, 1 ≤ y → y < 1 + i → y ∈ one → y ∈ other → y ∉ bad → y ≤ m
theorem DueTo.chosen {one other bad : List Int} {m : Int} (h : DueTo one other bad 9 m) (h1 : ∀ i ∈ one, 0 ≤ i ∧ i ≤ 9) : IsChosen one other bad m :=
  ⟨h.1, h.2.1, fun y a b c => by
    have := h1 y a
    by_cases z : y = 0
    · have := h.2.1; omega
    · exact h.2.2.2 y (by omega) (by omega) a b c⟩
theorem ok_law (T : Txt K mg) : FnOk P w K mg base CX0 5 T.a_law T.fd_law P_law (sp_law T) := by
  have G__law_dice := ok__law_dice (P := P) (w := w) (base := base) T
  have G__law_can := ok__law_can (P := P) (w := w) (base := base) T
  have G__law_off := ok__law_off (P := P) (w := w) (base := base) T
  have G_chosen := ok_chosen (P := P) (w := w) (base := base) T
  have G__law_mixed := ok__law_mixed (P := P) (w := w) (base := base) T
  have G__law_alike := ok__law_alike (P := P) (w := w) (base := base) T 4
  refine T.F_law.ok sc_law (fun vs H Q E h => ?_) (fun cdv A outer s H vs Q E hr h => ?_)
  · obtain ⟨a, ns, rfl, _⟩ := h
    rfl
  · obtain ⟨a, ns, rfl, hS, hlen, k⟩ := h
    have hu64 := hr.units
    refine ⟨_, (pss_cons (ps_set (i := 1) sc_law.nd rfl (by first | exact Or.inl rfl | exact Or.inr rfl) (pe_call G__law_dice (hr.mono (by decide)) rfl T.g__law_dice T.F__law_dice.kp T.b__law_dice .nil pass0 (pa_cons (pv 0) (pa_cons pe_int pa_nil))))
    (pss_cons (ps_for PassesOwn.never rfl (pi_range1 rfl T.n_range (pa_cons pe_int pa_nil)) (pg_name (i := 2) sc_law.nd rfl (by first | exact Or.inl rfl | exact Or.inr rfl))
      (pss_cons (ps_par (i := 3) (j := 4) (by rfl) sc_law.nd rfl rfl (by decide) rfl rfl (pa_cons (pe_call G__law_can (hr.mono (by decide)) rfl T.g__law_can T.F__law_can.kp T.b__law_can .nil pass0 (pa_cons (pv 1) pa_nil)) (pa_cons (pe_call G__law_can (hr.mono (by decide)) rfl T.g__law_can T.F__law_can.kp T.b__law_can .nil pass0 (pa_cons (pv 1) pa_nil)) pa_nil)) (by rfl))
      (pss_cons (ps_setLc (i := 5) (own := [("_law_k", 6)]) (g := (gName 6)) (tt := tYes) (te := (tCall _ [] E0 (tCons (tVar 1) (tCons (tC (.int 10)) tNil)))) rfl sc_law.nd rfl rfl (sw_true rfl rfl rfl (by decide +kernel)) (pi_range1 rfl T.n_range (pa_cons (pe_call G__law_off (hr.mono (by decide)) rfl T.g__law_off T.F__law_off.kp T.b__law_off .nil pass0 (pa_cons (pv 1) (pa_cons pe_int pa_nil))) pa_nil)) (blkOk_by (own := [("_law_k", 6)]) (N := N_law) (sc := defScope s_law) (by decide +kernel)) (fun _ _ _ _ _ => (pg_name (i := 6) sc_law.nd rfl (by first | exact Or.inl rfl | exact Or.inr rfl))) (fun _ _ _ _ _ => pts_nil) (fun _ _ _ _ _ => (pe_call G__law_off (hr.mono (by decide)) rfl T.g__law_off T.F__law_off.kp T.b__law_off .nil pass0 (pa_cons (pv 1) (pa_cons pe_int pa_nil)))))
      (pss_cons (ps_set (i := 7) sc_law.nd rfl (by first | exact Or.inl rfl | exact Or.inr rfl) pe_int)
      (pss_cons (ps_for PassesOwn.never rfl (pi_range2 rfl T.n_range (pa_cons pe_int (pa_cons pe_int pa_nil))) (pg_name (i := 8) sc_law.nd rfl (by first | exact Or.inl rfl | exact Or.inr rfl))
        (pss_one (ps_if (PW.pt (pw_and (pt_cmpR op_in_seq (pv 8) (pv 3) (by rfl)) (pw_and (pt_cmpR op_in_seq (pv 8) (pv 4) (by rfl)) (pw_and1 (pt_cmpR op_eq (pe_bm PySem.F.plainAttrs_list PySem.F.slot_list_count PySem.F.type_list_count mt_countF (pv 5) (pa_cons (pv 8) pa_nil)) pe_int (nomark _))))))
          (pss_one (ps_set (i := 7) sc_law.nd rfl (by first | exact Or.inl rfl | exact Or.inr rfl) (pv 8)))
          pss_nil)))
      (pss_cons (ps_set (i := 9) sc_law.nd rfl (by first | exact Or.inl rfl | exact Or.inr rfl) (pe_callTy call_list_of (by rfl) T.n_list (by decide +kernel) (pa_cons (pv 5) pa_nil)))
      (pss_cons (ps_set (i := 10) sc_law.nd rfl (by first | exact Or.inl rfl | exact Or.inr rfl) (pe_lst (pa_cons (pe_call G_chosen (hr.mono (by decide)) rfl T.g_chosen T.F_chosen.kp T.b_chosen .nil passL (pa_cons (pv 3) (pa_cons (pv 4) (pa_cons (pe_callTy call_tuple_of (by rfl) T.n_tuple (by decide +kernel) (pa_cons (pv 5) pa_nil)) pa_nil)))) (pa_cons (pe_call G_chosen (hr.mono (by decide)) rfl T.g_chosen T.F_chosen.kp T.b_chosen .nil passL (pa_cons (pv 4) (pa_cons (pv 3) (pa_cons (pv 9) pa_nil)))) (pa_cons (pe_call G_chosen (hr.mono (by decide)) rfl T.g_chosen T.F_chosen.kp T.b_chosen .nil passL (pa_cons (pv 3) (pa_cons (pv 4) (pa_cons (pe_call G__law_mixed (hr.mono (by decide)) rfl T.g__law_mixed T.F__law_mixed.kp T.b__law_mixed .nil pass0 (pa_cons (pv 1) (pa_cons (pv 5) pa_nil))) pa_nil)))) pa_nil)))))
      (pss_one (ps_if (PW.pt (pw_or (pt_not (pt_val (pe_call G__law_alike (hr.mono (by decide)) rfl T.g__law_alike T.F__law_alike.kp T.b__law_alike .nil pass0 (pa_cons (pv 10) (pa_cons (pe_op op_rep (pe_lst (pa_cons (pv 7) pa_nil)) pe_int) pa_nil))))) (pw_or1 (pt_cmpR (op_neD hu64) (pv 9) (pv 5) (nomark _)))))
        (pss_one (ps_ret pe_bl))
        pss_nil)))))))))
    (pss_one (ps_ret pe_bl)))), ?_⟩
    refine ⟨_, rfl, a, ns, 0, rfl, hS, hlen, fun d H0 hd D0 s0 => ?_⟩
    refine ⟨20, rfl, by decide, by decide, for_range (lo := 0) (n := 20) (fun i σ H2 => ∃ v2 v3 v4 v5 v7 v8 v9 v10 : Option V, σ = [some (.ref a), some (.ref d), v2, v3, v4, v5, none, v7, v8, v9, v10] ∧ DiceAt H2 d)
      ⟨_, _, _, _, _, _, _, _, rfl, D0⟩ ?_ ?_⟩
    · rintro i σ H2 hi ⟨v2, v3, v4, v5, v7, v8, v9, v10, rfl, D2⟩
      -- one, other
      refine ⟨_, rfl, d, rfl, D2, fun t1 m1 H3 c1 h3 D3 f3 => ?_⟩
      refine ⟨_, rfl, d, rfl, D3, fun t2 m2 H4 c2 h4 D4 f4 => ?_⟩
      refine ⟨_, _, rfl, ?_⟩
      have nt : ∀ {H : Hp} {t : Addr} {ms : List V}, DiceAt H d → H t = some (.tup ms) → t ≠ d := fun D e => by
        obtain ⟨_, z, _⟩ := D
        exact ne_of e z (by intro q; cases q)
      have h4' : H4 t1 = some (.tup (m1.map V.int)) := f4 _ _ h3 (by simp [nt D3 h3])
      -- bad
      refine ⟨_, rfl, d, 12, rfl, D4, by decide, by decide, fun r H5 r0 r12 D5 f5 => ?_⟩
      refine ⟨r, rfl, by omega, by omega, fun B hB => ?_⟩
      have h5 : H5 t1 = some (.tup (m1.map V.int)) := f5 _ _ h4' (by simp [nt D4 h4'])
      have h5' : H5 t2 = some (.tup (m2.map V.int)) := f5 _ _ h4 (by simp [nt D4 h4])
      have nBd : B ≠ d := fun e => by
        obtain ⟨_, z, _⟩ := D5
        rw [← e, hB] at z; cases z
      refine lc_range (lo := 0) (n := r.toNat) (fun i H6 => DiceAt H6 d ∧ H6 t1 = some (.tup (m1.map V.int)) ∧ H6 t2 = some (.tup (m2.map V.int)) ∧ ∃ bs : List Int, H6 B = some (.lst (bs.map V.int)) ∧ bs.length ≤ i)
        ⟨D5.frm (Frm.new (S := []) hB) (by simp), by rw [upd_ne (ne_of_none h5 hB)]; exact h5, by rw [upd_ne (ne_of_none h5' hB)]; exact h5', [], upd_same, Nat.le_refl _⟩ ?_ ?_
      · rintro j H6 hj ⟨D6, g1, g2, bs, hbs, hbl⟩
        refine ⟨rfl, _, rfl, d, 10, rfl, D6, by decide, by decide, fun z H7 z0 z1 D7 f7 => ?_⟩
        have e7 : H7 B = some (.lst (bs.map V.int)) := f7 _ _ hbs (by simp [nBd])
        have x1 : H7 t1 = some (.tup (m1.map V.int)) := f7 _ _ g1 (by simp [nt D6 g1])
        have x2 : H7 t2 = some (.tup (m2.map V.int)) := f7 _ _ g2 (by simp [nt D6 g2])
        refine ⟨_, e7, by rw [List.length_map]; exact small1000 (by omega), D7.frm (Frm.upd (d := B)) (by simp [Ne.symm nBd]), by rw [upd_ne (ne_of x1 e7 (by intro q; cases q))]; exact x1, by rw [upd_ne (ne_of x2 e7 (by intro q; cases q))]; exact x2,
          bs ++ [z], by rw [upd_same, List.map_append]; rfl, by simp; omega⟩
      rintro H6 ⟨D6, g1, g2, bs, hbs, hbl⟩
      -- due
      refine ⟨1, 10, rfl, ⟨by decide, by decide, by decide, by decide⟩, for_range (lo := 1) (n := 9) (fun i σ H7 => H7 = H6 ∧ ∃ (due : Int) (v2 v8 : Option V), DueTo m1 m2 bs i due ∧ σ = [some (.ref a), some (.ref d), v2, some (.ref t1), some (.ref t2), some (.ref B), none, some (.int due), v8, v9, v10])
        ⟨rfl, 0, _, _, ⟨.inl rfl, by decide, by decide, fun y a b => by omega⟩, rfl⟩ ?_ ?_⟩
      · rintro j σ H7 hj ⟨rfl, due, v2, v8, hdue, rfl⟩
        have step : ∀ b : Bool, (b = true ↔ ((1 + (j : Int)) ∈ m1 ∧ (1 + (j : Int)) ∈ m2 ∧ (1 + (j : Int)) ∉ bs)) → DueTo m1 m2 bs (j + 1) (if b = true then 1 + (j : Int) else due) := by
          intro b hb
          cases b
          · rw [if_neg (by simp)]
            refine ⟨hdue.1, hdue.2.1, by have := hdue.2.2.1; omega, fun y y1 y2 a b c => ?_⟩
            by_cases hy : y = 1 + (j : Int)
            · rw [hy] at a b c
              exact absurd (hb.mpr ⟨a, b, c⟩) (by simp)
            · exact hdue.2.2.2 y y1 (by omega) a b c
          · rw [if_pos rfl]
            exact ⟨.inr (hb.mp rfl), by omega, by omega, fun y y1 y2 _ _ _ => by omega⟩
        refine ⟨_, rfl, _, rfl, t1, _, rfl, .inr (SqT.of g1), rfl, flat_ints _, _, rfl, ?_⟩
        have i1 : inV (.int (1 + (j : Int))) (m1.map V.int) = decide ((1 + (j : Int)) ∈ m1) := inV_int _ _
        have i2 : inV (.int (1 + (j : Int))) (m2.map V.int) = decide ((1 + (j : Int)) ∈ m2) := inV_int _ _
        show if inV (.int (1 + (j : Int))) (m1.map V.int) = true then _ else _
        rw [i1]
        refine iteD (fun q1 => ?_) (fun q1 => iteF ?_)
        · refine ⟨_, rfl, _, rfl, t2, _, rfl, .inr (SqT.of g2), rfl, flat_ints _, _, rfl, ?_⟩
          show if inV (.int (1 + (j : Int))) (m2.map V.int) = true then _ else _
          rw [i2]
          refine iteD (fun q2 => ?_) (fun q2 => iteF ?_)
          · refine ⟨_, rfl, .inl ⟨rfl, _, SqL.of hbs⟩, _, rfl, B, _, _, rfl, rfl, SqL.of hbs, rfl, flat_ints _, rfl, _, rfl, ?_⟩
            rw [count_int]
            refine iteD (fun q3 => ?_) (fun q3 => ?_)
            · refine ⟨_, rfl, rfl, 1 + (j : Int), _, _, ?_, rfl⟩
              have := step true ⟨fun _ => ⟨q1, q2, fun z => ?_⟩, fun _ => rfl⟩
              · exact this
              · have e0 : bs.count (1 + (j : Int)) = 0 := by
                  have := vint_inj.mp q3
                  omega
                exact List.count_eq_zero.mp e0 z
            · refine ⟨rfl, due, _, _, step false ⟨fun z => (by cases z), fun z => (q3 ?_).elim⟩, rfl⟩
              rw [List.count_eq_zero.mpr z.2.2]
              rfl
          · exact ⟨rfl, due, _, _, step false ⟨fun z => (by cases z), fun z => (q2 z.2.1).elim⟩, rfl⟩
        · exact ⟨rfl, due, _, _, step false ⟨fun z => (by cases z), fun z => (q1 z.1).elim⟩, rfl⟩
      · rintro σ H7 ⟨rfl, due, v2, v8, hdue, rfl⟩
        have hdc : IsChosen m1 m2 bs due := hdue.chosen c1.1
        -- handed
        refine ⟨_, rfl, B, _, rfl, .inl (SqL.of hbs), fun l hl => ?_⟩
        have s8 : Same H7 (upd H7 l (.lst (bs.map V.int))) := Same.upd_new hl
        have D8 := D6.frm (Frm.of_same (S := []) s8) (by simp)
        -- found: three times
        have dp : ∀ {H' : Hp} {t : Addr} {ms : List Int}, H' t = some (.tup (ms.map V.int)) → Dp K H' (.ref t) (.tuple (ms.map .int)) := fun e => .tup (SqT.of e) (dp_ints _)
        have inj : ∀ {xs ys : List Int}, (PyData.tuple (xs.map .int)) = .tuple (ys.map .int) → xs = ys := fun {xs ys} e => by
          have e' : xs.map PyData.int = ys.map .int := by injection e
          have := congrArg (List.map intOf) e'
          rw [List.map_map, List.map_map] at this
          have q : (intOf ∘ PyData.int) = id := rfl
          rw [q, List.map_id, List.map_id] at this
          exact this
        refine ⟨_, rfl, _, rfl, _, rfl, B, _, rfl, .inl ⟨SqL.of (s8 _ _ hbs), fun u hu => ?_⟩⟩
        have s9 : Same H7 (upd (upd H7 l (.lst (bs.map V.int))) u (.tup (bs.map V.int))) := s8.trans (Same.upd_new hu)
        refine ⟨_, _, _, _, _, rfl, dp (s9 _ _ g1), mdat_ints c1.2.2.2, dp (s9 _ _ g2), mdat_ints c2.2.2.2, (fun z => by rw [isMan_ints c1] at z; cases z), (fun _ z => by rw [isMan_ints c2] at z; cases z), fun _ _ one other e1 e2 => ?_⟩
        cases inj e1; cases inj e2
        refine ⟨u, bs, rfl, .inr (SqT.of upd_same), fun H10 s10 => ?_⟩
        have s10' := s9.trans s10
        have hl10 : H10 l = some (.lst (bs.map V.int)) := s10 _ _ (by rw [upd_ne (ne_of_none upd_same hu)]; exact upd_same)
        refine ⟨_, rfl, _, rfl, _, rfl, _, _, _, _, _, rfl, dp (s10' _ _ g2), mdat_ints c2.2.2.2, dp (s10' _ _ g1), mdat_ints c1.2.2.2, (fun z => by rw [isMan_ints c2] at z; cases z), (fun _ z => by rw [isMan_ints c1] at z; cases z), fun _ _ one other e1 e2 => ?_⟩
        cases inj e1; cases inj e2
        refine ⟨l, bs, rfl, .inl (SqL.of hl10), fun H11 s11 => ?_⟩
        have s11' := s10'.trans s11
        have D11 := D6.frm (Frm.of_same (S := []) s11') (by simp)
        have hbs11 := s11' _ _ hbs
        refine ⟨_, rfl, _, rfl, _, rfl, _, rfl, d, B, bs, rfl, D11, SqL.of hbs11, by omega, fun p ms H12 hms hp hp12 D12 f12 => ?_⟩
        have g1' : H12 t1 = some (.tup (m1.map V.int)) := f12 _ _ (s11' _ _ g1) (by simp [nt D6 g1])
        have g2' : H12 t2 = some (.tup (m2.map V.int)) := f12 _ _ (s11' _ _ g2) (by simp [nt D6 g2])
        have nld : l ≠ d := fun e => by
          obtain ⟨_, z, _⟩ := D6
          rw [← e, hl] at z; cases z
        have hb12 : H12 B = some (.lst (bs.map V.int)) := f12 _ _ hbs11 (by simp [nBd])
        have hl12 : H12 l = some (.lst (bs.map V.int)) := f12 _ _ (s11 _ _ hl10) (by simp [nld])
        refine ⟨_, _, _, _, _, rfl, dp g1', mdat_ints c1.2.2.2, dp g2', mdat_ints c2.2.2.2, (fun z => by rw [isMan_ints c1] at z; cases z), (fun _ z => by rw [isMan_ints c2] at z; cases z), fun _ _ one other e1 e2 => ?_⟩
        cases inj e1; cases inj e2
        refine ⟨p, ms, rfl, .inl (SqL.of hp12), fun H13 s13 => ?_⟩
        refine ⟨(by show 3 ≤ sizeLine; decide), fun F hF => ?_⟩
        have s14 : Same H13 (upd H13 F (.lst [.int (chosenF m1 m2 bs), .int (chosenF m2 m1 bs), .int (chosenF m1 m2 ms)])) := Same.upd_new hF
        -- all three are due
        have q1 : chosenF m1 m2 bs = due := hdc.eq.symm
        have q2 : chosenF m2 m1 bs = due := hdc.symm.eq.symm
        have q3 : chosenF m1 m2 ms = due := (hdc.congr fun x => (hms x).symm).eq.symm
        refine ⟨_, rfl, _, rfl, (by show 1 ≤ sizeLine; decide), fun R hR => ?_⟩
        have s15 := Same.upd_new (o := .lst [V.int due]) hR
        refine ⟨R, 3, _, rfl, rfl, upd_same, by decide, by decide, (by show 1 * 3 ≤ sizeLine; decide), fun G hG => ?_⟩
        have s16 := Same.upd_new (o := .lst (List.replicate (3 : Int).toNat [V.int due]).flatten) hG
        refine ⟨_, _, .list [.int due, .int due, .int due], rfl, .lst (SqL.of (s16 _ _ (s15 _ _ upd_same))) ?_, .lst (SqL.of upd_same) (dp_ints [due, due, due]), ⟨(by show 3 ≤ 100000; decide), ?_⟩, fun H17 s17 => ?_⟩
        · rw [q1, q2, q3]
          exact dp_ints [due, due, due]
        · intro x hx
          simp at hx
          subst hx
          exact trivial
        · refine ⟨_, rfl, iteF ?_⟩
          have e18 := ((((s13.trans s14).trans s15).trans s16).trans s17)
          refine ⟨_, rfl, _, rfl, .list (bs.map .int), .list (bs.map .int), .lst (SqL.of (e18 _ _ hl12)) (dp_ints bs), .lst (SqL.of (e18 _ _ hb12)) (dp_ints bs), shaped_ints _, shaped_ints _, _, rfl, ?_⟩
          have e19 : PyData.eqv (.list (bs.map .int)) (.list (bs.map .int)) = true := by
            show PyData.eqvAll _ _ = _
            rw [eqvAll_ints]; simp
          rw [e19]
          refine iteF ?_
          exact ⟨_, _, _, _, _, _, _, _, rfl, D12.frm (Frm.of_same (S := []) e18) (by simp)⟩
    · rintro σ H2 ⟨v2, v3, v4, v5, v7, v8, v9, v10, rfl, D2⟩
      exact k H2

end
end TL

namespace TL
open PySem L2
/-! ### what the top has written; the last theorem -/
theorem all_mk {l : PySem.W.OpenLaw} {w : World} {K : PySem.W.Frag} {h : Heap} {mg : Str → Option Value} {fa : Addr} (X : K.In h) (G : h.Ns mainGlobals mg) (hfa : mg "law" = some (.ref fa)) {C_LineError C_BadManners a_is_between a_are_manners a_need_manners a_chosen a__law_dice a__law_off a__law_alike a__law_mixed a__law_can a_law : Addr}
    {od_is_between an_is_between od_are_manners an_are_manners od_need_manners an_need_manners od_chosen an_chosen od__law_dice an__law_dice od__law_off an__law_off od__law_alike an__law_alike od__law_mixed an__law_mixed od__law_can an__law_can od_law an_law : Option Addr} {sl_is_between sl_are_manners sl_need_manners sl_chosen sl__law_dice sl__law_off sl__law_alike sl__law_mixed sl__law_can sl_law : Array (Option Value)} {oc_is_between kV_is_between dc_is_between pm_is_between cd_is_between ct_is_between oc_are_manners kV_are_manners dc_are_manners pm_are_manners cd_are_manners ct_are_manners oc_need_manners kV_need_manners dc_need_manners pm_need_manners cd_need_manners ct_need_manners oc_chosen kV_chosen dc_chosen pm_chosen cd_chosen ct_chosen oc__law_dice kV__law_dice dc__law_dice pm__law_dice cd__law_dice ct__law_dice oc__law_off kV__law_off dc__law_off pm__law_off cd__law_off ct__law_off oc__law_alike kV__law_alike dc__law_alike pm__law_alike cd__law_alike ct__law_alike oc__law_mixed kV__law_mixed dc__law_mixed pm__law_mixed cd__law_mixed ct__law_mixed oc__law_can kV__law_can dc__law_can pm__law_can cd__law_can ct__law_can oc_law kV_law dc_law pm_law cd_law ct_law : Value} {tk_MOST : Tok}
    (hC_LineError : PySem.W.nsIn K mainGlobals "LineError" = some (some (.ref C_LineError)))
    (hC_BadManners : PySem.W.nsIn K mainGlobals "BadManners" = some (some (.ref C_BadManners)))
    (hg_is_between : PySem.W.nsIn K mainGlobals "is_between" = some (some (.ref a_is_between)))
    (hl_is_between : K.lookup a_is_between = some ⟨oc_is_between, od_is_between, .func (PySem.W.fnOf "is_between" "is_between" (defArgs s_is_between) (defBody s_is_between) (defScope s_is_between) .none kV_is_between dc_is_between pm_is_between an_is_between cd_is_between ct_is_between), sl_is_between⟩)
    (hc_is_between : PySem.W.codeIn K cd_is_between "is_between" = true)
    (hk_is_between : PySem.W.keepIn K (.ref a_is_between) = true)
    (hg_are_manners : PySem.W.nsIn K mainGlobals "are_manners" = some (some (.ref a_are_manners)))
    (hl_are_manners : K.lookup a_are_manners = some ⟨oc_are_manners, od_are_manners, .func (PySem.W.fnOf "are_manners" "are_manners" (defArgs s_are_manners) (defBody s_are_manners) (defScope s_are_manners) .none kV_are_manners dc_are_manners pm_are_manners an_are_manners cd_are_manners ct_are_manners), sl_are_manners⟩)
    (hc_are_manners : PySem.W.codeIn K cd_are_manners "are_manners" = true)
    (hk_are_manners : PySem.W.keepIn K (.ref a_are_manners) = true)
    (hg_need_manners : PySem.W.nsIn K mainGlobals "need_manners" = some (some (.ref a_need_manners)))
    (hl_need_manners : K.lookup a_need_manners = some ⟨oc_need_manners, od_need_manners, .func (PySem.W.fnOf "need_manners" "need_manners" (defArgs s_need_manners) (defBody s_need_manners) (defScope s_need_manners) .none kV_need_manners dc_need_manners pm_need_manners an_need_manners cd_need_manners ct_need_manners), sl_need_manners⟩)
    (hc_need_manners : PySem.W.codeIn K cd_need_manners "need_manners" = true)
    (hk_need_manners : PySem.W.keepIn K (.ref a_need_manners) = true)
    (hg_chosen : PySem.W.nsIn K mainGlobals "chosen" = some (some (.ref a_chosen)))
    (hl_chosen : K.lookup a_chosen = some ⟨oc_chosen, od_chosen, .func (PySem.W.fnOf "chosen" "chosen" (defArgs s_chosen) (defBody s_chosen) (defScope s_chosen) .none kV_chosen dc_chosen pm_chosen an_chosen cd_chosen ct_chosen), sl_chosen⟩)
    (hc_chosen : PySem.W.codeIn K cd_chosen "chosen" = true)
    (hk_chosen : PySem.W.keepIn K (.ref a_chosen) = true)
    (hg__law_dice : PySem.W.nsIn K mainGlobals "_law_dice" = some (some (.ref a__law_dice)))
    (hl__law_dice : K.lookup a__law_dice = some ⟨oc__law_dice, od__law_dice, .func (PySem.W.fnOf "_law_dice" "_law_dice" (defArgs s__law_dice) (defBody s__law_dice) (defScope s__law_dice) .none kV__law_dice dc__law_dice pm__law_dice an__law_dice cd__law_dice ct__law_dice), sl__law_dice⟩)
    (hc__law_dice : PySem.W.codeIn K cd__law_dice "_law_dice" = true)
    (hk__law_dice : PySem.W.keepIn K (.ref a__law_dice) = true)
    (hg__law_off : PySem.W.nsIn K mainGlobals "_law_off" = some (some (.ref a__law_off)))
    (hl__law_off : K.lookup a__law_off = some ⟨oc__law_off, od__law_off, .func (PySem.W.fnOf "_law_off" "_law_off" (defArgs s__law_off) (defBody s__law_off) (defScope s__law_off) .none kV__law_off dc__law_off pm__law_off an__law_off cd__law_off ct__law_off), sl__law_off⟩)
    (hc__law_off : PySem.W.codeIn K cd__law_off "_law_off" = true)
    (hk__law_off : PySem.W.keepIn K (.ref a__law_off) = true)
    (hg__law_alike : PySem.W.nsIn K mainGlobals "_law_alike" = some (some (.ref a__law_alike)))
    (hl__law_alike : K.lookup a__law_alike = some ⟨oc__law_alike, od__law_alike, .func (PySem.W.fnOf "_law_alike" "_law_alike" (defArgs s__law_alike) (defBody s__law_alike) (defScope s__law_alike) .none kV__law_alike dc__law_alike pm__law_alike an__law_alike cd__law_alike ct__law_alike), sl__law_alike⟩)
    (hc__law_alike : PySem.W.codeIn K cd__law_alike "_law_alike" = true)
    (hk__law_alike : PySem.W.keepIn K (.ref a__law_alike) = true)
    (hg__law_mixed : PySem.W.nsIn K mainGlobals "_law_mixed" = some (some (.ref a__law_mixed)))
    (hl__law_mixed : K.lookup a__law_mixed = some ⟨oc__law_mixed, od__law_mixed, .func (PySem.W.fnOf "_law_mixed" "_law_mixed" (defArgs s__law_mixed) (defBody s__law_mixed) (defScope s__law_mixed) .none kV__law_mixed dc__law_mixed pm__law_mixed an__law_mixed cd__law_mixed ct__law_mixed), sl__law_mixed⟩)
    (hc__law_mixed : PySem.W.codeIn K cd__law_mixed "_law_mixed" = true)
    (hk__law_mixed : PySem.W.keepIn K (.ref a__law_mixed) = true)
    (hg__law_can : PySem.W.nsIn K mainGlobals "_law_can" = some (some (.ref a__law_can)))
    (hl__law_can : K.lookup a__law_can = some ⟨oc__law_can, od__law_can, .func (PySem.W.fnOf "_law_can" "_law_can" (defArgs s__law_can) (defBody s__law_can) (defScope s__law_can) .none kV__law_can dc__law_can pm__law_can an__law_can cd__law_can ct__law_can), sl__law_can⟩)
    (hc__law_can : PySem.W.codeIn K cd__law_can "_law_can" = true)
    (hk__law_can : PySem.W.keepIn K (.ref a__law_can) = true)
    (hg_law : PySem.W.nsIn K mainGlobals "law" = some (some (.ref a_law)))
    (hl_law : K.lookup a_law = some ⟨oc_law, od_law, .func (PySem.W.fnOf "law" "law" (defArgs s_law) (defBody s_law) (defScope s_law) .none kV_law dc_law pm_law an_law cd_law ct_law), sl_law⟩)
    (hc_law : PySem.W.codeIn K cd_law "law" = true)
    (hk_law : PySem.W.keepIn K (.ref a_law) = true)
    (x_LineError : PySem.W.excIn K C_LineError [.type "ValueError", .type "Exception", .type "BaseException", .type "object"] "ValueError.__new__" = true)
    (k_LineError : PySem.W.keepIn K (.ref C_LineError) = true)
    (s_LineError : PySem.W.subIn K (.ref C_LineError) (.type "BaseException") = some true)
    (t_LineError : PySem.W.typeIn K (.ref C_LineError) = some (.type "type"))
    (x_BadManners : PySem.W.excIn K C_BadManners [.type "ValueError", .type "Exception", .type "BaseException", .type "object"] "ValueError.__new__" = true)
    (k_BadManners : PySem.W.keepIn K (.ref C_BadManners) = true)
    (s_BadManners : PySem.W.subIn K (.ref C_BadManners) (.type "BaseException") = some true)
    (t_BadManners : PySem.W.typeIn K (.ref C_BadManners) = some (.type "type"))
    (hv_MOST : PySem.W.nsIn K mainGlobals "MOST" = some (some (.int 9 tk_MOST)))
    (z_abs : PySem.W.nsIn K mainGlobals "abs" = some none)
    (z_all : PySem.W.nsIn K mainGlobals "all" = some none)
    (z_bool : PySem.W.nsIn K mainGlobals "bool" = some none)
    (z_int : PySem.W.nsIn K mainGlobals "int" = some none)
    (z_isinstance : PySem.W.nsIn K mainGlobals "isinstance" = some none)
    (z_len : PySem.W.nsIn K mainGlobals "len" = some none)
    (z_list : PySem.W.nsIn K mainGlobals "list" = some none)
    (z_max : PySem.W.nsIn K mainGlobals "max" = some none)
    (z_range : PySem.W.nsIn K mainGlobals "range" = some none)
    (z_set : PySem.W.nsIn K mainGlobals "set" = some none)
    (z_sorted : PySem.W.nsIn K mainGlobals "sorted" = some none)
    (z_str : PySem.W.nsIn K mainGlobals "str" = some none)
    (z_tuple : PySem.W.nsIn K mainGlobals "tuple" = some none) :
    ∃ fd : FuncData, (∀ (s : Shared) (v : Value), BindsTo s fd ⟨[v], []⟩ [("_law_script", v)]) ∧ ∀ base : Heap, K.In base → base.Ns mainGlobals mg → FnOk l.prog w K mg base CX0 5 fa fd ["_law_script"] (spLaw K) := by
  have e := hfa.symm.trans (PySem.W.mg_of X G hg_law)
  cases e
  let T : Txt K mg := {
    a_is_between := a_is_between
    fd_is_between := _
    F_is_between := fun_mk (st := s_is_between) hl_is_between hc_is_between hk_is_between
    g_is_between := PySem.W.mg_of X G hg_is_between
    b_is_between := (fun_mk (st := s_is_between) hl_is_between hc_is_between hk_is_between).binds (ps := P_is_between) (fun _ _ _ _ _ _ us hl => match us, hl with | [_, _, _], _ => rfl)
    a_are_manners := a_are_manners
    fd_are_manners := _
    F_are_manners := fun_mk (st := s_are_manners) hl_are_manners hc_are_manners hk_are_manners
    g_are_manners := PySem.W.mg_of X G hg_are_manners
    b_are_manners := (fun_mk (st := s_are_manners) hl_are_manners hc_are_manners hk_are_manners).binds (ps := P_are_manners) (fun _ _ _ _ _ _ us hl => match us, hl with | [_], _ => rfl)
    a_need_manners := a_need_manners
    fd_need_manners := _
    F_need_manners := fun_mk (st := s_need_manners) hl_need_manners hc_need_manners hk_need_manners
    g_need_manners := PySem.W.mg_of X G hg_need_manners
    b_need_manners := (fun_mk (st := s_need_manners) hl_need_manners hc_need_manners hk_need_manners).binds (ps := P_need_manners) (fun _ _ _ _ _ _ us hl => match us, hl with | [_], _ => rfl)
    a_chosen := a_chosen
    fd_chosen := _
    F_chosen := fun_mk (st := s_chosen) hl_chosen hc_chosen hk_chosen
    g_chosen := PySem.W.mg_of X G hg_chosen
    b_chosen := (fun_mk (st := s_chosen) hl_chosen hc_chosen hk_chosen).binds (ps := P_chosen) (fun _ _ _ _ _ _ us hl => match us, hl with | [_, _, _], _ => rfl)
    a__law_dice := a__law_dice
    fd__law_dice := _
    F__law_dice := fun_mk (st := s__law_dice) hl__law_dice hc__law_dice hk__law_dice
    g__law_dice := PySem.W.mg_of X G hg__law_dice
    b__law_dice := (fun_mk (st := s__law_dice) hl__law_dice hc__law_dice hk__law_dice).binds (ps := P__law_dice) (fun _ _ _ _ _ _ us hl => match us, hl with | [_, _], _ => rfl)
    a__law_off := a__law_off
    fd__law_off := _
    F__law_off := fun_mk (st := s__law_off) hl__law_off hc__law_off hk__law_off
    g__law_off := PySem.W.mg_of X G hg__law_off
    b__law_off := (fun_mk (st := s__law_off) hl__law_off hc__law_off hk__law_off).binds (ps := P__law_off) (fun _ _ _ _ _ _ us hl => match us, hl with | [_, _], _ => rfl)
    a__law_alike := a__law_alike
    fd__law_alike := _
    F__law_alike := fun_mk (st := s__law_alike) hl__law_alike hc__law_alike hk__law_alike
    g__law_alike := PySem.W.mg_of X G hg__law_alike
    b__law_alike := (fun_mk (st := s__law_alike) hl__law_alike hc__law_alike hk__law_alike).binds (ps := P__law_alike) (fun _ _ _ _ _ _ us hl => match us, hl with | [_, _], _ => rfl)
    a__law_mixed := a__law_mixed
    fd__law_mixed := _
    F__law_mixed := fun_mk (st := s__law_mixed) hl__law_mixed hc__law_mixed hk__law_mixed
    g__law_mixed := PySem.W.mg_of X G hg__law_mixed
    b__law_mixed := (fun_mk (st := s__law_mixed) hl__law_mixed hc__law_mixed hk__law_mixed).binds (ps := P__law_mixed) (fun _ _ _ _ _ _ us hl => match us, hl with | [_, _], _ => rfl)
    a__law_can := a__law_can
    fd__law_can := _
    F__law_can := fun_mk (st := s__law_can) hl__law_can hc__law_can hk__law_can
    g__law_can := PySem.W.mg_of X G hg__law_can
    b__law_can := (fun_mk (st := s__law_can) hl__law_can hc__law_can hk__law_can).binds (ps := P__law_can) (fun _ _ _ _ _ _ us hl => match us, hl with | [_], _ => rfl)
    a_law := fa
    fd_law := _
    F_law := fun_mk (st := s_law) hl_law hc_law hk_law
    g_law := PySem.W.mg_of X G hg_law
    b_law := (fun_mk (st := s_law) hl_law hc_law hk_law).binds (ps := P_law) (fun _ _ _ _ _ _ us hl => match us, hl with | [_], _ => rfl)
    C_LineError := C_LineError
    c_LineError := PySem.W.mg_of X G hC_LineError
    k_LineError := k_LineError
    s_LineError := s_LineError
    t_LineError := t_LineError
    x_LineError := x_LineError
    C_BadManners := C_BadManners
    c_BadManners := PySem.W.mg_of X G hC_BadManners
    k_BadManners := k_BadManners
    s_BadManners := s_BadManners
    t_BadManners := t_BadManners
    x_BadManners := x_BadManners
    tk_MOST := tk_MOST
    v_MOST := PySem.W.mg_of X G hv_MOST
    n_abs := PySem.W.mg_none_of X G z_abs
    n_all := PySem.W.mg_none_of X G z_all
    n_bool := PySem.W.mg_none_of X G z_bool
    n_int := PySem.W.mg_none_of X G z_int
    n_isinstance := PySem.W.mg_none_of X G z_isinstance
    n_len := PySem.W.mg_none_of X G z_len
    n_list := PySem.W.mg_none_of X G z_list
    n_max := PySem.W.mg_none_of X G z_max
    n_range := PySem.W.mg_none_of X G z_range
    n_set := PySem.W.mg_none_of X G z_set
    n_sorted := PySem.W.mg_none_of X G z_sorted
    n_str := PySem.W.mg_none_of X G z_str
    n_tuple := PySem.W.mg_none_of X G z_tuple }
  exact ⟨_, fun s v => .of_eq rfl, fun base _ _ => ok_law T⟩
theorem walk {l : PySem.W.OpenLaw} {q : Program} {loose : List Str} {XP : (Str → Option Value) → Heap → Prop} {YP : World → Heap → Prop} {d : DefRec} {K : Params → PySem.W.Frag} (hn : l.most = some 63) (hdf : d.params.defaults = [])
    (hY : ∀ (w : World) (h : Heap), YP w h → (K w.params).In h)
    (F : ∀ (w : World) (mg : Str → Option Value) (fa : Addr) (h : Heap), (K w.params).In h → h.Ns mainGlobals mg → mg d.name = some (.ref fa) →
      ∃ fd : FuncData, (∀ (s : Shared) (u : Value), BindsTo s fd ⟨[u], []⟩ [("_law_script", u)]) ∧ ∀ base : Heap, (K w.params).In base → base.Ns mainGlobals mg → FnOk l.prog w (K w.params) mg base CX0 5 fa fd ["_law_script"] (spLaw (K w.params))) :
    PySem.W.WalkO q loose XP YP l.row.toRowW d [] (fun f vs => PySem.call f vs) :=
  L2.walk_of (n := 63) (k := 5) (x := "_law_script") (CX := fun _ => CX0) (sp := fun w => spLaw (K w.params)) hn (by decide) hdf ⟨rfl, by decide, by decide⟩ hY F (fun _ _ a ns hl _ hS => ⟨a, ns, rfl, hS, hl, fun _ => rfl⟩) fun _ _ _ _ _ z => z
end TL
open PySem PySem.W PyProof.Rows
set_option maxRecDepth 100000 in
set_option maxHeartbeats 0 in
theorem PySem.Challenge.cw_trainline_k02_chosen_holds : PySem.Challenge.rw_trainline_k02_chosen.Holds := by
  w_on; o_law; k_head; (case hw => w_witness2)
  k_fill
  refine TL.walk (l := PySem.Challenge.rw_trainline_k02_chosen) rfl rfl (fun w h Y => PySem.W.kIn_of Y) ?F
  case F =>
    intro w mg fa h KX G hmg
    refine' TL.all_mk KX G hmg ?hC_LineError ?hC_BadManners ?hg_is_between ?hl_is_between ?hc_is_between ?hk_is_between ?hg_are_manners ?hl_are_manners ?hc_are_manners ?hk_are_manners ?hg_need_manners ?hl_need_manners ?hc_need_manners ?hk_need_manners ?hg_chosen ?hl_chosen ?hc_chosen ?hk_chosen ?hg__law_dice ?hl__law_dice ?hc__law_dice ?hk__law_dice ?hg__law_off ?hl__law_off ?hc__law_off ?hk__law_off ?hg__law_alike ?hl__law_alike ?hc__law_alike ?hk__law_alike ?hg__law_mixed ?hl__law_mixed ?hc__law_mixed ?hk__law_mixed ?hg__law_can ?hl__law_can ?hc__law_can ?hk__law_can ?hg_law ?hl_law ?hc_law ?hk_law ?x_LineError ?k_LineError ?s_LineError ?t_LineError ?x_BadManners ?k_BadManners ?s_BadManners ?t_BadManners ?hv_MOST ?z_abs ?z_all ?z_bool ?z_int ?z_isinstance ?z_len ?z_list ?z_max ?z_range ?z_set ?z_sorted ?z_str ?z_tuple
    (case hC_LineError => first | k_is | rfl)
    (case hC_BadManners => first | k_is | rfl)
    (case hg_is_between => first | k_is | rfl)
    (case hl_is_between => first | k_is | rfl)
    (case hc_is_between => first | k_is | rfl)
    (case hk_is_between => first | k_is | rfl)
    (case hg_are_manners => first | k_is | rfl)
    (case hl_are_manners => first | k_is | rfl)
    (case hc_are_manners => first | k_is | rfl)
    (case hk_are_manners => first | k_is | rfl)
    (case hg_need_manners => first | k_is | rfl)
    (case hl_need_manners => first | k_is | rfl)
    (case hc_need_manners => first | k_is | rfl)
    (case hk_need_manners => first | k_is | rfl)
    (case hg_chosen => first | k_is | rfl)
    (case hl_chosen => first | k_is | rfl)
    (case hc_chosen => first | k_is | rfl)
    (case hk_chosen => first | k_is | rfl)
    (case hg__law_dice => first | k_is | rfl)
    (case hl__law_dice => first | k_is | rfl)
    (case hc__law_dice => first | k_is | rfl)
    (case hk__law_dice => first | k_is | rfl)
    (case hg__law_off => first | k_is | rfl)
    (case hl__law_off => first | k_is | rfl)
    (case hc__law_off => first | k_is | rfl)
    (case hk__law_off => first | k_is | rfl)
    (case hg__law_alike => first | k_is | rfl)
    (case hl__law_alike => first | k_is | rfl)
    (case hc__law_alike => first | k_is | rfl)
    (case hk__law_alike => first | k_is | rfl)
    (case hg__law_mixed => first | k_is | rfl)
    (case hl__law_mixed => first | k_is | rfl)
    (case hc__law_mixed => first | k_is | rfl)
    (case hk__law_mixed => first | k_is | rfl)
    (case hg__law_can => first | k_is | rfl)
    (case hl__law_can => first | k_is | rfl)
    (case hc__law_can => first | k_is | rfl)
    (case hk__law_can => first | k_is | rfl)
    (case hg_law => first | k_is | rfl)
    (case hl_law => first | k_is | rfl)
    (case hc_law => first | k_is | rfl)
    (case hk_law => first | k_is | rfl)
    (case x_LineError => k_exc)
    (case k_LineError => first | k_is | rfl)
    (case s_LineError => first | k_is | rfl)
    (case t_LineError => first | k_is | rfl)
    (case x_BadManners => k_exc)
    (case k_BadManners => first | k_is | rfl)
    (case s_BadManners => first | k_is | rfl)
    (case t_BadManners => first | k_is | rfl)
    (case hv_MOST => first | k_is | rfl)
    (case z_abs => first | k_is | rfl)
    (case z_all => first | k_is | rfl)
    (case z_bool => first | k_is | rfl)
    (case z_int => first | k_is | rfl)
    (case z_isinstance => first | k_is | rfl)
    (case z_len => first | k_is | rfl)
    (case z_list => first | k_is | rfl)
    (case z_max => first | k_is | rfl)
    (case z_range => first | k_is | rfl)
    (case z_set => first | k_is | rfl)
    (case z_sorted => first | k_is | rfl)
    (case z_str => first | k_is | rfl)
    (case z_tuple => first | k_is | rfl)
