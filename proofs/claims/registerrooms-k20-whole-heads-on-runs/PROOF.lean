import PyProof.Rows.All
import Wide.All
import OpenK.AllK
import Wide.FinOn
import HandS.ForMost
import HandS.Defaults
import HandS.MakeKwOnly
import HandS.HeadWalk
import HandS.HeadHook4
import HandS.Head2
import HandS.SlotsOwn
import HandS.IsInst
import HandS.DictComp
import HandS.Conv
import HandS.Wide
import HandS.Style
import HandS.TupAny
import HandS.TupMul
import HandS.Codes
import HandS.Nested
import HandS.Small
import PySem.Challenge.RW_registerrooms_k20_whole_heads_on_runs
import KE.GoesEnum
import HandS.Star
import KE.KLam
import KE.KMinKey
import KE.KSortKey
import HandS.Lambda
import HandS.SortKw
import KE.KSuper
import HandS.ClsMeth
import PyProof.ListMulRoad
import KE.KNestM
set_option Elab.async false
set_option linter.all false
set_option maxRecDepth 100000
set_option maxHeartbeats 4000000
/-! ### the text by places -/
namespace Rr
open PySem PySem.Spec PyProof.Rows L2
def top (i : Nat) : Stmt := PySem.Challenge.pw_registerrooms_k20_whole_heads_on_runs.main.body.getD i (.Pass ⟨0, 0, 0, 0⟩)
abbrev s_wall : Stmt := top 0
abbrev s_BadProgram___init__ : Stmt := inClass (top 3) 0
abbrev s_BadInputs___init__ : Stmt := inClass (top 5) 0
abbrev s_is_integer : Stmt := top 14
abbrev s_is_row : Stmt := top 15
abbrev s_is_end : Stmt := top 16
abbrev s_targets_of : Stmt := top 17
abbrev s_are_reached : Stmt := top 18
abbrev s_Blocks___init__ : Stmt := inClass (top 19) 1
abbrev s_Blocks___len__ : Stmt := inClass (top 19) 2
abbrev s_Blocks___getitem__ : Stmt := inClass (top 19) 3
abbrev s_Blocks___iter__ : Stmt := inClass (top 19) 4
abbrev s_Blocks_rows : Stmt := inClass (top 19) 5
abbrev s_Blocks_end : Stmt := inClass (top 19) 6
abbrev s_Blocks_followers : Stmt := inClass (top 19) 7
abbrev s_Blocks_edges_into : Stmt := inClass (top 19) 8
abbrev s_Blocks_points : Stmt := inClass (top 19) 9
abbrev s_is_plain_block : Stmt := top 20
abbrev s_Program___init__ : Stmt := inClass (top 21) 1
abbrev s_Program___eq__ : Stmt := inClass (top 21) 2
abbrev s_Program_parts : Stmt := inClass (top 21) 3
abbrev s_Program_with_blocks : Stmt := inClass (top 21) 4
abbrev s_Program_first_numbers : Stmt := inClass (top 21) 5
abbrev s_Program_entered : Stmt := inClass (top 21) 6
abbrev s_check_program : Stmt := top 22
abbrev s_check_graph : Stmt := top 24
abbrev s_check_block : Stmt := top 25
abbrev s_heads_by_steps : Stmt := top 26
abbrev s_heads : Stmt := top 27
abbrev s_head_of : Stmt := top 28
abbrev s_what_is_next : Stmt := top 30
abbrev s_takes_next : Stmt := top 31
abbrev s_value_of : Stmt := top 32
abbrev s_with_number : Stmt := top 33
abbrev s_stepped : Stmt := top 34
abbrev s_steps_from : Stmt := top 35
abbrev s_is_state : Stmt := top 36
abbrev s_is_step : Stmt := top 37
abbrev s_step : Stmt := top 38
abbrev s_law_cell_at : Stmt := top 40
abbrev s_law_draw : Stmt := top 41
abbrev s_law_number : Stmt := top 42
abbrev s_law_next : Stmt := top 43
abbrev s_law_pick : Stmt := top 44
abbrev s_law_row : Stmt := top 45
abbrev s_law_outs : Stmt := top 46
abbrev s_law_end : Stmt := top 47
abbrev s_law_plain : Stmt := top 48
abbrev s_law_made : Stmt := top 49
abbrev s_law_hands : Stmt := top 50
abbrev s_law_first : Stmt := top 51
abbrev s_law_coming : Stmt := top 52
abbrev s_law_options : Stmt := top 53
abbrev s_law_rows_right : Stmt := top 54
abbrev s_law : Stmt := top 55
/-! ### what the walks ask of the module as the top has left it -/
/-- a def of the module under its name, no defaults -/
def FnAt (K : PySem.W.Frag) (mg : Str → Option Value) (x : Str) (st : Stmt) : Prop := mg x = some (.ref (He.ga K x)) ∧ ∃ fd, FunD K x x (defArgs st) (defBody st) (defScope st) [] [] (He.ga K x) fd
/-- a method of the class Program (its own, or that of Blocks) -/
def MtAt (K : PySem.W.Frag) (m qual : Str) (st : Stmt) : Prop := Meth K (He.ga K "Program") m (He.ma K (He.ga K "Program") m) ∧ ∃ fd, FunD K m qual (defArgs st) (defBody st) (defScope st) [] [] (He.ma K (He.ga K "Program") m) fd
structure Facts (w : World) (K : PySem.W.Frag) (mg : Str → Option Value) : Prop where
  b_isinstance : mg "isinstance" = none
  b_int : mg "int" = none
  b_bool : mg "bool" = none
  b_tuple : mg "tuple" = none
  b_str : mg "str" = none
  b_list : mg "list" = none
  b_len : mg "len" = none
  b_all : mg "all" = none
  b_range : mg "range" = none
  b_enumerate : mg "enumerate" = none
  b_sorted : mg "sorted" = none
  b_min : mg "min" = none
  b_max : mg "max" = none
  c_MOST_VARIABLES : ∃ u, mg "MOST_VARIABLES" = some u ∧ RelV (.int 8) u
  c_MOST_BLOCKS : ∃ u, mg "MOST_BLOCKS" = some u ∧ RelV (.int 16) u
  c_MOST_ROWS : ∃ u, mg "MOST_ROWS" = some u ∧ RelV (.int 12) u
  c_MOST_SPAN : ∃ u, mg "MOST_SPAN" = some u ∧ RelV (.int 8) u
  c_MOST_HANDED : ∃ u, mg "MOST_HANDED" = some u ∧ RelV (.int 3) u
  g_Blocks : mg "Blocks" = some (.ref (He.ga K "Blocks"))
  g_Program : mg "Program" = some (.ref (He.ga K "Program"))
  g_SIZES : mg "SIZES" = some (.ref (He.ga K "SIZES"))
  szD : ∃ es n, KDict K w (He.ga K "SIZES") es n
  sz : ∀ q ∈ ([("put", 3), ("move", 3), ("add", 4), ("sub", 4), ("less", 4), ("take", 2), ("tell", 2)] : List (Str × Int)), ∃ u, PySem.W.nsIn K (He.ga K "SIZES") q.1 = some (some u) ∧ RelV (.int q.2) u
/-! ### a def that may be called by its name -/
structure Cal (P : Program) (w : World) (K : PySem.W.Frag) (mg : Str → Option Value) (base : Heap) (k : Nat) (x : Str) (sp : Sp) : Prop where
  ex : ∃ (f : Addr) (fd : FuncData) (ps : List Str), FnOk P w K mg base CX0 k f fd ps sp ∧ mg x = some (.ref f) ∧ PySem.W.keepIn K (.ref f) = true ∧ Binds K fd ps []
section
variable {P : Program} {w : World} {K : PySem.W.Frag} {mg : Str → Option Value} {base : Heap}
theorem cal_mk {x : Str} {st : Stmt} {N ps : List Str} {k : Nat} {sp : Sp} (F : FnAt K mg x st) (S : FnScope N ps (defScope st))
    (hb : ∀ (kV doc pm : Value) (an : Option Addr) (cdv ct : Value) (us : List Value), us.length = ps.length → bindArgs (PySem.W.fnOf x x (defArgs st) (defBody st) (defScope st) .none kV doc pm an cdv ct) ⟨us, []⟩ = pure (ps.zip us))
    (len : ∀ vs H Q E, sp vs H Q E → vs.length = ps.length)
    (hbody : ∀ (f : Addr) (cdv : Value) (A : Around) (outer : List Env) (s : Shared) (H : Hp) (vs : List V) (Q : VK) (E : XK), Room k (A.deeper (envOfC x (defScope st) s.heap.objs.size f cdv)) → sp vs H Q E →
      ∃ t, PSs (cxOf CX0 P w K mg base N x (defScope st) f cdv A outer s H E).nox (defBody st) t ∧ t { nx := fun _ H' => Q .non H', rt := Q } (start N vs) H) : Cal P w K mg base (k + 1) x sp := by
  obtain ⟨hm, fd, F⟩ := F
  refine ⟨_, fd, ps, F.ok S len fun cdv A outer s H vs Q E hr hsp => ?_, hm, F.kp, F.bindsN hb⟩
  obtain ⟨t, h, q⟩ := hbody _ cdv A outer s H vs Q E hr hsp
  exact ⟨t, h.nox, q⟩
theorem Cal.imp {x : Str} {k : Nat} {sp sp' : Sp} (c : Cal P w K mg base k x sp) (h : ∀ vs H Q E, sp' vs H Q E → sp vs H Q E) : Cal P w K mg base k x sp' := by
  obtain ⟨f, fd, ps, F, a, b, d⟩ := c.ex
  exact ⟨f, fd, ps, F.imp h, a, b, d⟩
end
section
variable {X : Cx} {k j : Nat} {x : Str} {sp : Sp} {p pos : Pos} {e : Expr} {es : List Expr} {t : TA}
theorem pc (c : Cal X.prog X.w X.K X.mg X.base k x sp) (hr : Room j X.A) (hk : k ≤ j) (hg : Gl X x) (ha : PA X (e :: es) t)
    (hdb : (x == ("__debug__" : Str)) = false := by decide) (he : starEach (e :: es) X.env = (false, eval e X.env) :: starEach es X.env := by rfl) (hpl : (backTo pos (starEach es X.env)).any (·.1) = false := by rfl) :
    PE X (.Call (.Name x p) (e :: es) [] pos) (tCall sp [] E0 t) := by
  obtain ⟨f, fd, ps, F, hm, kp, b⟩ := c.ex
  exact pe_call F (hr.mono hk) hg hm kp b .nil pass0 ha hdb he hpl
end
/-! ### isinstance of a built-in type -/
theorem isi_ty {K : PySem.W.Frag} {H : Hp} {x : V} {a n : String} {b : Bool} {Q : VK} (h : TyX K H x (.type a)) (k : kitB a n = some b) (q : Q (.bl b) H) : rIsi K [x, .ty n] H Q :=
  ⟨x, .ty n, _, _, b, rfl, .ty n, h, kit_ty k, q⟩
theorem iteF' {A B : Prop} {b : Bool} (e : b = false) (h : B) : if b = true then A else B := by
  rw [e]
  exact iteF h
theorem iteT' {A B : Prop} {b : Bool} (e : b = true) (h : A) : if b = true then A else B := by
  rw [e]
  exact iteT h
theorem dF {x y : Str} (h : x ≠ y) : decide (V.str x = V.str y) = false := decide_eq_false fun z => h (V.str.inj z)
theorem dT {x y : Str} (h : x = y) : decide (V.str x = V.str y) = true := decide_eq_true (congrArg V.str h)
theorem int_ok {i lo hi : Int} (h1 : lo ≤ i) (h2 : i ≤ hi) : (decide (lo ≤ i) && decide (i ≤ hi)) = true := by
  rw [decide_eq_true h1, decide_eq_true h2] <;> rfl
theorem q_true {Q : VK} {H : Hp} {b : Bool} (e : b = true) (q : Q (.bl true) H) : Q (.bl b) H := by
  rw [e]
  exact q
theorem q_false {Q : VK} {H : Hp} {b : Bool} (e : b = false) (q : Q (.bl false) H) : Q (.bl b) H := by
  rw [e]
  exact q
/-! ### data stays -/
theorem Same.rd {H H' : Hp} {a : Addr} {u : HO} (e : Same H H') (h : Rd H a u) : Rd H' a u := by
  rcases h with h | ⟨o, h⟩
  · exact Or.inl (e a _ h)
  · exact Or.inr ⟨o, e a _ h⟩
theorem Same.sqt {K : PySem.W.Frag} {H H' : Hp} {a : Addr} {xs : List V} (e : Same H H') (h : SqT K H a xs) : SqT K H' a xs := by
  rcases h with h | h
  · exact Or.inl (Same.rd e h)
  · exact Or.inr h
theorem Same.new {H : Hp} {p : Addr} {o : HO} (h : H p = Option.none) : Same H (upd H p o) := fun a u e => by
  rw [upd_ne (ne_of_none e h)]
  exact e
mutual
theorem dp_ext {K : PySem.W.Frag} {H H' : Hp} (e : Same H H') : ∀ {v : V} {d : PyData}, Dp K H v d → Dp K H' v d
  | _, _, .non => .non
  | _, _, .bl b => .bl b
  | _, _, .int i => .int i
  | _, _, .str x => .str x
  | _, _, .lst hs ha => .lst (Same.seq e hs) (dpAll_ext e ha)
  | _, _, .tup hs ha => .tup (Same.sqt e hs) (dpAll_ext e ha)
theorem dpAll_ext {K : PySem.W.Frag} {H H' : Hp} (e : Same H H') : ∀ {vs : List V} {ds : List PyData}, DpAll K H vs ds → DpAll K H' vs ds
  | _, _, .nil => .nil
  | _, _, .cons h t => .cons (dp_ext e h) (dpAll_ext e t)
end
theorem DpAll.len {K : PySem.W.Frag} {H : Hp} : ∀ {vs : List V} {ds : List PyData}, DpAll K H vs ds → vs.length = ds.length
  | _, _, .nil => rfl
  | _, _, .cons _ t => by rw [List.length_cons, List.length_cons, DpAll.len t]
theorem DpAll.at_ {K : PySem.W.Frag} {H : Hp} : ∀ {vs : List V} {ds : List PyData} {i : Nat} {d : PyData}, DpAll K H vs ds → ds[i]? = some d → ∃ v, vs[i]? = some v ∧ Dp K H v d
  | _, _, _, _, .nil, e => by simp at e
  | _, _, 0, d, .cons h _, e => by
    simp only [List.getElem?_cons_zero, Option.some.injEq] at e
    subst e
    exact ⟨_, rfl, h⟩
  | _, _, i + 1, d, .cons _ t, e => by
    obtain ⟨v, h1, h2⟩ := DpAll.at_ (i := i) (d := d) t (by simpa using e)
    exact ⟨v, by simpa using h1, h2⟩
theorem DpAll.app {K : PySem.W.Frag} {H : Hp} : ∀ {vs ws : List V} {ds es : List PyData}, DpAll K H vs ds → DpAll K H ws es → DpAll K H (vs ++ ws) (ds ++ es)
  | _, _, _, _, .nil, q => q
  | _, _, _, _, .cons h t, q => .cons h (DpAll.app t q)
theorem DpAll.ints {K : PySem.W.Frag} {H : Hp} : ∀ ns : List Int, DpAll K H (ns.map V.int) (ns.map PyData.int)
  | [] => .nil
  | n :: r => .cons (.int n) (DpAll.ints r)
theorem Dp.isTup {K : PySem.W.Frag} {H : Hp} {v : V} {ds : List PyData} (h : Dp K H v (.tuple ds)) : ∃ a xs, v = .ref a ∧ SqT K H a xs ∧ DpAll K H xs ds := by
  cases h with
  | tup hs ha => exact ⟨_, _, rfl, hs, ha⟩
theorem Dp.isLst {K : PySem.W.Frag} {H : Hp} {v : V} {ds : List PyData} (h : Dp K H v (.list ds)) : ∃ a xs, v = .ref a ∧ SqL K H a xs ∧ DpAll K H xs ds := by
  cases h with
  | lst hs ha => exact ⟨_, _, rfl, hs, ha⟩
theorem Dp.int_eq {K : PySem.W.Frag} {H : Hp} {v : V} {i : Int} (h : Dp K H v (.int i)) : v = .int i := by cases h; rfl
theorem Dp.str_eq {K : PySem.W.Frag} {H : Hp} {v : V} {x : Str} (h : Dp K H v (.str x)) : v = .str x := by cases h; rfl
theorem Dp.non_eq {K : PySem.W.Frag} {H : Hp} {v : V} (h : Dp K H v .none) : v = .non := by cases h; rfl
theorem DpAll.ints_eq {K : PySem.W.Frag} {H : Hp} : ∀ {vs : List V} {ns : List Int}, DpAll K H vs (ns.map PyData.int) → vs = ns.map V.int
  | _, [], .nil => rfl
  | _, n :: r, .cons h t => by
    rw [Dp.int_eq h, DpAll.ints_eq t] <;> rfl
/-- a tuple in a heap is a tuple that isinstance knows -/
theorem ty_tup {K : PySem.W.Frag} {H : Hp} {a : Addr} {xs : List V} (h : SqT K H a xs) : TyX K H (.ref a) (.type "tuple") := by
  rcases h with (h | ⟨o, h⟩) | ⟨o, its, n, h, hc, _⟩
  · exact .base (.tup h)
  · exact .fTuple h
  · exact .kTuple h hc
end Rr
/-! ### the data of a program: rows, ends, blocks -/
namespace Rr
open PySem PySem.Spec PyProof.Rows L2
inductive Op3 where
  | add | sub | less
  deriving DecidableEq
def Op3.w : Op3 → Str
  | .add => "add"
  | .sub => "sub"
  | .less => "less"
inductive Rw where
  | put (r n : Nat) | move (r s : Nat) | op (o : Op3) (r s t : Nat) | take (r : Nat) | tell (r : Nat)
def Rw.word : Rw → Str
  | .put _ _ => "put"
  | .move _ _ => "move"
  | .op o _ _ _ => o.w
  | .take _ => "take"
  | .tell _ => "tell"
def Rw.nats : Rw → List Nat
  | .put r n => [r, n]
  | .move r s => [r, s]
  | .op _ r s t => [r, s, t]
  | .take r => [r]
  | .tell r => [r]
def Rw.ints (r : Rw) : List Int := r.nats.map fun (n : Nat) => (n : Int)
def Rw.d (r : Rw) : PyData := .tuple (.str r.word :: r.ints.map PyData.int)
def Rw.ok (many span : Nat) : Rw → Prop
  | .put r n => r < many ∧ n < span
  | r => ∀ x ∈ r.nats, x < many
inductive En where
  | stop | go (b : Nat) | part (r b c : Nat)
def En.d : En → PyData
  | .stop => .tuple [.str "stop"]
  | .go b => .tuple [.str "go", .int b]
  | .part r b c => .tuple [.str "part", .int r, .int b, .int c]
def En.ok (many size : Nat) : En → Prop
  | .stop => True
  | .go b => 1 ≤ b ∧ b < size
  | .part r b c => r < many ∧ 1 ≤ b ∧ b < size ∧ 1 ≤ c ∧ c < size
def En.outs : En → List Nat
  | .stop => []
  | .go b => [b]
  | .part _ b c => [b, c]
structure Bk where
  rows : List Rw
  fin : En
def Bk.d (b : Bk) : PyData := .tuple [.tuple (b.rows.map Rw.d), b.fin.d]
def dBks (bs : List Bk) : PyData := .tuple (bs.map Bk.d)
structure Bk.ok (many span size : Nat) (b : Bk) : Prop where
  few : b.rows.length ≤ 12
  rows : ∀ r ∈ b.rows, r.ok many span
  fin : b.fin.ok many size
/-! ### what a comparison asks of data -/
def Sh (n : Nat) (d : PyData) : Prop := d.canLay0 = true ∧ d.depth ≤ n
theorem Sh.shaped {n : Nat} {d : PyData} (h : Sh n d) (hn : n ≤ 64) : SeqAt.shaped d = true := by
  unfold SeqAt.shaped
  rw [h.1, decide_eq_true (Nat.le_trans h.2 hn)] <;> rfl
theorem Sh.mono {n m : Nat} {d : PyData} (h : Sh n d) (hn : n ≤ m) : Sh m d := ⟨h.1, Nat.le_trans h.2 hn⟩
theorem sh_all : ∀ {n : Nat} {ds : List PyData}, (∀ d ∈ ds, Sh n d) → PyData.canLayAll0 ds = true ∧ PyData.depthAll ds ≤ n
  | n, [], _ => ⟨by simp [PyData.canLayAll0], by simp [PyData.depthAll]⟩
  | n, d :: r, h => by
    obtain ⟨a, b⟩ := sh_all (n := n) (ds := r) fun x hx => h x (List.mem_cons_of_mem _ hx)
    obtain ⟨c, e⟩ := h d List.mem_cons_self
    simp only [PyData.canLayAll0, PyData.depthAll, a, c, Bool.and_self, true_and]
    exact Nat.max_le.mpr ⟨e, b⟩
theorem sh_tup {n : Nat} {ds : List PyData} (h : ∀ d ∈ ds, Sh n d) : Sh (n + 1) (.tuple ds) := by
  obtain ⟨a, b⟩ := sh_all h
  refine ⟨?_, ?_⟩
  · simp only [PyData.canLay0]
    exact a
  · simp only [PyData.depth]
    omega
theorem sh_lst {n : Nat} {ds : List PyData} (h : ∀ d ∈ ds, Sh n d) : Sh (n + 1) (.list ds) := by
  obtain ⟨a, b⟩ := sh_all h
  refine ⟨?_, ?_⟩
  · simp only [PyData.canLay0]
    exact a
  · simp only [PyData.depth]
    omega
theorem sh_int (i : Int) : Sh 0 (.int i) := ⟨by simp [PyData.canLay0], by simp [PyData.depth]⟩
theorem sh_non : Sh 0 .none := ⟨by simp [PyData.canLay0], by simp [PyData.depth]⟩
theorem sh_str {x : Str} (h : PyData.strOk x = true) : Sh 0 (.str x) := ⟨by simp only [PyData.canLay0]; exact h, by simp [PyData.depth]⟩
theorem sh_ints (ns : List Int) : Sh 1 (.list (ns.map PyData.int)) := sh_lst fun d hd => by
  obtain ⟨i, _, rfl⟩ := List.mem_map.mp hd
  exact sh_int i
theorem sh_nil : Sh 1 (.tuple []) := sh_tup fun d hd => by cases hd
theorem sh_nilL : Sh 1 (.list []) := sh_lst fun d hd => by cases hd
theorem Op3.okw (o : Op3) : PyData.strOk o.w = true := by cases o <;> decide +kernel
theorem Rw.okw (r : Rw) : PyData.strOk r.word = true := by
  cases r with
  | op o _ _ _ => exact o.okw
  | put _ _ => exact (by decide +kernel : PyData.strOk "put" = true)
  | move _ _ => exact (by decide +kernel : PyData.strOk "move" = true)
  | take _ => exact (by decide +kernel : PyData.strOk "take" = true)
  | tell _ => exact (by decide +kernel : PyData.strOk "tell" = true)
theorem Rw.sh (r : Rw) : Sh 1 r.d := sh_tup fun d hd => by
  rcases List.mem_cons.mp hd with rfl | hd
  · exact sh_str r.okw
  · obtain ⟨i, _, rfl⟩ := List.mem_map.mp hd
    exact sh_int i
theorem En.sh (e : En) : Sh 1 e.d := by
  cases e with
  | stop =>
    refine sh_tup fun d hd => ?_
    simp only [List.mem_cons, List.not_mem_nil, or_false] at hd
    subst hd
    exact sh_str (by decide +kernel)
  | go b =>
    refine sh_tup fun d hd => ?_
    simp only [List.mem_cons, List.not_mem_nil, or_false] at hd
    rcases hd with rfl | rfl
    · exact sh_str (by decide +kernel)
    · exact sh_int _
  | part r b c =>
    refine sh_tup fun d hd => ?_
    simp only [List.mem_cons, List.not_mem_nil, or_false] at hd
    rcases hd with rfl | rfl | rfl | rfl
    · exact sh_str (by decide +kernel)
    · exact sh_int _
    · exact sh_int _
    · exact sh_int _
theorem Bk.sh (b : Bk) : Sh 3 b.d := sh_tup fun d hd => by
  simp only [List.mem_cons, List.not_mem_nil, or_false] at hd
  rcases hd with rfl | rfl
  · refine sh_tup fun d hd => ?_
    obtain ⟨r, _, rfl⟩ := List.mem_map.mp hd
    exact r.sh
  · exact b.fin.sh.mono (by decide)
theorem eqv_nil (d : PyData) (ds : List PyData) : PyData.eqv (.tuple (d :: ds)) (.tuple []) = false := by simp [PyData.eqv, PyData.eqvAll]
theorem eqv_nilL (d : PyData) (ds : List PyData) : PyData.eqv (.list (d :: ds)) (.list []) = false := by simp [PyData.eqv, PyData.eqvAll]
theorem eqv_nn : PyData.eqv (.list []) (.list []) = true := by simp [PyData.eqv, PyData.eqvAll]
theorem eqv_ints (ns ms : List Int) : PyData.eqv (.list (ns.map PyData.int)) (.list (ms.map PyData.int)) = decide (ns = ms) := by
  rw [PyData.eqv]
  induction ns generalizing ms with
  | nil => cases ms <;> simp [PyData.eqvAll]
  | cons n r ih =>
    cases ms with
    | nil => simp [PyData.eqvAll]
    | cons m q =>
      simp only [List.map_cons, PyData.eqvAll, PyData.eqv, ih q]
      by_cases h : n = m
      · subst h
        by_cases h2 : r = q
        · subst h2
          simp
        · simp [h2]
      · simp [h]
/-- t == () of a written tuple that is not empty -/
theorem ne_nil {K : PySem.W.Frag} {H : Hp} {v : V} {d : PyData} {ds : List PyData} {n : Nat} {p : Addr} {Q : VK} (h : Dp K H v (.tuple (d :: ds))) (hs : Sh n (.tuple (d :: ds))) (hn : n ≤ 64) (hp : H p = none)
    (q : Q (.bl false) (upd H p (.tup []))) : rEqD K v (.ref p) (upd H p (.tup [])) Q :=
  ⟨_, _, dp_ext (Same.new hp) h, .tup (.inl (.inl upd_same)) .nil, hs.shaped hn, sh_nil.shaped (by decide), by rw [eqv_nil]; exact q⟩
theorem line1 {n : Nat} (h : n ≤ 1000) : n ≤ sizeLine := Nat.le_of_lt (small1000 h)
end Rr
/-! ### comprehensions whose elements leave what stands as it is -/
namespace Rr
open PySem PySem.Spec PyProof.Rows L2
theorem Same.app {H H' : Hp} {D : Addr} {o : HO} (e : Same H H') (hD : H D = Option.none) : Same H (upd H' D o) := fun b u h => by
  rw [upd_ne (ne_of_none h hD)]
  exact e b u h
theorem take_next {α : Type} {xs : List α} {i : Nat} {x : α} (h : xs[i]? = some x) : xs.take (i + 1) = xs.take i ++ [x] := by
  rw [List.take_add_one, h] <;> rfl
section
variable {K : PySem.W.Frag} {a : Addr} {xs : List V} {tt : TT} {te : TE} {vs : List Nat} {σ : L2.St} {H1 : Hp} {D : Addr} {Qd : Hp → Prop} {j : Nat}
/-- the turn, common to list and tuple -/
theorem lc_turn (p : V → Bool) (f : V → V) (hz : xs.length ≤ 1000) (hD : H1 D = Option.none) (hw : ∀ x, wipe ((wipe σ vs).set j (some x)) vs = wipe σ vs)
    (ht : ∀ x ∈ xs, ∀ (H' : Hp) (Q : Bool → Hp → Prop), Same H1 H' → (∀ H'', Same H' H'' → Q (p x) H'') → tt ((wipe σ vs).set j (some x)) H' Q)
    (he : ∀ x ∈ xs, p x = true → ∀ (H' : Hp) (Q : VK), Same H1 H' → (∀ H'', Same H' H'' → Q (f x) H'') → te ((wipe σ vs).set j (some x)) H' Q) :
    ∀ i x H', xs[i]? = some x → (Same H1 H' ∧ H' D = some (.lst (((xs.take i).filter p).map f))) → gName j x (wipe σ vs) H' fun σ2 H2 => wipe σ2 vs = wipe σ vs ∧ tt σ2 H2 fun b H3 =>
      if b = true then te σ2 H3 fun y H4 => ∃ acc, H4 D = some (.lst acc) ∧ acc.length < sizeLine ∧ (Same H1 (upd H4 D (.lst (acc ++ [y]))) ∧ (upd H4 D (.lst (acc ++ [y]))) D = some (.lst (((xs.take (i + 1)).filter p).map f))) else (Same H1 H3 ∧ H3 D = some (.lst (((xs.take (i + 1)).filter p).map f))) := by
  intro i x H' hi ⟨s1, d1⟩
  have hm : x ∈ xs := List.mem_of_getElem? hi
  refine ⟨hw x, ht x hm H' _ s1 fun H3 e3 => ?_⟩
  have en : ((xs.take (i + 1)).filter p).map f = ((xs.take i).filter p).map f ++ (if p x = true then [f x] else []) := by
    rw [take_next hi, List.filter_append, List.map_append]
    by_cases hp : p x = true
    · rw [if_pos hp, List.filter_cons_of_pos hp] <;> rfl
    · rw [if_neg hp, List.filter_cons_of_neg hp] <;> rfl
  by_cases hp : p x = true
  · rw [hp]
    refine iteT (he x hm hp H3 _ (s1.trans e3) fun H4 e4 => ⟨_, e4 D _ (e3 D _ d1), ?_, Same.app ((s1.trans e3).trans e4) hD, ?_⟩)
    · rw [List.length_map]
      have h1 := List.length_filter_le p (xs.take i)
      have h2 : (xs.take i).length ≤ xs.length := by rw [List.length_take]; omega
      exact small1000 (by omega)
    · rw [upd_same, en, if_pos hp]
  · have hp' : p x = false := by
      cases q : p x with
      | true => exact absurd q hp
      | false => rfl
    rw [hp']
    refine iteF ⟨s1.trans e3, ?_⟩
    rw [en, if_neg hp, List.append_nil]
    exact e3 D _ d1
theorem lc_list_fm (p : V → Bool) (f : V → V) (hx : SqL K H1 a xs) (hz : xs.length ≤ 1000) (hD : H1 D = Option.none) (hw : ∀ x, wipe ((wipe σ vs).set j (some x)) vs = wipe σ vs)
    (ht : ∀ x ∈ xs, ∀ (H' : Hp) (Q : Bool → Hp → Prop), Same H1 H' → (∀ H'', Same H' H'' → Q (p x) H'') → tt ((wipe σ vs).set j (some x)) H' Q)
    (he : ∀ x ∈ xs, p x = true → ∀ (H' : Hp) (Q : VK), Same H1 H' → (∀ H'', Same H' H'' → Q (f x) H'') → te ((wipe σ vs).set j (some x)) H' Q)
    (hd : ∀ H', Same H1 H' → H' D = some (.lst ((xs.filter p).map f)) → Qd H') :
    ∃ W : Nat → Nat → Hp → Prop, (∃ m, W 0 m (upd H1 D (.lst []))) ∧ ∀ i m H, W i m H →
      ((Itl K a).stop i H ∧ Qd H) ∨ ((Itl K a).go i H ∧ ∃ Nx : Hp → Prop, (∀ H', Nx H' → ∃ m', m' < m ∧ W (i + 1) m' H') ∧ ∀ x H', (Itl K a).yld i H x H' → gName j x (wipe σ vs) H' fun σ2 H2 => wipe σ2 vs = wipe σ vs ∧ tt σ2 H2 fun b H3 =>
        if b = true then te σ2 H3 fun y H4 => ∃ acc, H4 D = some (.lst acc) ∧ acc.length < sizeLine ∧ Nx (upd H4 D (.lst (acc ++ [y]))) else Nx H3) :=
  lc_list (K := K) (a := a) (xs := xs) (fun i H' => Same H1 H' ∧ H' D = some (.lst (((xs.take i).filter p).map f))) ⟨Same.new hD, by rw [upd_same] <;> rfl⟩ (fun i H' _ q => Same.seq q.1 hx)
    (lc_turn p f hz hD hw ht he) (fun H' q => hd H' q.1 (by rw [q.2, List.take_length]))
theorem lc_tup_fm (p : V → Bool) (f : V → V) (hx : SqT K H1 a xs) (hz : xs.length ≤ 1000) (hD : H1 D = Option.none) (hw : ∀ x, wipe ((wipe σ vs).set j (some x)) vs = wipe σ vs)
    (ht : ∀ x ∈ xs, ∀ (H' : Hp) (Q : Bool → Hp → Prop), Same H1 H' → (∀ H'', Same H' H'' → Q (p x) H'') → tt ((wipe σ vs).set j (some x)) H' Q)
    (he : ∀ x ∈ xs, p x = true → ∀ (H' : Hp) (Q : VK), Same H1 H' → (∀ H'', Same H' H'' → Q (f x) H'') → te ((wipe σ vs).set j (some x)) H' Q)
    (hd : ∀ H', Same H1 H' → H' D = some (.lst ((xs.filter p).map f)) → Qd H') :
    ∃ W : Nat → Nat → Hp → Prop, (∃ m, W 0 m (upd H1 D (.lst []))) ∧ ∀ i m H, W i m H →
      ((Itt K a).stop i H ∧ Qd H) ∨ ((Itt K a).go i H ∧ ∃ Nx : Hp → Prop, (∀ H', Nx H' → ∃ m', m' < m ∧ W (i + 1) m' H') ∧ ∀ x H', (Itt K a).yld i H x H' → gName j x (wipe σ vs) H' fun σ2 H2 => wipe σ2 vs = wipe σ vs ∧ tt σ2 H2 fun b H3 =>
        if b = true then te σ2 H3 fun y H4 => ∃ acc, H4 D = some (.lst acc) ∧ acc.length < sizeLine ∧ Nx (upd H4 D (.lst (acc ++ [y]))) else Nx H3) :=
  lc_tup (K := K) (a := a) (xs := xs) (fun i H' => Same H1 H' ∧ H' D = some (.lst (((xs.take i).filter p).map f))) ⟨Same.new hD, by rw [upd_same] <;> rfl⟩ (fun i H' _ q => Same.sqt q.1 hx)
    (lc_turn p f hz hD hw ht he) (fun H' q => hd H' q.1 (by rw [q.2, List.take_length]))
theorem tyes {σ' : L2.St} {p : V → Bool} {x : V} (h : p x = true) : ∀ (H' : Hp) (Q : Bool → Hp → Prop), Same H1 H' → (∀ H'', Same H' H'' → Q (p x) H'') → tYes σ' H' Q := fun H' Q _ q => by
  have z := q H' (Same.refl H')
  rw [h] at z
  exact z
theorem tyes1 {σ' : L2.St} : ∀ (H' : Hp) (Q : Bool → Hp → Prop), Same H1 H' → (∀ H'', Same H' H'' → Q true H'') → tYes σ' H' Q := fun H' Q _ q => q H' (Same.refl H')
theorem filter_all {xs : List V} : xs.filter (fun _ => true) = xs := List.filter_eq_self.mpr fun _ _ => rfl
end
theorem cut_tail (x : V) (l : List V) : cutV (x :: l) (some 1) none = l := by
  unfold cutV
  have e1 : HT.sIx (x :: l).length 0 (some 1) = 1 := by
    have h := HT.sIx_nat (x :: l).length 0 1
    have h2 : (1 : Nat) ≤ (x :: l).length := by rw [List.length_cons]; omega
    rw [Nat.min_eq_left h2] at h
    exact h
  rw [e1, HT.sIx_none, List.length_cons, Nat.add_sub_cancel]
  show l.take l.length = l
  exact List.take_length
theorem cut_tail_ne (x : V) (l : List V) (h : HT.sIx (x :: l).length 0 (some 1) = 0 ∧ HT.sIx (x :: l).length (x :: l).length none = (x :: l).length) : False := by
  have h1 := HT.sIx_nat (x :: l).length 0 1
  have h2 : (1 : Nat) ≤ (x :: l).length := by rw [List.length_cons]; omega
  rw [Nat.min_eq_left h2] at h1
  have h3 := h.1
  rw [show HT.sIx (x :: l).length 0 (some 1) = 1 from h1] at h3
  omega
theorem upd_at {H : Hp} {p : Addr} {o : HO} : upd H p o p = some o := upd_same
theorem all_true {α : Type} (xs : List α) : (xs.map (fun _ => true)).all id = true := by
  induction xs with
  | nil => rfl
  | cons x r ih => simp
end Rr
namespace Rr
open PySem PySem.Spec PyProof.Rows L2
section
variable {P : Program} {w : World} {K : PySem.W.Frag} {mg : Str → Option Value} {base : Heap}
/-! ### is_integer -/
def sp_is_integer : Sp := fun vs H Q _ => ∃ i lo hi : Int, vs = [.int i, .int lo, .int hi] ∧ Q (.bl (decide (lo ≤ i) && decide (i ≤ hi))) H
-- is_integer: 0 thing, 1 low, 2 high
theorem sc_is_integer : FnScope ["thing", "low", "high"] ["thing", "low", "high"] (defScope s_is_integer) := ⟨rfl, rfl, rfl, by decide +kernel, rfl, by decide +kernel, by decide +kernel⟩
theorem ok_is_integer (T : Facts w K mg) (F : FnAt K mg "is_integer" s_is_integer) : Cal P w K mg base 1 "is_integer" sp_is_integer := by
  refine cal_mk F sc_is_integer (fun _ _ _ _ _ _ us hl => match us, hl with | [_, _, _], _ => rfl) (fun vs H Q E h => ?_) (fun f cdv A outer s H vs Q E hr h => ?_)
  · obtain ⟨i, lo, hi, rfl, _⟩ := h
    rfl
  · obtain ⟨i, lo, hi, rfl, k⟩ := h
    have nd := sc_is_integer.nd
    refine ⟨_, (pss_one (ps_ret (pe_and (pe_callB call_isi (by rfl) T.b_isinstance (by decide +kernel) (pa_cons (pv 0) (pa_cons (pe_bltn (v := .ty "int") (by rfl) T.b_int (by decide +kernel) rfl) pa_nil))) (pe_and (pe_not (pe_callB call_isi (by rfl) T.b_isinstance (by decide +kernel) (pa_cons (pv 0) (pa_cons (pe_bltn (v := .ty "bool") (by rfl) T.b_bool (by decide +kernel) rfl) pa_nil)))) (pe_one (pe_chain op_le op_le (pv 1) (pv 0) (pv 2))))))), ?_⟩
    refine ⟨_, rfl, _, _, _, _, true, rfl, .ty _, .base (.int i), kit_ty (by decide +kernel), true, rfl, iteT ?_⟩
    refine ⟨_, rfl, _, _, _, _, false, rfl, .ty _, .base (.int i), kit_ty (by decide +kernel), false, rfl, true, rfl, iteT ?_⟩
    refine ⟨_, rfl, _, rfl, _, _, rfl, rfl, _, rfl, ?_⟩
    by_cases h1 : lo ≤ i
    · rw [decide_eq_true h1, Bool.true_and] at k
      rw [decide_eq_true h1]
      exact iteT ⟨_, rfl, _, _, rfl, rfl, k⟩
    · rw [decide_eq_false h1, Bool.false_and] at k
      rw [decide_eq_false h1]
      exact iteF k
/-! ### is_row -/
def sp_is_row (K : PySem.W.Frag) : Sp := fun vs H Q _ => ∃ (v : V) (r : Rw) (many span : Nat), vs = [v, .int many, .int span] ∧ Dp K H v r.d ∧ r.ok many span ∧ ∀ H', Same H H' → Q (.bl true) H'
theorem word_in (r : Rw) : (r.word, ((r.nats.length + 1 : Nat) : Int)) ∈ ([("put", 3), ("move", 3), ("add", 4), ("sub", 4), ("less", 4), ("take", 2), ("tell", 2)] : List (Str × Int)) := by
  cases r with
  | op o _ _ _ => cases o <;> simp [Rw.word, Rw.nats, Op3.w]
  | _ => simp [Rw.word, Rw.nats]
theorem put_or {r : Rw} {many span : Nat} (ok : r.ok many span) : (∃ x n, r = .put x n ∧ x < many ∧ n < span) ∨ (r.word ≠ "put" ∧ ∀ x ∈ r.nats, x < many) := by
  cases r with
  | put x n => exact .inl ⟨x, n, rfl, ok.1, ok.2⟩
  | move x y => exact .inr ⟨(by decide +kernel : ("move" : Str) ≠ "put"), ok⟩
  | op o x y z => exact .inr ⟨(by cases o <;> decide +kernel : o.w ≠ "put"), ok⟩
  | take x => exact .inr ⟨(by decide +kernel : ("take" : Str) ≠ "put"), ok⟩
  | tell x => exact .inr ⟨(by decide +kernel : ("tell" : Str) ≠ "put"), ok⟩
theorem few_nats (r : Rw) : r.nats.length ≤ 1000 := by cases r <;> simp [Rw.nats]
-- is_row: 0 thing, 1 many*, 2 span, 3 one
theorem sc_is_row : FnScope ["thing", "many", "span", "one"] ["thing", "many", "span"] (defScope s_is_row) := ⟨rfl, rfl, rfl, by decide +kernel, rfl, by decide +kernel, by decide +kernel⟩
theorem ok_is_row (T : Facts w K mg) (F : FnAt K mg "is_row" s_is_row) (c_is_integer : Cal P w K mg base 1 "is_integer" sp_is_integer) : Cal P w K mg base 2 "is_row" (sp_is_row K) := by
  refine cal_mk F sc_is_row (fun _ _ _ _ _ _ us hl => match us, hl with | [_, _, _], _ => rfl) (fun vs H Q E h => ?_) (fun f cdv A outer s H vs Q E hr h => ?_)
  · obtain ⟨v, r, many, span, rfl, _⟩ := h
    rfl
  · obtain ⟨v, r, many, span, rfl, hd, ok, k⟩ := h
    have nd := sc_is_row.nd
    obtain ⟨es, n, SZ⟩ := T.szD
    refine ⟨_, (pss_cons (ps_if (PW.pt (pw_or (pt_not (pt_val (pe_callB call_isi (by rfl) T.b_isinstance (by decide +kernel) (pa_cons (pv 0) (pa_cons (pe_bltn (v := .ty "tuple") (by rfl) T.b_tuple (by decide +kernel) rfl) pa_nil))))) (pw_or (pt_cmpR (op_eqD hr.units) (pv 0) (pe_tup pa_nil) (nomark _)) (pw_or (pt_not (pt_val (pe_callB call_isi (by rfl) T.b_isinstance (by decide +kernel) (pa_cons (pe_ix ix_tup (pv 0) pe_int (fun _ _ => rfl)) (pa_cons (pe_bltn (v := .ty "str") (by rfl) T.b_str (by decide +kernel) rfl) pa_nil))))) (pw_or1 (pt_cmpR (op_notIn_kd SZ) (pe_ix ix_tup (pv 0) pe_int (fun _ _ => rfl)) (pe_glob (v := .ref (He.ga _ "SIZES")) (by rfl) T.g_SIZES rfl) (by rfl))))))) (pss_one (ps_ret pe_bl)) pss_nil)
    (pss_cons (ps_if (pt_cmpR op_ne (pe_callB call_len_seq (by rfl) T.b_len (by decide +kernel) (pa_cons (pv 0) pa_nil)) (pe_ix ix_kdict (pe_glob (v := .ref (He.ga _ "SIZES")) (by rfl) T.g_SIZES rfl) (pe_ix ix_tup (pv 0) pe_int (fun _ _ => rfl)) (fun _ _ => rfl)) (nomark _)) (pss_one (ps_ret pe_bl)) pss_nil)
    (pss_cons (ps_if (pt_cmpR op_eq (pe_ix ix_tup (pv 0) pe_int (fun _ _ => rfl)) pe_str (nomark _)) (pss_one (ps_ret (pe_and (pc c_is_integer hr (by decide) (by rfl) (pa_cons (pe_ix ix_tup (pv 0) pe_int (fun _ _ => rfl)) (pa_cons pe_int (pa_cons (pe_op op_sub (pv 1) pe_int) pa_nil)))) (pe_one (pc c_is_integer hr (by decide) (by rfl) (pa_cons (pe_ix ix_tup (pv 0) pe_int (fun _ _ => rfl)) (pa_cons pe_int (pa_cons (pe_op op_sub (pv 2) pe_int) pa_nil)))))))) pss_nil)
    (pss_one (ps_ret (pe_callB (cr_all rfl) (by rfl) T.b_all (by decide +kernel) (pa_cons (pe_lc (own := [("one", 3)]) rfl nd (pi_tup (pe_slice sl_tupA (pv 0) (po_some pe_int) po_none)) (blkOk_by (own := [("one", 3)]) (by kernel_rfl)) (fun _ _ _ _ _ => (pg_name (i := 3) nd rfl (Or.inl rfl))) (fun _ _ _ _ _ => pts_nil) (fun _ _ _ _ _ => (pc c_is_integer hr (by decide) (by rfl) (pa_cons (pv 3) (pa_cons pe_int (pa_cons (pe_op op_sub (pv 1) pe_int) pa_nil)))))) pa_nil))))))), ?_⟩
    obtain ⟨u, e1, ru⟩ := T.sz _ (word_in r)
    obtain ⟨a, xs, rfl, hs, ha⟩ := Dp.isTup hd
    cases ha with
    | @cons v0 vr _ _ h0 hr0 =>
    have z0 := Dp.str_eq h0
    subst z0
    have zr := DpAll.ints_eq hr0
    subst zr
    have at0 : atI (V.str r.word :: r.ints.map V.int) 0 = some (V.str r.word) := atI_nat (j := 0) rfl
    -- the first test
    refine ⟨_, rfl, _, _, _, _, true, rfl, .ty _, ty_tup hs, kit_ty (by decide +kernel), true, rfl, iteF ?_⟩
    refine ⟨_, rfl, (by decide), fun p hp => ⟨_, _, dp_ext (Same.new hp) hd, .tup (.inl (.inl upd_same)) .nil, r.sh.shaped (by decide), sh_nil.shaped (by decide), _, rfl, iteF' (eqv_nil _ _) ?_⟩⟩
    have s1 : Same H (upd H p (.tup [])) := Same.new hp
    have hs1 := Same.sqt s1 hs
    refine ⟨_, rfl, _, _, _, _, rfl, rfl, hs1, at0, _, _, _, _, true, rfl, .ty _, .base (.str _), kit_ty (by decide +kernel), true, rfl, iteF ?_⟩
    refine ⟨_, rfl, _, _, _, _, rfl, rfl, hs1, at0, _, _, rfl, rfl, e1, _, rfl, iteF ?_⟩
    -- its length
    refine ⟨_, rfl, _, _, rfl, .inr hs1, _, rfl, _, _, _, _, rfl, rfl, hs1, at0, _, _, _, rfl, rfl, ⟨es, n, u, SZ.at_, SZ.lit, e1, ru⟩, rfl, _, rfl, ?_⟩
    refine iteF' ?_ ?_
    · rw [show (V.int ((V.str r.word :: r.ints.map V.int).length : Nat) = V.int ((r.nats.length + 1 : Nat) : Int)) from congrArg V.int (by rw [List.length_cons, List.length_map]; simp [Rw.ints]), decide_eq_true rfl] <;> rfl
    rcases put_or ok with ⟨x, n, rfl, o1, o2⟩ | ⟨hw, hall⟩
    · refine ⟨_, rfl, _, _, _, _, rfl, rfl, hs1, at0, rfl, _, rfl, iteT' (dT rfl) ?_⟩
      refine ⟨_, rfl, _, _, _, _, rfl, rfl, hs1, atI_nat (j := 1) rfl, _, rfl, _, _, rfl, rfl, _, _, _, rfl, _, rfl, iteT' (int_ok (show (0 : Int) ≤ (x : Int) by omega) (show (x : Int) ≤ (many : Int) - 1 by omega)) ?_⟩
      refine ⟨_, rfl, _, _, _, _, rfl, rfl, hs1, atI_nat (j := 2) rfl, _, rfl, _, _, rfl, rfl, _, _, _, rfl, q_true (int_ok (show (0 : Int) ≤ (n : Int) by omega) (show (n : Int) ≤ (span : Int) - 1 by omega)) (k _ s1)⟩
    · refine ⟨_, rfl, _, _, _, _, rfl, rfl, hs1, at0, rfl, _, rfl, iteF' (dF hw) ?_⟩
      refine ⟨_, rfl, _, rfl, _, _, rfl, hs1, fun z => (cut_tail_ne _ _ z).elim, fun _ p2 hp2 => ⟨_, rfl, ⟨_, .inl (.inl upd_same)⟩, fun D hD => ?_⟩⟩
      rw [cut_tail] at hD ⊢
      have s2 : Same H (upd (upd H p (.tup [])) p2 (.tup (r.ints.map V.int))) := s1.trans (Same.new hp2)
      refine lc_tup_fm (xs := r.ints.map V.int) (fun _ => true) (fun _ => V.bl true) (.inl (.inl upd_same)) ?_ hD (fun x => rfl) (fun x _ => tyes1) (fun x hx _ H' Q' e' q' => ?_) (fun H' e' hD' => ⟨_, r.ints.map (fun _ => true), rfl, .inl (.inl ?_), ?_⟩)
      · rw [List.length_map]
        show (List.map _ r.nats).length ≤ 1000
        rw [List.length_map]
        exact few_nats r
      · obtain ⟨i, hi, rfl⟩ := List.mem_map.mp hx
        obtain ⟨n, hn, rfl⟩ := List.mem_map.mp hi
        have := hall n hn
        refine ⟨_, rfl, _, rfl, _, _, rfl, rfl, _, _, _, rfl, q_true (int_ok (show (0 : Int) ≤ (n : Int) by omega) (show (n : Int) ≤ (many : Int) - 1 by omega)) (q' _ (Same.refl _))⟩
      · rw [hD', filter_all, List.map_map, List.map_map] <;> rfl
      · rw [all_true]
        exact k _ (s2.trans e')
/-! ### is_end -/
def sp_is_end (K : PySem.W.Frag) : Sp := fun vs H Q _ => ∃ (v : V) (e : En) (many size : Nat), vs = [v, .int many, .int size] ∧ Dp K H v e.d ∧ e.ok many size ∧ ∀ H', Same H H' → Q (.bl true) H'
-- is_end: 0 thing, 1 many, 2 size
theorem sc_is_end : FnScope ["thing", "many", "size"] ["thing", "many", "size"] (defScope s_is_end) := ⟨rfl, rfl, rfl, by decide +kernel, rfl, by decide +kernel, by decide +kernel⟩
theorem ok_is_end (T : Facts w K mg) (F : FnAt K mg "is_end" s_is_end) (c_is_integer : Cal P w K mg base 1 "is_integer" sp_is_integer) : Cal P w K mg base 2 "is_end" (sp_is_end K) := by
  refine cal_mk F sc_is_end (fun _ _ _ _ _ _ us hl => match us, hl with | [_, _, _], _ => rfl) (fun vs H Q E h => ?_) (fun f cdv A outer s H vs Q E hr h => ?_)
  · obtain ⟨v, e, many, size, rfl, _⟩ := h
    rfl
  · obtain ⟨v, e, many, size, rfl, hd, ok, k⟩ := h
    have nd := sc_is_end.nd
    refine ⟨_, (pss_cons (ps_if (PW.pt (pw_or (pt_not (pt_val (pe_callB call_isi (by rfl) T.b_isinstance (by decide +kernel) (pa_cons (pv 0) (pa_cons (pe_bltn (v := .ty "tuple") (by rfl) T.b_tuple (by decide +kernel) rfl) pa_nil))))) (pw_or (pt_cmpR (op_eqD hr.units) (pv 0) (pe_tup pa_nil) (nomark _)) (pw_or1 (pt_not (pt_val (pe_callB call_isi (by rfl) T.b_isinstance (by decide +kernel) (pa_cons (pe_ix ix_tup (pv 0) pe_int (fun _ _ => rfl)) (pa_cons (pe_bltn (v := .ty "str") (by rfl) T.b_str (by decide +kernel) rfl) pa_nil))))))))) (pss_one (ps_ret pe_bl)) pss_nil)
    (pss_cons (ps_if (pt_cmpR op_eq (pe_ix ix_tup (pv 0) pe_int (fun _ _ => rfl)) pe_str (nomark _)) (pss_one (ps_ret (pe_cmpR op_eq (pe_callB call_len_seq (by rfl) T.b_len (by decide +kernel) (pa_cons (pv 0) pa_nil)) pe_int (nomark _)))) pss_nil)
    (pss_cons (ps_if (pt_cmpR op_eq (pe_ix ix_tup (pv 0) pe_int (fun _ _ => rfl)) pe_str (nomark _)) (pss_one (ps_ret (pe_and (pe_cmpR op_eq (pe_callB call_len_seq (by rfl) T.b_len (by decide +kernel) (pa_cons (pv 0) pa_nil)) pe_int (nomark _)) (pe_one (pc c_is_integer hr (by decide) (by rfl) (pa_cons (pe_ix ix_tup (pv 0) pe_int (fun _ _ => rfl)) (pa_cons pe_int (pa_cons (pe_op op_sub (pv 2) pe_int) pa_nil)))))))) pss_nil)
    (pss_cons (ps_if (PW.pt (pw_or (pt_cmpR op_ne (pe_ix ix_tup (pv 0) pe_int (fun _ _ => rfl)) pe_str (nomark _)) (pw_or (pt_cmpR op_ne (pe_callB call_len_seq (by rfl) T.b_len (by decide +kernel) (pa_cons (pv 0) pa_nil)) pe_int (nomark _)) (pw_or1 (pt_not (pt_val (pc c_is_integer hr (by decide) (by rfl) (pa_cons (pe_ix ix_tup (pv 0) pe_int (fun _ _ => rfl)) (pa_cons pe_int (pa_cons (pe_op op_sub (pv 1) pe_int) pa_nil)))))))))) (pss_one (ps_ret pe_bl)) pss_nil)
    (pss_one (ps_ret (pe_and (pc c_is_integer hr (by decide) (by rfl) (pa_cons (pe_ix ix_tup (pv 0) pe_int (fun _ _ => rfl)) (pa_cons pe_int (pa_cons (pe_op op_sub (pv 2) pe_int) pa_nil)))) (pe_one (pc c_is_integer hr (by decide) (by rfl) (pa_cons (pe_ix ix_tup (pv 0) pe_int (fun _ _ => rfl)) (pa_cons pe_int (pa_cons (pe_op op_sub (pv 2) pe_int) pa_nil)))))))))))), ?_⟩
    cases e with
    | stop =>
      obtain ⟨a, xs, rfl, hs, ha⟩ := Dp.isTup hd
      cases ha with
      | cons h0 hr0 =>
      cases hr0
      have z0 := Dp.str_eq h0
      subst z0
      refine ⟨_, rfl, _, _, _, _, true, rfl, .ty _, ty_tup hs, kit_ty (by decide +kernel), true, rfl, iteF ?_⟩
      refine ⟨_, rfl, (by decide), fun p hp => ⟨_, _, dp_ext (Same.new hp) hd, .tup (.inl (.inl upd_same)) .nil, (En.sh _).shaped (by decide), sh_nil.shaped (by decide), _, rfl, iteF' (eqv_nil _ _) ?_⟩⟩
      have s1 : Same H (upd H p (.tup [])) := Same.new hp
      have hs1 := Same.sqt s1 hs
      refine ⟨_, rfl, _, _, _, _, rfl, rfl, hs1, atI_nat (j := 0) rfl, _, _, _, _, true, rfl, .ty _, .base (.str _), kit_ty (by decide +kernel), true, rfl, iteF ?_⟩
      refine ⟨_, rfl, _, _, _, _, rfl, rfl, hs1, atI_nat (j := 0) rfl, rfl, _, rfl, iteT' (dT rfl) ?_⟩
      exact ⟨_, rfl, _, _, rfl, .inr hs1, rfl, k _ s1⟩
    | go b =>
      obtain ⟨a, xs, rfl, hs, ha⟩ := Dp.isTup hd
      cases ha with
      | cons h0 hr0 =>
      cases hr0 with
      | cons h1 hr1 =>
      cases hr1
      have z0 := Dp.str_eq h0
      subst z0
      have z1 := Dp.int_eq h1
      subst z1
      refine ⟨_, rfl, _, _, _, _, true, rfl, .ty _, ty_tup hs, kit_ty (by decide +kernel), true, rfl, iteF ?_⟩
      refine ⟨_, rfl, (by decide), fun p hp => ⟨_, _, dp_ext (Same.new hp) hd, .tup (.inl (.inl upd_same)) .nil, (En.sh _).shaped (by decide), sh_nil.shaped (by decide), _, rfl, iteF' (eqv_nil _ _) ?_⟩⟩
      have s1 : Same H (upd H p (.tup [])) := Same.new hp
      have hs1 := Same.sqt s1 hs
      refine ⟨_, rfl, _, _, _, _, rfl, rfl, hs1, atI_nat (j := 0) rfl, _, _, _, _, true, rfl, .ty _, .base (.str _), kit_ty (by decide +kernel), true, rfl, iteF ?_⟩
      refine ⟨_, rfl, _, _, _, _, rfl, rfl, hs1, atI_nat (j := 0) rfl, rfl, _, rfl, iteF' (dF (by decide +kernel)) ?_⟩
      refine ⟨_, rfl, _, _, _, _, rfl, rfl, hs1, atI_nat (j := 0) rfl, rfl, _, rfl, iteT' (dT rfl) ?_⟩
      obtain ⟨o1, o2⟩ := ok
      refine ⟨_, rfl, _, _, rfl, .inr hs1, rfl, _, rfl, iteT ?_⟩
      exact ⟨_, rfl, _, _, _, _, rfl, rfl, hs1, atI_nat (j := 1) rfl, _, rfl, _, _, rfl, rfl, _, _, _, rfl, q_true (int_ok (show (1 : Int) ≤ (b : Int) by omega) (show (b : Int) ≤ (size : Int) - 1 by omega)) (k _ s1)⟩
    | part r b c =>
      obtain ⟨a, xs, rfl, hs, ha⟩ := Dp.isTup hd
      cases ha with
      | cons h0 hr0 =>
      cases hr0 with
      | cons h1 hr1 =>
      cases hr1 with
      | cons h2 hr2 =>
      cases hr2 with
      | cons h3 hr3 =>
      cases hr3
      have z0 := Dp.str_eq h0
      subst z0
      have z1 := Dp.int_eq h1
      subst z1
      have z2 := Dp.int_eq h2
      subst z2
      have z3 := Dp.int_eq h3
      subst z3
      refine ⟨_, rfl, _, _, _, _, true, rfl, .ty _, ty_tup hs, kit_ty (by decide +kernel), true, rfl, iteF ?_⟩
      refine ⟨_, rfl, (by decide), fun p hp => ⟨_, _, dp_ext (Same.new hp) hd, .tup (.inl (.inl upd_same)) .nil, (En.sh _).shaped (by decide), sh_nil.shaped (by decide), _, rfl, iteF' (eqv_nil _ _) ?_⟩⟩
      have s1 : Same H (upd H p (.tup [])) := Same.new hp
      have hs1 := Same.sqt s1 hs
      refine ⟨_, rfl, _, _, _, _, rfl, rfl, hs1, atI_nat (j := 0) rfl, _, _, _, _, true, rfl, .ty _, .base (.str _), kit_ty (by decide +kernel), true, rfl, iteF ?_⟩
      refine ⟨_, rfl, _, _, _, _, rfl, rfl, hs1, atI_nat (j := 0) rfl, rfl, _, rfl, iteF' (dF (by decide +kernel)) ?_⟩
      refine ⟨_, rfl, _, _, _, _, rfl, rfl, hs1, atI_nat (j := 0) rfl, rfl, _, rfl, iteF' (dF (by decide +kernel)) ?_⟩
      obtain ⟨o1, o2, o3, o4, o5⟩ := ok
      refine ⟨_, rfl, _, _, _, _, rfl, rfl, hs1, atI_nat (j := 0) rfl, rfl, _, rfl, iteF' (by rw [dT rfl] <;> rfl) ?_⟩
      refine ⟨_, rfl, _, _, rfl, .inr hs1, rfl, _, rfl, iteF ?_⟩
      refine ⟨_, rfl, _, _, _, _, rfl, rfl, hs1, atI_nat (j := 1) rfl, _, rfl, _, _, rfl, rfl, _, _, _, rfl, _, rfl, iteF' (by rw [int_ok (show (0 : Int) ≤ (r : Int) by omega) (show (r : Int) ≤ (many : Int) - 1 by omega)] <;> rfl) ?_⟩
      refine ⟨_, rfl, _, _, _, _, rfl, rfl, hs1, atI_nat (j := 2) rfl, _, rfl, _, _, rfl, rfl, _, _, _, rfl, _, rfl, iteT' (int_ok (show (1 : Int) ≤ (b : Int) by omega) (show (b : Int) ≤ (size : Int) - 1 by omega)) ?_⟩
      exact ⟨_, rfl, _, _, _, _, rfl, rfl, hs1, atI_nat (j := 3) rfl, _, rfl, _, _, rfl, rfl, _, _, _, rfl, q_true (int_ok (show (1 : Int) ≤ (c : Int) by omega) (show (c : Int) ≤ (size : Int) - 1 by omega)) (k _ s1)⟩
/-! ### targets_of -/
def natsV (l : List Nat) : List V := l.map fun (n : Nat) => V.int (n : Int)
theorem natsV_eq (l : List Nat) : natsV l = (l.map fun (n : Nat) => (n : Int)).map V.int := by
  unfold natsV
  rw [List.map_map] <;> rfl
theorem natsV_app (l m : List Nat) : natsV (l ++ m) = natsV l ++ natsV m := List.map_append ..
theorem natsV_len (l : List Nat) : (natsV l).length = l.length := List.length_map ..
theorem natsV_at {l : List Nat} {i n : Nat} (h : l[i]? = some n) : (natsV l)[i]? = some (V.int (n : Int)) := by
  unfold natsV
  rw [List.getElem?_map, h] <;> rfl
def natsD (l : List Nat) : List PyData := (l.map fun (n : Nat) => (n : Int)).map PyData.int
theorem natsD_dp {K : PySem.W.Frag} {H : Hp} (l : List Nat) : DpAll K H (natsV l) (natsD l) := by
  rw [natsV_eq]
  exact DpAll.ints _
theorem natsD_sh (l : List Nat) : SeqAt.shaped (.list (natsD l)) = true := (sh_ints _).shaped (by decide)
theorem natsD_eqv (l m : List Nat) : PyData.eqv (.list (natsD l)) (.list (natsD m)) = decide (l = m) := by
  unfold natsD
  rw [eqv_ints]
  by_cases h : l = m
  · subst h
    rw [decide_eq_true rfl, decide_eq_true rfl]
  · rw [decide_eq_false h, decide_eq_false fun z => h ?_]
    exact (List.map_inj_right (fun a b e => by omega)).mp z
def sp_targets_of (K : PySem.W.Frag) : Sp := fun vs H Q _ => ∃ (v : V) (e : En), vs = [v] ∧ Dp K H v e.d ∧ ∀ p, H p = none → Q (.ref p) (upd H p (.tup (natsV e.outs)))
-- targets_of: 0 end
theorem sc_targets_of : FnScope ["end"] ["end"] (defScope s_targets_of) := ⟨rfl, rfl, rfl, by decide +kernel, rfl, by decide +kernel, by decide +kernel⟩
theorem ok_targets_of (T : Facts w K mg) (F : FnAt K mg "targets_of" s_targets_of) : Cal P w K mg base 1 "targets_of" (sp_targets_of K) := by
  refine cal_mk F sc_targets_of (fun _ _ _ _ _ _ us hl => match us, hl with | [_], _ => rfl) (fun vs H Q E h => ?_) (fun f cdv A outer s H vs Q E hr h => ?_)
  · obtain ⟨v, e, rfl, _⟩ := h
    rfl
  · obtain ⟨v, e, rfl, hd, k⟩ := h
    have nd := sc_targets_of.nd
    refine ⟨_, (pss_cons (ps_if (pt_cmpR op_eq (pe_ix ix_tup (pv 0) pe_int (fun _ _ => rfl)) pe_str (nomark _)) (pss_one (ps_ret (pe_tup (pa_cons (pe_ix ix_tup (pv 0) pe_int (fun _ _ => rfl)) pa_nil)))) pss_nil)
    (pss_one (ps_ret (pe_ifExp (pt_cmpR op_eq (pe_ix ix_tup (pv 0) pe_int (fun _ _ => rfl)) pe_str (nomark _)) (pe_tup (pa_cons (pe_ix ix_tup (pv 0) pe_int (fun _ _ => rfl)) (pa_cons (pe_ix ix_tup (pv 0) pe_int (fun _ _ => rfl)) pa_nil))) (pe_tup pa_nil))))), ?_⟩
    cases e with
    | stop =>
      obtain ⟨a, xs, rfl, hs, ha⟩ := Dp.isTup hd
      cases ha with
      | cons h0 hr0 =>
      cases hr0
      have z0 := Dp.str_eq h0
      subst z0
      refine ⟨_, rfl, _, _, _, _, rfl, rfl, hs, atI_nat (j := 0) rfl, rfl, _, rfl, iteF' (dF (by decide +kernel)) ?_⟩
      refine ⟨_, rfl, _, _, _, _, rfl, rfl, hs, atI_nat (j := 0) rfl, rfl, _, rfl, iteF' (dF (by decide +kernel)) ?_⟩
      exact ⟨by decide, k⟩
    | go b =>
      obtain ⟨a, xs, rfl, hs, ha⟩ := Dp.isTup hd
      cases ha with
      | cons h0 hr0 =>
      cases hr0 with
      | cons h1 hr1 =>
      cases hr1
      have z0 := Dp.str_eq h0
      subst z0
      have z1 := Dp.int_eq h1
      subst z1
      refine ⟨_, rfl, _, _, _, _, rfl, rfl, hs, atI_nat (j := 0) rfl, rfl, _, rfl, iteT' (dT rfl) ?_⟩
      exact ⟨_, rfl, _, _, _, _, rfl, rfl, hs, atI_nat (j := 1) rfl, by show 1 ≤ sizeLine; decide, k⟩
    | part r b c =>
      obtain ⟨a, xs, rfl, hs, ha⟩ := Dp.isTup hd
      cases ha with
      | cons h0 hr0 =>
      cases hr0 with
      | cons h1 hr1 =>
      cases hr1 with
      | cons h2 hr2 =>
      cases hr2 with
      | cons h3 hr3 =>
      cases hr3
      have z0 := Dp.str_eq h0
      subst z0
      have z1 := Dp.int_eq h1
      subst z1
      have z2 := Dp.int_eq h2
      subst z2
      have z3 := Dp.int_eq h3
      subst z3
      refine ⟨_, rfl, _, _, _, _, rfl, rfl, hs, atI_nat (j := 0) rfl, rfl, _, rfl, iteF' (dF (by decide +kernel)) ?_⟩
      refine ⟨_, rfl, _, _, _, _, rfl, rfl, hs, atI_nat (j := 0) rfl, rfl, _, rfl, iteT' (dT rfl) ?_⟩
      exact ⟨_, rfl, _, _, _, _, rfl, rfl, hs, atI_nat (j := 2) rfl, _, rfl, _, _, _, _, rfl, rfl, hs, atI_nat (j := 3) rfl, by show 2 ≤ sizeLine; decide, k⟩
end
end Rr
/-! ### lists of numbers; blocks that can be come to -/
namespace Rr
open PySem PySem.Spec PyProof.Rows L2
theorem sub_len : ∀ {a b : List Nat}, a.Nodup → (∀ x ∈ a, x ∈ b) → a.length ≤ b.length
  | [], _, _, _ => Nat.zero_le _
  | x :: r, b, h, hs => by
    obtain ⟨h1, h2⟩ := List.nodup_cons.mp h
    have hx : x ∈ b := hs x List.mem_cons_self
    have q := sub_len (a := r) (b := b.erase x) h2 fun y hy => by
      have hne : y ≠ x := fun e => h1 (e ▸ hy)
      exact (List.mem_erase_of_ne hne).mpr (hs y (List.mem_cons_of_mem _ hy))
    rw [List.length_erase_of_mem hx] at q
    have : 0 < b.length := List.length_pos_of_mem hx
    rw [List.length_cons]
    omega
theorem nodup_le {l : List Nat} {n : Nat} (h : l.Nodup) (hl : ∀ x ∈ l, x < n) : l.length ≤ n := by
  have q := sub_len (b := List.range n) h fun x hx => List.mem_range.mpr (hl x hx)
  rw [List.length_range] at q
  exact q
theorem nodup_all {l : List Nat} {n : Nat} (h : l.Nodup) (hl : ∀ x ∈ l, x < n) (ha : ∀ x, x < n → x ∈ l) : l.length = n := by
  have q := sub_len (a := List.range n) (b := l) List.nodup_range fun x hx => ha x (List.mem_range.mp hx)
  rw [List.length_range] at q
  have := nodup_le h hl
  omega
def outsAt (bs : List Bk) (n : Nat) : List Nat := match bs[n]? with
  | some b => b.fin.outs
  | none => []
inductive Rch (bs : List Bk) : Nat → Prop where
  | zero : Rch bs 0
  | step {n t : Nat} : Rch bs n → t ∈ outsAt bs n → Rch bs t
theorem rch_in {bs : List Bk} {F : List Nat} (h0 : 0 ∈ F) (hc : ∀ n ∈ F, ∀ t ∈ outsAt bs n, t ∈ F) : ∀ {n : Nat}, Rch bs n → n ∈ F
  | _, .zero => h0
  | _, .step h ht => hc _ (rch_in h0 hc h) _ ht
theorem en_outs {many size : Nat} {e : En} (h : e.ok many size) : ∀ t ∈ e.outs, 1 ≤ t ∧ t < size := by
  intro t ht
  cases e with
  | stop => cases ht
  | go b =>
    have e1 : t = b := by simpa [En.outs] using ht
    subst e1
    exact h
  | part r b c =>
    obtain ⟨_, o2, o3, o4, o5⟩ := h
    have e1 : t = b ∨ t = c := by simpa [En.outs] using ht
    rcases e1 with rfl | rfl
    · exact ⟨o2, o3⟩
    · exact ⟨o4, o5⟩
/-- blocks of a program -/
structure Bks (many span : Nat) (bs : List Bk) : Prop where
  one : 1 ≤ bs.length
  few : bs.length ≤ 16
  ok : ∀ b ∈ bs, b.ok many span bs.length
  all : ∀ n, n < bs.length → Rch bs n
theorem Bks.outs {many span : Nat} {bs : List Bk} (h : Bks many span bs) {n t : Nat} (ht : t ∈ outsAt bs n) : 1 ≤ t ∧ t < bs.length := by
  unfold outsAt at ht
  cases e : bs[n]? with
  | none =>
    rw [e] at ht
    cases ht
  | some b =>
    rw [e] at ht
    exact en_outs (h.ok b (List.mem_of_getElem? e)).fin t ht
/-! ### a dict from numbers to True -/
def setD (F : List Nat) : List (Key × V) := F.map fun (n : Nat) => ((Sum.inl (n : Int) : Key), V.bl true)
theorem setD_val (F : List Nat) (t : Nat) : (valV (setD F) (Sum.inl (t : Int) : Key)).isSome = decide (t ∈ F) := by
  induction F with
  | nil => rfl
  | cons n r ih =>
    by_cases h : n = t
    · subst h
      have e : valV (setD (n :: r)) (Sum.inl (n : Int) : Key) = some (V.bl true) := valV_pos rfl
      rw [e, decide_eq_true List.mem_cons_self] <;> rfl
    · have hk : ¬ (Sum.inl (n : Int) : Key) = Sum.inl (t : Int) := fun z => h (by injection z with z; omega)
      have e : valV (setD (n :: r)) (Sum.inl (t : Int) : Key) = valV (setD r) (Sum.inl (t : Int) : Key) := valV_neg hk
      rw [e, ih]
      by_cases ht : t ∈ r
      · rw [decide_eq_true ht, decide_eq_true (List.mem_cons_of_mem _ ht)]
      · rw [decide_eq_false ht, decide_eq_false (fun z => by
          rcases List.mem_cons.mp z with z | z
          · exact h z.symm
          · exact ht z)]
theorem setD_put {F : List Nat} {t : Nat} (h : t ∉ F) : putK (setD F) (Sum.inl (t : Int) : Key) (V.bl true) = setD (F ++ [t]) := by
  have e : valV (setD F) (Sum.inl (t : Int) : Key) = none := by
    have z := setD_val F t
    rw [decide_eq_false h] at z
    cases q : valV (setD F) (Sum.inl (t : Int) : Key) with
    | none => rfl
    | some v => rw [q] at z; cases z
  rw [putK_new _ e]
  unfold setD
  rw [List.map_append] <;> rfl
theorem setD_len (F : List Nat) : (setD F).length = F.length := List.length_map ..
end Rr
namespace Rr
open PySem PySem.Spec PyProof.Rows L2
theorem at_m1 (x y : V) : atI [x, y] (-1) = some y := rfl
theorem at_m2 (x y : V) : atI [x, y] (-2) = some x := rfl
/-- a block's two parts -/
theorem bk_parts {K : PySem.W.Frag} {H : Hp} {v : V} {b : Bk} (h : Dp K H v b.d) : ∃ a p v2 xs, v = .ref a ∧ SqT K H a [.ref p, v2] ∧ SqT K H p xs ∧ DpAll K H xs (b.rows.map Rw.d) ∧ Dp K H v2 b.fin.d ∧ Dp K H (.ref p) (.tuple (b.rows.map Rw.d)) := by
  obtain ⟨a, xs, rfl, hs, ha⟩ := Dp.isTup h
  cases ha with
  | cons h0 hr0 =>
  cases hr0 with
  | cons h1 hr1 =>
  cases hr1
  obtain ⟨p, ys, rfl, hs2, ha2⟩ := Dp.isTup h0
  exact ⟨a, p, _, ys, rfl, hs, hs2, ha2, h1, h0⟩
theorem snoc_cases (l : List Nat) : l = [] ∨ ∃ m n, l = m ++ [n] := by
  rcases List.eq_nil_or_concat l with h | ⟨m, n, h⟩
  · exact .inl h
  · exact .inr ⟨m, n, by rw [h, List.concat_eq_append]⟩
theorem all_const {xs : List V} : ∀ {f : V → V}, (∀ x ∈ xs, f x = V.bl true) → xs.map f = (xs.map fun _ => true).map V.bl := by
  intro f h
  rw [List.map_map]
  exact List.map_congr_left fun x hx => by rw [h x hx] <;> rfl
section
variable {P : Program} {w : World} {K : PySem.W.Frag} {mg : Str → Option Value} {base : Heap}
/-! ### is_plain_block -/
def sp_is_plain_block (K : PySem.W.Frag) : Sp := fun vs H Q _ => ∃ (v : V) (b : Bk) (many span size : Nat), vs = [v, .int many, .int span, .int size] ∧ Dp K H v b.d ∧ b.ok many span size ∧ ∀ H', Same H H' → Q (.bl true) H'
-- is_plain_block: 0 thing, 1 many*, 2 span*, 3 size, 4 row
theorem sc_is_plain_block : FnScope ["thing", "many", "span", "size", "row"] ["thing", "many", "span", "size"] (defScope s_is_plain_block) := ⟨rfl, rfl, rfl, by decide +kernel, rfl, by decide +kernel, by decide +kernel⟩
theorem ok_is_plain_block (T : Facts w K mg) (F : FnAt K mg "is_plain_block" s_is_plain_block) (c_is_row : Cal P w K mg base 2 "is_row" (sp_is_row K)) (c_is_end : Cal P w K mg base 2 "is_end" (sp_is_end K)) : Cal P w K mg base 3 "is_plain_block" (sp_is_plain_block K) := by
  refine cal_mk F sc_is_plain_block (fun _ _ _ _ _ _ us hl => match us, hl with | [_, _, _, _], _ => rfl) (fun vs H Q E h => ?_) (fun f cdv A outer s H vs Q E hr h => ?_)
  · obtain ⟨v, b, many, span, size, rfl, _⟩ := h
    rfl
  · obtain ⟨v, b, many, span, size, rfl, hd, ok, k⟩ := h
    have nd := sc_is_plain_block.nd
    refine ⟨_, (pss_cons (ps_if (PW.pt (pw_or (pt_not (pt_val (pe_callB call_isi (by rfl) T.b_isinstance (by decide +kernel) (pa_cons (pv 0) (pa_cons (pe_bltn (v := .ty "tuple") (by rfl) T.b_tuple (by decide +kernel) rfl) pa_nil))))) (pw_or (pt_cmpR op_ne (pe_callB call_len_seq (by rfl) T.b_len (by decide +kernel) (pa_cons (pv 0) pa_nil)) pe_int (nomark _)) (pw_or1 (pt_not (pt_val (pe_callB call_isi (by rfl) T.b_isinstance (by decide +kernel) (pa_cons (pe_ix ix_tup (pv 0) pe_int (fun _ _ => rfl)) (pa_cons (pe_bltn (v := .ty "tuple") (by rfl) T.b_tuple (by decide +kernel) rfl) pa_nil))))))))) (pss_one (ps_ret pe_bl)) pss_nil)
    (pss_cons (ps_if (PW.pt (pw_or (pt_cmpR op_gt (pe_callB call_len_seq (by rfl) T.b_len (by decide +kernel) (pa_cons (pe_ix ix_tup (pv 0) pe_int (fun _ _ => rfl)) pa_nil)) (C8.pe_gc (v := .int 12) (by rfl) T.c_MOST_ROWS) (nomark _)) (pw_or1 (pt_not (pt_val (pe_callB (cr_all rfl) (by rfl) T.b_all (by decide +kernel) (pa_cons (pe_lc (own := [("row", 4)]) rfl nd (pi_tup (pe_ix ix_tup (pv 0) pe_int (fun _ _ => rfl))) (blkOk_by (own := [("row", 4)]) (by kernel_rfl)) (fun _ _ _ _ _ => (pg_name (i := 4) nd rfl (Or.inl rfl))) (fun _ _ _ _ _ => pts_nil) (fun _ _ _ _ _ => (pc c_is_row hr (by decide) (by rfl) (pa_cons (pv 4) (pa_cons (pv 1) (pa_cons (pv 2) pa_nil)))))) pa_nil))))))) (pss_one (ps_ret pe_bl)) pss_nil)
    (pss_one (ps_ret (pc c_is_end hr (by decide) (by rfl) (pa_cons (pe_ix ix_tup (pv 0) pe_int (fun _ _ => rfl)) (pa_cons (pv 1) (pa_cons (pv 3) pa_nil)))))))), ?_⟩
    obtain ⟨a, p, v2, xs, rfl, hs, hp, hrows, hfin, hr0⟩ := bk_parts hd
    refine ⟨_, rfl, _, _, _, _, true, rfl, .ty _, ty_tup hs, kit_ty (by decide +kernel), true, rfl, iteF ?_⟩
    refine ⟨_, rfl, _, _, rfl, .inr hs, rfl, _, rfl, iteF ?_⟩
    refine ⟨_, rfl, _, _, _, _, rfl, rfl, hs, atI_nat (j := 0) rfl, _, _, _, _, true, rfl, .ty _, ty_tup hp, kit_ty (by decide +kernel), true, rfl, iteF ?_⟩
    have hxl : xs.length = b.rows.length := by rw [DpAll.len hrows, List.length_map]
    have hfew := ok.few
    refine ⟨_, rfl, _, _, _, _, rfl, rfl, hs, atI_nat (j := 0) rfl, _, _, rfl, .inr hp, _, _, rfl, rfl, _, rfl, iteF' (decide_eq_false (by show ¬ (12 : Int) < ((xs.length : Nat) : Int); omega)) ?_⟩
    refine ⟨_, rfl, _, _, _, _, rfl, rfl, hs, atI_nat (j := 0) rfl, _, rfl, ⟨xs, hp⟩, fun D hD => ?_⟩
    refine lc_tup_fm (xs := xs) (fun _ => true) (fun _ => V.bl true) hp (by omega) hD (fun x => rfl) (fun x _ => tyes1) (fun x hx _ H' Q' e' q' => ?_) (fun H' e' hD' => ⟨_, xs.map (fun _ => true), rfl, .inl (.inl ?_), ?_⟩)
    · obtain ⟨i, hi⟩ := List.mem_iff_getElem?.mp hx
      have hil : i < xs.length := (List.getElem?_eq_some_iff.mp hi).1
      obtain ⟨r, hri⟩ : ∃ r, b.rows[i]? = some r := ⟨_, List.getElem?_eq_getElem (by omega)⟩
      obtain ⟨v', hv', hdv⟩ := DpAll.at_ hrows (i := i) (d := r.d) (by rw [List.getElem?_map, hri] <;> rfl)
      rw [hi] at hv'
      cases hv'
      exact ⟨_, rfl, _, rfl, _, rfl, _, r, many, span, rfl, dp_ext e' hdv, ok.rows r (List.mem_of_getElem? hri), q'⟩
    · rw [hD', filter_all, List.map_map] <;> rfl
    · rw [all_true]
      refine ⟨_, rfl, iteF ?_⟩
      exact ⟨_, rfl, _, _, _, _, rfl, rfl, Same.sqt e' hs, atI_nat (j := 1) rfl, _, rfl, _, rfl, _, b.fin, many, size, rfl, dp_ext e' hfin, ok.fin, fun H2 e2 => k H2 (e'.trans e2)⟩
/-! ### are_reached -/
def sp_are_reached (K : PySem.W.Frag) : Sp := fun vs H Q _ => ∃ (v : V) (bs : List Bk) (many span : Nat), vs = [v] ∧ Dp K H v (dBks bs) ∧ Bks many span bs ∧ ∀ H', Same H H' → Q (.bl true) H'
/-- between two turns of the while -/
structure ArW (bs : List Bk) (F W : List Nat) : Prop where
  zero : 0 ∈ F
  nd : F.Nodup
  lt : ∀ n ∈ F, n < bs.length
  sub : ∀ n ∈ W, n ∈ F
  clo : ∀ n ∈ F, n ∉ W → ∀ t ∈ outsAt bs n, t ∈ F
def ArP (H : Hp) (a d wl : Addr) (bs : List Bk) (m : Nat) (σ : L2.St) (H' : Hp) : Prop := ∃ x3 F W, σ = [some (.ref a), some (.ref d), some (.ref wl), x3] ∧ Same H H' ∧ H' d = some (.dK (setD F)) ∧ H' wl = some (.lst (natsV W)) ∧ ArW bs F W ∧ m = 2 * (bs.length - F.length) + W.length ∧ m ≤ 40
/-- between two turns of the for: n was popped, the first i of its outs are done -/
structure ArF (bs : List Bk) (n i : Nat) (F W : List Nat) : Prop where
  zero : 0 ∈ F
  nd : F.Nodup
  lt : ∀ n ∈ F, n < bs.length
  sub : ∀ n ∈ W, n ∈ F
  clo : ∀ m ∈ F, m ∉ W → m ≠ n → ∀ t ∈ outsAt bs m, t ∈ F
  now : ∀ t ∈ (outsAt bs n).take i, t ∈ F
theorem ArF.seen {bs : List Bk} {n i t : Nat} {F W : List Nat} (A : ArF bs n i F W) (ht : (outsAt bs n)[i]? = some t) (h : t ∈ F) : ArF bs n (i + 1) F W := by
  refine ⟨A.zero, A.nd, A.lt, A.sub, A.clo, fun x hx => ?_⟩
  rw [take_next ht] at hx
  rcases List.mem_append.mp hx with hx | hx
  · exact A.now x hx
  · rw [List.mem_singleton.mp hx]
    exact h
theorem ArF.fresh {bs : List Bk} {n i t : Nat} {F W : List Nat} (A : ArF bs n i F W) (ht : (outsAt bs n)[i]? = some t) (hl : t < bs.length) (h : t ∉ F) : ArF bs n (i + 1) (F ++ [t]) (W ++ [t]) := by
  refine ⟨List.mem_append_left _ A.zero, ?_, fun x hx => ?_, fun x hx => ?_, fun m hm hw hne x hx => ?_, fun x hx => ?_⟩
  · exact List.nodup_append.mpr ⟨A.nd, by simp, fun x hx y hy e => h (by rw [← List.mem_singleton.mp hy, ← e]; exact hx)⟩
  · rcases List.mem_append.mp hx with hx | hx
    · exact A.lt x hx
    · rw [List.mem_singleton.mp hx]
      exact hl
  · rcases List.mem_append.mp hx with hx | hx
    · exact List.mem_append_left _ (A.sub x hx)
    · exact List.mem_append_right _ hx
  · rcases List.mem_append.mp hm with hm | hm
    · exact List.mem_append_left _ (A.clo m hm (fun z => hw (List.mem_append_left _ z)) hne x hx)
    · exact absurd (List.mem_append_right _ hm) hw
  · rw [take_next ht] at hx
    rcases List.mem_append.mp hx with hx | hx
    · exact List.mem_append_left _ (A.now x hx)
    · exact List.mem_append_right _ hx
theorem ArW.pop {bs : List Bk} {n : Nat} {F W : List Nat} (A : ArW bs F (W ++ [n])) : ArF bs n 0 F W := by
  refine ⟨A.zero, A.nd, A.lt, fun x hx => A.sub x (List.mem_append_left _ hx), fun m hm hw hne t ht => A.clo m hm (fun z => ?_) t ht, fun t ht => by simp at ht⟩
  rcases List.mem_append.mp z with z | z
  · exact hw z
  · exact hne (List.mem_singleton.mp z)
theorem ArF.done {bs : List Bk} {n : Nat} {F W : List Nat} (A : ArF bs n (outsAt bs n).length F W) : ArW bs F W := by
  refine ⟨A.zero, A.nd, A.lt, A.sub, fun m hm hw t ht => ?_⟩
  by_cases e : m = n
  · subst e
    exact A.now t (by rw [List.take_length]; exact ht)
  · exact A.clo m hm hw e t ht
-- are_reached: 0 blocks, 1 found, 2 waiting, 3 target
theorem sc_are_reached : FnScope ["blocks", "found", "waiting", "target"] ["blocks"] (defScope s_are_reached) := ⟨rfl, rfl, rfl, by decide +kernel, rfl, by decide +kernel, by decide +kernel⟩
theorem ok_are_reached (T : Facts w K mg) (F : FnAt K mg "are_reached" s_are_reached) (c_targets_of : Cal P w K mg base 1 "targets_of" (sp_targets_of K)) : Cal P w K mg base 2 "are_reached" (sp_are_reached K) := by
  refine cal_mk F sc_are_reached (fun _ _ _ _ _ _ us hl => match us, hl with | [_], _ => rfl) (fun vs H Q E h => ?_) (fun f cdv A outer s H vs Q E hr h => ?_)
  · obtain ⟨v, bs, many, span, rfl, _⟩ := h
    rfl
  · obtain ⟨v, bs, many, span, rfl, hd, ok, k⟩ := h
    have nd := sc_are_reached.nd
    have hu := hu_of hr
    refine ⟨_, (pss_cons (ps_par (i := 1) (j := 2) (by rfl) nd rfl rfl (by decide) rfl rfl (pa_cons (pe_disp (pps_cons pe_int pe_bl pps_nil) (by rfl) (by rfl) (fun z => by cases z) (by decide)) (pa_cons (pe_lst (pa_cons pe_int pa_nil)) pa_nil)) (by rfl))
    (pss_cons (ps_while PassesOwn.never (pt_cmpR (op_neD hr.units) (pv 2) (pe_lst pa_nil) (nomark _)) (pss_one (ps_for PassesOwn.never rfl (pi_tup (pc c_targets_of hr (by decide) (by rfl) (pa_cons (pe_ix ix_tup (pe_ix ix_tup (pv 0) (pe_bm0 PySem.F.plainAttrs_list PySem.F.slot_list_pop PySem.F.type_list_pop mt_pop (pv 2)) (fun _ _ => rfl)) (pe_un un_neg pe_int) (fun _ _ => rfl)) pa_nil))) (pg_name (i := 3) nd rfl (Or.inl rfl)) (pss_one (ps_if (pt_cmp (pc_dnotin hu (pv 3) (pv 1))) (pss_cons (ps_dput hu (pv 1) (pv 3) pe_bl rfl)
    (pss_one (ps_expr (pe_bm PySem.F.plainAttrs_list PySem.F.slot_list_append PySem.F.type_list_append mt_append (pv 2) (pa_cons (pv 3) pa_nil))))) pss_nil)))))
    (pss_one (ps_ret (pe_cmpR op_eq (pe_callB call_lenD (by rfl) T.b_len (by decide +kernel) (pa_cons (pv 1) pa_nil)) (pe_callB call_len_seq (by rfl) T.b_len (by decide +kernel) (pa_cons (pv 0) pa_nil)) (nomark _)))))), ?_⟩
    obtain ⟨a, xs, rfl, hs, ha⟩ := Dp.isTup hd
    intro d hd0
    refine ⟨upd_same, [(Sum.inl 0, V.bl true)], rfl, by decide, by decide, fun wl hwl => ⟨_, _, rfl, ?_⟩⟩
    rw [upd_upd] at hwl ⊢
    have dwl : d ≠ wl := ne_of_none upd_same hwl
    have hwl0 : H wl = none := by rw [upd_ne dwl.symm] at hwl; exact hwl
    have sm0 : Same H (upd (upd H d (.dK (setD [0]))) wl (.lst (natsV [0]))) := (Same.new hd0).trans (Same.new (by rw [upd_ne dwl.symm]; exact hwl0))
    refine ⟨ArP H a d wl bs, ⟨_, none, [0], [0], rfl, sm0, by rw [upd_ne dwl, upd_same] <;> rfl, upd_same, ⟨List.mem_singleton.mpr rfl, by simp, fun n hn => by rw [List.mem_singleton.mp hn]; exact ok.one, fun n hn => hn, fun n hn hw => absurd hn hw⟩, rfl, by have := ok.few; have e1 : ([0] : List Nat).length = 1 := rfl; omega⟩, ?_⟩
    rintro m σ' H' ⟨x3, Fl, W, rfl, s1, hd', hw', A, rfl, m40⟩
    refine ⟨_, rfl, by decide, fun p hp => ⟨.list (natsD W), .list (natsD []), .lst (.inl (.inl (by rw [upd_ne (ne_of_none hw' hp)]; exact hw'))) (natsD_dp W), .lst (.inl (.inl upd_same)) .nil, natsD_sh W, natsD_sh [], _, rfl, ?_⟩⟩
    have s2 : Same H (upd H' p (.lst [])) := s1.trans (Same.new hp)
    have hd2 : (upd H' p (.lst [])) d = some (.dK (setD Fl)) := by rw [upd_ne (ne_of_none hd' hp)]; exact hd'
    have hw2 : (upd H' p (.lst [])) wl = some (.lst (natsV W)) := by rw [upd_ne (ne_of_none hw' hp)]; exact hw'
    generalize upd H' p (.lst []) = H2 at s2 hd2 hw2 ⊢
    rw [natsD_eqv]
    have hlen : xs.length = bs.length := by rw [DpAll.len ha, List.length_map]
    rcases snoc_cases W with rfl | ⟨W0, n, rfl⟩
    · refine iteF ?_
      refine ⟨_, rfl, d, _, rfl, hd2, _, rfl, _, _, rfl, .inr (Same.sqt s2 hs), rfl, q_true ?_ (k H2 s2)⟩
      rw [setD_len, hlen, nodup_all A.nd A.lt fun x hx => rch_in A.zero (fun n hn t ht => A.clo n hn (by simp) t ht) (ok.all x hx)]
      exact decide_eq_true rfl
    · refine iteT' (by rw [decide_eq_false (by simp)] <;> rfl) ⟨fun σ3 H3 => ∃ m', m' < 2 * (bs.length - Fl.length) + (W0 ++ [n]).length ∧ ArP H a d wl bs m' σ3 H3, fun _ _ z => z, ?_⟩
      have hn : n < bs.length := A.lt n (A.sub n (by simp))
      obtain ⟨b, hb⟩ : ∃ b, bs[n]? = some b := ⟨_, List.getElem?_eq_getElem hn⟩
      obtain ⟨v, hv, hdv⟩ := DpAll.at_ ha (i := n) (d := b.d) (by rw [List.getElem?_map, hb] <;> rfl)
      obtain ⟨ab, pb, v2, ys, rfl, hsb, _, _, hfin, _⟩ := bk_parts hdv
      have ho : outsAt bs n = b.fin.outs := by
        unfold outsAt
        rw [hb]
      have e1 : natsV (W0 ++ [n]) = natsV W0 ++ [V.int (n : Int)] := natsV_app ..
      have wne : ∀ q o, H q = some o → q ≠ wl := fun q o e => ne_of_none e hwl0
      have s3 : Same H (upd H2 wl (.lst (natsV W0))) := fun q o e => by rw [upd_ne (wne q o e)]; exact s2 q o e
      have d3 : (upd H2 wl (.lst (natsV W0))) d = some (.dK (setD Fl)) := by rw [upd_ne dwl]; exact hd2
      have w3 : (upd H2 wl (.lst (natsV W0))) wl = some (.lst (natsV W0)) := upd_same
      refine ⟨_, rfl, _, rfl, .inl ⟨rfl, _, .inl (.inl hw2)⟩, wl, _, V.int (n : Int), rfl, rfl, hw2, (by rw [e1]; simp), ?_⟩
      rw [show (natsV (W0 ++ [n])).dropLast = natsV W0 by rw [e1]; simp]
      generalize upd H2 wl (.lst (natsV W0)) = H3 at s3 d3 w3 ⊢
      refine ⟨_, _, _, _, rfl, rfl, Same.sqt s3 hs, atI_nat hv, _, rfl, _, _, _, _, rfl, rfl, Same.sqt s3 hsb, at_m1 _ _, _, b.fin, rfl, dp_ext s3 hfin, fun p2 hp2 => ⟨_, rfl, ⟨_, .inl (.inl upd_same)⟩, ?_⟩⟩
      have s4 : Same H (upd H3 p2 (.tup (natsV b.fin.outs))) := s3.trans (Same.new hp2)
      have d4 : (upd H3 p2 (.tup (natsV b.fin.outs))) d = some (.dK (setD Fl)) := by rw [upd_ne (ne_of_none d3 hp2)]; exact d3
      have w4 : (upd H3 p2 (.tup (natsV b.fin.outs))) wl = some (.lst (natsV W0)) := by rw [upd_ne (ne_of_none w3 hp2)]; exact w3
      have t4 : (upd H3 p2 (.tup (natsV b.fin.outs))) p2 = some (.tup (natsV b.fin.outs)) := upd_same
      generalize upd H3 p2 (.tup (natsV b.fin.outs)) = H4 at s4 d4 w4 t4 ⊢
      have hne := A.pop
      refine for_tup (xs := natsV b.fin.outs) (fun i σ5 H5 => ∃ x3 F5 W5, σ5 = [some (.ref a), some (.ref d), some (.ref wl), x3] ∧ Same H H5 ∧ H5 d = some (.dK (setD F5)) ∧ H5 wl = some (.lst (natsV W5)) ∧ H5 p2 = some (.tup (natsV b.fin.outs)) ∧ ArF bs n i F5 W5 ∧ 2 * (bs.length - F5.length) + W5.length ≤ 2 * (bs.length - Fl.length) + W0.length)
        ⟨x3, Fl, W0, rfl, s4, d4, w4, t4, hne, Nat.le_refl _⟩ (fun i σ5 H5 _ z => ?_) (fun i x σ5 H5 hx z => ?_) (fun σ5 H5 z => ?_)
      · obtain ⟨_, _, _, _, _, _, _, t5, _, _⟩ := z
        exact .inl (.inl t5)
      · obtain ⟨y3, F5, W5, rfl, s5, d5, w5, t5, A5, m5⟩ := z
        obtain ⟨t, ht, rfl⟩ : ∃ t, b.fin.outs[i]? = some t ∧ x = V.int (t : Int) := by
          unfold natsV at hx
          rw [List.getElem?_map] at hx
          cases q : b.fin.outs[i]? with
          | none => rw [q] at hx; cases hx
          | some t => rw [q] at hx; cases hx; exact ⟨t, rfl, rfl⟩
        have ht' : (outsAt bs n)[i]? = some t := by rw [ho]; exact ht
        have htl := (ok.outs (List.mem_of_getElem? ht')).2
        refine ⟨_, rfl, _, rfl, d, _, rfl, DGet.k (k := Sum.inl (t : Int)) d5, _, rfl, ?_⟩
        rw [setD_val]
        by_cases hin : t ∈ F5
        · refine iteF' (by rw [decide_eq_true hin] <;> rfl) ?_
          exact ⟨_, F5, W5, rfl, s5, d5, w5, t5, A5.seen ht' hin, m5⟩
        · refine iteT' (by rw [decide_eq_false hin] <;> rfl) ?_
          have hF := nodup_le A5.nd A5.lt
          have A6 := A5.fresh ht' htl hin
          have hF6 := nodup_le A6.nd A6.lt
          have dne : ∀ q o, H q = some o → q ≠ d := fun q o e => ne_of_none e hd0
          refine ⟨_, rfl, _, rfl, d, _, rfl, DPut.k (k := Sum.inl (t : Int)) d5 (by rw [setD_len]; exact small1000 (by have := ok.few; omega)), ?_⟩
          rw [setD_put hin]
          have w6 : (upd H5 d (.dK (setD (F5 ++ [t])))) wl = some (.lst (natsV W5)) := by rw [upd_ne dwl.symm]; exact w5
          have hW : W5.length ≤ 1000 := by
            rw [List.length_append] at m40
            omega
          refine ⟨_, rfl, .inl ⟨rfl, _, .inl (.inl w6)⟩, _, rfl, wl, _, _, rfl, rfl, w6, by rw [natsV_len]; exact small1000 hW, ?_⟩
          refine ⟨_, F5 ++ [t], W5 ++ [t], rfl, fun q o e => ?_, by rw [upd_ne dwl, upd_same], by rw [upd_same, natsV_app] <;> rfl, ?_, A6, ?_⟩
          · rw [upd_ne (wne q o e), upd_ne (dne q o e)]
            exact s5 q o e
          · have t6 : p2 ≠ d := ne_of t5 d5 (by intro z; cases z)
            have t7 : p2 ≠ wl := ne_of t5 w5 (by intro z; cases z)
            rw [upd_ne t7, upd_ne t6]
            exact t5
          · rw [List.length_append] at hF6 ⊢
            rw [List.length_append]
            have e1 : ([t] : List Nat).length = 1 := rfl
            omega
      · obtain ⟨y3, F5, W5, rfl, s5, d5, w5, t5, A5, m5⟩ := z
        rw [natsV_len, ← ho] at A5
        refine ⟨_, ?_, y3, F5, W5, rfl, s5, d5, w5, A5.done, rfl, ?_⟩
        · rw [List.length_append, List.length_singleton]
          omega
        · rw [List.length_append] at m40
          omega
end
end Rr
/-! ### enumerate of a tuple -/
namespace Rr
open PySem PySem.Spec PyProof.Rows L2
theorem meets_enum1 {x : Value} {oi : Obj} {W : Heap → Prop} (B : Begins x oi W) :
    Meets (Builtin.«enumerate.__new__» ⟨[.type "enumerate", x], []⟩) (fun _ R s => W s.heap ∧ R (.ok (.ret (.ref (s.heap.push oi).objs.size)))
      { s with heap := (s.heap.push oi).push { cls := .type "enumerate", data := .fields #[.none, .bool false, .ref s.heap.objs.size, rawInt 0, .none, .none] } }) :=
  .of_wp fun pr ww AA R s0 z => by
    obtain ⟨h0, g0, d0, t0, o0⟩ := s0
    obtain ⟨z1, z2⟩ := z
    have hs0 := sub_enumerate
    have step : ∀ {A1 : Around} {E1 : Value → Shared → Prop} {Q1 : Value → Shared → Prop}, Q1 (.ref h0.objs.size) ⟨h0.push oi, g0, d0, t0, o0⟩ → wpAny (model pr ww) A1 (pyIter x) Q1 E1 ⟨h0, g0, d0, t0, o0⟩ := fun q => B.iter pr ww _ _ ⟨h0, g0, d0, t0, o0⟩ _ z1 q
    wp_walk using step
    refine wpAny_stack_any fun st0 => wpAny_pure ?_
    split
    · rename_i c0 _ _ _ _ _
      cases (c0 == Value.type "enumerate") <;> (wp_walk using step; exact ⟨_, rfl, z2⟩)
    · wp_walk using step
      exact ⟨_, rfl, z2⟩
theorem call_enum1 {pr : Program} {ww : World} {AA : Around} {E : Value → Shared → Prop} {s : Shared} {x : Value} {oi : Obj} {W : Heap → Prop} {Q : Value → Shared → Prop} (B : Begins x oi W) (z1 : W s.heap)
    (z : ∀ h', IsEnum h' (s.heap.objs.size + 1) s.heap.objs.size 0 .none → h'.get? s.heap.objs.size = some oi → (∀ b o, s.heap.get? b = some o → h'.get? b = some o) → Q (.ref (s.heap.objs.size + 1)) { s with heap := h' }) :
    wpAny (model pr ww) AA (call (.type "enumerate") [x]) Q E s := by
  refine callType_new F.called_enumerate (by decide) (F.typeCall_enumerate_1 _) (F.newCall_enumerate_1 _) (fun o => F.args_object_init_2 o _) F.entry_enumerate_new (meets_enum1 B) ⟨z1, ?_⟩
  have n1 : (s.heap.push oi).objs.size = s.heap.objs.size + 1 := Heap.size_push ..
  show _ ∧ _
  rw [n1]
  have e1 : IsEnum ((s.heap.push oi).push { cls := .type "enumerate", data := .fields #[.none, .bool false, .ref s.heap.objs.size, rawInt 0, .none, .none] }) (s.heap.objs.size + 1) s.heap.objs.size 0 .none := by
    have e2 := Heap.get?_push_size (s.heap.push oi) (o := { cls := .type "enumerate", data := .fields #[.none, .bool false, .ref s.heap.objs.size, rawInt 0, .none, .none] }) rfl
    rw [n1] at e2
    exact e2
  exact ⟨⟨_, e1, rfl⟩, z _ e1 (Heap.get?_push_of_some _ (Heap.get?_push_size _ B.free)) fun b o q => Heap.get?_push_of_some _ (Heap.get?_push_of_some _ q)⟩
theorem wpAny_pyNext_enum_endT {pr : Program} {ww : World} {AA : Around} {E : Value → Shared → Prop} {s : Shared} {e it t : Addr} {i : Nat} {items : Array Value} {old : Value} {Q : Option Value → Shared → Prop} (hh : AA.handled = none)
    (z1 : IsEnum s.heap e it i old) (z2 : s.heap.IsTupleIter it t i) (z3 : s.heap.IsTuple t items) (z4 : items[i]? = none) (hQ : ∀ h', Heap.ExtBut it s.heap h' → Q none { s with heap := h' }) : wpAny (model pr ww) AA (pyNext (.ref e)) Q E s := by
  have ty : s.TypeIs (.ref e) "enumerate" := ⟨_, z1, rfl⟩
  unfold pyNext
  refine wpAny_bind (wpAny_attempt (wpAny_callSpecial?_slot (name := Str.ofString "__next__") ty F.slot_enumerate_next (wpAny_call_entry F.slot_enumerate_next ty F.entry_enumerate_next ?_ (F.args_enumerate_next_1 _))))
  show wpAny _ _ (field (.ref e) 2 >>= _) _ _ _
  refine wpAny_bind (wpAny_field z1 rfl (x := .ref it) rfl ?_)
  refine wpAny_bind (wpAny_nextOf_tuple_end hh z2 z3 z4 fun h' y q1 q2 => ?_)
  obtain ⟨o, ho, hc⟩ := q2
  refine wpAny_bind (wpAny_isInstance (T := "StopIteration") (b := true) ⟨o, ho, hc⟩ isSubtype_stop ?_)
  exact wpAny_pure (hQ _ q1)
/-- the tuple at a, each item in a new pair -/
def Iet (K : PySem.W.Frag) (a : Addr) : It :=
  ⟨fun i H => ∃ (xs : List V) (x : V), SqT K H a xs ∧ xs[i]? = some x, fun i H v H' => ∃ T x, v = .ref T ∧ H T = none ∧ H' = upd H T (.tup [.int (i : Nat), x]) ∧ ∀ xs, SqT K H a xs → xs[i]? = some x,
    fun i H => ∃ xs : List V, SqT K H a xs ∧ xs.length ≤ i⟩
theorem turn_enumT {P : Program} {w : World} {K : PySem.W.Frag} {elts : List Expr} {kk : Nat} {tpos : Pos} (a e it : Addr) (na : a ≠ it) (ne : a ≠ e) :
    Turn P w K (.Tuple elts kk tpos) (Iet K a) [e, it] e (fun i h => (∃ old, IsEnum h e it ((i : Nat) : Int) old) ∧ h.IsTupleIter it a i ∧ e ≠ it) where
  mem := by simp
  obj := fun i h st b hb => by
    obtain ⟨⟨old, he⟩, ⟨o, ho, hc, hd⟩, _⟩ := st
    rcases (by simpa using hb : b = e ∨ b = it) with rfl | rfl
    · exact ⟨_, he, fun v q => nomatch q⟩
    · exact ⟨o, ho, fun v q => by rw [hd] at q; cases q⟩
  keep := fun i h h' st k => let ⟨⟨old, he⟩, hi, hne⟩ := st; ⟨⟨old, k e (by simp) _ he⟩, hi.at fun o q => k it (by simp) o q, hne⟩
  item := by
    intro X hP hw hK hc i pins s σ H E I hf st hg
    subst hP hw hK
    obtain ⟨⟨old, he⟩, hit, hne⟩ := st
    obtain ⟨xs, x, hq, hx⟩ := hg
    obtain ⟨its, rv, p, hz⟩ := I.tuple hq
    obtain ⟨u, hu, ru⟩ := rv.get hx
    have hi : i < its.length := (List.getElem?_eq_some_iff.mp hu).1
    have hel : e < s.heap.objs.size := Heap.lt_size he
    have hil : it < s.heap.objs.size := by
      obtain ⟨_, q, _⟩ := hit
      exact Heap.lt_size q
    have D := Draws.tuple (prog := X.prog) (w := X.w) (A := X.A.in1) (I.ok.hd hc) it a na its.toArray
    refine wpAny_pyNext_enum_itemD D he ⟨hit, (show s.heap.IsTuple a its.toArray from p)⟩ (by simpa using hi) hne (by simp only [List.mem_cons, List.not_mem_nil, or_false, not_or]; exact ⟨hne, ne.symm⟩) fun y h' tk hy ho hst hT hsz hk => ?_
    have ey : y = u := by
      have hy' : its.toArray[i]? = some y := hy
      rw [List.getElem?_toArray, hu] at hy'
      exact (Option.some.inj hy').symm
    subst ey
    refine ⟨_, rfl, wpAny_letOwnedTupleGo_enum (s := { s with heap := h', toks := tk + 1 }) ho fun h'' he' sb => ?_⟩
    have hT2 : h''.get? s.heap.objs.size = some { cls := .type "tuple", data := .seq #[.int i tk, y] } := (sb.2 _ (Nat.ne_of_gt hel)).trans hT
    have new : ObjOk X.prog X.w (upd H s.heap.objs.size (.tup [.int (i : Nat), x])) h'' s.heap.objs.size (.tup [.int (i : Nat), x]) :=
      ⟨by show 2 ≤ sizeLine; decide, [.int i tk, y], .cons ⟨_, rfl⟩ (.cons ru .nil), ⟨_, hT2, rfl, _, rfl⟩⟩
    have J : Inv X pins σ (upd H s.heap.objs.size (.tup [.int (i : Nat), x])) { s with heap := h'', toks := tk + 1 } :=
      I.turnedNew (ch := [e, it]) (fun b ob hb q => (sb.2 b (fun z => hb (by simp [z]))).trans (hk b ob (fun z => hb (by simp [z])) (fun z => hb (by simp [z])) q)) hf (Nat.le_refl _) new
    refine ⟨.ref s.heap.objs.size, _, J, rfl, ⟨_, x, rfl, I.hok.fresh (Nat.le_refl _), rfl, fun ys hy => by rw [I.tuple_inj hy hq]; exact hx⟩, ⟨⟨y, ?_⟩, hst.1.at fun o q => (sb.2 it (Ne.symm hne)).trans q, hne⟩, fun b hb => ?_⟩
    · rw [show ((i + 1 : Nat) : Int) = (i : Int) + 1 by omega]
      exact he'
    · have hb' : b < s.heap.objs.size := by
        rcases (by simpa using hb : b = e ∨ b = it) with rfl | rfl
        · exact hel
        · exact hil
      rw [upd_ne (Nat.ne_of_lt hb')]
      exact (hf b hb).1
  done := by
    intro X hP hw hK hc i pins s σ H E I hf st hg
    subst hP hw hK
    obtain ⟨⟨old, he⟩, hit, hne⟩ := st
    obtain ⟨xs, hq, hx⟩ := hg
    obtain ⟨its, rv, p, hz⟩ := I.tuple hq
    obtain ⟨f0, f1, f2, f3, f4, f5⟩ := hf it (by simp)
    have hl := rv.length
    refine wpAny_pyNext_enum_endT (I.ok.hd hc) he hit (show s.heap.IsTuple a its.toArray from p) (by simp; omega) fun h' eb => ⟨rfl, I.turned (t' := s.toks) (fun b o hb q => eb b o hb q) f0 f1 f3 f4 f5⟩
  self := fun A i s Q E st h => let ⟨⟨_, he⟩, _⟩ := st; wpAny_pyIter_enum he h
def iEnumT (K : PySem.W.Frag) (ta : TA) : TI := fun σ H R => ta σ H fun vs H1 => ∃ a xs, vs = [.ref a] ∧ SqT K H1 a xs ∧ R (Iet K a) H1
theorem pi_enumT {X : Cx} {e : Expr} {ta : TA} {p pos tpos : Pos} {elts : List Expr} {kk : Nat} (hg : Gl X "enumerate") (hm : X.mg "enumerate" = none) (ha : PA X [e] ta) (hs : starEach [e] X.env = [(false, eval e X.env)] := by rfl) :
    PI X (.Tuple elts kk tpos) (.Call (.Name "enumerate" p) [e] [] pos) (iEnumT X.K ta) := by
  refine ⟨fun pins s σ H R I h => ?_⟩
  refine Call_ (ld_blt I hg hm boot_enumerate (PyProof.Rows.callWith_type1 (thn (ha.run pos pins s σ H _ I h) fun us s1 ⟨vs, H1, I1, r1, q1⟩ => ?_) hs rfl))
  obtain ⟨a, xs, rfl, hq, q⟩ := q1
  cases r1 with
  | cons r rr =>
    cases rr
    cases r
    obtain ⟨its, rv, p', hz⟩ := I1.tuple hq
    have isT : s1.heap.IsTuple a its.toArray := p'
    have al : a < s1.heap.objs.size := by
      obtain ⟨o, ho, _⟩ := isT
      exact Heap.lt_size ho
    refine call_enum1 (begins_tuple a its.toArray) isT fun h' he hit hk => wpAny_pyIter_enum he ?_
    have I2 : Inv X pins σ H1 { s1 with heap := h' } := I1.kept (t' := s1.toks) hk
    refine ⟨s1.heap.objs.size + 1, [s1.heap.objs.size + 1, s1.heap.objs.size], _, _, H1, rfl, I2, turn_enumT a (s1.heap.objs.size + 1) s1.heap.objs.size (Nat.ne_of_lt al) (Nat.ne_of_lt (Nat.lt_succ_of_lt al)), ⟨⟨.none, he⟩, ⟨_, hit, rfl, rfl⟩, Nat.succ_ne_self _⟩, fun b hb => ?_, q⟩
    have hle : s1.heap.objs.size ≤ b := by
      rcases (by simpa using hb : b = s1.heap.objs.size + 1 ∨ b = s1.heap.objs.size) with z | z
      · rw [z]
        exact Nat.le_add_right _ _
      · rw [z]
        exact Nat.le_refl _
    exact I1.fpOk hle (I1.hok.fresh hle)
/-- a comprehension over enumerate of a tuple -/
theorem lc_enumT {K : PySem.W.Frag} {a : Addr} {xs : List V} {g : TG} {tt : TT} {te : TE} {vs : List Nat} {σ : L2.St} {H1 : Hp} {D : Addr} {Qd : Hp → Prop} (Pv : Nat → Hp → Prop) (h0 : Pv 0 (upd H1 D (.lst []))) (hl : ∀ i H, i ≤ xs.length → Pv i H → SqT K H a xs)
    (hs : ∀ i x H T, xs[i]? = some x → Pv i H → H T = none → g (.ref T) (wipe σ vs) (upd H T (.tup [.int (i : Nat), x])) fun σ2 H2 => wipe σ2 vs = wipe σ vs ∧ tt σ2 H2 fun b H3 =>
      if b = true then te σ2 H3 fun y H4 => ∃ acc, H4 D = some (.lst acc) ∧ acc.length < sizeLine ∧ Pv (i + 1) (upd H4 D (.lst (acc ++ [y]))) else Pv (i + 1) H3) (hd : ∀ H, Pv xs.length H → Qd H) :
    ∃ W : Nat → Nat → Hp → Prop, (∃ m, W 0 m (upd H1 D (.lst []))) ∧ ∀ i m H, W i m H →
      ((Iet K a).stop i H ∧ Qd H) ∨ ((Iet K a).go i H ∧ ∃ Nx : Hp → Prop, (∀ H', Nx H' → ∃ m', m' < m ∧ W (i + 1) m' H') ∧ ∀ x H', (Iet K a).yld i H x H' → g x (wipe σ vs) H' fun σ2 H2 => wipe σ2 vs = wipe σ vs ∧ tt σ2 H2 fun b H3 =>
        if b = true then te σ2 H3 fun y H4 => ∃ acc, H4 D = some (.lst acc) ∧ acc.length < sizeLine ∧ Nx (upd H4 D (.lst (acc ++ [y]))) else Nx H3) := by
  refine ⟨fun i m H => m = xs.length - i ∧ i ≤ xs.length ∧ Pv i H, ⟨xs.length, by simp, Nat.zero_le _, h0⟩, ?_⟩
  rintro i m H ⟨rfl, hi, z⟩
  have sq := hl i H hi z
  rcases Nat.lt_or_ge i xs.length with lt | ge
  · refine .inr ⟨⟨xs, xs[i], sq, by simp [lt]⟩, Pv (i + 1), fun H' z' => ⟨xs.length - (i + 1), by omega, rfl, lt, z'⟩, fun v H' y => ?_⟩
    obtain ⟨T, x, rfl, hT, rfl, hx⟩ := y
    exact hs i x _ T (hx xs sq) z hT
  · have en : i = xs.length := by omega
    subst en
    exact .inl ⟨⟨xs, sq, Nat.le_refl _⟩, hd H z⟩
end Rr
/-! ### the class Program, its instances, its methods -/
namespace Rr
open PySem PySem.Spec PyProof.Rows L2
structure PrF (K : PySem.W.Frag) : Prop where
  cls : SlX.SCls K (He.ga K "Program")
  isi : SlX.SIsi K (He.ga K "Program")
  s_blocks : ∃ p, SlX.Slot1 K (He.ga K "Program") "blocks" p 3
  s_many : ∃ p, SlX.Slot1 K (He.ga K "Program") "many" p 1
  s_handed : ∃ p, SlX.Slot1 K (He.ga K "Program") "handed" p 0
  s_span : ∃ p, SlX.Slot1 K (He.ga K "Program") "span" p 2
  kP : PySem.W.kitOne K (.ref (He.ga K "Program")) (.ref (He.ga K "Program")) = some true
  kB : PySem.W.kitOne K (.ref (He.ga K "Program")) (.ref (He.ga K "Blocks")) = some true
/-- v is an instance of Program with these parts -/
structure Pr (K : PySem.W.Frag) (H : Hp) (v : V) (many handed span : Nat) (bs : List Bk) : Prop where
  at_ : ∃ a dx vb, v = .ref a ∧ SlX.Slt H a (He.ga K "Program") dx [some (.int handed), some (.int many), some (.int span), some vb] ∧ Dp K H vb (dBks bs)
  ok : Bks many span bs
theorem Same.slt {H H' : Hp} {a C dx : Addr} {vs : List (Option V)} (e : Same H H') (h : SlX.Slt H a C dx vs) : SlX.Slt H' a C dx vs := by
  rcases h with ⟨h1, h2⟩ | ⟨h1, h2⟩
  · exact .inl ⟨e a _ h1, h2⟩
  · exact .inr ⟨e a _ h1, e dx _ h2⟩
theorem Pr.ext {K : PySem.W.Frag} {H H' : Hp} {v : V} {many handed span : Nat} {bs : List Bk} (e : Same H H') (h : Pr K H v many handed span bs) : Pr K H' v many handed span bs := by
  obtain ⟨⟨a, dx, vb, e1, h1, h2⟩, ok⟩ := h
  exact ⟨⟨a, dx, vb, e1, Same.slt e h1, dp_ext e h2⟩, ok⟩
/-- a method that may be called -/
structure Mth (P : Program) (w : World) (K : PySem.W.Frag) (mg : Str → Option Value) (base : Heap) (k : Nat) (m : Str) (sp : Sp) : Prop where
  mt : Meth K (He.ga K "Program") m (He.ma K (He.ga K "Program") m)
  fi : PySem.W.fnIn K (He.ma K (He.ga K "Program") m) = true
  run : FnR P w K mg base CX0 k (He.ma K (He.ga K "Program") m) sp
section
variable {P : Program} {w : World} {K : PySem.W.Frag} {mg : Str → Option Value} {base : Heap}
theorem mth_mk {m qual : Str} {st : Stmt} {N ps : List Str} {k : Nat} {sp : Sp} (F : MtAt K m qual st) (S : FnScope N ps (defScope st))
    (hb : ∀ (kV doc pm : Value) (an : Option Addr) (cdv ct : Value) (us : List Value), us.length = ps.length → bindArgs (PySem.W.fnOf m qual (defArgs st) (defBody st) (defScope st) .none kV doc pm an cdv ct) ⟨us, []⟩ = pure (ps.zip us))
    (len : ∀ vs H Q E, sp vs H Q E → vs.length = ps.length)
    (hbody : ∀ (f : Addr) (cdv : Value) (A : Around) (outer : List Env) (s : Shared) (H : Hp) (vs : List V) (Q : VK) (E : XK), Room k (A.deeper (envOfC qual (defScope st) s.heap.objs.size f cdv)) → sp vs H Q E →
      ∃ t, PSs (cxOf CX0 P w K mg base N qual (defScope st) f cdv A outer s H E).nox (defBody st) t ∧ t { nx := fun _ H' => Q .non H', rt := Q } (start N vs) H) : Mth P w K mg base (k + 1) m sp := by
  obtain ⟨hm, fd, F⟩ := F
  obtain ⟨oc, od, dV, kV, doc, pm, an, cdv, ct, osl, e1, lk, _, _, _⟩ := F.ex
  refine ⟨hm, ?_, ?_⟩
  · unfold PySem.W.fnIn
    rw [lk]
  · refine FnR.imp (FnOk.raw (F.ok S len fun cdv A outer s H vs Q E hr hsp => ?_) (F.bindsN hb) .nil) (fun vs H Q E h => ?_)
    · obtain ⟨t, h, q⟩ := hbody _ cdv A outer s H vs Q E hr hsp
      exact ⟨t, h.nox, q⟩
    · rw [List.append_nil]
      exact h
theorem Mth.imp {m : Str} {k : Nat} {sp sp' : Sp} (c : Mth P w K mg base k m sp) (h : ∀ vs H Q E, sp' vs H Q E → sp vs H Q E) : Mth P w K mg base k m sp' := ⟨c.mt, c.fi, c.run.imp h⟩
end
section
variable {X : Cx} {k j : Nat} {m : Str} {sp : Sp} {o e a b : Expr} {es : List Expr} {pos apos : Pos} {ta tb : TE} {t : TA}
theorem pm {pl : Sem Bool} (c : Mth X.prog X.w X.K X.mg X.base k m sp) (F : PrF X.K) (hr : Room j X.A) (hk : k ≤ j) (ho : PE X o ta) (ha : PA X (e :: es) t)
    (hst : starEach (e :: es) X.env = (false, eval e X.env) :: starEach es X.env := by rfl) (hpl : (backTo pos (starEach es X.env)).any (·.1) = false := by rfl)
    (ht : eval (.Call (.Attribute o m apos) (e :: es) [] pos) X.env = (do
      let ov ← eval o X.env
      standAt apos.atName
      let (f, first) ← holding [ov] (getMethod ov m pl)
      callWith pos f first (backTo pos (starEach (e :: es) X.env)) (backToKw pos (keywordEach [] X.env))) := by rfl) :
    PE X (.Call (.Attribute o m apos) (e :: es) [] pos) (SlX.tMethSl (He.ga X.K "Program") sp E0 ta t) :=
  SlX.pe_methSl (pl := pl) ho F.cls c.mt c.run (hr.mono hk) pass0 ha hst hpl ht
/-- len(o) -/
def rLenO (C : Addr) (sp : Sp) : List V → Hp → VK → Prop := fun xs H Q => ∃ a dx vs, xs = [V.ref a] ∧ SlX.Slt H a C dx vs ∧ sp [.ref a] H (fun z H' => ∃ n : Nat, z = .int n ∧ n ≤ 1000 ∧ Q z H') E0
theorem call_lenO (c : Mth X.prog X.w X.K X.mg X.base k "__len__" sp) (hr : Room (k + 1) X.A) : CallR X (.builtin "len") (rLenO (He.ga X.K "Program") sp) := by
  intro pins s σ H xs us Q I r h
  obtain ⟨a, dx, vs, rfl, hsl, q⟩ := h
  obtain ⟨u, rfl, ru⟩ := r.one
  cases (show u = Value.ref a from ru)
  obtain ⟨sl, od, _, J, _⟩ := SlX.slt_inst I hsl
  obtain ⟨mm, F⟩ := I.fr
  refine PySem.W.len_K F I.ok.mod.kin J c.mt.at_ c.mt.fn (wpAny_mono (wpAny_call (SlX.run_at (us := [.ref a]) (ws := [.ref a]) c.run hr.in1 I.env0.in1 pass0 I (.cons rfl .nil) q)) (fun v s' z => ?_) fun _ _ x => x)
  obtain ⟨z', H', I', rz, n, ez, hn, qz⟩ := z
  subst ez
  obtain ⟨tk, e⟩ := (show ∃ t, v = Value.int n t from rz)
  subst e
  refine ⟨⟨by omega, by omega⟩, .int n, H', I'.tok _, ⟨_, rfl⟩, qz⟩
theorem po_len (c : Mth X.prog X.w X.K X.mg X.base k "__len__" sp) (hr : Room (j + 1) X.A) (hk : k ≤ j) {p : Pos} (hg : Gl X "len") (hm : X.mg "len" = none) (ha : PA X [e] t)
    (hs : starEach [e] X.env = (false, eval e X.env) :: starEach [] X.env := by rfl) (hpl : (backTo pos (starEach [] X.env)).any (·.1) = false := by rfl) : PE X (.Call (.Name "len" p) [e] [] pos) (tCB (rLenO (He.ga X.K "Program") sp) t) :=
  pe_callB (call_lenO c (hr.mono (Nat.succ_le_succ hk))) hg hm (by decide +kernel) ha (by decide) (by decide) hs hpl
/-- o[i] -/
def rGetO (C : Addr) (sp : Sp) : R2 := fun x y H Q => ∃ a dx vs, x = .ref a ∧ SlX.Slt H a C dx vs ∧ sp [x, y] H Q E0
theorem po_get (c : Mth X.prog X.w X.K X.mg X.base k "__getitem__" sp) (hr : Room (j + 1) X.A) (hk : k ≤ j) (ha : PE X a ta) (hb : PE X b tb)
    (hs : ∀ o i, subscripted b true o i = runValue (.builtin "lifetime.subscript" ⟨[o, i], []⟩) := by intros; rfl) : PE X (.Subscript a b pos) (tOp (rGetO (He.ga X.K "Program") sp) ta tb) := by
  refine ⟨fun pins s σ H Q I h => ?_⟩
  refine Subscript_ (binT ha hb I h fun v u s2 x y H2 I2 rx ry q => ?_)
  obtain ⟨a, dx, vs, rfl, hsl, q⟩ := q
  cases (show v = Value.ref a from rx)
  obtain ⟨sl, od, _, J, _⟩ := SlX.slt_inst I2 hsl
  obtain ⟨mm, F⟩ := I2.fr
  refine PySem.W.sub_K F I2.ok.mod.kin J c.mt.at_ c.fi c.mt.fn (wpAny_call (SlX.run_at (us := [.ref a, u]) (ws := [.ref a, y]) c.run ((hr.mono (Nat.succ_le_succ hk)).in1) I2.env0.in1 pass0 I2 (.cons rfl (.cons ry .nil)) q)) (hs _ _)
end
end Rr
/-! ### the methods of Blocks -/
namespace Rr
open PySem PySem.Spec PyProof.Rows L2
section
variable {P : Program} {w : World} {K : PySem.W.Frag} {mg : Str → Option Value} {base : Heap}
def sp_len (K : PySem.W.Frag) : Sp := fun vs H Q _ => ∃ v many handed span bs, vs = [v] ∧ Pr K H v many handed span bs ∧ Q (.int ((bs.length : Nat) : Int)) H
theorem bks_len {K : PySem.W.Frag} {H : Hp} {xs : List V} {bs : List Bk} (h : DpAll K H xs (bs.map Bk.d)) : xs.length = bs.length := by rw [DpAll.len h, List.length_map]
-- Blocks.__len__: 0 self
theorem sc_Blocks___len__ : FnScope ["self"] ["self"] (defScope s_Blocks___len__) := ⟨rfl, rfl, rfl, by decide +kernel, rfl, by decide +kernel, by decide +kernel⟩
theorem ok_len (T : Facts w K mg) (PF : PrF K) (F : MtAt K "__len__" "Blocks.__len__" s_Blocks___len__) : Mth P w K mg base 1 "__len__" (sp_len K) := by
  refine mth_mk F sc_Blocks___len__ (fun _ _ _ _ _ _ us hl => match us, hl with | [_], _ => rfl) (fun vs H Q E h => ?_) (fun f cdv A outer s H vs Q E hr h => ?_)
  · obtain ⟨v, many, handed, span, bs, rfl, _⟩ := h
    rfl
  · obtain ⟨v, many, handed, span, bs, rfl, ⟨⟨a, dx, vb, rfl, hsl, hb⟩, ok⟩, k⟩ := h
    have nd := sc_Blocks___len__.nd
    refine ⟨_, (pss_one (ps_ret (pe_callB call_len_seq (by rfl) T.b_len (by decide +kernel) (pa_cons (SlX.pe_sl (pv 0)) pa_nil)))), ?_⟩
    obtain ⟨p, sl⟩ := PF.s_blocks
    obtain ⟨b, xs, rfl, hs, ha⟩ := Dp.isTup hb
    refine ⟨_, rfl, a, _, dx, p, _, 3, _, rfl, hsl, PF.cls, sl, rfl, b, xs, rfl, .inr hs, ?_⟩
    rw [bks_len ha]
    exact k
def sp_getitem (K : PySem.W.Frag) : Sp := fun vs H Q _ => ∃ v many handed span bs b bk, vs = [v, .int ((b : Nat) : Int)] ∧ Pr K H v many handed span bs ∧ bs[b]? = some bk ∧ ∀ x, Dp K H x bk.d → Q x H
-- Blocks.__getitem__: 0 self, 1 block
theorem sc_Blocks___getitem__ : FnScope ["self", "block"] ["self", "block"] (defScope s_Blocks___getitem__) := ⟨rfl, rfl, rfl, by decide +kernel, rfl, by decide +kernel, by decide +kernel⟩
theorem ok_getitem (T : Facts w K mg) (PF : PrF K) (F : MtAt K "__getitem__" "Blocks.__getitem__" s_Blocks___getitem__) (c_is_integer : Cal P w K mg base 1 "is_integer" sp_is_integer) : Mth P w K mg base 2 "__getitem__" (sp_getitem K) := by
  refine mth_mk F sc_Blocks___getitem__ (fun _ _ _ _ _ _ us hl => match us, hl with | [_, _], _ => rfl) (fun vs H Q E h => ?_) (fun f cdv A outer s H vs Q E hr h => ?_)
  · obtain ⟨v, many, handed, span, bs, b, bk, rfl, _⟩ := h
    rfl
  · obtain ⟨v, many, handed, span, bs, b, bk, rfl, ⟨⟨a, dx, vb, rfl, hsl, hb⟩, ok⟩, hbk, k⟩ := h
    have nd := sc_Blocks___getitem__.nd
    refine ⟨_, (pss_cons (ps_if (pt_not (pt_val (pc c_is_integer hr (by decide) (by rfl) (pa_cons (pv 1) (pa_cons pe_int (pa_cons (pe_op op_sub (pe_callB call_len_seq (by rfl) T.b_len (by decide +kernel) (pa_cons (SlX.pe_sl (pv 0)) pa_nil)) pe_int) pa_nil)))))) (pss_one ps_never) pss_nil)
    (pss_one (ps_ret (pe_ix ix_tup (SlX.pe_sl (pv 0)) (pv 1) (fun _ _ => rfl))))), ?_⟩
    obtain ⟨p, sl⟩ := PF.s_blocks
    obtain ⟨t, xs, rfl, hs, ha⟩ := Dp.isTup hb
    have hl := bks_len ha
    have hlt : b < bs.length := (List.getElem?_eq_some_iff.mp hbk).1
    obtain ⟨y, hy, hdy⟩ := DpAll.at_ ha (i := b) (d := bk.d) (by rw [List.getElem?_map, hbk] <;> rfl)
    refine ⟨_, rfl, _, rfl, a, _, dx, p, _, 3, _, rfl, hsl, PF.cls, sl, rfl, t, xs, rfl, .inr hs, _, _, rfl, rfl, _, _, _, rfl, _, rfl, iteF' (by rw [int_ok (show (0 : Int) ≤ ((b : Nat) : Int) by omega) (show ((b : Nat) : Int) ≤ ((xs.length : Nat) : Int) - 1 by omega)] <;> rfl) ?_⟩
    exact ⟨_, rfl, a, _, dx, p, _, 3, _, rfl, hsl, PF.cls, sl, rfl, _, rfl, t, xs, _, y, rfl, rfl, hs, atI_nat hy, k y hdy⟩
end
end Rr
namespace Rr
open PySem PySem.Spec PyProof.Rows L2
section
variable {P : Program} {w : World} {K : PySem.W.Frag} {mg : Str → Option Value} {base : Heap}
def sp_rows (K : PySem.W.Frag) : Sp := fun vs H Q _ => ∃ v many handed span bs b bk, vs = [v, .int ((b : Nat) : Int)] ∧ Pr K H v many handed span bs ∧ bs[b]? = some bk ∧ ∀ x, Dp K H x (.tuple (bk.rows.map Rw.d)) → Q x H
-- Blocks.rows: 0 self, 1 block
theorem sc_Blocks_rows : FnScope ["self", "block"] ["self", "block"] (defScope s_Blocks_rows) := ⟨rfl, rfl, rfl, by decide +kernel, rfl, by decide +kernel, by decide +kernel⟩
theorem ok_rows (T : Facts w K mg) (PF : PrF K) (F : MtAt K "rows" "Blocks.rows" s_Blocks_rows) (c_getitem : Mth P w K mg base 2 "__getitem__" (sp_getitem K)) : Mth P w K mg base 4 "rows" (sp_rows K) := by
  refine mth_mk F sc_Blocks_rows (fun _ _ _ _ _ _ us hl => match us, hl with | [_, _], _ => rfl) (fun vs H Q E h => ?_) (fun f cdv A outer s H vs Q E hr h => ?_)
  · obtain ⟨v, many, handed, span, bs, b, bk, rfl, _⟩ := h
    rfl
  · obtain ⟨v, many, handed, span, bs, b, bk, rfl, pr, hbk, k⟩ := h
    have nd := sc_Blocks_rows.nd
    refine ⟨_, (pss_one (ps_ret (pe_ix ix_tup (po_get c_getitem hr (by decide) (pv 0) (pv 1)) (pe_un un_neg pe_int) (fun _ _ => rfl)))), ?_⟩
    have pr0 := pr
    obtain ⟨⟨a, dx, vb, rfl, hsl, hb⟩, ok⟩ := pr0
    refine ⟨_, rfl, _, rfl, a, dx, _, rfl, hsl, _, _, _, _, _, b, bk, rfl, pr, hbk, fun x hx => ?_⟩
    obtain ⟨t, p, v2, xs, rfl, hs, hp, hrows, hfin, hr0⟩ := bk_parts hx
    exact ⟨_, rfl, _, _, _, _, rfl, rfl, hs, at_m2 _ _, k _ hr0⟩
def sp_end (K : PySem.W.Frag) : Sp := fun vs H Q _ => ∃ v many handed span bs b bk, vs = [v, .int ((b : Nat) : Int)] ∧ Pr K H v many handed span bs ∧ bs[b]? = some bk ∧ ∀ x, Dp K H x bk.fin.d → Q x H
-- Blocks.end: 0 self, 1 block
theorem sc_Blocks_end : FnScope ["self", "block"] ["self", "block"] (defScope s_Blocks_end) := ⟨rfl, rfl, rfl, by decide +kernel, rfl, by decide +kernel, by decide +kernel⟩
theorem ok_end (T : Facts w K mg) (PF : PrF K) (F : MtAt K "end" "Blocks.end" s_Blocks_end) (c_getitem : Mth P w K mg base 2 "__getitem__" (sp_getitem K)) : Mth P w K mg base 4 "end" (sp_end K) := by
  refine mth_mk F sc_Blocks_end (fun _ _ _ _ _ _ us hl => match us, hl with | [_, _], _ => rfl) (fun vs H Q E h => ?_) (fun f cdv A outer s H vs Q E hr h => ?_)
  · obtain ⟨v, many, handed, span, bs, b, bk, rfl, _⟩ := h
    rfl
  · obtain ⟨v, many, handed, span, bs, b, bk, rfl, pr, hbk, k⟩ := h
    have nd := sc_Blocks_end.nd
    refine ⟨_, (pss_one (ps_ret (pe_ix ix_tup (po_get c_getitem hr (by decide) (pv 0) (pv 1)) (pe_un un_neg pe_int) (fun _ _ => rfl)))), ?_⟩
    have pr0 := pr
    obtain ⟨⟨a, dx, vb, rfl, hsl, hb⟩, ok⟩ := pr0
    refine ⟨_, rfl, _, rfl, a, dx, _, rfl, hsl, _, _, _, _, _, b, bk, rfl, pr, hbk, fun x hx => ?_⟩
    obtain ⟨t, p, v2, xs, rfl, hs, hp, hrows, hfin, hr0⟩ := bk_parts hx
    exact ⟨_, rfl, _, _, _, _, rfl, rfl, hs, at_m1 _ _, k _ hfin⟩
def sp_followers (K : PySem.W.Frag) : Sp := fun vs H Q _ => ∃ v many handed span bs b, vs = [v, .int ((b : Nat) : Int)] ∧ Pr K H v many handed span bs ∧ b < bs.length ∧ ∀ p, H p = none → Q (.ref p) (upd H p (.tup (natsV (outsAt bs b))))
-- Blocks.followers: 0 self, 1 block
theorem sc_Blocks_followers : FnScope ["self", "block"] ["self", "block"] (defScope s_Blocks_followers) := ⟨rfl, rfl, rfl, by decide +kernel, rfl, by decide +kernel, by decide +kernel⟩
theorem ok_followers (T : Facts w K mg) (PF : PrF K) (F : MtAt K "followers" "Blocks.followers" s_Blocks_followers) (c_end : Mth P w K mg base 4 "end" (sp_end K)) (c_targets_of : Cal P w K mg base 1 "targets_of" (sp_targets_of K)) : Mth P w K mg base 5 "followers" (sp_followers K) := by
  refine mth_mk F sc_Blocks_followers (fun _ _ _ _ _ _ us hl => match us, hl with | [_, _], _ => rfl) (fun vs H Q E h => ?_) (fun f cdv A outer s H vs Q E hr h => ?_)
  · obtain ⟨v, many, handed, span, bs, b, rfl, _⟩ := h
    rfl
  · obtain ⟨v, many, handed, span, bs, b, rfl, pr, hbk, k⟩ := h
    have nd := sc_Blocks_followers.nd
    refine ⟨_, (pss_one (ps_ret (pc c_targets_of hr (by decide) (by rfl) (pa_cons (pm c_end PF hr (by decide) (pv 0) (pa_cons (pv 1) pa_nil)) pa_nil)))), ?_⟩
    have pr0 := pr
    obtain ⟨⟨a, dx, vb, rfl, hsl, hb⟩, ok⟩ := pr0
    have hget : bs[b]? = some bs[b] := List.getElem?_eq_getElem hbk
    refine ⟨_, rfl, a, dx, _, rfl, hsl, _, rfl, _, _, _, _, _, b, bs[b], rfl, pr, hget, fun x hx => ⟨x, bs[b].fin, rfl, hx, fun p hp => ?_⟩⟩
    have e1 : outsAt bs b = bs[b].fin.outs := by
      unfold outsAt
      rw [hget]
    rw [← e1]
    exact k p hp
def sp_entered : Sp := fun vs H Q _ => ∃ v x e t, vs = [v, x, e, t] ∧ Q x H
-- Program.entered: 0 self, 1 numbers, 2 edge, 3 target
theorem sc_Program_entered : FnScope ["self", "numbers", "edge", "target"] ["self", "numbers", "edge", "target"] (defScope s_Program_entered) := ⟨rfl, rfl, rfl, by decide +kernel, rfl, by decide +kernel, by decide +kernel⟩
theorem ok_entered (T : Facts w K mg) (F : MtAt K "entered" "Program.entered" s_Program_entered) : Mth P w K mg base 1 "entered" sp_entered := by
  refine mth_mk F sc_Program_entered (fun _ _ _ _ _ _ us hl => match us, hl with | [_, _, _, _], _ => rfl) (fun vs H Q E h => ?_) (fun f cdv A outer s H vs Q E hr h => ?_)
  · obtain ⟨v, x, e, t, rfl, _⟩ := h
    rfl
  · obtain ⟨v, x, e, t, rfl, k⟩ := h
    have nd := sc_Program_entered.nd
    refine ⟨_, (pss_one (ps_ret (pv 1))), ?_⟩
    exact ⟨_, rfl, k⟩
end
end Rr
namespace Rr
open PySem PySem.Spec PyProof.Rows L2
mutual
/-- no list in it -/
def nl : PyData → Bool
  | .list _ => false
  | .tuple ds => nlAll ds
  | _ => true
def nlAll : List PyData → Bool
  | [] => true
  | d :: r => nl d && nlAll r
end
theorem Rd.put {H : Hp} {a D : Addr} {xs ys zs : List V} (h : Rd H a (.tup xs)) (hD : H D = some (.lst ys)) : Rd (upd H D (.lst zs)) a (.tup xs) := by
  rcases h with h | ⟨o, h⟩
  · exact .inl (by rw [upd_ne (ne_of h hD (by intro z; cases z))]; exact h)
  · exact .inr ⟨o, by rw [upd_ne (ne_of h hD (by intro z; cases z))]; exact h⟩
theorem SqT.put {K : PySem.W.Frag} {H : Hp} {a D : Addr} {xs ys zs : List V} (h : SqT K H a xs) (hD : H D = some (.lst ys)) : SqT K (upd H D (.lst zs)) a xs := by
  rcases h with h | h
  · exact .inl (Rd.put h hD)
  · exact .inr h
mutual
theorem dp_put {K : PySem.W.Frag} {H : Hp} {D : Addr} {ys zs : List V} (hD : H D = some (.lst ys)) : ∀ {v : V} {d : PyData}, nl d = true → Dp K H v d → Dp K (upd H D (.lst zs)) v d
  | _, _, _, .non => .non
  | _, _, _, .bl b => .bl b
  | _, _, _, .int i => .int i
  | _, _, _, .str x => .str x
  | _, _, n, .lst hs ha => by simp [nl] at n
  | _, _, n, .tup hs ha => .tup (SqT.put hs hD) (dpAll_put hD (by simpa [nl] using n) ha)
theorem dpAll_put {K : PySem.W.Frag} {H : Hp} {D : Addr} {ys zs : List V} (hD : H D = some (.lst ys)) : ∀ {vs : List V} {ds : List PyData}, nlAll ds = true → DpAll K H vs ds → DpAll K (upd H D (.lst zs)) vs ds
  | _, _, _, .nil => .nil
  | _, _, n, .cons h t => by
    have n' := n
    simp only [nlAll, Bool.and_eq_true] at n'
    exact .cons (dp_put hD n'.1 h) (dpAll_put hD n'.2 t)
end
theorem nl_all {ds : List PyData} (h : ∀ d ∈ ds, nl d = true) : nlAll ds = true := by
  induction ds with
  | nil => rfl
  | cons d r ih =>
    simp only [nlAll, Bool.and_eq_true]
    exact ⟨h d List.mem_cons_self, ih fun x hx => h x (List.mem_cons_of_mem _ hx)⟩
def prD (q : Nat × Nat) : PyData := .tuple [.int (q.1 : Int), .int (q.2 : Int)]
theorem prD_nl (es : List (Nat × Nat)) : nlAll (es.map prD) = true := nl_all fun d hd => by
  obtain ⟨q, _, rfl⟩ := List.mem_map.mp hd
  rfl
/-- the edges into b: every block that leads there, at least once -/
structure Edg (bs : List Bk) (b : Nat) (es : List (Nat × Nat)) : Prop where
  mem : ∀ o, (∃ q ∈ es, q.1 = o) ↔ b ∈ outsAt bs o
  few : es.length ≤ 32
/-- those of the blocks below i, and of the first j outs of block i -/
structure EdgP (bs : List Bk) (b i j : Nat) (es : List (Nat × Nat)) : Prop where
  mem : ∀ o, (∃ q ∈ es, q.1 = o) ↔ (o < i ∧ b ∈ outsAt bs o) ∨ (o = i ∧ b ∈ (outsAt bs o).take j)
  few : es.length ≤ 2 * i + j
theorem outs_two (bs : List Bk) (o : Nat) : (outsAt bs o).length ≤ 2 := by
  unfold outsAt
  cases bs[o]? with
  | none => simp
  | some b => cases hf : b.fin <;> simp [En.outs, hf]
theorem outs_lt {bs : List Bk} {o b : Nat} (h : b ∈ outsAt bs o) : o < bs.length := by
  unfold outsAt at h
  cases q : bs[o]? with
  | none => rw [q] at h; cases h
  | some x => exact (List.getElem?_eq_some_iff.mp q).1
theorem EdgP.start (bs : List Bk) (b : Nat) : EdgP bs b 0 0 [] := ⟨fun o => by simp, by simp⟩
theorem EdgP.next {bs : List Bk} {b i : Nat} {es : List (Nat × Nat)} (h : EdgP bs b i (outsAt bs i).length es) : EdgP bs b (i + 1) 0 es := by
  refine ⟨fun o => ?_, ?_⟩
  · rw [h.mem o]
    simp only [List.take_zero, List.not_mem_nil, and_false, or_false]
    constructor
    · rintro (⟨h1, h2⟩ | ⟨rfl, h2⟩)
      · exact ⟨by omega, h2⟩
      · rw [List.take_length] at h2
        exact ⟨by omega, h2⟩
    · rintro ⟨h1, h2⟩
      by_cases e : o = i
      · subst e
        exact .inr ⟨rfl, by rw [List.take_length]; exact h2⟩
      · exact .inl ⟨by omega, h2⟩
  · have := h.few
    have := outs_two bs i
    omega
theorem EdgP.hit {bs : List Bk} {b i j : Nat} {es : List (Nat × Nat)} (h : EdgP bs b i j es) (hx : (outsAt bs i)[j]? = some b) : EdgP bs b i (j + 1) (es ++ [(i, j)]) := by
  refine ⟨fun o => ?_, ?_⟩
  · have := h.mem o
    constructor
    · rintro ⟨q, hq, rfl⟩
      rcases List.mem_append.mp hq with hq | hq
      · rcases (h.mem q.1).mp ⟨q, hq, rfl⟩ with z | ⟨z1, z2⟩
        · exact .inl z
        · exact .inr ⟨z1, by rw [z1] at z2 ⊢; rw [take_next hx]; exact List.mem_append_left _ z2⟩
      · rw [List.mem_singleton.mp hq]
        exact .inr ⟨rfl, by rw [take_next hx]; exact List.mem_append_right _ (List.mem_singleton.mpr rfl)⟩
    · rintro (z | ⟨rfl, z2⟩)
      · obtain ⟨q, hq, e⟩ := (h.mem o).mpr (.inl z)
        exact ⟨q, List.mem_append_left _ hq, e⟩
      · exact ⟨(o, j), List.mem_append_right _ (List.mem_singleton.mpr rfl), rfl⟩
  · rw [List.length_append, List.length_singleton]
    have := h.few
    omega
theorem EdgP.miss {bs : List Bk} {b t i j : Nat} {es : List (Nat × Nat)} (h : EdgP bs b i j es) (hx : (outsAt bs i)[j]? = some t) (ne : t ≠ b) : EdgP bs b i (j + 1) es := by
  refine ⟨fun o => ?_, by have := h.few; omega⟩
  rw [h.mem o]
  constructor
  · rintro (z | ⟨rfl, z⟩)
    · exact .inl z
    · exact .inr ⟨rfl, by rw [take_next hx]; exact List.mem_append_left _ z⟩
  · rintro (z | ⟨rfl, z⟩)
    · exact .inl z
    · rw [take_next hx] at z
      rcases List.mem_append.mp z with z | z
      · exact .inr ⟨rfl, z⟩
      · exact absurd (List.mem_singleton.mp z).symm ne
theorem EdgP.done {bs : List Bk} {b : Nat} {es : List (Nat × Nat)} (h : EdgP bs b bs.length 0 es) (hl : bs.length ≤ 16) : Edg bs b es := by
  refine ⟨fun o => ?_, by have := h.few; omega⟩
  rw [h.mem o]
  simp only [List.take_zero, List.not_mem_nil, and_false, or_false]
  exact ⟨fun z => z.2, fun z => ⟨outs_lt z, z⟩⟩
section
variable {P : Program} {w : World} {K : PySem.W.Frag} {mg : Str → Option Value} {base : Heap}
def sp_edges (K : PySem.W.Frag) : Sp := fun vs H Q _ => ∃ v many handed span bs b, vs = [v, .int ((b : Nat) : Int)] ∧ Pr K H v many handed span bs ∧ b < bs.length ∧
  ∀ p xs es H', Same H H' → H' p = some (.lst xs) → DpAll K H' xs (es.map prD) → Edg bs b es → Q (.ref p) H'
-- Blocks.edges_into: 0 self, 1 block*, 2 found, 3 other*, 4 way, 5 target
theorem sc_Blocks_edges_into : FnScope ["self", "block", "found", "other", "way", "target"] ["self", "block"] (defScope s_Blocks_edges_into) := ⟨rfl, rfl, rfl, by decide +kernel, rfl, by decide +kernel, by decide +kernel⟩
theorem ok_edges (T : Facts w K mg) (PF : PrF K) (F : MtAt K "edges_into" "Blocks.edges_into" s_Blocks_edges_into) (c_getitem : Mth P w K mg base 2 "__getitem__" (sp_getitem K)) (c_followers : Mth P w K mg base 5 "followers" (sp_followers K)) : Mth P w K mg base 6 "edges_into" (sp_edges K) := by
  refine mth_mk F sc_Blocks_edges_into (fun _ _ _ _ _ _ us hl => match us, hl with | [_, _], _ => rfl) (fun vs H Q E h => ?_) (fun f cdv A outer s H vs Q E hr h => ?_)
  · obtain ⟨v, many, handed, span, bs, b, rfl, _⟩ := h
    rfl
  · obtain ⟨v, many, handed, span, bs, b, rfl, pr, hbk, k⟩ := h
    have nd := sc_Blocks_edges_into.nd
    refine ⟨_, (pss_cons (ps_set (i := 2) nd rfl (Or.inl rfl) (pe_lst pa_nil))
    (pss_cons (ps_if (pt_cmpR (op_neD hr.units) (po_get c_getitem hr (by decide) (pv 0) (pv 1)) (pe_tup pa_nil) (nomark _)) (pss_one (ps_for PassesOwn.never rfl (pi_range1 (by rfl) T.b_range (pa_cons (pe_callB call_len_seq (by rfl) T.b_len (by decide +kernel) (pa_cons (SlX.pe_sl (pv 0)) pa_nil)) pa_nil)) (pg_name (i := 3) nd rfl (Or.inr rfl)) (pss_one (ps_expr (pe_bm PySem.F.plainAttrs_list PySem.F.slot_list_extend PySem.F.type_list_extend mt_extend (pv 2) (pa_cons (pe_lc (own := [("way", 4), ("target", 5)]) rfl nd (pi_enumT (by rfl) T.b_enumerate (pa_cons (pm c_followers PF hr (by decide) (pv 0) (pa_cons (pv 3) pa_nil)) pa_nil)) (blkOk_by (own := [("way", 4), ("target", 5)]) (by kernel_rfl)) (g := gTup K 2 (gCons (gName 4) (gCons (gName 5) gNil))) (fun _ _ _ _ _ => (pg_tup (n := 2) rfl (pgs_cons (pg_name (i := 4) nd rfl (Or.inl rfl) (Or.inr rfl)) (pgs_cons (pg_name (i := 5) nd rfl (Or.inl rfl) (Or.inr rfl)) pgs_nil)))) (fun _ _ _ _ _ => pts_one (pt_cmpR op_eq (pv 5) (pv 1) (nomark _))) (fun _ _ _ _ _ => (pe_tup (pa_cons (pv 3) (pa_cons (pv 4) pa_nil))))) pa_nil)))))) pss_nil)
    (pss_one (ps_ret (pv 2))))), ?_⟩
    have pr0 := pr
    obtain ⟨⟨a, dx, vb, rfl, hsl, hb⟩, ok⟩ := pr0
    have hget : bs[b]? = some bs[b] := List.getElem?_eq_getElem hbk
    obtain ⟨ps, slb⟩ := PF.s_blocks
    refine ⟨by decide, fun l hl0 => ?_⟩
    have s1 : Same H (upd H l (.lst [])) := Same.new hl0
    have l1 : (upd H l (.lst [])) l = some (.lst []) := upd_same
    generalize upd H l (.lst []) = H1 at s1 l1 ⊢
    refine ⟨_, rfl, _, rfl, a, dx, _, rfl, Same.slt s1 hsl, _, _, _, _, _, b, bs[b], rfl, pr.ext s1, hget, fun x hx => ⟨by decide, fun p hp => ?_⟩⟩
    refine ⟨_, _, dp_ext (Same.new hp) hx, .tup (.inl (.inl upd_same)) .nil, (Bk.sh _).shaped (by decide), sh_nil.shaped (by decide), _, rfl, iteT' (by unfold Bk.d; rw [eqv_nil] <;> rfl) ?_⟩
    have s2 : Same H (upd H1 p (.tup [])) := s1.trans (Same.new hp)
    have l2 : (upd H1 p (.tup [])) l = some (.lst []) := by rw [upd_ne (ne_of_none l1 hp)]; exact l1
    generalize upd H1 p (.tup []) = H2 at s2 l2 ⊢
    obtain ⟨tb, xb, rfl, hsb, hab⟩ := Dp.isTup hb
    have hlb := bks_len hab
    refine ⟨_, rfl, a, _, dx, ps, _, 3, _, rfl, Same.slt s2 hsl, PF.cls, slb, rfl, tb, xb, rfl, .inr (Same.sqt s2 hsb), ?_⟩
    have hfew := ok.few
    have hlH : ∀ q o, H q = some o → q ≠ l := fun q o e => ne_of_none e hl0
    refine ⟨_, rfl, by omega, by omega, ?_⟩
    refine for_range (fun i σ' H' => ∃ x3 acc es, σ' = [some (.ref a), some (.int ((b : Nat) : Int)), some (.ref l), x3, none, none] ∧ Same H H' ∧ H' l = some (.lst acc) ∧ DpAll K H' acc (es.map prD) ∧ EdgP bs b i 0 es)
      ⟨none, [], [], rfl, s2, l2, .nil, EdgP.start bs b⟩ (fun i σ' H' hi z => ?_) (fun σ' H' z => ?_)
    · obtain ⟨x3, acc, es, rfl, s3, l3, da, ep⟩ := z
      have hi' : i < bs.length := by omega
      rw [Int.zero_add]
      refine ⟨_, rfl, .inl ⟨rfl, _, .inl (.inl l3)⟩, _, rfl, a, dx, _, rfl, Same.slt s3 hsl, _, rfl, _, _, _, _, _, i, rfl, pr.ext s3, hi', fun p3 hp3 => ⟨p3, _, rfl, .inl (.inl upd_same), fun D hD => ?_⟩⟩
      have hln : l ≠ p3 := ne_of_none l3 hp3
      have s4 : Same H (upd H' p3 (.tup (natsV (outsAt bs i)))) := s3.trans (Same.new hp3)
      have l4 : (upd H' p3 (.tup (natsV (outsAt bs i)))) l = some (.lst acc) := by rw [upd_ne hln]; exact l3
      have t4 : (upd H' p3 (.tup (natsV (outsAt bs i)))) p3 = some (.tup (natsV (outsAt bs i))) := upd_same
      have d4 := dpAll_ext (Same.new (o := .tup (natsV (outsAt bs i))) hp3) da
      generalize upd H' p3 (.tup (natsV (outsAt bs i))) = H4 at s4 l4 t4 d4 hD ⊢
      refine lc_enumT (xs := natsV (outsAt bs i)) (fun j H5 => ∃ acc2 es2, Same H4 H5 ∧ H5 D = some (.lst acc2) ∧ DpAll K H5 acc2 (es2.map prD) ∧ EdgP bs b i j (es ++ es2) ∧ acc2.length ≤ j)
        ⟨[], [], Same.new hD, upd_same, .nil, by rw [List.append_nil]; exact ep, by simp⟩ (fun j H5 _ z => ?_) (fun j x H5 T5 hx z hT5 => ?_) (fun H5 z => ?_)
      · obtain ⟨acc2, es2, s5, _⟩ := z
        exact .inl (.inl (s5 _ _ t4))
      · obtain ⟨acc2, es2, s5, D5, d5, ep5, n5⟩ := z
        obtain ⟨t, ht, rfl⟩ : ∃ t, (outsAt bs i)[j]? = some t ∧ x = V.int (t : Int) := by
          unfold natsV at hx
          rw [List.getElem?_map] at hx
          cases q : (outsAt bs i)[j]? with
          | none => rw [q] at hx; cases hx
          | some t => rw [q] at hx; cases hx; exact ⟨t, rfl, rfl⟩
        have hj2 : j < 2 := Nat.lt_of_lt_of_le (List.getElem?_eq_some_iff.mp ht).1 (outs_two bs i)
        have s6 : Same H4 (upd H5 T5 (.tup [.int (j : Nat), .int (t : Int)])) := s5.trans (Same.new hT5)
        have D6 : (upd H5 T5 (.tup [.int (j : Nat), .int (t : Int)])) D = some (.lst acc2) := by rw [upd_ne (ne_of_none D5 hT5)]; exact D5
        have d6 := dpAll_ext (Same.new (o := .tup [.int (j : Nat), .int (t : Int)]) hT5) d5
        refine ⟨T5, _, rfl, .inl (.inl upd_same), rfl, _, _, rfl, _, _, rfl, rfl, rfl, ?_⟩
        generalize upd H5 T5 (.tup [.int (j : Nat), .int (t : Int)]) = H6 at s6 D6 d6 ⊢
        refine ⟨_, rfl, _, rfl, rfl, _, rfl, ?_⟩
        have dec : (decide (V.int (t : Int) = V.int ((b : Nat) : Int))) = decide (t = b) := by
          by_cases e : t = b
          · subst e
            rw [decide_eq_true rfl, decide_eq_true rfl]
          · rw [decide_eq_false e, decide_eq_false (fun z => e (by have := V.int.inj z; omega))]
        rw [dec]
        by_cases e : t = b
        · subst e
          refine iteT' (decide_eq_true (rfl : t = t)) ?_
          refine ⟨_, rfl, _, rfl, line1 (by simp), fun p7 hp7 => ⟨acc2, ?_, small1000 (by omega), acc2 ++ [.ref p7], es2 ++ [(i, j)], ?_, upd_same, ?_, ?_, ?_⟩⟩
          · rw [upd_ne (ne_of_none D6 hp7)]
            exact D6
          · exact Same.app (s6.trans (Same.new hp7)) hD
          · have p7D : p7 ≠ D := (ne_of_none D6 hp7).symm
            rw [List.map_append]
            have D7 : (upd H6 p7 (.tup [.int ((i : Nat) : Int), .int ((j : Nat) : Int)])) D = some (.lst acc2) := by rw [upd_ne p7D.symm]; exact D6
            refine dpAll_put D7 ?_ (DpAll.app (dpAll_ext (Same.new hp7) d6) (.cons (.tup (.inl (.inl upd_same)) (.cons (.int _) (.cons (.int _) .nil))) .nil))
            rw [← List.map_append]
            exact prD_nl _
          · rw [← List.append_assoc]
            exact ep5.hit ht
          · rw [List.length_append, List.length_singleton]
            omega
        · refine iteF' (decide_eq_false e) ?_
          exact ⟨acc2, es2, s6, D6, d6, ep5.miss ht e, by omega⟩
      · obtain ⟨acc2, es2, s5, D5, d5, ep5, n5⟩ := z
        rw [natsV_len] at ep5 n5
        have l5 : H5 l = some (.lst acc) := s5 _ _ l4
        have n5' := outs_two bs i
        have na : acc.length ≤ 32 := by
          have h1 := DpAll.len d4
          rw [List.length_map] at h1
          have := ep.few
          omega
        refine ⟨l, D, acc, acc2, rfl, rfl, l5, D5, small1000 (by omega) |> Nat.le_of_lt, _, acc ++ acc2, es ++ es2, rfl, fun q o e => ?_, upd_same, ?_, ep5.next⟩
        · rw [upd_ne (hlH q o e)]
          exact s5 _ _ (s4 _ _ e)
        · rw [List.map_append]
          refine dpAll_put l5 ?_ (DpAll.app (dpAll_ext s5 d4) d5)
          rw [← List.map_append]
          exact prD_nl _
    · obtain ⟨x3, acc, es, rfl, s3, l3, da, ep⟩ := z
      refine ⟨_, rfl, k l acc es H' s3 l3 da (EdgP.done ?_ hfew)⟩
      rw [← hlb]
      simpa using ep
end
end Rr
/-! ### rules whose readings name K itself (for what stands in a comprehension) -/
namespace Rr
open PySem PySem.Spec PyProof.Rows L2
section
variable {X : Cx} {K : PySem.W.Frag}
theorem op_inK (e : X.K = K) : OpR X (compareOp .In) (rIn K false) := by
  rw [← e]
  exact op_in_seq
theorem op_notInK (e : X.K = K) : OpR X (compareOp .NotIn) (rIn K true) := by
  rw [← e]
  exact op_notIn_seq
theorem ix_listK (e : X.K = K) : IxR X (rIxL K) := by
  rw [← e]
  exact ix_list
theorem ix_tupK (e : X.K = K) : IxR X (rIxT K) := by
  rw [← e]
  exact ix_tup
theorem call_lenK (e : X.K = K) : CallR X (.builtin "len") (fun xs H Q => ∃ p ys, xs = [.ref p] ∧ (SqL K H p ys ∨ SqT K H p ys) ∧ Q (.int ys.length) H) := by
  rw [← e]
  exact call_len_seq
theorem cr_allK (e : X.K = K) (hc : X.calm = true) : CallR X (.builtin "all") (rAll K) := by
  rw [← e]
  exact cr_all hc
theorem cr_sortedK (e : X.K = K) : CallR X (.builtin "sorted") (rSorted K) := by
  rw [← e]
  exact cr_sorted
theorem op_eqDK (e : X.K = K) (hu : X.A.units + 64 < cLine) : OpR X (compareOp .Eq) (rEqD K) := by
  rw [← e]
  exact op_eqD hu
theorem op_neDK (e : X.K = K) (hu : X.A.units + 64 < cLine) : OpR X (compareOp .NotEq) (rNeD K) := by
  rw [← e]
  exact op_neD hu
theorem op_catAK (e : X.K = K) : OpR X (binaryOp .Add) (rCatA K) := by
  rw [← e]
  exact op_catA
theorem sl_tupAK (e : X.K = K) : SlR X (rSlA K) := by
  rw [← e]
  exact sl_tupA
theorem sl_listK (e : X.K = K) : SlR X (rSlL K) := by
  rw [← e]
  exact sl_list
theorem pi_listK {tg l : Expr} {tl : TE} (e : X.K = K) (hl : PE X l tl) : PI X tg l (iList K tl) := by
  rw [← e]
  exact pi_list hl
theorem pi_tupK {tg l : Expr} {tl : TE} (e : X.K = K) (hl : PE X l tl) : PI X tg l (iTup K tl) := by
  rw [← e]
  exact pi_tup hl
theorem pe_slK {o : Expr} {f : Str} {pos : Pos} {ta : TE} (e : X.K = K) (he : PE X o ta) (hb : attributeBase o f X.env (eval o X.env) = eval o X.env := by rfl) : PE X (.Attribute o f pos) (SlX.tSl K ta f) := by
  rw [← e]
  exact SlX.pe_sl he hb
end
end Rr
namespace Rr
open PySem PySem.Spec PyProof.Rows L2
section
variable {P : Program} {w : World} {K : PySem.W.Frag} {mg : Str → Option Value} {base : Heap}
def sp_chk (K : PySem.W.Frag) : Sp := fun vs H Q _ => ∃ v many handed span bs, vs = [v] ∧ Pr K H v many handed span bs ∧ Q .non H
-- check_graph: 0 program
theorem sc_check_graph : FnScope ["program"] ["program"] (defScope s_check_graph) := ⟨rfl, rfl, rfl, by decide +kernel, rfl, by decide +kernel, by decide +kernel⟩
theorem ok_check_graph (T : Facts w K mg) (PF : PrF K) (F : FnAt K mg "check_graph" s_check_graph) : Cal P w K mg base 1 "check_graph" (sp_chk K) := by
  refine cal_mk F sc_check_graph (fun _ _ _ _ _ _ us hl => match us, hl with | [_], _ => rfl) (fun vs H Q E h => ?_) (fun f cdv A outer s H vs Q E hr h => ?_)
  · obtain ⟨v, many, handed, span, bs, rfl, _⟩ := h
    rfl
  · obtain ⟨v, many, handed, span, bs, rfl, ⟨⟨a, dx, vb, rfl, hsl, hb⟩, ok⟩, k⟩ := h
    have nd := sc_check_graph.nd
    refine ⟨_, (pss_one (ps_if (pt_not (pt_val (pe_callB (SlX.call_isiSl (.ref (He.ga K "Blocks"))) (by rfl) T.b_isinstance (by decide +kernel) (pa_cons (pv 0) (pa_cons (pe_glob (v := .ref (He.ga _ "Blocks")) (by rfl) T.g_Blocks rfl) pa_nil))))) (pss_one ps_never) pss_nil)), ?_⟩
    exact ⟨_, rfl, a, _, dx, _, _, true, rfl, rfl, fun _ z => z, hsl, PF.cls, PF.isi, PF.kB, true, rfl, iteF k⟩
-- check_program: 0 program
theorem sc_check_program : FnScope ["program"] ["program"] (defScope s_check_program) := ⟨rfl, rfl, rfl, by decide +kernel, rfl, by decide +kernel, by decide +kernel⟩
theorem ok_check_program (T : Facts w K mg) (PF : PrF K) (F : FnAt K mg "check_program" s_check_program) : Cal P w K mg base 1 "check_program" (sp_chk K) := by
  refine cal_mk F sc_check_program (fun _ _ _ _ _ _ us hl => match us, hl with | [_], _ => rfl) (fun vs H Q E h => ?_) (fun f cdv A outer s H vs Q E hr h => ?_)
  · obtain ⟨v, many, handed, span, bs, rfl, _⟩ := h
    rfl
  · obtain ⟨v, many, handed, span, bs, rfl, ⟨⟨a, dx, vb, rfl, hsl, hb⟩, ok⟩, k⟩ := h
    have nd := sc_check_program.nd
    refine ⟨_, (pss_one (ps_if (pt_not (pt_val (pe_callB (SlX.call_isiSl (.ref (He.ga K "Program"))) (by rfl) T.b_isinstance (by decide +kernel) (pa_cons (pv 0) (pa_cons (pe_glob (v := .ref (He.ga _ "Program")) (by rfl) T.g_Program rfl) pa_nil))))) (pss_one ps_never) pss_nil)), ?_⟩
    exact ⟨_, rfl, a, _, dx, _, _, true, rfl, rfl, fun _ z => z, hsl, PF.cls, PF.isi, PF.kP, true, rfl, iteF k⟩
def sp_check_block (K : PySem.W.Frag) : Sp := fun vs H Q _ => ∃ v many handed span bs b, vs = [v, .int ((b : Nat) : Int)] ∧ Pr K H v many handed span bs ∧ b < bs.length ∧ Q .non H
-- check_block: 0 program, 1 block
theorem sc_check_block : FnScope ["program", "block"] ["program", "block"] (defScope s_check_block) := ⟨rfl, rfl, rfl, by decide +kernel, rfl, by decide +kernel, by decide +kernel⟩
theorem ok_check_block (T : Facts w K mg) (PF : PrF K) (F : FnAt K mg "check_block" s_check_block) (c_check_graph : Cal P w K mg base 1 "check_graph" (sp_chk K)) (c_len : Mth P w K mg base 1 "__len__" (sp_len K)) (c_is_integer : Cal P w K mg base 1 "is_integer" sp_is_integer) : Cal P w K mg base 3 "check_block" (sp_check_block K) := by
  refine cal_mk F sc_check_block (fun _ _ _ _ _ _ us hl => match us, hl with | [_, _], _ => rfl) (fun vs H Q E h => ?_) (fun f cdv A outer s H vs Q E hr h => ?_)
  · obtain ⟨v, many, handed, span, bs, b, rfl, _⟩ := h
    rfl
  · obtain ⟨v, many, handed, span, bs, b, rfl, pr, hb, k⟩ := h
    have nd := sc_check_block.nd
    refine ⟨_, (pss_cons (ps_expr (pc c_check_graph hr (by decide) (by rfl) (pa_cons (pv 0) pa_nil)))
    (pss_one (ps_if (pt_not (pt_val (pc c_is_integer hr (by decide) (by rfl) (pa_cons (pv 1) (pa_cons pe_int (pa_cons (pe_op op_sub (po_len c_len hr (by decide) (by rfl) T.b_len (pa_cons (pv 0) pa_nil)) pe_int) pa_nil)))))) (pss_one ps_never) pss_nil))), ?_⟩
    have pr0 := pr
    obtain ⟨⟨a, dx, vb, rfl, hsl, hd⟩, ok⟩ := pr0
    have hfew := ok.few
    refine ⟨_, rfl, _, many, handed, span, bs, rfl, pr, _, rfl, _, rfl, a, dx, _, rfl, hsl, _, many, handed, span, bs, rfl, pr, bs.length, rfl, by omega, _, _, rfl, rfl, _, _, _, rfl, _, rfl, iteF' (by rw [int_ok (show (0 : Int) ≤ ((b : Nat) : Int) by omega) (show ((b : Nat) : Int) ≤ ((bs.length : Nat) : Int) - 1 by omega)] <;> rfl) k⟩
end
end Rr
/-! ### the plain law: what every walk to a block goes through -/
namespace Rr
open PySem PySem.Spec PyProof.Rows L2
/-- a walk from block 0 to b, the latest block first -/
inductive Wk (bs : List Bk) : Nat → List Nat → Prop where
  | zero : Wk bs 0 [0]
  | step {o b : Nat} {l : List Nat} : Wk bs o l → b ∈ outsAt bs o → Wk bs b (b :: l)
section
variable {bs : List Bk} {a b c n : Nat}
theorem Wk.head {l : List Nat} (h : Wk bs b l) : ∃ r, l = b :: r := by
  cases h with
  | zero => exact ⟨[], rfl⟩
  | step _ _ => exact ⟨_, rfl⟩
theorem Wk.suf0 {s l : List Nat} (h : Wk bs b l) : ∀ {p : List Nat}, l = p ++ a :: s → Wk bs a (a :: s) := by
  induction h with
  | zero =>
    intro p e
    cases p with
    | nil =>
      have e1 := (List.cons.inj e).1
      have e2 := (List.cons.inj e).2
      subst e1 e2
      exact .zero
    | cons x p => simp at e
  | step h1 h2 ih =>
    intro p e
    cases p with
    | nil =>
      have e1 := (List.cons.inj e).1
      have e2 := (List.cons.inj e).2
      subst e1 e2
      exact .step h1 h2
    | cons x p => exact ih (List.cons.inj e).2
theorem Wk.suf {s p : List Nat} (h : Wk bs b (p ++ a :: s)) : Wk bs a (a :: s) := h.suf0 rfl
theorem Wk.join0 {s s' l : List Nat} (h2 : Wk bs c (c :: s')) (h : Wk bs b l) : ∀ {p : List Nat}, l = p ++ c :: s → Wk bs b (p ++ c :: s') := by
  induction h with
  | zero =>
    intro p e
    cases p with
    | nil =>
      have e1 := (List.cons.inj e).1
      subst e1
      exact h2
    | cons x p => simp at e
  | step h1 h3 ih =>
    intro p e
    cases p with
    | nil =>
      have e1 := (List.cons.inj e).1
      subst e1
      exact h2
    | cons x p =>
      have e1 := (List.cons.inj e).1
      subst e1
      exact .step (ih (List.cons.inj e).2) h3
theorem Wk.join {s s' p : List Nat} (h2 : Wk bs c (c :: s')) (h : Wk bs b (p ++ c :: s)) : Wk bs b (p ++ c :: s') := Wk.join0 h2 h rfl
theorem rch_wk (h : Rch bs n) : ∃ l, Wk bs n l := by
  induction h with
  | zero => exact ⟨_, .zero⟩
  | step _ ht ih =>
    obtain ⟨l, hl⟩ := ih
    exact ⟨_, .step hl ht⟩
/-- a heads b -/
def Dm (bs : List Bk) (a b : Nat) : Prop := ∀ l, Wk bs b l → a ∈ l
theorem Dm.self : Dm bs b b := fun l h => by
  obtain ⟨r, rfl⟩ := h.head
  exact List.mem_cons_self
theorem Dm.zero : Dm bs 0 b := fun l h => by
  induction h with
  | zero => exact List.mem_cons_self
  | step _ _ ih => exact List.mem_cons_of_mem _ ih
theorem Dm.trans (h1 : Dm bs a b) (h2 : Dm bs c a) : Dm bs c b := fun l h => by
  obtain ⟨p, s, rfl⟩ := List.append_of_mem (h1 l h)
  exact List.mem_append_right _ (h2 _ h.suf)
theorem split_first {l : List Nat} : c ∈ l → ∃ p s, l = p ++ c :: s ∧ c ∉ p := by
  induction l with
  | nil => intro h; cases h
  | cons x r ih =>
    intro h
    by_cases e : x = c
    · subst e
      exact ⟨[], r, rfl, by simp⟩
    · have h2 : c ∈ r := by
        rcases List.mem_cons.mp h with z | z
        · exact absurd z.symm e
        · exact z
      obtain ⟨p, s, e1, e2⟩ := ih h2
      refine ⟨x :: p, s, by rw [e1] <;> rfl, fun z => ?_⟩
      rcases List.mem_cons.mp z with z | z
      · exact e z.symm
      · exact e2 z
theorem Dm.chain (hb : ∃ l, Wk bs b l) (h1 : Dm bs a b) (h2 : Dm bs c b) : Dm bs a c ∨ Dm bs c a := by
  obtain ⟨l, hl⟩ := hb
  obtain ⟨p, s, rfl, hc⟩ := split_first (h2 l hl)
  by_cases ha : a ∈ p
  · obtain ⟨p1, p2, rfl⟩ := List.append_of_mem ha
    refine .inr fun u hu => ?_
    obtain ⟨u', rfl⟩ := hu.head
    have hl' : Wk bs b (p1 ++ a :: (p2 ++ c :: s)) := by simpa using hl
    rcases List.mem_append.mp (h2 _ (Wk.join hu hl')) with z | z
    · exact absurd (List.mem_append_left _ z) hc
    · exact z
  · refine .inl fun u hu => ?_
    obtain ⟨u', rfl⟩ := hu.head
    rcases List.mem_append.mp (h1 _ (Wk.join hu hl)) with z | z
    · exact absurd z ha
    · exact z
theorem Dm.anti_aux (h1 : Dm bs a b) (h2 : Dm bs b a) (ne : a ≠ b) : ∀ (k : Nat) (l : List Nat), l.length ≤ k → ¬ Wk bs b l
  | 0, l, hk, h => by
    obtain ⟨r, rfl⟩ := h.head
    simp at hk
  | k + 1, l, hk, h => by
    obtain ⟨r, rfl⟩ := h.head
    have m1 : a ∈ r := by
      rcases List.mem_cons.mp (h1 _ h) with z | z
      · exact absurd z ne
      · exact z
    obtain ⟨p, s, rfl⟩ := List.append_of_mem m1
    have w1 : Wk bs a (a :: s) := Wk.suf (p := b :: p) h
    have m2 : b ∈ s := by
      rcases List.mem_cons.mp (h2 _ w1) with z | z
      · exact absurd z.symm ne
      · exact z
    obtain ⟨p', s', rfl⟩ := List.append_of_mem m2
    have w2 : Wk bs b (b :: s') := Wk.suf (p := a :: p') w1
    refine Dm.anti_aux h1 h2 ne k _ ?_ w2
    simp only [List.length_cons, List.length_append] at hk ⊢
    omega
theorem Dm.anti (hb : ∃ l, Wk bs b l) (h1 : Dm bs a b) (h2 : Dm bs b a) : a = b := by
  obtain ⟨l, hl⟩ := hb
  by_cases e : a = b
  · exact e
  · exact absurd hl (Dm.anti_aux h1 h2 e l.length l (Nat.le_refl _))
end
/-! ### lists of numbers below n in their order -/
def Asc (n : Nat) (l : List Nat) : Prop := l = (List.range n).filter fun x => decide (x ∈ l)
theorem Asc.lt {n x : Nat} {l : List Nat} (h : Asc n l) (hx : x ∈ l) : x < n := by
  rw [h] at hx
  exact List.mem_range.mp (List.mem_filter.mp hx).1
theorem asc_filter {n : Nat} (p : Nat → Bool) : Asc n ((List.range n).filter p) := by
  unfold Asc
  refine List.filter_congr fun x hx => ?_
  by_cases e : p x = true
  · rw [e]
    exact (decide_eq_true (List.mem_filter.mpr ⟨hx, e⟩)).symm
  · rw [decide_eq_false (fun z => e (List.mem_filter.mp z).2)]
    simpa using e
theorem Asc.ext {n : Nat} {l m : List Nat} (h1 : Asc n l) (h2 : Asc n m) (h : ∀ x, x ∈ l ↔ x ∈ m) : l = m := by
  rw [h1, h2]
  exact List.filter_congr fun x _ => by rw [decide_eq_decide]; exact h x
theorem Asc.nodup {n : Nat} {l : List Nat} (h : Asc n l) : l.Nodup := by
  rw [h]
  exact List.Pairwise.filter _ List.nodup_range
theorem Asc.sorted {n : Nat} {l : List Nat} (h : Asc n l) : l.Pairwise (· < ·) := by
  rw [h]
  exact List.Pairwise.filter _ List.pairwise_lt_range
theorem Asc.len {n : Nat} {l : List Nat} (h : Asc n l) : l.length ≤ n := nodup_le h.nodup fun x hx => h.lt hx
theorem asc_range (n : Nat) : Asc n (List.range n) := by
  unfold Asc
  symm
  exact List.filter_eq_self.mpr fun x hx => decide_eq_true hx
theorem asc_zero {n : Nat} (h : 1 ≤ n) : Asc n [0] := by
  obtain ⟨m, rfl⟩ : ∃ m, n = m + 1 := ⟨n - 1, by omega⟩
  unfold Asc
  rw [List.range_succ_eq_map, List.filter_cons_of_pos (by simp), List.filter_eq_nil_iff.mpr]
  intro x hx
  obtain ⟨y, _, rfl⟩ := List.mem_map.mp hx
  simp
/-! ### the rounds -/
/-- a block's new row -/
def stp (n : Nat) (es : List (Nat × Nat)) (F : Nat → List Nat) (b : Nat) : List Nat := (List.range n).filter fun a => decide (a = b) || es.all fun q => decide (a ∈ F q.1)
theorem stp_mem {bs : List Bk} {b a : Nat} {es : List (Nat × Nat)} {F : Nat → List Nat} (E : Edg bs b es) : a ∈ stp bs.length es F b ↔ a < bs.length ∧ (a = b ∨ ∀ o, b ∈ outsAt bs o → a ∈ F o) := by
  unfold stp
  rw [List.mem_filter, List.mem_range, Bool.or_eq_true, decide_eq_true_eq, List.all_eq_true]
  constructor
  · rintro ⟨h1, h2 | h2⟩
    · exact ⟨h1, .inl h2⟩
    · refine ⟨h1, .inr fun o ho => ?_⟩
      obtain ⟨q, hq, rfl⟩ := (E.mem o).mpr ho
      exact of_decide_eq_true (h2 q hq)
  · rintro ⟨h1, h2 | h2⟩
    · exact ⟨h1, .inl h2⟩
    · exact ⟨h1, .inr fun q hq => decide_eq_true (h2 q.1 ((E.mem q.1).mp ⟨q, hq, rfl⟩))⟩
def setF (F : Nat → List Nat) (b : Nat) (l : List Nat) : Nat → List Nat := fun x => if x = b then l else F x
theorem setF_same {F : Nat → List Nat} {b : Nat} {l : List Nat} : setF F b l b = l := if_pos rfl
theorem setF_ne {F : Nat → List Nat} {b x : Nat} {l : List Nat} (h : x ≠ b) : setF F b l x = F x := if_neg h
/-- holds at every turn -/
structure HbI (bs : List Bk) (F : Nat → List Nat) : Prop where
  z : F 0 = [0]
  asc : ∀ b, b < bs.length → Asc bs.length (F b)
  dom : ∀ b, b < bs.length → ∀ a, Dm bs a b → a ∈ F b
  dec : ∀ b, 1 ≤ b → b < bs.length → ∀ a, a < bs.length → (a = b ∨ ∀ o, b ∈ outsAt bs o → a ∈ F o) → a ∈ F b
def F0 (n : Nat) : Nat → List Nat := fun b => if b = 0 then [0] else List.range n
section
variable {bs : List Bk} {many span : Nat} {F : Nat → List Nat}
theorem Bks.wk (ok : Bks many span bs) {b : Nat} (h : b < bs.length) : ∃ l, Wk bs b l := rch_wk (ok.all b h)
theorem wk_lt (ok : Bks many span bs) {b : Nat} {l : List Nat} (h : Wk bs b l) : ∀ x ∈ l, x < bs.length := by
  induction h with
  | zero =>
    intro x hx
    rw [List.mem_singleton.mp hx]
    exact ok.one
  | step _ ht ih =>
    intro x hx
    rcases List.mem_cons.mp hx with rfl | hx
    · exact (ok.outs ht).2
    · exact ih x hx
theorem Dm.lt (ok : Bks many span bs) {a b : Nat} (hb : b < bs.length) (h : Dm bs a b) : a < bs.length := by
  obtain ⟨l, hl⟩ := ok.wk hb
  exact wk_lt ok hl a (h l hl)
theorem hb_start (ok : Bks many span bs) : HbI bs (F0 bs.length) := by
  refine ⟨rfl, fun b hb => ?_, fun b hb a ha => ?_, fun b h1 hb a ha _ => ?_⟩
  · unfold F0
    split
    · exact asc_zero ok.one
    · exact asc_range _
  · unfold F0
    split
    · rename_i e
      subst e
      exact ha _ .zero
    · exact List.mem_range.mpr (ha.lt ok hb)
  · unfold F0
    rw [if_neg (by omega)]
    exact List.mem_range.mpr ha
theorem HbI.sub (h : HbI bs F) {b : Nat} {es : List (Nat × Nat)} (E : Edg bs b es) (h1 : 1 ≤ b) (hb : b < bs.length) : ∀ a ∈ stp bs.length es F b, a ∈ F b := fun a ha => by
  obtain ⟨z1, z2⟩ := (stp_mem E).mp ha
  exact h.dec b h1 hb a z1 z2
theorem HbI.next (ok : Bks many span bs) (h : HbI bs F) {b : Nat} {es : List (Nat × Nat)} (E : Edg bs b es) (h1 : 1 ≤ b) (hb : b < bs.length) : HbI bs (setF F b (stp bs.length es F b)) := by
  have less : ∀ x a, a ∈ setF F b (stp bs.length es F b) x → a ∈ F x := fun x a ha => by
    by_cases e : x = b
    · subst e
      rw [setF_same] at ha
      exact h.sub E h1 hb a ha
    · rw [setF_ne e] at ha
      exact ha
  refine ⟨by rw [setF_ne (by omega)]; exact h.z, fun x hx => ?_, fun x hx a ha => ?_, fun x x1 hx a ha hh => ?_⟩
  · by_cases e : x = b
    · rw [e, setF_same]
      exact asc_filter _
    · rw [setF_ne e]
      exact h.asc x hx
  · by_cases e : x = b
    · subst e
      rw [setF_same]
      refine (stp_mem E).mpr ⟨ha.lt ok hx, ?_⟩
      by_cases e2 : a = x
      · exact .inl e2
      · refine .inr fun o ho => h.dom o (outs_lt ho) a fun l hl => ?_
        rcases List.mem_cons.mp (ha _ (.step hl ho)) with z | z
        · exact absurd z e2
        · exact z
    · rw [setF_ne e]
      exact h.dom x hx a ha
  · have hh' : a = x ∨ ∀ o, x ∈ outsAt bs o → a ∈ F o := hh.imp id fun z o ho => less o a (z o ho)
    by_cases e : x = b
    · subst e
      rw [setF_same]
      exact (stp_mem E).mpr ⟨ha, hh'⟩
    · rw [setF_ne e]
      exact h.dec x x1 hx a ha hh'
def tot (n : Nat) (F : Nat → List Nat) : Nat := ((List.range n).map fun b => (F b).length).sum
theorem tot_le {G : Nat → List Nat} : ∀ n, (∀ b, b < n → (G b).length ≤ (F b).length) → tot n G ≤ tot n F
  | 0, _ => Nat.le_refl _
  | n + 1, h => by
    have ih := tot_le n fun b hb => h b (by omega)
    have e : ∀ F : Nat → List Nat, tot (n + 1) F = tot n F + (F n).length := fun F => by
      unfold tot
      rw [List.range_succ, List.map_append, List.sum_append]
      simp
    rw [e, e]
    have := h n (by omega)
    omega
theorem tot_lt {G : Nat → List Nat} : ∀ n b, b < n → (∀ b, b < n → (G b).length ≤ (F b).length) → (G b).length < (F b).length → tot n G < tot n F
  | 0, b, hb, _, _ => by omega
  | n + 1, b, hb, h, hl => by
    have e : ∀ F : Nat → List Nat, tot (n + 1) F = tot n F + (F n).length := fun F => by
      unfold tot
      rw [List.range_succ, List.map_append, List.sum_append]
      simp
    rw [e, e]
    by_cases q : b = n
    · subst q
      have := tot_le b fun c hc => h c (by omega)
      omega
    · have := tot_lt n b (by omega) (fun c hc => h c (by omega)) hl
      have := h n (by omega)
      omega
theorem HbI.less (h : HbI bs F) {b : Nat} {es : List (Nat × Nat)} (E : Edg bs b es) (h1 : 1 ≤ b) (hb : b < bs.length) (ne : stp bs.length es F b ≠ F b) : tot bs.length (setF F b (stp bs.length es F b)) < tot bs.length F := by
  have hsub := h.sub E h1 hb
  have hle : (stp bs.length es F b).length ≤ (F b).length := sub_len (asc_filter _).nodup hsub
  refine tot_lt bs.length b hb (fun x hx => ?_) ?_
  · by_cases e : x = b
    · subst e
      rw [setF_same]
      exact hle
    · rw [setF_ne e]
      exact Nat.le_refl _
  · rw [setF_same]
    refine Nat.lt_of_le_of_ne hle fun e => ne ((asc_filter _).ext (h.asc b hb) fun x => ⟨hsub x, fun hx => ?_⟩)
    by_cases q : x ∈ stp bs.length es F b
    · exact q
    · have nd1 : (x :: stp bs.length es F b).Nodup := List.nodup_cons.mpr ⟨q, (asc_filter _).nodup⟩
      have := sub_len nd1 (b := F b) fun y hy => by
        rcases List.mem_cons.mp hy with rfl | hy
        · exact hx
        · exact hsub y hy
      rw [List.length_cons] at this
      omega
/-- what the rounds end at -/
structure Hds (bs : List Bk) (F : Nat → List Nat) : Prop where
  asc : ∀ b, b < bs.length → Asc bs.length (F b)
  iff : ∀ b, b < bs.length → ∀ a, a ∈ F b ↔ Dm bs a b
theorem HbI.done (h : HbI bs F) (fix : ∀ b, 1 ≤ b → b < bs.length → ∃ es, Edg bs b es ∧ stp bs.length es F b = F b) (ok : Bks many span bs) : Hds bs F := by
  refine ⟨h.asc, fun b hb a => ⟨fun ha l hl => ?_, h.dom b hb a⟩⟩
  induction hl with
  | zero =>
    rw [h.z] at ha
    exact ha
  | @step o b l hl ho ih =>
    obtain ⟨h1, h2⟩ := ok.outs ho
    obtain ⟨es, E, e⟩ := fix b h1 h2
    rw [← e] at ha
    rcases ((stp_mem E).mp ha).2 with z | z
    · rw [z]
      exact List.mem_cons_self
    · exact List.mem_cons_of_mem _ (ih (outs_lt ho) (z o ho))
end
end Rr
namespace Rr
open PySem PySem.Spec PyProof.Rows L2
/-- a dict comprehension over a list that stays -/
theorem dc_list {K : PySem.W.Frag} {a : Addr} {xs : List V} {g : TG} {tt : TT} {tk tv : TE} {vs : List Nat} {σ : L2.St} {H1 : Hp} {D : Addr} {Qd : Hp → Prop} (Pv : Nat → Hp → Prop) (z0 : Pv 0 (upd H1 D (.dK []))) (zl : ∀ i H, i ≤ xs.length → Pv i H → SqL K H a xs)
    (zs : ∀ i x H, xs[i]? = some x → Pv i H → g x (wipe σ vs) H fun σ2 H2 => wipe σ2 vs = wipe σ vs ∧ tt σ2 H2 fun b H3 =>
      if b = true then tk σ2 H3 fun y H4 => tv σ2 H4 fun z H5 => ∃ kvs k, y = kV k ∧ H5 D = some (.dK kvs) ∧ kvs.length < sizeLine ∧ Pv (i + 1) (upd H5 D (.dK (putK kvs k z))) else Pv (i + 1) H3) (zd : ∀ H, Pv xs.length H → Qd H) :
    ∃ W : Nat → Nat → Hp → Prop, (∃ m, W 0 m (upd H1 D (.dK []))) ∧ ∀ i m H, W i m H →
      ((Itl K a).stop i H ∧ Qd H) ∨ ((Itl K a).go i H ∧ ∃ Nx : Hp → Prop, (∀ H', Nx H' → ∃ m', m' < m ∧ W (i + 1) m' H') ∧ ∀ x H', (Itl K a).yld i H x H' → g x (wipe σ vs) H' fun σ2 H2 => wipe σ2 vs = wipe σ vs ∧ tt σ2 H2 fun b H3 =>
        if b = true then tk σ2 H3 fun y H4 => tv σ2 H4 fun z H5 => ∃ kvs k, y = kV k ∧ H5 D = some (.dK kvs) ∧ kvs.length < sizeLine ∧ Nx (upd H5 D (.dK (putK kvs k z))) else Nx H3) := by
  refine ⟨fun i m H => m = xs.length - i ∧ i ≤ xs.length ∧ Pv i H, ⟨xs.length, by simp, Nat.zero_le _, z0⟩, ?_⟩
  rintro i m H ⟨rfl, le, z⟩
  have sq := zl i H le z
  rcases Nat.lt_or_ge i xs.length with lt | ge
  · refine .inr ⟨⟨xs, xs[i], sq, by simp [lt]⟩, Pv (i + 1), fun H' z' => ⟨xs.length - (i + 1), by omega, rfl, lt, z'⟩, fun x H' y => ?_⟩
    obtain ⟨rfl, y2⟩ := y
    exact zs i x _ (y2 xs sq) z
  · have en : i = xs.length := by omega
    subst en
    exact .inl ⟨⟨xs, sq, Nat.le_refl _⟩, zd H z⟩
def nk (b : Nat) : Key := Sum.inl ((b : Nat) : Int)
theorem nk_inj {a b : Nat} (h : nk a = nk b) : a = b := by
  have z := Sum.inl.inj h
  omega
theorem putK_has {kvs : List (Key × V)} {k : Key} {v w : V} (h : valV kvs k = some w) : (putK kvs k v).length = kvs.length := by
  unfold putK
  rw [valV_any, h]
  show (if true = true then _ else _ : List (Key × V)).length = _
  rw [if_pos rfl, List.length_map]
/-- the dict at d: each block below n to the list of F's numbers -/
structure FndD (H : Hp) (d : Addr) (n : Nat) (F : Nat → List Nat) : Prop where
  ex : ∃ kvs, H d = some (.dK kvs) ∧ kvs.length ≤ n ∧ ∀ b, b < n → ∃ p, valV kvs (nk b) = some (.ref p) ∧ H p = some (.lst (natsV (F b)))
theorem FndD.get {H : Hp} {d : Addr} {n b : Nat} {F : Nat → List Nat} (h : FndD H d n F) (hb : b < n) : ∃ p, DGet H d (.int ((b : Nat) : Int)) (some (.ref p)) ∧ H p = some (.lst (natsV (F b))) := by
  obtain ⟨kvs, h1, h2, h3⟩ := h.ex
  obtain ⟨p, h4, h5⟩ := h3 b hb
  have z := DGet.k (k := nk b) h1
  rw [h4] at z
  exact ⟨p, z, h5⟩
theorem FndD.ext {H H' : Hp} {d : Addr} {n : Nat} {F : Nat → List Nat} (h : FndD H d n F) (e : Same H H') : FndD H' d n F := by
  obtain ⟨kvs, h1, h2, h3⟩ := h.ex
  exact ⟨kvs, e _ _ h1, h2, fun b hb => by
    obtain ⟨p, h4, h5⟩ := h3 b hb
    exact ⟨p, h4, e _ _ h5⟩⟩
theorem FndD.put {H : Hp} {d p : Addr} {n b : Nat} {F : Nat → List Nat} {l : List Nat} (h : FndD H d n F) (hb : b < n) (hn : n ≤ 1000) (hp : H p = some (.lst (natsV l))) : ∃ H', DPut H d (.int ((b : Nat) : Int)) (.ref p) H' ∧ FndD H' d n (setF F b l) ∧ ∀ q, q ≠ d → H' q = H q := by
  obtain ⟨kvs, h1, h2, h3⟩ := h.ex
  refine ⟨_, DPut.k (k := nk b) h1 (small1000 (by omega)), ⟨_, upd_same, ?_, fun x hx => ?_⟩, fun q hq => upd_ne hq⟩
  · obtain ⟨p0, h4, _⟩ := h3 b hb
    rw [putK_has h4]
    exact h2
  · obtain ⟨p0, h4, h5⟩ := h3 x hx
    have np : p ≠ d := ne_of hp h1 (by intro z; cases z)
    have np0 : p0 ≠ d := ne_of h5 h1 (by intro z; cases z)
    rw [valV_put]
    by_cases e : x = b
    · subst e
      rw [if_pos rfl, setF_same]
      exact ⟨p, rfl, by rw [upd_ne np]; exact hp⟩
    · rw [if_neg (fun z => e (nk_inj z)), setF_ne e]
      exact ⟨p0, h4, by rw [upd_ne np0]; exact h5⟩
/-- the rows at the addresses in acc are F's rows of the edges' first blocks -/
inductive Rws (H : Hp) (F : Nat → List Nat) : List V → List (Nat × Nat) → Prop where
  | nil : Rws H F [] []
  | cons {p : Addr} {q : Nat × Nat} {r : List V} {es : List (Nat × Nat)} : H p = some (.lst (natsV (F q.1))) → Rws H F r es → Rws H F (.ref p :: r) (q :: es)
theorem Rws.snoc {H : Hp} {F : Nat → List Nat} {p : Addr} {q : Nat × Nat} {r : List V} {es : List (Nat × Nat)} (h : Rws H F r es) (hp : H p = some (.lst (natsV (F q.1)))) : Rws H F (r ++ [.ref p]) (es ++ [q]) := by
  induction h with
  | nil => exact .cons hp .nil
  | cons a _ ih => exact .cons a ih
theorem Rws.imp {H H' : Hp} {F : Nat → List Nat} {r : List V} {es : List (Nat × Nat)} (h : Rws H F r es) (k : ∀ q ∈ es, ∀ p, H p = some (.lst (natsV (F q.1))) → H' p = some (.lst (natsV (F q.1)))) : Rws H' F r es := by
  induction h with
  | nil => exact .nil
  | cons a _ ih => exact .cons (k _ List.mem_cons_self _ a) (ih fun q hq => k q (List.mem_cons_of_mem _ hq))
theorem Rws.ext {H H' : Hp} {F : Nat → List Nat} {r : List V} {es : List (Nat × Nat)} (h : Rws H F r es) (e : Same H H') : Rws H' F r es := h.imp fun _ _ p z => e p _ z
theorem Rws.len {H : Hp} {F : Nat → List Nat} {r : List V} {es : List (Nat × Nat)} (h : Rws H F r es) : r.length = es.length := by
  induction h with
  | nil => rfl
  | cons _ _ ih => rw [List.length_cons, List.length_cons, ih]
theorem Rws.mem {H : Hp} {F : Nat → List Nat} {r : List V} {es : List (Nat × Nat)} (h : Rws H F r es) {x : V} : x ∈ r → ∃ p l, x = .ref p ∧ H p = some (.lst (natsV l)) := by
  induction h with
  | nil => intro z; cases z
  | cons a _ ih =>
    intro z
    rcases List.mem_cons.mp z with rfl | z
    · exact ⟨_, _, rfl, a⟩
    · exact ih z
def rowHas (H : Hp) (a : Nat) : V → Bool
  | .ref p => match H p with
    | some (.lst l) => inV (.int ((a : Nat) : Int)) l
    | _ => false
  | _ => false
theorem inV_nats (a : Nat) (l : List Nat) : inV (.int ((a : Nat) : Int)) (natsV l) = decide (a ∈ l) := by
  induction l with
  | nil => rfl
  | cons x r ih =>
    have e : inV (.int ((a : Nat) : Int)) (natsV (x :: r)) = (eqV (.int ((x : Nat) : Int)) (.int ((a : Nat) : Int)) || inV (.int ((a : Nat) : Int)) (natsV r)) := rfl
    rw [e, ih]
    by_cases q : x = a
    · subst q
      have z : eqV (.int ((x : Nat) : Int)) (.int ((x : Nat) : Int)) = true := by simp [eqV]
      rw [z, decide_eq_true List.mem_cons_self] <;> rfl
    · have z : eqV (.int ((x : Nat) : Int)) (.int ((a : Nat) : Int)) = false := by
        simp only [eqV]
        exact beq_eq_false_iff_ne.mpr (fun z => q (by omega))
      rw [z, Bool.false_or, decide_eq_decide]
      exact ⟨fun h => List.mem_cons_of_mem _ h, fun h => by
        rcases List.mem_cons.mp h with h | h
        · exact absurd h.symm q
        · exact h⟩
theorem Rws.all {H : Hp} {F : Nat → List Nat} {r : List V} {es : List (Nat × Nat)} (h : Rws H F r es) (a : Nat) : (r.map (rowHas H a)).all id = es.all fun q => decide (a ∈ F q.1) := by
  induction h with
  | nil => rfl
  | @cons p q r es hp _ ih =>
    rw [List.map_cons, List.all_cons, List.all_cons, ih]
    have e : rowHas H a (.ref p) = decide (a ∈ F q.1) := by
      show (match H p with
        | some (.lst l) => inV (.int ((a : Nat) : Int)) l
        | _ => false) = _
      rw [hp]
      exact inV_nats a _
    rw [e] <;> rfl
theorem flat_nats (l : List Nat) : (natsV l).all flatV = true := by
  rw [List.all_eq_true]
  intro x hx
  obtain ⟨i, _, rfl⟩ := List.mem_map.mp hx
  rfl
theorem nats_at {l : List Nat} {i : Nat} {x : V} (h : (natsV l)[i]? = some x) : ∃ t, l[i]? = some t ∧ x = V.int (t : Int) := by
  unfold natsV at h
  rw [List.getElem?_map] at h
  cases q : l[i]? with
  | none => rw [q] at h; cases h
  | some t => rw [q] at h; cases h; exact ⟨t, rfl, rfl⟩
theorem filter_nats (l : List Nat) (p : Nat → Bool) (f : V → Bool) (h : ∀ n, f (.int ((n : Nat) : Int)) = p n) : ((natsV l).filter f).map (fun v => v) = natsV (l.filter p) := by
  rw [List.map_id']
  unfold natsV
  rw [List.filter_map]
  refine congrArg _ (List.filter_congr fun x _ => h x)
theorem int_eq_nat (a b : Nat) : decide (V.int ((a : Nat) : Int) = V.int ((b : Nat) : Int)) = decide (a = b) := by
  rw [decide_eq_decide]
  exact ⟨fun z => by have := V.int.inj z; omega, fun z => by rw [z]⟩
theorem natsD_ne (l m : List Nat) : PyData.eqv (.list (natsD l)) (.list (natsD m)) = decide (l = m) := by
  have e : ∀ l : List Nat, natsD l = (l.map fun (n : Nat) => (n : Int)).map PyData.int := fun l => by
    unfold natsD
    rw [List.map_map] <;> rfl
  rw [e, e, eqv_ints, decide_eq_decide]
  constructor
  · intro z
    exact List.map_inj_right (f := fun (n : Nat) => (n : Int)) (fun x y q => by omega) |>.mp z
  · intro z
    rw [z]
/-- between two turns of the while -/
def HbP (H : Hp) (a ev d : Addr) (bs : List Bk) (m : Nat) (σ : L2.St) (H' : Hp) : Prop := ∃ F c x4 x5 x6, σ = [some (.ref a), some (.ref ev), some (.ref d), some (.bl c), x4, x5, x6, none, none, none, none] ∧ Same H H' ∧ H' ev = some (.lst (natsV (List.range bs.length))) ∧ FndD H' d bs.length F ∧ HbI bs F ∧
  (c = false → ∀ b, 1 ≤ b → b < bs.length → ∃ es, Edg bs b es ∧ stp bs.length es F b = F b) ∧ m = 2 * tot bs.length F + (if c = true then 1 else 0)
theorem dget_ext {H H' : Hp} {a : Addr} {i : Int} {o : Option V} (e : Same H H') (g : DGet H a (.int i) o) : DGet H' a (.int i) o := by
  rcases g with ⟨kvs, k, h1, h2, h3⟩ | ⟨kvs, k, b, h1, h2, h3⟩
  · exact .inl ⟨kvs, k, Same.rd e h1, h2, h3⟩
  · cases h2
section
variable {P : Program} {w : World} {K : PySem.W.Frag} {mg : Str → Option Value} {base : Heap}
def sp_steps (K : PySem.W.Frag) : Sp := fun vs H Q _ => ∃ v many handed span bs, vs = [v] ∧ Pr K H v many handed span bs ∧ ∀ d F H', Same H H' → FndD H' d bs.length F → Hds bs F → Q (.ref d) H'
theorem rg_nats (n : Nat) : rgV 0 ((n : Nat) : Int) = natsV (List.range n) := by
  unfold rgV natsV
  rw [show (((n : Nat) : Int) - 0).toNat = n by omega]
  exact List.map_congr_left fun i _ => by rw [Int.zero_add]
-- heads_by_steps: 0 program, 1 every*, 2 found*, 3 has_changed, 4 block*, 5 rows*, 6 some, 7 other, 8 way, 9 one, 10 row
theorem sc_heads_by_steps : FnScope ["program", "every", "found", "has_changed", "block", "rows", "some", "other", "way", "one", "row"] ["program"] (defScope s_heads_by_steps) := ⟨rfl, rfl, rfl, by decide +kernel, rfl, by decide +kernel, by decide +kernel⟩
theorem ok_steps (T : Facts w K mg) (PF : PrF K) (F : FnAt K mg "heads_by_steps" s_heads_by_steps) (c_len : Mth P w K mg base 1 "__len__" (sp_len K)) (c_edges_into : Mth P w K mg base 6 "edges_into" (sp_edges K)) : Cal P w K mg base 7 "heads_by_steps" (sp_steps K) := by
  refine cal_mk F sc_heads_by_steps (fun _ _ _ _ _ _ us hl => match us, hl with | [_], _ => rfl) (fun vs H Q E h => ?_) (fun f cdv A outer s H vs Q E hr h => ?_)
  · obtain ⟨v, many, handed, span, bs, rfl, _⟩ := h
    rfl
  · obtain ⟨v, many, handed, span, bs, rfl, pr, k⟩ := h
    have nd := sc_heads_by_steps.nd
    have hu := hu_of hr
    refine ⟨_, (pss_cons (ps_set (i := 1) nd rfl (Or.inr rfl) (pe_listRg rfl (by rfl) T.b_list (prg_1 (by rfl) T.b_range (po_len c_len hr (by decide) (by rfl) T.b_len (pa_cons (pv 0) pa_nil)))))
    (pss_cons (ps_asg (pe_tup (pa_cons (pe_dc (own := [("block", 4)]) rfl nd (pi_list (pv 1)) (blkOk_by (own := [("block", 4)]) (by kernel_rfl)) (fun _ _ _ _ _ => (pg_name (i := 4) nd rfl (Or.inl rfl) (Or.inr rfl))) (fun _ _ _ _ _ => pts_nil) (fun _ _ _ _ _ => (pv 4)) (fun _ _ _ _ _ => (pe_ifExp (pt_cmpR op_gt (pv 4) pe_int (nomark _)) (pv 1) (pe_lst (pa_cons pe_int pa_nil))))) (pa_cons pe_bl pa_nil))) (pg_tup (n := 2) rfl (pgs_cons (pg_name (i := 2) nd rfl (Or.inr rfl)) (pgs_cons (pg_name (i := 3) nd rfl (Or.inl rfl)) pgs_nil))))
    (pss_cons (ps_while PassesOwn.never (pt_val (pv 3)) (pss_cons (ps_set (i := 3) nd rfl (Or.inl rfl) pe_bl)
    (pss_one (ps_for PassesOwn.never rfl (pi_list (pe_slice sl_list (pv 1) (po_some pe_int) po_none)) (pg_name (i := 4) nd rfl (Or.inr rfl)) (pss_cons (ps_set (i := 5) nd rfl (Or.inr rfl) (pe_lc (own := [("other", 7), ("way", 8)]) rfl nd (pi_list (pm c_edges_into PF hr (by decide) (pv 0) (pa_cons (pv 4) pa_nil))) (blkOk_by (own := [("other", 7), ("way", 8)]) (by kernel_rfl)) (g := gTup K 2 (gCons (gName 7) (gCons (gName 8) gNil))) (fun _ _ _ _ _ => (pg_tup (n := 2) rfl (pgs_cons (pg_name (i := 7) nd rfl (Or.inl rfl) (Or.inr rfl)) (pgs_cons (pg_name (i := 8) nd rfl (Or.inl rfl) (Or.inr rfl)) pgs_nil)))) (fun _ _ _ _ _ => pts_nil) (fun _ _ _ _ _ => (pe_dget hu (pv 2) (pv 7) (fun _ _ => rfl)))))
    (pss_cons (ps_setLc (i := 6) (own := [("one", 9)]) rfl nd rfl rfl (sw_true rfl rfl rfl (by decide +kernel)) (pi_list (pv 1)) (blkOk_by (own := [("one", 9)]) (by kernel_rfl)) (fun _ _ _ _ _ => (pg_name (i := 9) nd rfl (Or.inr rfl) (Or.inl rfl))) (fun _ _ _ _ _ => pts_one (PW.pt (pw_or (pt_cmpR op_eq (pv 9) (pv 4) (nomark _)) (pw_or1 (pt_val (pe_callB (cr_allK (K := K) rfl rfl) (by rfl) T.b_all (by decide +kernel) (pa_cons (pe_lc (own := [("row", 10)]) rfl nd (pi_listK (K := K) rfl (pv 5)) (blkOk_by (own := [("row", 10)]) (by kernel_rfl)) (fun _ _ _ _ _ => (pg_name (i := 10) nd rfl (Or.inl rfl) (Or.inr rfl))) (fun _ _ _ _ _ => pts_nil) (fun _ _ _ _ _ => (pe_cmpR (op_inK (K := K) rfl) (pv 9) (pv 10) (by rfl)))) pa_nil))))))) (fun _ _ _ _ _ => (pv 9)))
    (pss_one (ps_if (pt_cmpR (op_neD hr.units) (pv 6) (pe_dget hu (pv 2) (pv 4) (fun _ _ => rfl)) (nomark _)) (pss_one (ps_asg (pe_tup (pa_cons (pv 6) (pa_cons pe_bl pa_nil))) (pg_tup (n := 2) rfl (pgs_cons (pg_sub (pv 2) (pv 4) (set_dict hu)) (pgs_cons (pg_name (i := 3) nd rfl (Or.inl rfl)) pgs_nil))))) pss_nil))))))))
    (pss_one (ps_ret (pv 2)))))), ?_⟩
    have pr0 := pr
    obtain ⟨⟨a, dx, vb, rfl, hsl, hd⟩, ok⟩ := pr0
    have hfew := ok.few
    have hone := ok.one
    refine ⟨_, rfl, a, dx, _, rfl, hsl, _, many, handed, span, bs, rfl, pr, bs.length, rfl, by omega, ⟨_, rfl, ?_⟩⟩
    refine ⟨RgOk.of_le (by omega) (by omega) (by omega) (by omega), fun ev hev => ?_⟩
    rw [rg_nats]
    have s1 : Same H (upd H ev (.lst (natsV (List.range bs.length)))) := Same.new hev
    have e1 : (upd H ev (.lst (natsV (List.range bs.length)))) ev = some (.lst (natsV (List.range bs.length))) := upd_same
    generalize upd H ev (.lst (natsV (List.range bs.length))) = H1 at s1 e1 ⊢
    refine ⟨_, rfl, ev, rfl, ⟨_, .inl (.inl e1)⟩, fun d hd1 => ?_⟩
    refine dc_list (xs := natsV (List.range bs.length)) (fun i H2 => Same H1 H2 ∧ ∃ kvs, H2 d = some (.dK kvs) ∧ kvs.length ≤ i ∧ ∀ b, b < i → ∃ p, valV kvs (nk b) = some (.ref p) ∧ H2 p = some (.lst (natsV (F0 bs.length b))))
      ⟨Same.new hd1, [], upd_same, Nat.le_refl _, fun b hb => by omega⟩ (fun i H2 _ z => .inl (.inl (z.1 _ _ e1))) (fun i x H2 hx z => ?_) (fun H2 z => ?_)
    · obtain ⟨s2, kvs, d2, n2, v2⟩ := z
      obtain ⟨i', hi', rfl⟩ : ∃ t, (List.range bs.length)[i]? = some t ∧ x = V.int (t : Int) := by
        unfold natsV at hx
        rw [List.getElem?_map] at hx
        cases q : (List.range bs.length)[i]? with
        | none => rw [q] at hx; cases hx
        | some t => rw [q] at hx; cases hx; exact ⟨t, rfl, rfl⟩
      obtain ⟨hlt, e2⟩ := List.getElem?_eq_some_iff.mp hi'
      rw [List.length_range] at hlt
      rw [List.getElem_range] at e2
      subst e2
      have fin : ∀ p H5, Same H2 H5 → H5 p = some (.lst (natsV (F0 bs.length i))) → ∃ kvs k, V.int ((i : Nat) : Int) = kV k ∧ H5 d = some (.dK kvs) ∧ kvs.length < sizeLine ∧ Same H1 (upd H5 d (.dK (putK kvs k (.ref p)))) ∧ ∃ kvs_1, upd H5 d (.dK (putK kvs k (.ref p))) d = some (.dK kvs_1) ∧ kvs_1.length ≤ i + 1 ∧
          ∀ b, b < i + 1 → ∃ p', valV kvs_1 (nk b) = some (.ref p') ∧ upd H5 d (.dK (putK kvs k (.ref p))) p' = some (.lst (natsV (F0 bs.length b))) := fun p H5 s5 p5 => by
        refine ⟨kvs, nk i, rfl, s5 _ _ d2, small1000 (by omega), Same.app (s2.trans s5) hd1, _, upd_same, Nat.le_trans (length_putK _ _ _) (by omega), fun b hb => ?_⟩
        have np : p ≠ d := ne_of p5 (s5 _ _ d2) (by intro z; cases z)
        rw [valV_put]
        by_cases e : b = i
        · subst e
          exact ⟨p, if_pos rfl, by rw [upd_ne np]; exact p5⟩
        · obtain ⟨p0, h4, h5⟩ := v2 b (by omega)
          have np0 : p0 ≠ d := ne_of h5 d2 (by intro z; cases z)
          exact ⟨p0, by rw [if_neg (fun z => e (nk_inj z))]; exact h4, by rw [upd_ne np0]; exact s5 _ _ h5⟩
      refine ⟨rfl, _, rfl, _, rfl, _, _, rfl, rfl, _, rfl, ?_⟩
      by_cases e : i = 0
      · subst e
        refine iteF' (decide_eq_false (by omega)) ⟨line1 (by simp), fun p hp => fin p _ (Same.new hp) upd_same⟩
      · refine iteT' (decide_eq_true (by omega)) ⟨_, rfl, fin ev _ (Same.refl _) ?_⟩
        unfold F0
        rw [if_neg e]
        exact s2 _ _ e1
    · obtain ⟨s2, kvs, d2, n2, v2⟩ := z
      rw [natsV_len, List.length_range] at n2 v2
      have fd : FndD H2 d bs.length (F0 bs.length) := ⟨kvs, d2, n2, v2⟩
      have s3 : Same H H2 := s1.trans s2
      have dH : H d = none := by
        cases q : H d with
        | none => rfl
        | some u =>
          have z := s1 _ _ q
          rw [hd1] at z
          cases z
      have e2 := s2 _ _ e1
      clear v2 n2 d2 s2 e1 s1 hd1
      refine ⟨line1 (by simp), fun p hp => ⟨p, _, rfl, .inl (.inl upd_same), rfl, _, _, rfl, _, _, rfl, rfl, ?_⟩⟩
      have fd3 := fd.ext (Same.new (o := .tup [.ref d, .bl true]) hp)
      have s4 : Same H (upd H2 p (.tup [.ref d, .bl true])) := s3.trans (Same.new hp)
      have e3 := (Same.new (o := .tup [.ref d, .bl true]) hp) _ _ e2
      generalize upd H2 p (.tup [.ref d, .bl true]) = H3 at fd3 s4 e3 ⊢
      refine ⟨HbP H a ev d bs, ⟨_, F0 bs.length, true, none, none, none, rfl, s4, e3, fd3, hb_start ok, fun z => (Bool.noConfusion z), rfl⟩, ?_⟩
      rintro m σ' H' ⟨F, c, x4, x5, x6, rfl, s5, e5, fd5, hb5, fix5, rfl⟩
      refine ⟨_, rfl, c, rfl, ?_⟩
      cases c with
      | false =>
        refine iteF ?_
        exact ⟨_, rfl, k d F H' s5 fd5 (hb5.done (fix5 rfl) ok)⟩
      | true =>
        refine iteT ?_
        refine ⟨fun σ3 H3 => ∃ m', m' < 2 * tot bs.length F + (if true = true then 1 else 0) ∧ HbP H a ev d bs m' σ3 H3, fun _ _ z => z, ?_⟩
        refine ⟨_, rfl, _, rfl, ev, _, rfl, .inl (.inl e5), fun sp hsp => ?_⟩
        obtain ⟨n', hn'⟩ : ∃ n', bs.length = n' + 1 := ⟨bs.length - 1, by omega⟩
        have ecut : cutV (natsV (List.range bs.length)) (some 1) none = natsV ((List.range n').map (· + 1)) := by
          rw [hn', List.range_succ_eq_map]
          exact cut_tail _ _
        rw [ecut]
        have s6 : Same H (upd H' sp (.lst (natsV ((List.range n').map (· + 1))))) := s5.trans (Same.new hsp)
        have e6 := (Same.new (o := .lst (natsV ((List.range n').map (· + 1)))) hsp) _ _ e5
        have fd6 := fd5.ext (Same.new (o := .lst (natsV ((List.range n').map (· + 1)))) hsp)
        have p6 : (upd H' sp (.lst (natsV ((List.range n').map (· + 1))))) sp = some (.lst (natsV ((List.range n').map (· + 1)))) := upd_same
        generalize upd H' sp (.lst (natsV ((List.range n').map (· + 1)))) = H6 at s6 e6 fd6 p6 ⊢
        refine ⟨sp, rfl, ⟨_, .inl (.inl p6)⟩, ?_⟩
        refine for_list (xs := natsV ((List.range n').map (· + 1))) (fun i σ7 H7 => ∃ F' c x4 x5 x6, σ7 = [some (.ref a), some (.ref ev), some (.ref d), some (.bl c), x4, x5, x6, none, none, none, none] ∧ Same H H7 ∧ H7 ev = some (.lst (natsV (List.range bs.length))) ∧
            H7 sp = some (.lst (natsV ((List.range n').map (· + 1)))) ∧ FndD H7 d bs.length F' ∧ HbI bs F' ∧ (c = false → F' = F ∧ ∀ b, 1 ≤ b → b < i + 1 → ∃ es, Edg bs b es ∧ stp bs.length es F b = F b) ∧ (c = true → tot bs.length F' < tot bs.length F))
          ⟨F, false, x4, x5, x6, rfl, s6, e6, p6, fd6, hb5, fun _ => ⟨rfl, fun b h1 h2 => by omega⟩, fun z => (Bool.noConfusion z)⟩ (fun i σ7 H7 _ z => ?_) (fun i x σ7 H7 hx z => ?_) (fun σ7 H7 z => ?_)
        · obtain ⟨_, _, _, _, _, _, _, _, z, _⟩ := z
          exact .inl (.inl z)
        · obtain ⟨F', c, y4, y5, y6, rfl, s7, e7, p7, fd7, hb7, n7, l7⟩ := z
          obtain ⟨b, hb, rfl⟩ := nats_at hx
          obtain ⟨hi, hbi⟩ : i < n' ∧ b = i + 1 := by
            rw [List.getElem?_map] at hb
            cases q : (List.range n')[i]? with
            | none => rw [q] at hb; cases hb
            | some t =>
              rw [q] at hb
              obtain ⟨h1, h2⟩ := List.getElem?_eq_some_iff.mp q
              rw [List.length_range] at h1
              rw [List.getElem_range] at h2
              have h3 : t + 1 = b := Option.some.inj hb
              exact ⟨h1, by omega⟩
          have hbl : b < bs.length := by omega
          have hb1 : 1 ≤ b := by omega
          clear hx hb
          refine ⟨_, rfl, a, dx, _, rfl, Same.slt s7 hsl, _, rfl, _, many, handed, span, bs, b, rfl, pr.ext s7, hbl, fun pe xe es H8 s8 pe8 de8 E8 => ?_⟩
          have hEf := E8.few
          refine ⟨pe, rfl, ⟨_, .inl (.inl pe8)⟩, fun rw_ hrw => ?_⟩
          have lxe : xe.length = es.length := by rw [DpAll.len de8, List.length_map]
          have fd8 := fd7.ext s8
          refine lc_list (xs := xe) (fun j H9 => Same H8 H9 ∧ ∃ acc, H9 rw_ = some (.lst acc) ∧ Rws H8 F' acc (es.take j)) ⟨Same.new hrw, [], upd_same, .nil⟩ (fun j H9 _ z => .inl (.inl (z.1 _ _ pe8))) (fun j x H9 hx z => ?_) (fun H9 z => ?_)
          · obtain ⟨s9, acc, a9, r9⟩ := z
            have hj : j < xe.length := (List.getElem?_eq_some_iff.mp hx).1
            obtain ⟨q, hq⟩ : ∃ q, es[j]? = some q := ⟨_, List.getElem?_eq_getElem (by omega)⟩
            obtain ⟨x', hx', dq⟩ := DpAll.at_ de8 (i := j) (d := prD q) (by rw [List.getElem?_map, hq] <;> rfl)
            rw [hx] at hx'
            cases hx'
            obtain ⟨t, ys, rfl, hs, hd2⟩ := Dp.isTup dq
            cases hd2 with
            | cons h0 hr0 =>
            cases hr0 with
            | cons h1 hr1 =>
            cases hr1
            have z0 := Dp.int_eq h0
            have z1 := Dp.int_eq h1
            subst z0 z1
            have hqb : q.1 < bs.length := outs_lt ((E8.mem q.1).mp ⟨q, List.mem_of_getElem? hq, rfl⟩)
            obtain ⟨pq, gq, hpq⟩ := fd8.get hqb
            refine ⟨t, _, rfl, Same.sqt s9 hs, rfl, _, _, rfl, _, _, rfl, rfl, rfl, ?_⟩
            unfold tYes
            refine iteT ?_
            refine ⟨_, rfl, _, rfl, d, _, rfl, dget_ext s9 gq, acc, a9, small1000 (by rw [r9.len, List.length_take]; omega), Same.app s9 hrw, acc ++ [.ref pq], upd_same, ?_⟩
            rw [take_next hq]
            exact r9.snoc hpq
          · obtain ⟨s9, acc, a9, r9⟩ := z
            rw [lxe, List.take_length] at r9
            have r10 := r9.ext s9
            have fd9 := fd8.ext s9
            have e9 := s9 _ _ (s8 _ _ e7)
            have s10 := (s7.trans s8).trans s9
            have p9 := s9 _ _ (s8 _ _ p7)
            have lacc : acc.length ≤ 32 := by rw [r9.len]; exact hEf
            clear r9 s9 fd8 de8 pe8 s8 fd7 p7 e7 s7 hrw
            refine ⟨_, rfl, ev, rfl, ⟨_, .inl (.inl e9)⟩, fun sm hsm => ?_⟩
            refine lc_list_fm (xs := natsV (List.range bs.length)) (fun v => match v with
              | .int i => decide (i = ((b : Nat) : Int)) || (acc.map (rowHas H9 i.toNat)).all id
              | _ => false) (fun v => v) (.inl (.inl e9)) (by rw [natsV_len, List.length_range]; omega) hsm (fun x => rfl) (fun x hx H10 Q' s11 k11 => ?_) (fun x hx _ H10 Q' s11 k11 => ⟨_, rfl, k11 _ (Same.refl _)⟩) (fun H11 s11 d11 => ?_)
            · obtain ⟨o, ho, rfl⟩ := List.mem_map.mp hx
              refine ⟨_, rfl, _, rfl, rfl, _, rfl, ?_⟩
              rw [int_eq_nat]
              have kk := k11
              simp only [Int.toNat_natCast] at kk
              by_cases e : o = b
              · subst e
                refine iteT' (decide_eq_true (rfl : o = o)) ?_
                have z := kk H10 (Same.refl _)
                rw [decide_eq_true (rfl : ((o : Nat) : Int) = ((o : Nat) : Int)), Bool.true_or] at z
                exact z
              · refine iteF' (decide_eq_false e) ?_
                have e' : ¬ ((o : Nat) : Int) = ((b : Nat) : Int) := by omega
                simp only [decide_eq_false e', Bool.false_or] at kk
                have a10 := s11 _ _ a9
                refine ⟨_, rfl, rw_, rfl, ⟨_, .inl (.inl a10)⟩, fun D hD => ?_⟩
                refine lc_list_fm (xs := acc) (fun _ => true) (fun v => V.bl (rowHas H9 o v)) (.inl (.inl a10)) (by omega) hD (fun x => rfl) (fun x _ => tyes1) (fun x hx _ H' Q2 e2 q2 => ?_) (fun H' e2 hD' => ⟨_, acc.map (rowHas H9 o), rfl, .inl (.inl ?_), _, rfl, kk _ e2⟩)
                · obtain ⟨p, l, rfl, hp⟩ := r10.mem hx
                  refine ⟨_, rfl, _, rfl, p, natsV l, rfl, .inl (.inl (.inl (e2 _ _ (s11 _ _ hp)))), rfl, flat_nats l, ?_⟩
                  have e5 : rowHas H9 o (.ref p) = inV (.int ((o : Nat) : Int)) (natsV l) := by
                    show (match H9 p with
                      | some (.lst l) => inV (.int ((o : Nat) : Int)) l
                      | _ => false) = _
                    rw [hp]
                  rw [← e5]
                  exact q2 _ (Same.refl _)
                · rw [hD', filter_all, List.map_map] <;> rfl
            · rw [filter_nats (List.range bs.length) (fun o => decide (o = b) || es.all fun q => decide (o ∈ F' q.1)) _ (fun o => by
                show (decide (((o : Nat) : Int) = ((b : Nat) : Int)) || (acc.map (rowHas H9 ((o : Nat) : Int).toNat)).all id) = _
                rw [Int.toNat_natCast, r10.all o]
                refine congrArg (· || _) ?_
                rw [decide_eq_decide]
                omega)] at d11
              have fd11 := fd9.ext s11
              have e11 := s11 _ _ e9
              have p11 := s11 _ _ p9
              have s12 := s10.trans s11
              have n7' : c = false → F' = F := fun z => (n7 z).1
              have d11 : H11 sm = some (.lst (natsV (stp bs.length es F' b))) := d11
              obtain ⟨pb, gb, hpb⟩ := fd11.get hbl
              refine ⟨_, rfl, _, rfl, _, rfl, d, _, rfl, gb, .list (natsD (stp bs.length es F' b)), .list (natsD (F' b)), .lst (.inl (.inl d11)) (natsD_dp _), .lst (.inl (.inl hpb)) (natsD_dp _), natsD_sh _, natsD_sh _, _, rfl, ?_⟩
              rw [natsD_ne]
              by_cases e : stp bs.length es F' b = F' b
              · refine iteF' (by rw [decide_eq_true e] <;> rfl) ?_
                refine ⟨F', c, _, _, _, rfl, s12, e11, p11, fd11, hb7, fun z => ?_, l7⟩
                obtain ⟨rfl, z2⟩ := n7 z
                refine ⟨rfl, fun b' h1 h2 => ?_⟩
                by_cases q : b' = b
                · subst q
                  exact ⟨es, E8, e⟩
                · exact z2 b' h1 (by omega)
              · refine iteT' (by rw [decide_eq_false e] <;> rfl) ?_
                refine ⟨_, rfl, line1 (by simp), fun T12 hT12 => ?_⟩
                have n12 := Same.new (o := .tup [.ref sm, .bl true]) hT12
                have t12 : (upd H11 T12 (.tup [.ref sm, .bl true])) T12 = some (.tup [.ref sm, .bl true]) := upd_same
                generalize upd H11 T12 (.tup [.ref sm, .bl true]) = H12 at n12 t12 ⊢
                have fd12 := fd11.ext n12
                obtain ⟨H13, hput, fd13, ne13⟩ := fd12.put hbl (by omega) (n12 _ _ d11)
                refine ⟨T12, _, rfl, .inl (.inl t12), rfl, _, _, rfl, _, rfl, _, rfl, d, H13, rfl, hput, _, _, rfl, rfl, ?_⟩
                obtain ⟨kv, k1, _, _⟩ := fd12.ex
                have s14 : Same H H13 := fun q u hq => by
                  rw [ne13 q (fun z => by rw [z, dH] at hq; cases hq)]
                  exact (s12.trans n12) q u hq
                refine ⟨setF F' b (stp bs.length es F' b), true, _, _, _, rfl, s14, ?_, ?_, fd13, hb7.next ok E8 hb1 hbl, fun z => (Bool.noConfusion z), fun _ => ?_⟩
                · rw [ne13 ev (ne_of (n12 _ _ e11) k1 (by intro z; cases z))]
                  exact n12 _ _ e11
                · rw [ne13 sp (ne_of (n12 _ _ p11) k1 (by intro z; cases z))]
                  exact n12 _ _ p11
                · have z := hb7.less E8 hb1 hbl e
                  cases c with
                  | true => exact Nat.lt_trans z (l7 rfl)
                  | false =>
                    rw [n7' rfl] at z ⊢
                    exact z
        · obtain ⟨F', c, y4, y5, y6, rfl, s7, e7, p7, fd7, hb7, n7, l7⟩ := z
          rw [natsV_len, List.length_map, List.length_range] at n7
          cases c with
          | true => exact ⟨_, by have := l7 rfl; have z1 : (if true = true then 1 else 0 : Nat) = 1 := rfl; omega, F', true, y4, y5, y6, rfl, s7, e7, fd7, hb7, fun z => (Bool.noConfusion z), rfl⟩
          | false =>
            obtain ⟨rfl, n8⟩ := n7 rfl
            exact ⟨_, by have z1 : (if true = true then 1 else 0 : Nat) = 1 := rfl; have z2 : (if false = true then 1 else 0 : Nat) = 0 := rfl; omega, F', false, y4, y5, y6, rfl, s7, e7, fd7, hb7, fun _ b h1 h2 => n8 b h1 (by omega), rfl⟩
end
end Rr
namespace Rr
open PySem PySem.Spec PyProof.Rows L2
/-- a def with one default, None -/
def FnAt1 (K : PySem.W.Frag) (mg : Str → Option Value) (x : Str) (st : Stmt) : Prop := mg x = some (.ref (He.ga K x)) ∧ ∃ fd, FunD K x x (defArgs st) (defBody st) (defScope st) [.non] [] (He.ga K x) fd
section
variable {P : Program} {w : World} {K : PySem.W.Frag} {mg : Str → Option Value} {base : Heap}
theorem cal_mk1 {x : Str} {st : Stmt} {N ps : List Str} {k : Nat} {sp : Sp} (F : FnAt1 K mg x st) (S : FnScope N ps (defScope st))
    (hb : ∀ (T : Addr) (kV doc pm : Value) (an : Option Addr) (cdv ct : Value) (us its : List Value), us.length = ps.length → its.length = 1 → ∃ k, bindArgs (PySem.W.fnOf x x (defArgs st) (defBody st) (defScope st) (.ref T) kV doc pm an cdv ct) ⟨us, []⟩ = seqItems? (.ref T) >>= k ∧ k (some its.toArray) = pure (ps.zip (us ++ its.drop 1)))
    (len : ∀ vs H Q E, sp vs H Q E → vs.length = ps.length)
    (hbody : ∀ (f : Addr) (cdv : Value) (A : Around) (outer : List Env) (s : Shared) (H : Hp) (vs : List V) (Q : VK) (E : XK), Room k (A.deeper (envOfC x (defScope st) s.heap.objs.size f cdv)) → sp vs H Q E →
      ∃ t, PSs (cxOf CX0 P w K mg base N x (defScope st) f cdv A outer s H E).nox (defBody st) t ∧ t { nx := fun _ H' => Q .non H', rt := Q } (start N vs) H) : Cal P w K mg base (k + 1) x sp := by
  obtain ⟨hm, fd, F⟩ := F
  have B : Binds K fd ps [] := by
    obtain ⟨ds, r, b⟩ := F.binds1 (ps := ps) ps.length 1 (by simp) (by simp) hb
    cases r
    exact b
  refine ⟨_, fd, ps, F.ok S len fun cdv A outer s H vs Q E hr hsp => ?_, hm, F.kp, B⟩
  obtain ⟨t, h, q⟩ := hbody _ cdv A outer s H vs Q E hr hsp
  exact ⟨t, h.nox, q⟩
/-! ### heads -/
def Hd (bs : List Bk) (b : Nat) (l : List Nat) : Prop := Asc bs.length l ∧ ∀ a, a ∈ l ↔ Dm bs a b
def sp_heads (K : PySem.W.Frag) : Sp := fun vs H Q _ => ∃ v many handed span bs b, vs = [v, .int ((b : Nat) : Int)] ∧ Pr K H v many handed span bs ∧ b < bs.length ∧ ∀ p l H', Same H H' → H' p = some (.lst (natsV l)) → Hd bs b l → Q (.ref p) H'
-- heads: 0 program, 1 block
theorem sc_heads : FnScope ["program", "block"] ["program", "block"] (defScope s_heads) := ⟨rfl, rfl, rfl, by decide +kernel, rfl, by decide +kernel, by decide +kernel⟩
theorem ok_heads (T : Facts w K mg) (PF : PrF K) (F : FnAt K mg "heads" s_heads) (c_check_block : Cal P w K mg base 3 "check_block" (sp_check_block K)) (c_heads_by_steps : Cal P w K mg base 7 "heads_by_steps" (sp_steps K)) : Cal P w K mg base 8 "heads" (sp_heads K) := by
  refine cal_mk F sc_heads (fun _ _ _ _ _ _ us hl => match us, hl with | [_, _], _ => rfl) (fun vs H Q E h => ?_) (fun f cdv A outer s H vs Q E hr h => ?_)
  · obtain ⟨v, many, handed, span, bs, b, rfl, _⟩ := h
    rfl
  · obtain ⟨v, many, handed, span, bs, b, rfl, pr, hb, k⟩ := h
    have nd := sc_heads.nd
    have hu := hu_of hr
    refine ⟨_, (pss_cons (ps_expr (pc c_check_block hr (by decide) (by rfl) (pa_cons (pv 0) (pa_cons (pv 1) pa_nil))))
    (pss_one (ps_ret (pe_dget hu (pc c_heads_by_steps hr (by decide) (by rfl) (pa_cons (pv 0) pa_nil)) (pv 1) (fun _ _ => rfl))))), ?_⟩
    refine ⟨_, rfl, _, rfl, _, many, handed, span, bs, b, rfl, pr, hb, _, rfl, _, many, handed, span, bs, rfl, pr, fun d F H' e fd hd => ?_⟩
    obtain ⟨p, g, hp⟩ := fd.get hb
    exact ⟨_, rfl, d, _, rfl, g, k p (F b) H' e hp ⟨hd.asc b hb, hd.iff b hb⟩⟩
end
/-! ### states -/
/-- v is the state (b, i, ns) -/
structure StV (K : PySem.W.Frag) (H : Hp) (v : V) (b i : Nat) (ns : List Nat) : Prop where
  ex : ∃ a n, v = .ref a ∧ SqT K H a [.int ((b : Nat) : Int), .int ((i : Nat) : Int), .ref n] ∧ SqT K H n (natsV ns)
theorem StV.ext {K : PySem.W.Frag} {H H' : Hp} {v : V} {b i : Nat} {ns : List Nat} (h : StV K H v b i ns) (e : Same H H') : StV K H' v b i ns := by
  obtain ⟨a, n, e1, h1, h2⟩ := h.ex
  exact ⟨a, n, e1, Same.sqt e h1, Same.sqt e h2⟩
structure StOk (many span : Nat) (bs : List Bk) (b i : Nat) (ns : List Nat) (bk : Bk) : Prop where
  at_ : bs[b]? = some bk
  row : i ≤ bk.rows.length
  len : ns.length = many
  lt : ∀ x ∈ ns, x < span
/-- the row or the end that is next -/
def nxt (bk : Bk) (i : Nat) : PyData := match bk.rows[i]? with
  | some r => r.d
  | none => bk.fin.d
section
variable {P : Program} {w : World} {K : PySem.W.Frag} {mg : Str → Option Value} {base : Heap}
def sp_next (K : PySem.W.Frag) : Sp := fun vs H Q _ => ∃ v x many handed span bs b i ns bk, vs = [v, x] ∧ Pr K H v many handed span bs ∧ StV K H x b i ns ∧ bs[b]? = some bk ∧ i ≤ bk.rows.length ∧ ∀ y, Dp K H y (nxt bk i) → Q y H
-- what_is_next: 0 program, 1 state, 2 rows
theorem sc_what_is_next : FnScope ["program", "state", "rows"] ["program", "state"] (defScope s_what_is_next) := ⟨rfl, rfl, rfl, by decide +kernel, rfl, by decide +kernel, by decide +kernel⟩
theorem ok_next (T : Facts w K mg) (PF : PrF K) (F : FnAt K mg "what_is_next" s_what_is_next) (c_rows : Mth P w K mg base 4 "rows" (sp_rows K)) (c_end : Mth P w K mg base 4 "end" (sp_end K)) : Cal P w K mg base 5 "what_is_next" (sp_next K) := by
  refine cal_mk F sc_what_is_next (fun _ _ _ _ _ _ us hl => match us, hl with | [_, _], _ => rfl) (fun vs H Q E h => ?_) (fun f cdv A outer s H vs Q E hr h => ?_)
  · obtain ⟨v, x, many, handed, span, bs, b, i, ns, bk, rfl, _⟩ := h
    rfl
  · obtain ⟨v, x, many, handed, span, bs, b, i, ns, bk, rfl, pr, st, hbk, hi, k⟩ := h
    have nd := sc_what_is_next.nd
    refine ⟨_, (pss_cons (ps_set (i := 2) nd rfl (Or.inl rfl) (pm c_rows PF hr (by decide) (pv 0) (pa_cons (pe_ix ix_tup (pv 1) pe_int (fun _ _ => rfl)) pa_nil)))
    (pss_one (ps_ret (pe_ifExp (pt_cmpR op_lt (pe_ix ix_tup (pv 1) pe_int (fun _ _ => rfl)) (pe_callB call_len_seq (by rfl) T.b_len (by decide +kernel) (pa_cons (pv 2) pa_nil)) (nomark _)) (pe_ix ix_tup (pv 2) (pe_ix ix_tup (pv 1) pe_int (fun _ _ => rfl)) (fun _ _ => rfl)) (pm c_end PF hr (by decide) (pv 0) (pa_cons (pe_ix ix_tup (pv 1) pe_int (fun _ _ => rfl)) pa_nil)))))), ?_⟩
    have pr0 := pr
    obtain ⟨⟨a, dx, vb, rfl, hsl, hd⟩, ok⟩ := pr0
    obtain ⟨t, n, rfl, ht, hn⟩ := st.ex
    refine ⟨_, rfl, a, dx, _, rfl, hsl, _, rfl, _, _, _, _, rfl, rfl, ht, atI_nat (j := 0) rfl, _, many, handed, span, bs, b, bk, rfl, pr, hbk, fun y hy => ?_⟩
    obtain ⟨p, xs, rfl, hp, hrows⟩ := Dp.isTup hy
    have hl : xs.length = bk.rows.length := by rw [DpAll.len hrows, List.length_map]
    refine ⟨_, rfl, _, _, _, _, rfl, rfl, ht, atI_nat (j := 1) rfl, _, rfl, p, xs, rfl, .inr hp, _, _, rfl, rfl, _, rfl, ?_⟩
    unfold nxt at k
    by_cases e : i < bk.rows.length
    · refine iteT' (decide_eq_true (by omega)) ?_
      rw [List.getElem?_eq_getElem e] at k
      obtain ⟨y, hy, hdy⟩ := DpAll.at_ hrows (i := i) (d := bk.rows[i].d) (by rw [List.getElem?_map, List.getElem?_eq_getElem e] <;> rfl)
      exact ⟨_, rfl, _, rfl, _, _, _, _, rfl, rfl, ht, atI_nat (j := 1) rfl, _, _, _, _, rfl, rfl, hp, atI_nat hy, k y hdy⟩
    · refine iteF' (decide_eq_false (by omega)) ?_
      rw [List.getElem?_eq_none (by omega)] at k
      exact ⟨_, rfl, a, dx, _, rfl, hsl, _, rfl, _, _, _, _, rfl, rfl, ht, atI_nat (j := 0) rfl, _, many, handed, span, bs, b, bk, rfl, pr, hbk, fun y hy => k y hy⟩
end
end Rr
namespace Rr
open PySem PySem.Spec PyProof.Rows L2
def En.word : En → Str
  | .stop => "stop"
  | .go _ => "go"
  | .part _ _ _ => "part"
def En.ints : En → List Int
  | .stop => []
  | .go b => [(b : Int)]
  | .part r b c => [(r : Int), (b : Int), (c : Int)]
theorem En.d_eq (e : En) : e.d = .tuple (.str e.word :: e.ints.map PyData.int) := by cases e <;> rfl
def nw (bk : Bk) (i : Nat) : Str := match bk.rows[i]? with
  | some r => r.word
  | none => bk.fin.word
def ni (bk : Bk) (i : Nat) : List Int := match bk.rows[i]? with
  | some r => r.ints
  | none => bk.fin.ints
theorem nxt_eq (bk : Bk) (i : Nat) : nxt bk i = .tuple (.str (nw bk i) :: (ni bk i).map PyData.int) := by
  unfold nxt nw ni
  cases bk.rows[i]? with
  | some r => rfl
  | none => exact bk.fin.d_eq
/-- a row or an end in the heap -/
theorem word_tup {K : PySem.W.Frag} {H : Hp} {y : V} {w : Str} {is : List Int} (h : Dp K H y (.tuple (.str w :: is.map PyData.int))) : ∃ a, y = .ref a ∧ SqT K H a (.str w :: is.map V.int) := by
  obtain ⟨a, xs, rfl, hs, ha⟩ := Dp.isTup h
  cases ha with
  | cons h0 hr =>
  have z0 := Dp.str_eq h0
  subst z0
  have zr := DpAll.ints_eq hr
  subst zr
  exact ⟨a, rfl, hs⟩
/-- a slice of a tuple, whole or cut -/
theorem sl_any {K : PySem.W.Frag} {H : Hp} {a : Addr} {xs : List V} {lo hi : Option Int} {Q : VK} (hx : SqT K H a xs) (q : ∀ p H', Same H H' → SqT K H' p (cutV xs lo hi) → Q (.ref p) H') : rSlA K (.ref a) lo hi H Q := by
  refine ⟨a, xs, rfl, hx, fun w => q a H (Same.refl _) ?_, fun _ p hp => q p _ (Same.new hp) (.inl (.inl upd_same))⟩
  have e : cutV xs lo hi = xs := by
    unfold cutV
    rw [w.1, w.2]
    simp
  rw [e]
  exact hx
theorem cut_to (xs : List V) {n : Nat} (h : n ≤ xs.length) : cutV xs none (some (n : Int)) = xs.take n := by
  unfold cutV
  rw [HT.sIx_none, HT.sIx_nat, Nat.min_eq_left h, List.drop_zero, Nat.sub_zero]
theorem cut_from (xs : List V) {n : Nat} (h : n ≤ xs.length) : cutV xs (some (n : Int)) none = xs.drop n := by
  unfold cutV
  rw [HT.sIx_none, HT.sIx_nat, Nat.min_eq_left h]
  exact List.take_of_length_le (by rw [List.length_drop]; omega)
def putN (ns : List Nat) (j m : Nat) : List Nat := ns.take j ++ m :: ns.drop (j + 1)
theorem putN_len {ns : List Nat} {j m : Nat} (h : j < ns.length) : (putN ns j m).length = ns.length := by
  unfold putN
  rw [List.length_append, List.length_take, List.length_cons, List.length_drop]
  omega
theorem putN_lt {ns : List Nat} {j m s : Nat} (h : ∀ x ∈ ns, x < s) (hm : m < s) : ∀ x ∈ putN ns j m, x < s := by
  intro x hx
  rcases List.mem_append.mp hx with hx | hx
  · exact h x (List.mem_of_mem_take hx)
  · rcases List.mem_cons.mp hx with rfl | hx
    · exact hm
    · exact h x (List.mem_of_mem_drop hx)
theorem natsV_take (l : List Nat) (n : Nat) : (natsV l).take n = natsV (l.take n) := by
  unfold natsV
  rw [List.map_take]
theorem natsV_drop (l : List Nat) (n : Nat) : (natsV l).drop n = natsV (l.drop n) := by
  unfold natsV
  rw [List.map_drop]
section
variable {P : Program} {w : World} {K : PySem.W.Frag} {mg : Str → Option Value} {base : Heap}
def sp_takes (K : PySem.W.Frag) : Sp := fun vs H Q _ => ∃ v x many handed span bs b i ns bk, vs = [v, x] ∧ Pr K H v many handed span bs ∧ StV K H x b i ns ∧ bs[b]? = some bk ∧ i ≤ bk.rows.length ∧ Q (.bl (decide (nw bk i = "take"))) H
theorem str_dec (x y : Str) : decide (V.str x = V.str y) = decide (x = y) := by
  rw [decide_eq_decide]
  exact ⟨fun z => V.str.inj z, fun z => by rw [z]⟩
-- takes_next: 0 program, 1 state
theorem sc_takes_next : FnScope ["program", "state"] ["program", "state"] (defScope s_takes_next) := ⟨rfl, rfl, rfl, by decide +kernel, rfl, by decide +kernel, by decide +kernel⟩
theorem ok_takes (T : Facts w K mg) (F : FnAt K mg "takes_next" s_takes_next) (c_what_is_next : Cal P w K mg base 5 "what_is_next" (sp_next K)) : Cal P w K mg base 6 "takes_next" (sp_takes K) := by
  refine cal_mk F sc_takes_next (fun _ _ _ _ _ _ us hl => match us, hl with | [_, _], _ => rfl) (fun vs H Q E h => ?_) (fun f cdv A outer s H vs Q E hr h => ?_)
  · obtain ⟨v, x, many, handed, span, bs, b, i, ns, bk, rfl, _⟩ := h
    rfl
  · obtain ⟨v, x, many, handed, span, bs, b, i, ns, bk, rfl, pr, st, hbk, hi, k⟩ := h
    have nd := sc_takes_next.nd
    refine ⟨_, (pss_one (ps_ret (pe_cmpR op_eq (pe_ix ix_tup (pc c_what_is_next hr (by decide) (by rfl) (pa_cons (pv 0) (pa_cons (pv 1) pa_nil))) pe_int (fun _ _ => rfl)) pe_str (nomark _)))), ?_⟩
    refine ⟨_, rfl, _, rfl, v, x, many, handed, span, bs, b, i, ns, bk, rfl, pr, st, hbk, hi, fun y hy => ?_⟩
    rw [nxt_eq] at hy
    obtain ⟨a, rfl, hs⟩ := word_tup hy
    refine ⟨_, _, _, _, rfl, rfl, hs, atI_nat (j := 0) rfl, rfl, ?_⟩
    rw [str_dec]
    exact k
def stepsL (wd : Str) (span : Nat) : List V := if wd = "stop" then [] else if wd = "take" then natsV (List.range span) else [.non]
def sp_steps_from (K : PySem.W.Frag) : Sp := fun vs H Q _ => ∃ v x many handed span bs b i ns bk, vs = [v, x] ∧ Pr K H v many handed span bs ∧ span ≤ 1000 ∧ StV K H x b i ns ∧ bs[b]? = some bk ∧ i ≤ bk.rows.length ∧ ∀ p H', Same H H' → H' p = some (.lst (stepsL (nw bk i) span)) → Q (.ref p) H'
-- steps_from: 0 program, 1 state
theorem sc_steps_from : FnScope ["program", "state"] ["program", "state"] (defScope s_steps_from) := ⟨rfl, rfl, rfl, by decide +kernel, rfl, by decide +kernel, by decide +kernel⟩
theorem ok_steps_from (T : Facts w K mg) (PF : PrF K) (F : FnAt K mg "steps_from" s_steps_from) (c_what_is_next : Cal P w K mg base 5 "what_is_next" (sp_next K)) (c_takes_next : Cal P w K mg base 6 "takes_next" (sp_takes K)) : Cal P w K mg base 7 "steps_from" (sp_steps_from K) := by
  refine cal_mk F sc_steps_from (fun _ _ _ _ _ _ us hl => match us, hl with | [_, _], _ => rfl) (fun vs H Q E h => ?_) (fun f cdv A outer s H vs Q E hr h => ?_)
  · obtain ⟨v, x, many, handed, span, bs, b, i, ns, bk, rfl, _⟩ := h
    rfl
  · obtain ⟨v, x, many, handed, span, bs, b, i, ns, bk, rfl, pr, hsp, st, hbk, hi, k⟩ := h
    have nd := sc_steps_from.nd
    refine ⟨_, (pss_cons (ps_if (pt_cmpR op_eq (pe_ix ix_tup (pc c_what_is_next hr (by decide) (by rfl) (pa_cons (pv 0) (pa_cons (pv 1) pa_nil))) pe_int (fun _ _ => rfl)) pe_str (nomark _)) (pss_one (ps_ret (pe_lst pa_nil))) pss_nil)
    (pss_one (ps_ret (pe_ifExp (pt_val (pc c_takes_next hr (by decide) (by rfl) (pa_cons (pv 0) (pa_cons (pv 1) pa_nil)))) (pe_listRg rfl (by rfl) T.b_list (prg_1 (by rfl) T.b_range (SlX.pe_sl (pv 0)))) (pe_lst (pa_cons pe_non pa_nil)))))), ?_⟩
    have pr0 := pr
    obtain ⟨⟨a, dx, vb, rfl, hsl, hd⟩, ok⟩ := pr0
    refine ⟨_, rfl, _, rfl, _, x, many, handed, span, bs, b, i, ns, bk, rfl, pr, st, hbk, hi, fun y hy => ?_⟩
    rw [nxt_eq] at hy
    obtain ⟨t, rfl, hs⟩ := word_tup hy
    refine ⟨_, _, _, _, rfl, rfl, hs, atI_nat (j := 0) rfl, rfl, _, rfl, ?_⟩
    rw [str_dec]
    unfold stepsL at k
    by_cases e : nw bk i = "stop"
    · rw [if_pos e] at k
      refine iteT' (decide_eq_true e) ⟨line1 (by simp), fun p hp => k p _ (Same.new hp) upd_same⟩
    · rw [if_neg e] at k
      refine iteF' (decide_eq_false e) ?_
      refine ⟨_, rfl, _, rfl, _, x, many, handed, span, bs, b, i, ns, bk, rfl, pr, st, hbk, hi, _, rfl, ?_⟩
      by_cases e2 : nw bk i = "take"
      · rw [if_pos e2] at k
        obtain ⟨ps, sl⟩ := PF.s_span
        refine iteT' (decide_eq_true e2) ⟨_, rfl, a, _, dx, ps, _, 2, _, rfl, hsl, PF.cls, sl, rfl, _, rfl, RgOk.of_le (by omega) (by omega) (by omega) (by omega), fun p hp => ?_⟩
        rw [rg_nats]
        exact k p _ (Same.new hp) upd_same
      · rw [if_neg e2] at k
        refine iteF' (decide_eq_false e2) ⟨line1 (by simp), fun p hp => k p _ (Same.new hp) upd_same⟩
def sp_with (K : PySem.W.Frag) : Sp := fun vs H Q _ => ∃ n ns j m, vs = [.ref n, .int ((j : Nat) : Int), .int ((m : Nat) : Int)] ∧ SqT K H n (natsV ns) ∧ j < ns.length ∧ ns.length ≤ 1000 ∧ ∀ p H', Same H H' → SqT K H' p (natsV (putN ns j m)) → Q (.ref p) H'
-- with_number: 0 numbers, 1 one, 2 number
theorem sc_with_number : FnScope ["numbers", "one", "number"] ["numbers", "one", "number"] (defScope s_with_number) := ⟨rfl, rfl, rfl, by decide +kernel, rfl, by decide +kernel, by decide +kernel⟩
theorem ok_with (T : Facts w K mg) (F : FnAt K mg "with_number" s_with_number) : Cal P w K mg base 1 "with_number" (sp_with K) := by
  refine cal_mk F sc_with_number (fun _ _ _ _ _ _ us hl => match us, hl with | [_, _, _], _ => rfl) (fun vs H Q E h => ?_) (fun f cdv A outer s H vs Q E hr h => ?_)
  · obtain ⟨n, ns, j, m, rfl, _⟩ := h
    rfl
  · obtain ⟨n, ns, j, m, rfl, hn, hj, hl, k⟩ := h
    have nd := sc_with_number.nd
    refine ⟨_, (pss_one (ps_ret (pe_tup (StX.pa_star (pe_slice sl_tupA (pv 0) po_none (po_some (pv 1))) (pa_cons (pv 2) (StX.pa_star (pe_slice sl_tupA (pv 0) (po_some (pe_op op_add (pv 1) pe_int)) po_none) pa_nil)))))), ?_⟩
    refine ⟨_, rfl, _, rfl, j, rfl, sl_any hn fun p H1 s1 h1 => ?_⟩
    have hnl : (natsV ns).length = ns.length := natsV_len _
    rw [cut_to _ (by omega), natsV_take] at h1
    refine ⟨p, _, rfl, .inl h1, _, rfl, ?_⟩
    refine ⟨_, rfl, _, rfl, _, _, rfl, rfl, _, rfl, ?_⟩
    unfold tNoPart
    refine sl_any (Same.sqt s1 hn) fun p2 H2 s2 h2 => ?_
    rw [show ((j : Nat) : Int) + 1 = ((j + 1 : Nat) : Int) by omega, cut_from _ (by omega), natsV_drop] at h2
    refine ⟨p2, _, rfl, .inl h2, ?_⟩
    have e : natsV (ns.take j) ++ V.int ((m : Nat) : Int) :: (natsV (ns.drop (j + 1)) ++ []) = natsV (putN ns j m) := by
      unfold putN
      rw [List.append_nil]
      unfold natsV
      rw [List.map_append, List.map_cons]
    have e2 := congrArg List.length e
    rw [natsV_len, putN_len hj] at e2
    refine ⟨Nat.le_of_lt (small1000 (by rw [e2]; exact hl)), fun p3 hp3 => ?_⟩
    rw [e]
    exact k p3 _ ((s1.trans s2).trans (Same.new hp3)) (.inl (.inl upd_same))
end
end Rr
namespace Rr
open PySem PySem.Spec PyProof.Rows L2
/-- a row that makes a number of what is held -/
inductive Mk3 (many span : Nat) : Rw → Prop where
  | put {r n : Nat} : r < many → n < span → Mk3 many span (.put r n)
  | move {r s : Nat} : r < many → s < many → Mk3 many span (.move r s)
  | op {o : Op3} {r s t : Nat} : r < many → s < many → t < many → Mk3 many span (.op o r s t)
theorem nats_get {ns : List Nat} {j : Nat} (h : j < ns.length) : atI (natsV ns) ((j : Nat) : Int) = some (.int ((ns[j] : Nat) : Int)) := by
  refine atI_nat ?_
  unfold natsV
  rw [List.getElem?_map, List.getElem?_eq_getElem h] <;> rfl
theorem mod_nat (z : Int) {s : Nat} (h : 1 ≤ s) : ∃ m : Nat, m < s ∧ z % ((s : Nat) : Int) = ((m : Nat) : Int) := by
  have h1 : 0 ≤ z % ((s : Nat) : Int) := Int.emod_nonneg _ (by omega)
  have h2 : z % ((s : Nat) : Int) < ((s : Nat) : Int) := Int.emod_lt_of_pos _ (by omega)
  exact ⟨(z % ((s : Nat) : Int)).toNat, by omega, by omega⟩
section
variable {P : Program} {w : World} {K : PySem.W.Frag} {mg : Str → Option Value} {base : Heap}
def sp_value (K : PySem.W.Frag) : Sp := fun vs H Q _ => ∃ v many handed span bs y n r ns, vs = [v, y, .ref n] ∧ Pr K H v many handed span bs ∧ 2 ≤ span ∧ Dp K H y (Rw.d r) ∧ Mk3 many span r ∧ SqT K H n (natsV ns) ∧ ns.length = many ∧ (∀ x ∈ ns, x < span) ∧ ∀ m : Nat, m < span → Q (.int (m : Int)) H
-- value_of: 0 program, 1 row, 2 numbers, 3 one, 4 other
theorem sc_value_of : FnScope ["program", "row", "numbers", "one", "other"] ["program", "row", "numbers"] (defScope s_value_of) := ⟨rfl, rfl, rfl, by decide +kernel, rfl, by decide +kernel, by decide +kernel⟩
theorem ok_value (T : Facts w K mg) (PF : PrF K) (F : FnAt K mg "value_of" s_value_of) : Cal P w K mg base 1 "value_of" (sp_value K) := by
  refine cal_mk F sc_value_of (fun _ _ _ _ _ _ us hl => match us, hl with | [_, _, _], _ => rfl) (fun vs H Q E h => ?_) (fun f cdv A outer s H vs Q E hr h => ?_)
  · obtain ⟨v, many, handed, span, bs, y, n, r, ns, rfl, _⟩ := h
    rfl
  · obtain ⟨v, many, handed, span, bs, y, n, r, ns, rfl, pr, hsp, hy, mk, hn, hl, hlt, k⟩ := h
    have nd := sc_value_of.nd
    refine ⟨_, (pss_cons (ps_if (pt_cmpR op_eq (pe_ix ix_tup (pv 1) pe_int (fun _ _ => rfl)) pe_str (nomark _)) (pss_one (ps_ret (pe_ix ix_tup (pv 1) pe_int (fun _ _ => rfl)))) pss_nil)
    (pss_cons (ps_if (pt_cmpR op_eq (pe_ix ix_tup (pv 1) pe_int (fun _ _ => rfl)) pe_str (nomark _)) (pss_one (ps_ret (pe_ix ix_tup (pv 2) (pe_ix ix_tup (pv 1) pe_int (fun _ _ => rfl)) (fun _ _ => rfl)))) pss_nil)
    (pss_cons (ps_par (i := 3) (j := 4) (by rfl) nd rfl rfl (by decide) rfl rfl (pa_cons (pe_ix ix_tup (pv 2) (pe_ix ix_tup (pv 1) pe_int (fun _ _ => rfl)) (fun _ _ => rfl)) (pa_cons (pe_ix ix_tup (pv 2) (pe_ix ix_tup (pv 1) pe_int (fun _ _ => rfl)) (fun _ _ => rfl)) pa_nil)) (by rfl))
    (pss_cons (ps_if (pt_cmpR op_eq (pe_ix ix_tup (pv 1) pe_int (fun _ _ => rfl)) pe_str (nomark _)) (pss_one (ps_ret (pe_ifExp (pt_cmpR op_lt (pv 3) (pv 4) (nomark _)) pe_int pe_int))) pss_nil)
    (pss_one (ps_ret (pe_op op_mod (pe_ifExp (pt_cmpR op_eq (pe_ix ix_tup (pv 1) pe_int (fun _ _ => rfl)) pe_str (nomark _)) (pe_op op_add (pv 3) (pv 4)) (pe_op op_sub (pv 3) (pv 4))) (SlX.pe_sl (pv 0))))))))), ?_⟩
    obtain ⟨t, rfl, hs⟩ := word_tup hy
    obtain ⟨⟨a, dx, vb, rfl, hsl, hd⟩, ok⟩ := pr
    obtain ⟨ps, sl⟩ := PF.s_span
    have lt : ∀ {j : Nat} (h : j < ns.length), ns[j] < span := fun h => hlt _ (List.getElem_mem h)
    cases mk with
    | @put r n1 h1 h2 =>
      refine ⟨_, rfl, _, _, _, _, rfl, rfl, hs, atI_nat (j := 0) rfl, rfl, _, rfl, iteT' (dT rfl) ?_⟩
      exact ⟨_, rfl, _, _, _, _, rfl, rfl, hs, atI_nat (j := 2) rfl, k n1 h2⟩
    | @move r s1 h1 h2 =>
      refine ⟨_, rfl, _, _, _, _, rfl, rfl, hs, atI_nat (j := 0) rfl, rfl, _, rfl, iteF' (dF (show ("move" : Str) ≠ "put" by decide +kernel)) ?_⟩
      refine ⟨_, rfl, _, _, _, _, rfl, rfl, hs, atI_nat (j := 0) rfl, rfl, _, rfl, iteT' (dT rfl) ?_⟩
      exact ⟨_, rfl, _, rfl, _, _, _, _, rfl, rfl, hs, atI_nat (j := 2) rfl, _, _, _, _, rfl, rfl, hn, nats_get (by omega : s1 < ns.length), k _ (lt _)⟩
    | @op o r s1 t1 h1 h2 h3 =>
      have w1 : o.w ≠ "put" := by cases o <;> decide +kernel
      have w2 : o.w ≠ "move" := by cases o <;> decide +kernel
      refine ⟨_, rfl, _, _, _, _, rfl, rfl, hs, atI_nat (j := 0) rfl, rfl, _, rfl, iteF' (dF w1) ?_⟩
      refine ⟨_, rfl, _, _, _, _, rfl, rfl, hs, atI_nat (j := 0) rfl, rfl, _, rfl, iteF' (dF w2) ?_⟩
      refine ⟨_, rfl, _, rfl, _, _, _, _, rfl, rfl, hs, atI_nat (j := 2) rfl, _, _, _, _, rfl, rfl, hn, nats_get (by omega : s1 < ns.length), _, rfl, _, rfl, _, _, _, _, rfl, rfl, hs, atI_nat (j := 3) rfl, _, _, _, _, rfl, rfl, hn, nats_get (by omega : t1 < ns.length), _, _, rfl, ?_⟩
      cases o with
      | less =>
        refine ⟨_, rfl, _, _, _, _, rfl, rfl, hs, atI_nat (j := 0) rfl, rfl, _, rfl, iteT' (dT rfl) ?_⟩
        refine ⟨_, rfl, _, rfl, _, _, rfl, rfl, _, rfl, ?_⟩
        by_cases e : ns[s1] < ns[t1]
        · exact iteT' (decide_eq_true (by omega)) (k 1 (by omega))
        · exact iteF' (decide_eq_false (by omega)) (k 0 (by omega))
      | add =>
        refine ⟨_, rfl, _, _, _, _, rfl, rfl, hs, atI_nat (j := 0) rfl, rfl, _, rfl, iteF' (dF (show ("add" : Str) ≠ "less" by decide +kernel)) ?_⟩
        refine ⟨_, rfl, _, _, _, _, rfl, rfl, hs, atI_nat (j := 0) rfl, rfl, _, rfl, iteT' (dT rfl) ?_⟩
        refine ⟨_, rfl, _, rfl, _, _, rfl, rfl, _, rfl, a, _, dx, ps, _, 2, _, rfl, hsl, PF.cls, sl, rfl, _, _, rfl, rfl, (by omega : (0 : Int) < ((span : Nat) : Int)), ?_⟩
        obtain ⟨m, h, e⟩ := mod_nat (((ns[s1] : Nat) : Int) + ((ns[t1] : Nat) : Int)) (s := span) (by omega)
        show Q (V.int (_ % _)) H
        rw [e]
        exact k m h
      | sub =>
        refine ⟨_, rfl, _, _, _, _, rfl, rfl, hs, atI_nat (j := 0) rfl, rfl, _, rfl, iteF' (dF (show ("sub" : Str) ≠ "less" by decide +kernel)) ?_⟩
        refine ⟨_, rfl, _, _, _, _, rfl, rfl, hs, atI_nat (j := 0) rfl, rfl, _, rfl, iteF' (dF (show ("sub" : Str) ≠ "add" by decide +kernel)) ?_⟩
        refine ⟨_, rfl, _, rfl, _, _, rfl, rfl, _, rfl, a, _, dx, ps, _, 2, _, rfl, hsl, PF.cls, sl, rfl, _, _, rfl, rfl, (by omega : (0 : Int) < ((span : Nat) : Int)), ?_⟩
        obtain ⟨m, h, e⟩ := mod_nat (((ns[s1] : Nat) : Int) - ((ns[t1] : Nat) : Int)) (s := span) (by omega)
        show Q (V.int (_ % _)) H
        rw [e]
        exact k m h
end
end Rr
namespace Rr
open PySem PySem.Spec PyProof.Rows L2
theorem rw_in {bk : Bk} {many span size i : Nat} {r : Rw} (h : bk.ok many span size) (e : bk.rows[i]? = some r) : r.ok many span := h.rows r (List.mem_of_getElem? e)
theorem rw_first {many span : Nat} {r : Rw} (h : r.ok many span) : ∃ j t, j < many ∧ r.nats = j :: t := by
  cases r with
  | put a b => exact ⟨a, _, h.1, rfl⟩
  | move a b => exact ⟨a, _, h a (by simp [Rw.nats]), rfl⟩
  | op o a b c => exact ⟨a, _, h a (by simp [Rw.nats]), rfl⟩
  | take a => exact ⟨a, _, h a (by simp [Rw.nats]), rfl⟩
  | tell a => exact ⟨a, _, h a (by simp [Rw.nats]), rfl⟩
theorem rw_cases {many span : Nat} {r : Rw} (h : r.ok many span) : (∃ a, r = .tell a) ∨ (∃ a, r = .take a) ∨ (Mk3 many span r ∧ r.word ≠ "tell" ∧ r.word ≠ "take") := by
  cases r with
  | put a b => exact .inr (.inr ⟨.put h.1 h.2, (by decide +kernel : ("put" : Str) ≠ "tell"), (by decide +kernel : ("put" : Str) ≠ "take")⟩)
  | move a b => exact .inr (.inr ⟨.move (h a (by simp [Rw.nats])) (h b (by simp [Rw.nats])), (by decide +kernel : ("move" : Str) ≠ "tell"), (by decide +kernel : ("move" : Str) ≠ "take")⟩)
  | op o a b c => exact .inr (.inr ⟨.op (h a (by simp [Rw.nats])) (h b (by simp [Rw.nats])) (h c (by simp [Rw.nats])), (by cases o <;> decide +kernel : o.w ≠ "tell"), (by cases o <;> decide +kernel : o.w ≠ "take")⟩)
  | take a => exact .inr (.inl ⟨a, rfl⟩)
  | tell a => exact .inl ⟨a, rfl⟩
theorem rw_stop (r : Rw) : r.word ≠ "stop" := by
  cases r with
  | op o a b c => exact (by cases o <;> decide +kernel : o.w ≠ "stop")
  | put a b => exact (by decide +kernel : ("put" : Str) ≠ "stop")
  | move a b => exact (by decide +kernel : ("move" : Str) ≠ "stop")
  | take a => exact (by decide +kernel : ("take" : Str) ≠ "stop")
  | tell a => exact (by decide +kernel : ("tell" : Str) ≠ "stop")
theorem inV_two (x a b : Str) : inV (.str x) [.str a, .str b] = (a == x || b == x) := by
  show (a == x || (b == x || false)) = _
  rw [Bool.or_false]
theorem rw_go (r : Rw) : inV (.str r.word) [.str "go", .str "part"] = false := by
  rw [inV_two]
  cases r with
  | op o a b c => exact (by cases o <;> decide +kernel : (("go" : Str) == o.w || ("part" : Str) == o.w) = false)
  | put a b => exact (by decide +kernel : (("go" : Str) == "put" || ("part" : Str) == "put") = false)
  | move a b => exact (by decide +kernel : (("go" : Str) == "move" || ("part" : Str) == "move") = false)
  | take a => exact (by decide +kernel : (("go" : Str) == "take" || ("part" : Str) == "take") = false)
  | tell a => exact (by decide +kernel : (("go" : Str) == "tell" || ("part" : Str) == "tell") = false)
theorem Bks.bk {many span : Nat} {bs : List Bk} {b : Nat} {bk : Bk} (h : Bks many span bs) (e : bs[b]? = some bk) : bk.ok many span bs.length := h.ok bk (List.mem_of_getElem? e)
theorem Bks.at {many span : Nat} {bs : List Bk} {b : Nat} (h : b < bs.length) : ∃ bk, bs[b]? = some bk := ⟨_, List.getElem?_eq_getElem h⟩
/-- what was taken: a number at a take, else None -/
def Tk (bk : Bk) (i span : Nat) (tk : V) : Prop := if nw bk i = "take" then ∃ t : Nat, t < span ∧ tk = .int (t : Int) else tk = .non
section
variable {P : Program} {w : World} {K : PySem.W.Frag} {mg : Str → Option Value} {base : Heap}
def sp_stepped (K : PySem.W.Frag) : Sp := fun vs H Q _ => ∃ v x tk many handed span bs b i ns bk, vs = [v, x, tk] ∧ Pr K H v many handed span bs ∧ (2 ≤ span ∧ many ≤ 1000) ∧ StV K H x b i ns ∧ StOk many span bs b i ns bk ∧ nw bk i ≠ "stop" ∧ Tk bk i span tk ∧
  ∀ y b' i' ns' bk' H', Same H H' → StV K H' y b' i' ns' → StOk many span bs b' i' ns' bk' → (b' = b ∨ b' ∈ outsAt bs b) → Q y H'
-- stepped: 0 program, 1 state, 2 taken, 3 block, 4 done, 5 numbers, 6 row, 7 way, 8 target, 9 number
theorem sc_stepped : FnScope ["program", "state", "taken", "block", "done", "numbers", "row", "way", "target", "number"] ["program", "state", "taken"] (defScope s_stepped) := ⟨rfl, rfl, rfl, by decide +kernel, rfl, by decide +kernel, by decide +kernel⟩
theorem ok_stepped (T : Facts w K mg) (PF : PrF K) (F : FnAt1 K mg "stepped" s_stepped) (c_what_is_next : Cal P w K mg base 5 "what_is_next" (sp_next K)) (c_targets_of : Cal P w K mg base 1 "targets_of" (sp_targets_of K)) (c_entered : Mth P w K mg base 1 "entered" sp_entered)
    (c_value_of : Cal P w K mg base 1 "value_of" (sp_value K)) (c_with_number : Cal P w K mg base 1 "with_number" (sp_with K)) : Cal P w K mg base 6 "stepped" (sp_stepped K) := by
  refine cal_mk1 F sc_stepped (fun _ _ _ _ _ _ _ us its hl h1 => match us, hl, its, h1 with | [_, _, _], _, [_], _ => ⟨_, rfl, rfl⟩) (fun vs H Q E h => ?_) (fun f cdv A outer s H vs Q E hr h => ?_)
  · obtain ⟨v, x, tk, many, handed, span, bs, b, i, ns, bk, rfl, _⟩ := h
    rfl
  · obtain ⟨v, x, tk, many, handed, span, bs, b, i, ns, bk, rfl, pr, ⟨hsp, hmany⟩, st, so, hst, htk, k⟩ := h
    have nd := sc_stepped.nd
    refine ⟨_, (pss_cons (ps_asg (pv 1) (pg_tup (n := 3) rfl (pgs_cons (pg_name (i := 3) nd rfl (Or.inl rfl)) (pgs_cons (pg_name (i := 4) nd rfl (Or.inl rfl)) (pgs_cons (pg_name (i := 5) nd rfl (Or.inl rfl)) pgs_nil)))))
    (pss_cons (ps_set (i := 6) nd rfl (Or.inl rfl) (pc c_what_is_next hr (by decide) (by rfl) (pa_cons (pv 0) (pa_cons (pv 1) pa_nil))))
    (pss_cons (ps_if (pt_cmpR op_eq (pe_ix ix_tup (pv 6) pe_int (fun _ _ => rfl)) pe_str (nomark _)) (pss_one (ps_ret pe_non)) pss_nil)
    (pss_cons (ps_if (pt_cmpR op_in_seq (pe_ix ix_tup (pv 6) pe_int (fun _ _ => rfl)) (pe_tup (pa_cons pe_str (pa_cons pe_str pa_nil))) (by rfl)) (pss_cons (ps_set (i := 7) nd rfl (Or.inl rfl) (pe_ifExp (PW.pt (pw_and (pt_cmpR op_eq (pe_ix ix_tup (pv 6) pe_int (fun _ _ => rfl)) pe_str (nomark _)) (pw_and1 (pt_cmpR op_eq (pe_ix ix_tup (pv 5) (pe_ix ix_tup (pv 6) pe_int (fun _ _ => rfl)) (fun _ _ => rfl)) pe_int (nomark _))))) pe_int pe_int))
    (pss_cons (ps_set (i := 8) nd rfl (Or.inl rfl) (pe_ix ix_tup (pc c_targets_of hr (by decide) (by rfl) (pa_cons (pv 6) pa_nil)) (pv 7) (fun _ _ => rfl)))
    (pss_one (ps_ret (pe_tup (pa_cons (pv 8) (pa_cons pe_int (pa_cons (pm c_entered PF hr (by decide) (pv 0) (pa_cons (pv 5) (pa_cons (pe_tup (pa_cons (pv 3) (pa_cons (pv 7) pa_nil))) (pa_cons (pv 8) pa_nil)))) pa_nil)))))))) pss_nil)
    (pss_cons (ps_if (pt_cmpR op_eq (pe_ix ix_tup (pv 6) pe_int (fun _ _ => rfl)) pe_str (nomark _)) (pss_one (ps_ret (pe_tup (pa_cons (pv 3) (pa_cons (pe_op op_add (pv 4) pe_int) (pa_cons (pv 5) pa_nil)))))) pss_nil)
    (pss_cons (ps_set (i := 9) nd rfl (Or.inl rfl) (pe_ifExp (pt_cmpR op_eq (pe_ix ix_tup (pv 6) pe_int (fun _ _ => rfl)) pe_str (nomark _)) (pv 2) (pc c_value_of hr (by decide) (by rfl) (pa_cons (pv 0) (pa_cons (pv 6) (pa_cons (pv 5) pa_nil))))))
    (pss_one (ps_ret (pe_tup (pa_cons (pv 3) (pa_cons (pe_op op_add (pv 4) pe_int) (pa_cons (pc c_with_number hr (by decide) (by rfl) (pa_cons (pv 5) (pa_cons (pe_ix ix_tup (pv 6) pe_int (fun _ _ => rfl)) (pa_cons (pv 9) pa_nil)))) pa_nil)))))))))))), ?_⟩
    have pr0 := pr
    obtain ⟨⟨a, dx, vb, rfl, hsl, hd⟩, ok⟩ := pr0
    obtain ⟨t, n, rfl, ht, hn⟩ := st.ex
    refine ⟨_, rfl, t, _, rfl, ht, rfl, _, _, rfl, _, _, rfl, _, _, rfl, rfl, ?_⟩
    refine ⟨_, rfl, _, rfl, _, _, many, handed, span, bs, b, i, ns, bk, rfl, pr, st, so.at_, so.row, fun y hy => ?_⟩
    have hl := so.len
    have bok := ok.bk so.at_
    unfold nxt at hy
    unfold nw at hst
    unfold Tk nw at htk
    cases er : bk.rows[i]? with
    | none =>
      rw [er] at hy hst htk
      simp only at hy hst htk
      have ho : outsAt bs b = bk.fin.outs := by
        unfold outsAt
        rw [so.at_]
      cases ef : bk.fin with
      | stop =>
        rw [ef] at hst
        exact absurd rfl hst
      | go c =>
        rw [ef] at hy ho
        have hc := (ok.outs (show c ∈ outsAt bs b by rw [ho]; simp [En.outs])).2
        obtain ⟨bk', hbk'⟩ := Bks.at (many := many) (span := span) hc
        obtain ⟨q, rfl, hq⟩ := word_tup (w := "go") (is := [(c : Int)]) hy
        refine ⟨_, rfl, _, _, _, _, rfl, rfl, hq, atI_nat (j := 0) rfl, rfl, _, rfl, iteF' (dF (show ("go" : Str) ≠ "stop" by decide +kernel)) ?_⟩
        refine ⟨_, rfl, _, _, _, _, rfl, rfl, hq, atI_nat (j := 0) rfl, line1 (by simp), fun p1 hp1 => ⟨p1, _, rfl, .inr (.inl (.inl upd_same)), rfl, rfl, _, rfl, ?_⟩⟩
        rw [show inV (.str ("go" : Str)) [.str "go", .str "part"] = true by rw [inV_two] <;> decide +kernel]
        refine iteT ?_
        have s1 : Same H (upd H p1 (.tup [.str "go", .str "part"])) := Same.new hp1
        have hy1 := dp_ext s1 hy
        have hq1 := Same.sqt s1 hq
        generalize upd H p1 (.tup [.str "go", .str "part"]) = H1 at s1 hy1 hq1 ⊢
        refine ⟨_, rfl, _, _, _, _, rfl, rfl, hq1, atI_nat (j := 0) rfl, rfl, _, rfl, iteF' (dF (show ("go" : Str) ≠ "part" by decide +kernel)) (iteF ?_)⟩
        refine ⟨_, rfl, _, En.go c, rfl, hy1, fun p2 hp2 => ⟨_, rfl, _, _, _, _, rfl, rfl, .inl (.inl upd_same), atI_nat (j := 0) rfl, ?_⟩⟩
        have s2 : Same H (upd H1 p2 (.tup (natsV (En.go c).outs))) := s1.trans (Same.new hp2)
        generalize upd H1 p2 (.tup (natsV (En.go c).outs)) = H2 at s2 ⊢
        refine ⟨_, rfl, _, rfl, a, dx, _, rfl, Same.slt s2 hsl, _, rfl, _, rfl, _, rfl, line1 (by simp), fun p3 hp3 => ⟨_, rfl, _, _, _, _, rfl, line1 (by simp), fun p4 hp4 => ?_⟩⟩
        have s4 := (s2.trans (Same.new (o := .tup [.int ((b : Nat) : Int), .int 0]) hp3)).trans (Same.new (o := .tup [.int ((c : Nat) : Int), .int 0, .ref n]) hp4)
        exact k _ c 0 ns bk' _ s4 ⟨p4, n, rfl, .inl (.inl upd_same), Same.sqt s4 hn⟩ ⟨hbk', Nat.zero_le _, so.len, so.lt⟩ (.inr (by rw [ho]; simp [En.outs]))
      | part r c d =>
        rw [ef] at hy ho
        have hc := (ok.outs (show c ∈ outsAt bs b by rw [ho]; simp [En.outs])).2
        have hd := (ok.outs (show d ∈ outsAt bs b by rw [ho]; simp [En.outs])).2
        have hrm : r < many := by have z := bok.fin; rw [ef] at z; exact z.1
        obtain ⟨q, rfl, hq⟩ := word_tup (w := "part") (is := [(r : Int), (c : Int), (d : Int)]) hy
        refine ⟨_, rfl, _, _, _, _, rfl, rfl, hq, atI_nat (j := 0) rfl, rfl, _, rfl, iteF' (dF (show ("part" : Str) ≠ "stop" by decide +kernel)) ?_⟩
        refine ⟨_, rfl, _, _, _, _, rfl, rfl, hq, atI_nat (j := 0) rfl, line1 (by simp), fun p1 hp1 => ⟨p1, _, rfl, .inr (.inl (.inl upd_same)), rfl, rfl, _, rfl, ?_⟩⟩
        rw [show inV (.str ("part" : Str)) [.str "go", .str "part"] = true by rw [inV_two] <;> decide +kernel]
        refine iteT ?_
        have s1 : Same H (upd H p1 (.tup [.str "go", .str "part"])) := Same.new hp1
        have hy1 := dp_ext s1 hy
        have hq1 := Same.sqt s1 hq
        generalize upd H p1 (.tup [.str "go", .str "part"]) = H1 at s1 hy1 hq1 ⊢
        refine ⟨_, rfl, _, _, _, _, rfl, rfl, hq1, atI_nat (j := 0) rfl, rfl, _, rfl, iteT' (dT rfl) ?_⟩
        refine ⟨_, rfl, _, rfl, _, _, _, _, rfl, rfl, hq1, atI_nat (j := 1) rfl, _, _, _, _, rfl, rfl, Same.sqt s1 hn, nats_get (by omega : r < ns.length), rfl, _, rfl, ?_⟩
        by_cases e0 : ns[r] = 0
        · rw [e0]
          refine iteT' (decide_eq_true rfl) ?_
          obtain ⟨bk', hbk'⟩ := Bks.at (many := many) (span := span) hd
          refine ⟨_, rfl, _, En.part r c d, rfl, hy1, fun p2 hp2 => ⟨_, rfl, _, _, _, _, rfl, rfl, .inl (.inl upd_same), atI_nat (j := 1) rfl, ?_⟩⟩
          have s2 : Same H (upd H1 p2 (.tup (natsV (En.part r c d).outs))) := s1.trans (Same.new hp2)
          generalize upd H1 p2 (.tup (natsV (En.part r c d).outs)) = H2 at s2 ⊢
          refine ⟨_, rfl, _, rfl, a, dx, _, rfl, Same.slt s2 hsl, _, rfl, _, rfl, _, rfl, line1 (by simp), fun p3 hp3 => ⟨_, rfl, _, _, _, _, rfl, line1 (by simp), fun p4 hp4 => ?_⟩⟩
          have s4 := (s2.trans (Same.new (o := .tup [.int ((b : Nat) : Int), .int 1]) hp3)).trans (Same.new (o := .tup [.int ((d : Nat) : Int), .int 0, .ref n]) hp4)
          exact k _ d 0 ns bk' _ s4 ⟨p4, n, rfl, .inl (.inl upd_same), Same.sqt s4 hn⟩ ⟨hbk', Nat.zero_le _, so.len, so.lt⟩ (.inr (by rw [ho]; simp [En.outs]))
        · refine iteF' (decide_eq_false (fun z => e0 (by have := V.int.inj z; omega))) ?_
          obtain ⟨bk', hbk'⟩ := Bks.at (many := many) (span := span) hc
          refine ⟨_, rfl, _, En.part r c d, rfl, hy1, fun p2 hp2 => ⟨_, rfl, _, _, _, _, rfl, rfl, .inl (.inl upd_same), atI_nat (j := 0) rfl, ?_⟩⟩
          have s2 : Same H (upd H1 p2 (.tup (natsV (En.part r c d).outs))) := s1.trans (Same.new hp2)
          generalize upd H1 p2 (.tup (natsV (En.part r c d).outs)) = H2 at s2 ⊢
          refine ⟨_, rfl, _, rfl, a, dx, _, rfl, Same.slt s2 hsl, _, rfl, _, rfl, _, rfl, line1 (by simp), fun p3 hp3 => ⟨_, rfl, _, _, _, _, rfl, line1 (by simp), fun p4 hp4 => ?_⟩⟩
          have s4 := (s2.trans (Same.new (o := .tup [.int ((b : Nat) : Int), .int 0]) hp3)).trans (Same.new (o := .tup [.int ((c : Nat) : Int), .int 0, .ref n]) hp4)
          exact k _ c 0 ns bk' _ s4 ⟨p4, n, rfl, .inl (.inl upd_same), Same.sqt s4 hn⟩ ⟨hbk', Nat.zero_le _, so.len, so.lt⟩ (.inr (by rw [ho]; simp [En.outs]))
    | some r =>
      rw [er] at hy hst htk
      simp only at hy hst htk
      have rok := rw_in bok er
      have hi1 : i + 1 ≤ bk.rows.length := (List.getElem?_eq_some_iff.mp er).1
      obtain ⟨j, tl, hj, ej⟩ := rw_first rok
      obtain ⟨q, rfl, hq⟩ := word_tup (w := r.word) (is := r.ints) hy
      refine ⟨_, rfl, _, _, _, _, rfl, rfl, hq, atI_nat (j := 0) rfl, rfl, _, rfl, iteF' (dF (rw_stop r)) ?_⟩
      refine ⟨_, rfl, _, _, _, _, rfl, rfl, hq, atI_nat (j := 0) rfl, line1 (by simp), fun p1 hp1 => ⟨p1, _, rfl, .inr (.inl (.inl upd_same)), rfl, rfl, _, rfl, ?_⟩⟩
      rw [show inV (.str r.word) [.str "go", .str "part"] = false from rw_go r]
      refine iteF ?_
      have s1 : Same H (upd H p1 (.tup [.str "go", .str "part"])) := Same.new hp1
      have hy1 := dp_ext s1 hy
      have hq1 := Same.sqt s1 hq
      have hn1 := Same.sqt s1 hn
      generalize upd H p1 (.tup [.str "go", .str "part"]) = H1 at s1 hy1 hq1 hn1 ⊢
      have at1 : atI (V.str r.word :: r.ints.map V.int) 1 = some (.int ((j : Nat) : Int)) := by
        refine atI_nat (j := 1) ?_
        unfold Rw.ints
        rw [ej] <;> rfl
      have hjn : j < ns.length := by omega
      have hnl : ns.length ≤ 1000 := by omega
      rcases rw_cases rok with ⟨x, rfl⟩ | ⟨x, rfl⟩ | ⟨mk, w1, w2⟩
      · refine ⟨_, rfl, _, _, _, _, rfl, rfl, hq1, atI_nat (j := 0) rfl, rfl, _, rfl, iteT' (dT rfl) ?_⟩
        refine ⟨_, rfl, _, rfl, _, _, rfl, rfl, _, rfl, line1 (by simp), fun p4 hp4 => ?_⟩
        have s4 := s1.trans (Same.new (o := .tup [.int ((b : Nat) : Int), .int (((i : Nat) : Int) + 1), .ref n]) hp4)
        exact k _ b (i + 1) ns bk _ s4 ⟨p4, n, rfl, .inl (.inl upd_same), Same.sqt s4 hn⟩ ⟨so.at_, hi1, so.len, so.lt⟩ (.inl rfl)
      · have wt : (Rw.take x).word = "take" := rfl
        rw [if_pos wt] at htk
        obtain ⟨t2, ht2, rfl⟩ := htk
        refine ⟨_, rfl, _, _, _, _, rfl, rfl, hq1, atI_nat (j := 0) rfl, rfl, _, rfl, iteF' (dF (show ("take" : Str) ≠ "tell" by decide +kernel)) ?_⟩
        refine ⟨_, rfl, _, _, _, _, rfl, rfl, hq1, atI_nat (j := 0) rfl, rfl, _, rfl, iteT' (dT rfl) ?_⟩
        refine ⟨_, rfl, _, rfl, _, rfl, _, _, rfl, rfl, _, rfl, _, rfl, _, _, _, _, rfl, rfl, hq1, at1, _, rfl, n, ns, j, t2, rfl, hn1, hjn, hnl, fun p3 H3 s3 hp3 => ⟨line1 (by simp), fun p4 hp4 => ?_⟩⟩
        have s4 := (s1.trans s3).trans (Same.new (o := .tup [.int ((b : Nat) : Int), .int (((i : Nat) : Int) + 1), .ref p3]) hp4)
        exact k _ b (i + 1) _ bk _ s4 ⟨p4, p3, rfl, .inl (.inl upd_same), Same.sqt (Same.new hp4) hp3⟩ ⟨so.at_, hi1, by rw [putN_len hjn, so.len], putN_lt so.lt ht2⟩ (.inl rfl)
      · refine ⟨_, rfl, _, _, _, _, rfl, rfl, hq1, atI_nat (j := 0) rfl, rfl, _, rfl, iteF' (dF w1) ?_⟩
        refine ⟨_, rfl, _, _, _, _, rfl, rfl, hq1, atI_nat (j := 0) rfl, rfl, _, rfl, iteF' (dF w2) ?_⟩
        refine ⟨_, rfl, _, rfl, _, rfl, _, many, handed, span, bs, _, n, r, ns, rfl, pr.ext s1, hsp, hy1, mk, hn1, hl, so.lt, fun m hm => ?_⟩
        refine ⟨_, rfl, _, rfl, _, _, rfl, rfl, _, rfl, _, rfl, _, _, _, _, rfl, rfl, hq1, at1, _, rfl, n, ns, j, m, rfl, hn1, hjn, hnl, fun p3 H3 s3 hp3 => ⟨line1 (by simp), fun p4 hp4 => ?_⟩⟩
        have s4 := (s1.trans s3).trans (Same.new (o := .tup [.int ((b : Nat) : Int), .int (((i : Nat) : Int) + 1), .ref p3]) hp4)
        exact k _ b (i + 1) _ bk _ s4 ⟨p4, p3, rfl, .inl (.inl upd_same), Same.sqt (Same.new hp4) hp3⟩ ⟨so.at_, hi1, by rw [putN_len hjn, so.len], putN_lt so.lt hm⟩ (.inl rfl)
end
end Rr
namespace Rr
open PySem PySem.Spec PyProof.Rows L2
section
variable {P : Program} {w : World} {K : PySem.W.Frag} {mg : Str → Option Value} {base : Heap}
def sp_is_state (K : PySem.W.Frag) : Sp := fun vs H Q _ => ∃ v x many handed span bs b i ns bk, vs = [v, x] ∧ Pr K H v many handed span bs ∧ many ≤ 1000 ∧ StV K H x b i ns ∧ StOk many span bs b i ns bk ∧ ∀ H', Same H H' → Q (.bl true) H'
-- is_state: 0 program*, 1 thing, 2 number
theorem sc_is_state : FnScope ["program", "thing", "number"] ["program", "thing"] (defScope s_is_state) := ⟨rfl, rfl, rfl, by decide +kernel, rfl, by decide +kernel, by decide +kernel⟩
theorem ok_is_state (T : Facts w K mg) (PF : PrF K) (F : FnAt K mg "is_state" s_is_state) (c_is_integer : Cal P w K mg base 1 "is_integer" sp_is_integer) (c_len : Mth P w K mg base 1 "__len__" (sp_len K)) (c_rows : Mth P w K mg base 4 "rows" (sp_rows K)) : Cal P w K mg base 5 "is_state" (sp_is_state K) := by
  refine cal_mk F sc_is_state (fun _ _ _ _ _ _ us hl => match us, hl with | [_, _], _ => rfl) (fun vs H Q E h => ?_) (fun f cdv A outer s H vs Q E hr h => ?_)
  · obtain ⟨v, x, many, handed, span, bs, b, i, ns, bk, rfl, _⟩ := h
    rfl
  · obtain ⟨v, x, many, handed, span, bs, b, i, ns, bk, rfl, pr, hm, st, so, k⟩ := h
    have nd := sc_is_state.nd
    refine ⟨_, (pss_cons (ps_if (PW.pt (pw_or (pt_not (pt_val (pe_callB call_isi (by rfl) T.b_isinstance (by decide +kernel) (pa_cons (pv 1) (pa_cons (pe_bltn (v := .ty "tuple") (by rfl) T.b_tuple (by decide +kernel) rfl) pa_nil))))) (pw_or (pt_cmpR op_ne (pe_callB call_len_seq (by rfl) T.b_len (by decide +kernel) (pa_cons (pv 1) pa_nil)) pe_int (nomark _)) (pw_or1 (pt_not (pt_val (pc c_is_integer hr (by decide) (by rfl) (pa_cons (pe_ix ix_tup (pv 1) pe_int (fun _ _ => rfl)) (pa_cons pe_int (pa_cons (pe_op op_sub (po_len c_len hr (by decide) (by rfl) T.b_len (pa_cons (pv 0) pa_nil)) pe_int) pa_nil)))))))))) (pss_one (ps_ret pe_bl)) pss_nil)
    (pss_cons (ps_if (pt_not (pt_val (pc c_is_integer hr (by decide) (by rfl) (pa_cons (pe_ix ix_tup (pv 1) pe_int (fun _ _ => rfl)) (pa_cons pe_int (pa_cons (pe_callB call_len_seq (by rfl) T.b_len (by decide +kernel) (pa_cons (pm c_rows PF hr (by decide) (pv 0) (pa_cons (pe_ix ix_tup (pv 1) pe_int (fun _ _ => rfl)) pa_nil)) pa_nil)) pa_nil)))))) (pss_one (ps_ret pe_bl)) pss_nil)
    (pss_cons (ps_if (PW.pt (pw_or (pt_not (pt_val (pe_callB call_isi (by rfl) T.b_isinstance (by decide +kernel) (pa_cons (pe_ix ix_tup (pv 1) pe_int (fun _ _ => rfl)) (pa_cons (pe_bltn (v := .ty "tuple") (by rfl) T.b_tuple (by decide +kernel) rfl) pa_nil))))) (pw_or1 (pt_cmpR op_ne (pe_callB call_len_seq (by rfl) T.b_len (by decide +kernel) (pa_cons (pe_ix ix_tup (pv 1) pe_int (fun _ _ => rfl)) pa_nil)) (SlX.pe_sl (pv 0)) (nomark _))))) (pss_one (ps_ret pe_bl)) pss_nil)
    (pss_one (ps_ret (pe_callB (cr_all rfl) (by rfl) T.b_all (by decide +kernel) (pa_cons (pe_lc (own := [("number", 2)]) rfl nd (pi_tup (pe_ix ix_tup (pv 1) pe_int (fun _ _ => rfl))) (blkOk_by (own := [("number", 2)]) (by kernel_rfl)) (fun _ _ _ _ _ => (pg_name (i := 2) nd rfl (Or.inl rfl) (Or.inr rfl))) (fun _ _ _ _ _ => pts_nil) (fun _ _ _ _ _ => (pc c_is_integer hr (by decide) (by rfl) (pa_cons (pv 2) (pa_cons pe_int (pa_cons (pe_op op_sub (pe_slK (K := K) rfl (pv 0)) pe_int) pa_nil)))))) pa_nil))))))), ?_⟩
    have pr0 := pr
    obtain ⟨⟨a, dx, vb, rfl, hsl, hd⟩, ok⟩ := pr0
    obtain ⟨t, n, rfl, ht, hn⟩ := st.ex
    have hfew := ok.few
    have hb : b < bs.length := (List.getElem?_eq_some_iff.mp so.at_).1
    have hi := so.row
    obtain ⟨ps, sl⟩ := PF.s_span
    obtain ⟨pm_, slm⟩ := PF.s_many
    refine ⟨_, rfl, _, _, _, _, true, rfl, .ty _, ty_tup ht, kit_ty (by decide +kernel), true, rfl, iteF ?_⟩
    refine ⟨_, rfl, _, _, rfl, .inr ht, rfl, _, rfl, iteF ?_⟩
    refine ⟨_, rfl, _, _, _, _, rfl, rfl, ht, atI_nat (j := 0) rfl, _, rfl, a, dx, _, rfl, hsl, _, many, handed, span, bs, rfl, pr, bs.length, rfl, by omega, _, _, rfl, rfl, _, _, _, rfl, _, rfl, iteF' (by rw [int_ok (show (0 : Int) ≤ ((b : Nat) : Int) by omega) (show ((b : Nat) : Int) ≤ ((bs.length : Nat) : Int) - 1 by omega)] <;> rfl) ?_⟩
    refine ⟨_, rfl, _, _, _, _, rfl, rfl, ht, atI_nat (j := 1) rfl, _, rfl, a, dx, _, rfl, hsl, _, rfl, _, _, _, _, rfl, rfl, ht, atI_nat (j := 0) rfl, _, many, handed, span, bs, b, bk, rfl, pr, so.at_, fun y hy => ?_⟩
    obtain ⟨p, xs, rfl, hp, hrows⟩ := Dp.isTup hy
    have hl : xs.length = bk.rows.length := by rw [DpAll.len hrows, List.length_map]
    refine ⟨p, xs, rfl, .inr hp, _, _, _, rfl, _, rfl, iteF' (by rw [int_ok (show (0 : Int) ≤ ((i : Nat) : Int) by omega) (show ((i : Nat) : Int) ≤ ((xs.length : Nat) : Int) by omega)] <;> rfl) ?_⟩
    refine ⟨_, rfl, _, _, _, _, rfl, rfl, ht, atI_nat (j := 2) rfl, _, _, _, _, true, rfl, .ty _, ty_tup hn, kit_ty (by decide +kernel), true, rfl, iteF ?_⟩
    refine ⟨_, rfl, _, _, _, _, rfl, rfl, ht, atI_nat (j := 2) rfl, _, _, rfl, .inr hn, _, rfl, a, _, dx, pm_, _, 1, _, rfl, hsl, PF.cls, slm, rfl, rfl, _, rfl, iteF' ?_ ?_⟩
    · rw [natsV_len, so.len, decide_eq_true rfl] <;> rfl
    refine ⟨_, rfl, _, _, _, _, rfl, rfl, ht, atI_nat (j := 2) rfl, n, rfl, ⟨_, hn⟩, fun D hD => ?_⟩
    refine lc_tup_fm (xs := natsV ns) (fun _ => true) (fun _ => V.bl true) hn (by rw [natsV_len, so.len]; exact hm) hD (fun x => rfl) (fun x _ => tyes1) (fun x hx _ H' Q' e' q' => ?_) (fun H' e' hD' => ⟨_, (natsV ns).map (fun _ => true), rfl, .inl (.inl ?_), ?_⟩)
    · obtain ⟨m, hm2, rfl⟩ := List.mem_map.mp hx
      have hms := so.lt m hm2
      refine ⟨_, rfl, _, rfl, a, _, dx, ps, _, 2, _, rfl, Same.slt e' hsl, PF.cls, sl, rfl, _, _, rfl, rfl, _, _, _, rfl, q_true (int_ok (show (0 : Int) ≤ ((m : Nat) : Int) by omega) (show ((m : Nat) : Int) ≤ ((span : Nat) : Int) - 1 by omega)) (q' _ (Same.refl _))⟩
    · rw [hD', filter_all, List.map_map] <;> rfl
    · rw [all_true]
      exact k _ e'
end
end Rr
namespace Rr
open PySem PySem.Spec PyProof.Rows L2
theorem stepsL_take {wd : Str} {span : Nat} (h : wd = "take") : stepsL wd span = natsV (List.range span) := by
  subst h
  unfold stepsL
  rw [if_neg (by decide +kernel), if_pos rfl]
theorem stepsL_none {wd : Str} {span : Nat} (h1 : wd ≠ "stop") (h2 : wd ≠ "take") : stepsL wd span = [.non] := by
  unfold stepsL
  rw [if_neg h1, if_neg h2]
section
variable {P : Program} {w : World} {K : PySem.W.Frag} {mg : Str → Option Value} {base : Heap}
def sp_is_step (K : PySem.W.Frag) : Sp := fun vs H Q _ => ∃ v x tk many handed span bs b i ns bk, vs = [v, x, tk] ∧ Pr K H v many handed span bs ∧ span ≤ 1000 ∧ StV K H x b i ns ∧ bs[b]? = some bk ∧ i ≤ bk.rows.length ∧ nw bk i ≠ "stop" ∧ Tk bk i span tk ∧ ∀ H', Same H H' → Q (.bl true) H'
-- is_step: 0 program, 1 state, 2 taken
theorem sc_is_step : FnScope ["program", "state", "taken"] ["program", "state", "taken"] (defScope s_is_step) := ⟨rfl, rfl, rfl, by decide +kernel, rfl, by decide +kernel, by decide +kernel⟩
theorem ok_is_step (T : Facts w K mg) (F : FnAt K mg "is_step" s_is_step) (c_steps_from : Cal P w K mg base 7 "steps_from" (sp_steps_from K)) : Cal P w K mg base 8 "is_step" (sp_is_step K) := by
  refine cal_mk F sc_is_step (fun _ _ _ _ _ _ us hl => match us, hl with | [_, _, _], _ => rfl) (fun vs H Q E h => ?_) (fun f cdv A outer s H vs Q E hr h => ?_)
  · obtain ⟨v, x, tk, many, handed, span, bs, b, i, ns, bk, rfl, _⟩ := h
    rfl
  · obtain ⟨v, x, tk, many, handed, span, bs, b, i, ns, bk, rfl, pr, hsp, st, hbk, hi, hst, htk, k⟩ := h
    have nd := sc_is_step.nd
    refine ⟨_, (pss_one (ps_ret (pe_and (pe_not (pe_callB call_isi (by rfl) T.b_isinstance (by decide +kernel) (pa_cons (pv 2) (pa_cons (pe_bltn (v := .ty "bool") (by rfl) T.b_bool (by decide +kernel) rfl) pa_nil)))) (pe_one (pe_cmpR op_in_seq (pv 2) (pc c_steps_from hr (by decide) (by rfl) (pa_cons (pv 0) (pa_cons (pv 1) pa_nil))) (by rfl)))))), ?_⟩
    unfold Tk at htk
    by_cases e : nw bk i = "take"
    · rw [if_pos e] at htk
      obtain ⟨t, ht, rfl⟩ := htk
      refine ⟨_, rfl, _, _, _, _, false, rfl, .ty _, .base (.int _), kit_ty (by decide +kernel), false, rfl, true, rfl, iteT ?_⟩
      refine ⟨_, rfl, _, rfl, _, rfl, v, x, many, handed, span, bs, b, i, ns, bk, rfl, pr, hsp, st, hbk, hi, fun p H' e' hp => ?_⟩
      rw [stepsL_take e] at hp
      refine ⟨p, _, rfl, .inl (.inl (.inl hp)), rfl, flat_nats _, ?_⟩
      refine q_true ?_ (k H' e')
      exact (inV_nats t _).trans (decide_eq_true (List.mem_range.mpr ht))
    · rw [if_neg e] at htk
      subst htk
      refine ⟨_, rfl, _, _, _, _, false, rfl, .ty _, .base .non, kit_ty (by decide +kernel), false, rfl, true, rfl, iteT ?_⟩
      refine ⟨_, rfl, _, rfl, _, rfl, v, x, many, handed, span, bs, b, i, ns, bk, rfl, pr, hsp, st, hbk, hi, fun p H' e' hp => ?_⟩
      rw [stepsL_none hst e] at hp
      refine ⟨p, _, rfl, .inl (.inl (.inl hp)), rfl, rfl, ?_⟩
      exact q_true rfl (k H' e')
def sp_step (K : PySem.W.Frag) : Sp := fun vs H Q _ => ∃ v x tk many handed span bs b i ns bk, vs = [v, x, tk] ∧ Pr K H v many handed span bs ∧ (2 ≤ span ∧ span ≤ 1000 ∧ many ≤ 1000) ∧ StV K H x b i ns ∧ StOk many span bs b i ns bk ∧ nw bk i ≠ "stop" ∧ Tk bk i span tk ∧
  ∀ y b' i' ns' bk' H', Same H H' → StV K H' y b' i' ns' → StOk many span bs b' i' ns' bk' → (b' = b ∨ b' ∈ outsAt bs b) → Q y H'
-- step: 0 program, 1 state, 2 taken
theorem sc_step : FnScope ["program", "state", "taken"] ["program", "state", "taken"] (defScope s_step) := ⟨rfl, rfl, rfl, by decide +kernel, rfl, by decide +kernel, by decide +kernel⟩
theorem ok_step (T : Facts w K mg) (PF : PrF K) (F : FnAt1 K mg "step" s_step) (c_check_program : Cal P w K mg base 1 "check_program" (sp_chk K)) (c_is_state : Cal P w K mg base 5 "is_state" (sp_is_state K)) (c_steps_from : Cal P w K mg base 7 "steps_from" (sp_steps_from K))
    (c_is_step : Cal P w K mg base 8 "is_step" (sp_is_step K)) (c_stepped : Cal P w K mg base 6 "stepped" (sp_stepped K)) : Cal P w K mg base 9 "step" (sp_step K) := by
  refine cal_mk1 F sc_step (fun _ _ _ _ _ _ _ us its hl h1 => match us, hl, its, h1 with | [_, _, _], _, [_], _ => ⟨_, rfl, rfl⟩) (fun vs H Q E h => ?_) (fun f cdv A outer s H vs Q E hr h => ?_)
  · obtain ⟨v, x, tk, many, handed, span, bs, b, i, ns, bk, rfl, _⟩ := h
    rfl
  · obtain ⟨v, x, tk, many, handed, span, bs, b, i, ns, bk, rfl, pr, ⟨hs1, hs2, hm⟩, st, so, hst, htk, k⟩ := h
    have nd := sc_step.nd
    refine ⟨_, (pss_cons (ps_expr (pc c_check_program hr (by decide) (by rfl) (pa_cons (pv 0) pa_nil)))
    (pss_cons (ps_if (pt_not (pt_val (pc c_is_state hr (by decide) (by rfl) (pa_cons (pv 0) (pa_cons (pv 1) pa_nil))))) (pss_one ps_never) pss_nil)
    (pss_cons (ps_if (pt_cmpR (op_eqD hr.units) (pc c_steps_from hr (by decide) (by rfl) (pa_cons (pv 0) (pa_cons (pv 1) pa_nil))) (pe_lst pa_nil) (nomark _)) (pss_one (ps_ret pe_non)) pss_nil)
    (pss_cons (ps_if (pt_not (pt_val (pc c_is_step hr (by decide) (by rfl) (pa_cons (pv 0) (pa_cons (pv 1) (pa_cons (pv 2) pa_nil)))))) (pss_one ps_never) pss_nil)
    (pss_one (ps_ret (pc c_stepped hr (by decide) (by rfl) (pa_cons (pv 0) (pa_cons (pv 1) (pa_cons (pv 2) pa_nil)))))))))), ?_⟩
    refine ⟨_, rfl, _, many, handed, span, bs, rfl, pr, _, rfl, _, rfl, v, x, many, handed, span, bs, b, i, ns, bk, rfl, pr, hm, st, so, fun H1 e1 => ⟨true, rfl, iteF ?_⟩⟩
    refine ⟨_, rfl, _, rfl, v, x, many, handed, span, bs, b, i, ns, bk, rfl, pr.ext e1, hs2, st.ext e1, so.at_, so.row, fun p H2 e2 hp => ⟨line1 (by simp), fun q hq => ?_⟩⟩
    have s3 := (e1.trans e2).trans (Same.new (o := .lst []) hq)
    have hp3 := (Same.new (o := .lst []) hq) _ _ hp
    have ne : ∃ d n, Dp K (upd H2 q (.lst [])) (.ref p) d ∧ Sh n d ∧ n ≤ 64 ∧ PyData.eqv d (.list []) = false := by
      unfold Tk at htk
      by_cases e : nw bk i = "take"
      · rw [stepsL_take e] at hp3
        refine ⟨.list (natsD (List.range span)), 1, .lst (.inl (.inl hp3)) (natsD_dp _), sh_lst fun d hd => ?_, by decide, ?_⟩
        · obtain ⟨j, _, rfl⟩ := List.mem_map.mp hd
          exact sh_int _
        · obtain ⟨s', rfl⟩ : ∃ s', span = s' + 1 := ⟨span - 1, by omega⟩
          unfold natsD
          rw [List.range_succ_eq_map, List.map_cons]
          exact eqv_nilL _ _
      · rw [stepsL_none hst e] at hp3
        refine ⟨.list [.none], 1, .lst (.inl (.inl hp3)) (.cons .non .nil), sh_lst fun d hd => ?_, by decide, eqv_nilL _ _⟩
        rw [List.mem_singleton.mp hd]
        exact sh_non
    obtain ⟨d, n, hd, sh, h64, ev⟩ := ne
    refine ⟨d, .list [], hd, .lst (.inl (.inl upd_same)) .nil, sh.shaped h64, sh_nilL.shaped (by decide), _, rfl, iteF' ev ?_⟩
    generalize upd H2 q (.lst []) = H3 at s3
    refine ⟨_, rfl, _, rfl, _, rfl, v, x, tk, many, handed, span, bs, b, i, ns, bk, rfl, pr.ext s3, hs2, st.ext s3, so.at_, so.row, hst, htk, fun H4 e4 => ⟨true, rfl, iteF ?_⟩⟩
    have s4 := s3.trans e4
    exact ⟨_, rfl, _, rfl, _, rfl, v, x, tk, many, handed, span, bs, b, i, ns, bk, rfl, pr.ext s4, ⟨hs1, hm⟩, st.ext s4, so, hst, htk, fun y b' i' ns' bk' H5 e5 st5 so5 tr => k y b' i' ns' bk' H5 (s4.trans e5) st5 so5 tr⟩
end
end Rr
namespace Rr
open PySem PySem.Spec PyProof.Rows L2
/-! ### all but the list at d stays -/
structure SameB (d : Addr) (H H' : Hp) : Prop where
  off : ∀ a u, a ≠ d → H a = some u → H' a = some u
  on : ∀ s y z, H d = some (.lst [s, y, z]) → ∃ z', H' d = some (.lst [s, y, z'])
theorem SameB.refl (d : Addr) (H : Hp) : SameB d H H := ⟨fun _ _ _ h => h, fun _ _ z h => ⟨z, h⟩⟩
theorem SameB.trans {d : Addr} {H H' H'' : Hp} (a : SameB d H H') (b : SameB d H' H'') : SameB d H H'' := ⟨fun x u n h => b.off x u n (a.off x u n h), fun s y z h => by
  obtain ⟨z', h'⟩ := a.on s y z h
  exact b.on s y z' h'⟩
theorem Same.b {H H' : Hp} (d : Addr) (e : Same H H') : SameB d H H' := ⟨fun a u _ h => e a u h, fun _ _ z h => ⟨z, e _ _ h⟩⟩
/-- a list that was not there has been changed -/
theorem SameB.upd {H H' : Hp} {d p : Addr} {o : HO} (e : SameB d H H') (hp : H p = none) (n : p ≠ d) : SameB d H (upd H' p o) := ⟨fun a u na h => by
  rw [upd_ne (ne_of_none h hp)]
  exact e.off a u na h, fun s y z h => by
  obtain ⟨z', h'⟩ := e.on s y z h
  exact ⟨z', by rw [upd_ne n.symm]; exact h'⟩⟩
/-- the drawn script at d -/
structure Dr (K : PySem.W.Frag) (H : Hp) (d : Addr) : Prop where
  ex : ∃ s c, ∃ ns : List Int, H d = some (.lst [.ref s, .int 0, .int ((c : Nat) : Int)]) ∧ SqL K H s (ns.map V.int)
theorem Dr.ext {K : PySem.W.Frag} {H H' : Hp} {d : Addr} (h : Dr K H d) (e : Same H H') : Dr K H' d := by
  obtain ⟨s, c, ns, h1, h2⟩ := h.ex
  exact ⟨s, c, ns, e _ _ h1, Same.seq e h2⟩
theorem Dr.upd {K : PySem.W.Frag} {H H' : Hp} {d p : Addr} {o : HO} (h : Dr K H d) (e : SameB d H H') (h' : Dr K H' d) (hp : H p = none) (n : p ≠ d) : Dr K (upd H' p o) d := by
  obtain ⟨s, c, ns, h1, h2⟩ := h.ex
  obtain ⟨s', c', ns', h3, h4⟩ := h'.ex
  obtain ⟨z', h5⟩ := e.on _ _ _ h1
  rw [h5] at h3
  have e2 := V.ref.inj (List.cons.inj (HO.lst.inj (Option.some.inj h3))).1
  subst e2
  have h6 : H' d = some (.lst [.ref s, .int 0, .int ((c' : Nat) : Int)]) := by
    rw [h5]
    exact h3
  rcases h2 with h2 | h2
  · have sp : s ≠ p := by
      rcases h2 with h2 | ⟨_, h2⟩
      · exact ne_of_none h2 hp
      · exact ne_of_none h2 hp
    refine ⟨s, c', ns', by rw [upd_ne n.symm]; exact h6, ?_⟩
    rcases h4 with h4 | h4
    · refine .inl ?_
      rcases h4 with h4 | ⟨o', h4⟩
      · exact .inl (by rw [upd_ne sp]; exact h4)
      · exact .inr ⟨o', by rw [upd_ne sp]; exact h4⟩
    · exact .inr h4
  · exact ⟨s, c', ns, by rw [upd_ne n.symm]; exact h6, .inr h2⟩
theorem Dr.ne {K : PySem.W.Frag} {H : Hp} {d a : Addr} {u : HO} (h : Dr K H d) (ha : H a = some u) (hu : ∀ s y z, u ≠ .lst [.ref s, y, z]) : a ≠ d := by
  obtain ⟨s, c, ns, h1, _⟩ := h.ex
  exact ne_of ha h1 (hu s _ _)
section
variable {P : Program} {w : World} {K : PySem.W.Frag} {mg : Str → Option Value} {base : Heap}
def sp_cell_at (K : PySem.W.Frag) : Sp := fun vs H Q _ => ∃ s k, ∃ ns : List Int, vs = [.ref s, .int ((k : Nat) : Int)] ∧ SqL K H s (ns.map V.int) ∧ ∀ z, Q (.int z) H
-- _law_cell_at: 0 _law_script, 1 _law_k
theorem sc_law_cell_at : FnScope ["_law_script", "_law_k"] ["_law_script", "_law_k"] (defScope s_law_cell_at) := ⟨rfl, rfl, rfl, by decide +kernel, rfl, by decide +kernel, by decide +kernel⟩
theorem ok_cell_at (T : Facts w K mg) (F : FnAt K mg "_law_cell_at" s_law_cell_at) : Cal P w K mg base 1 "_law_cell_at" (sp_cell_at K) := by
  refine cal_mk F sc_law_cell_at (fun _ _ _ _ _ _ us hl => match us, hl with | [_, _], _ => rfl) (fun vs H Q E h => ?_) (fun f cdv A outer s H vs Q E hr h => ?_)
  · obtain ⟨s, k, ns, rfl, _⟩ := h
    rfl
  · obtain ⟨s, j, ns, rfl, hs, k⟩ := h
    have nd := sc_law_cell_at.nd
    refine ⟨_, (pss_cons (ps_if (pt_cmpR op_lt (pv 1) (pe_callB call_len_seq (by rfl) T.b_len (by decide +kernel) (pa_cons (pv 0) pa_nil)) (nomark _)) (pss_one (ps_ret (pe_ix ix_list (pv 0) (pv 1) (fun _ _ => rfl)))) pss_nil)
    (pss_one (ps_ret pe_int))), ?_⟩
    refine ⟨_, rfl, _, rfl, s, _, rfl, .inl hs, _, _, rfl, rfl, _, rfl, ?_⟩
    rw [List.length_map]
    by_cases e : j < ns.length
    · refine iteT' (decide_eq_true (by omega)) ?_
      exact ⟨_, rfl, _, rfl, s, _, _, _, rfl, rfl, hs, atI_nat (j := j) (by rw [List.getElem?_map, List.getElem?_eq_getElem e] <;> rfl), k _⟩
    · exact iteF' (decide_eq_false (by omega)) (k 0)
def sp_draw : Sp := fun vs H Q _ => ∃ c j, ∃ bd : Nat, vs = [.int c, .int j, .int ((bd : Nat) : Int)] ∧ 1 ≤ bd ∧ ∀ r H', Same H H' → r < bd → Q (.int ((r : Nat) : Int)) H'
def primes16 : List Nat := [1000003, 1000033, 1000037, 1000039, 1000081, 1000099, 1000117, 1000121, 1000133, 1000151, 1000159, 1000171, 1000183, 1000187, 1000193, 1000199]
theorem prime_at (z : Int) : ∃ p : Nat, 1 ≤ p ∧ atI (natsV primes16) (z % 16) = some (.int ((p : Nat) : Int)) := by
  obtain ⟨m, h1, h2⟩ := mod_nat z (s := 16) (by omega)
  have e : z % 16 = ((m : Nat) : Int) := h2
  rw [e]
  have hl : primes16.length = 16 := rfl
  refine ⟨primes16[m]'(by omega), ?_, nats_get (by omega)⟩
  have ha : ∀ x ∈ primes16, 1 ≤ x := by decide
  exact ha _ (List.getElem_mem _)
-- _law_draw: 0 _law_cell, 1 _law_k, 2 _law_bound, 3 _law_primes
theorem sc_law_draw : FnScope ["_law_cell", "_law_k", "_law_bound", "_law_primes"] ["_law_cell", "_law_k", "_law_bound"] (defScope s_law_draw) := ⟨rfl, rfl, rfl, by decide +kernel, rfl, by decide +kernel, by decide +kernel⟩
theorem ok_draw (T : Facts w K mg) (F : FnAt K mg "_law_draw" s_law_draw) : Cal P w K mg base 1 "_law_draw" sp_draw := by
  refine cal_mk F sc_law_draw (fun _ _ _ _ _ _ us hl => match us, hl with | [_, _, _], _ => rfl) (fun vs H Q E h => ?_) (fun f cdv A outer s H vs Q E hr h => ?_)
  · obtain ⟨c, j, bd, rfl, _⟩ := h
    rfl
  · obtain ⟨c, j, bd, rfl, hbd, k⟩ := h
    have nd := sc_law_draw.nd
    refine ⟨_, (pss_cons (ps_set (i := 3) nd rfl (Or.inl rfl) (pe_tup (pa_cons pe_int (pa_cons pe_int (pa_cons pe_int (pa_cons pe_int (pa_cons pe_int (pa_cons pe_int (pa_cons pe_int (pa_cons pe_int (pa_cons pe_int (pa_cons pe_int (pa_cons pe_int (pa_cons pe_int (pa_cons pe_int (pa_cons pe_int (pa_cons pe_int (pa_cons pe_int pa_nil))))))))))))))))))
    (pss_one (ps_ret (pe_op op_mod (pe_op op_mod (pe_callTy call_int1 (by rfl) T.b_int (by decide +kernel) (pa_cons (pe_op op_add (pe_op op_mul (pv 0) pe_int) (pe_op op_mul (pv 1) pe_int)) pa_nil)) (pe_ix ix_tup (pv 3) (pe_op op_mod (pe_callTy call_int1 (by rfl) T.b_int (by decide +kernel) (pa_cons (pv 1) pa_nil)) pe_int) (fun _ _ => rfl))) (pv 2))))), ?_⟩
    refine ⟨line1 (by simp), fun p hp => ?_⟩
    obtain ⟨q, hq, at_⟩ := prime_at j
    refine ⟨_, rfl, _, _, rfl, rfl, .inr (by decide), _, rfl, _, _, rfl, rfl, .inr (by decide), _, _, rfl, rfl, .inl ⟨_, rfl, _, rfl, _, rfl, .inl ⟨_, rfl, _, _, rfl, rfl, (by decide : (0 : Int) < 16), ?_⟩⟩⟩
    refine ⟨p, natsV primes16, _, _, rfl, rfl, .inl (.inl upd_same), at_, _, _, rfl, rfl, (by omega : (0 : Int) < ((q : Nat) : Int)), _, rfl, _, _, rfl, rfl, (by omega : (0 : Int) < ((bd : Nat) : Int)), ?_⟩
    obtain ⟨m, hm, e⟩ := mod_nat (_ : Int) hbd
    show Q (V.int (_ % _)) _
    rw [e]
    exact k m _ (Same.new hp) hm
def sp_number : Sp := fun vs H Q _ => ∃ c, ∃ j bd : Nat, vs = [.int c, .int ((j : Nat) : Int), .int ((bd : Nat) : Int)] ∧ j ≤ 12 ∧ 1 ≤ bd ∧ ∀ r H', Same H H' → r < bd → Q (.int ((r : Nat) : Int)) H'
-- _law_number: 0 _law_cell, 1 _law_k, 2 _law_bound, 3 _law_power, 4 _law_lap, 5 _law_remains, 6 _law_small
theorem sc_law_number : FnScope ["_law_cell", "_law_k", "_law_bound", "_law_power", "_law_lap", "_law_remains", "_law_small"] ["_law_cell", "_law_k", "_law_bound"] (defScope s_law_number) := ⟨rfl, rfl, rfl, by decide +kernel, rfl, by decide +kernel, by decide +kernel⟩
theorem ok_number (T : Facts w K mg) (F : FnAt K mg "_law_number" s_law_number) (c_law_draw : Cal P w K mg base 1 "_law_draw" sp_draw) : Cal P w K mg base 2 "_law_number" sp_number := by
  refine cal_mk F sc_law_number (fun _ _ _ _ _ _ us hl => match us, hl with | [_, _, _], _ => rfl) (fun vs H Q E h => ?_) (fun f cdv A outer s H vs Q E hr h => ?_)
  · obtain ⟨c, j, bd, rfl, _⟩ := h
    rfl
  · obtain ⟨c, jn, bd, rfl, hj12, hbd, k⟩ := h
    generalize hj : ((jn : Nat) : Int) = j
    have hj0 : 0 ≤ j := by omega
    have hj1 : j ≤ 12 := by omega
    clear hj hj12
    have nd := sc_law_number.nd
    refine ⟨_, (pss_cons (ps_set (i := 3) nd rfl (Or.inl rfl) pe_int)
    (pss_cons (ps_for PassesOwn.never rfl (pi_range1 (by rfl) T.b_range (pa_cons (pe_op op_mod (pe_callTy call_int1 (by rfl) T.b_int (by decide +kernel) (pa_cons (pv 1) pa_nil)) pe_int) pa_nil)) (pg_name (i := 4) nd rfl (Or.inl rfl)) (pss_one (ps_set (i := 3) nd rfl (Or.inl rfl) (pe_op op_mul (pv 3) pe_int))))
    (pss_cons (ps_set (i := 5) nd rfl (Or.inl rfl) (pe_op op_fdivW (pe_op op_sub (pv 0) (pe_op op_pow pe_int pe_int)) (pv 3)))
    (pss_cons (ps_if (pt_cmpR op_gt (pv 5) pe_int (nomark _)) (pss_one (ps_ret (pe_op op_mod (pe_op op_mod (pe_callTy call_int1 (by rfl) T.b_int (by decide +kernel) (pa_cons (pv 5) pa_nil)) pe_int) (pv 2)))) pss_nil)
    (pss_cons (ps_set (i := 6) nd rfl (Or.inl rfl) (pe_op op_mod (pe_callTy call_int1 (by rfl) T.b_int (by decide +kernel) (pa_cons (pv 0) pa_nil)) pe_int))
    (pss_one (ps_ret (pe_op op_mod (pc c_law_draw hr (by decide) (by rfl) (pa_cons (pe_op op_mul (pe_op op_add (pv 6) (pe_op op_mul pe_int (pv 1))) (pe_op op_add (pe_op op_add (pv 6) (pe_op op_mul pe_int (pv 1))) pe_int)) (pa_cons (pe_op op_add (pe_op op_mod (pe_callTy call_int1 (by rfl) T.b_int (by decide +kernel) (pa_cons (pv 1) pa_nil)) pe_int) pe_int) (pa_cons pe_int pa_nil)))) (pv 2))))))))), ?_⟩
    obtain ⟨lp, hlp, elp⟩ := mod_nat j (s := 24) (by omega)
    refine ⟨_, rfl, .inl ⟨_, rfl, _, _, rfl, rfl, (by decide : (0 : Int) < 24), ?_⟩⟩
    have elp' : j % 24 = ((lp : Nat) : Int) := elp
    refine ⟨j % 24, rfl, by omega, by omega, ?_⟩
    refine for_range (fun i σ' H' => ∃ p : Nat, ∃ x4 x5 x6, σ' = [some (.int c), some (.int j), some (.int ((bd : Nat) : Int)), some (.int ((p : Nat) : Int)), x4, x5, x6] ∧ H' = H ∧ 1 ≤ p ∧ p ≤ 1009 ^ i)
      ⟨1, none, none, none, rfl, rfl, by omega, by simp⟩ (fun i σ' H' hi z => ?_) (fun σ' H' z => ?_)
    · obtain ⟨p, x4, x5, x6, rfl, rfl, h1, h2⟩ := z
      refine ⟨_, rfl, _, _, rfl, rfl, .inr (by decide), p * 1009, _, x5, x6, rfl, rfl, by omega, ?_⟩
      rw [Nat.pow_succ]
      exact Nat.mul_le_mul_right _ h2
    · obtain ⟨p, x4, x5, x6, rfl, rfl, h1, h2⟩ := z
      have h3 : p ≤ 1009 ^ 23 := Nat.le_trans h2 (Nat.pow_le_pow_right (by omega) (by omega))
      have h4 : p < 2 ^ 240 := Nat.lt_of_le_of_lt h3 (by decide)
      refine ⟨_, rfl, _, _, rfl, rfl, ⟨by decide, by decide, by decide⟩, _, _, rfl, rfl, _, rfl, _, _, rfl, rfl, wide_div (b := 240) (by omega) (by rw [Int.natAbs_natCast]; exact h4) (by omega) (by omega), ?_⟩
      refine ⟨_, rfl, _, _, rfl, rfl, _, rfl, ?_⟩
      by_cases e : (0 : Int) < (c - 10 ^ (18 : Int).toNat) / ((p : Nat) : Int)
      · refine iteT' (decide_eq_true e) ?_
        obtain ⟨m, hm, em⟩ := mod_nat ((c - 10 ^ (18 : Int).toNat) / ((p : Nat) : Int) % 1009) hbd
        refine ⟨_, rfl, .inl ⟨_, rfl, _, _, rfl, rfl, (by decide : (0 : Int) < 1009), _, rfl, _, _, rfl, rfl, (by omega : (0 : Int) < ((bd : Nat) : Int)), ?_⟩⟩
        show Q (V.int (_ % _)) _
        rw [em]
        exact k m _ (Same.refl _) hm
      · refine iteF' (decide_eq_false e) ?_
        obtain ⟨sm, hsm, esm⟩ := mod_nat c (s := 1000003) (by omega)
        refine ⟨_, rfl, .inl ⟨_, rfl, _, _, rfl, rfl, (by decide : (0 : Int) < 1000003), ?_⟩⟩
        generalize hz : c % 1000003 = z at esm ⊢
        refine ⟨_, rfl, _, rfl, _, _, rfl, rfl, .inl (by decide), _, _, rfl, rfl, _, rfl, _, rfl, _, _, rfl, rfl, .inl (by decide), _, _, rfl, rfl, _, _, rfl, rfl, _, _, rfl, rfl, .inl (by omega), ?_⟩
        refine ⟨_, rfl, .inl ⟨_, rfl, _, _, rfl, rfl, (by decide : (0 : Int) < 9), _, _, rfl, rfl, _, _, 999983, rfl, by omega, fun r H' e' hr' => ?_⟩⟩
        obtain ⟨m, hm, em⟩ := mod_nat ((r : Nat) : Int) hbd
        refine ⟨_, rfl, _, _, rfl, rfl, (by omega : (0 : Int) < ((bd : Nat) : Int)), ?_⟩
        show Q (V.int (_ % _)) _
        rw [em]
        exact k m _ e' hm
end
end Rr
namespace Rr
open PySem PySem.Spec PyProof.Rows L2
theorem Rd.sb {H H' : Hp} {d a : Addr} {u : HO} (n : a ≠ d) (e : SameB d H H') (h : Rd H a u) : Rd H' a u := by
  rcases h with h | ⟨o, h⟩
  · exact .inl (e.off a _ n h)
  · exact .inr ⟨o, e.off a _ n h⟩
theorem SqL.sb {K : PySem.W.Frag} {H H' : Hp} {d a : Addr} {xs : List V} (n : a ≠ d) (e : SameB d H H') (h : SqL K H a xs) : SqL K H' a xs := by
  rcases h with h | h
  · exact .inl (Rd.sb n e h)
  · exact .inr h
theorem SqT.sb {K : PySem.W.Frag} {H H' : Hp} {d a : Addr} {xs ys : List V} (hd : H d = some (.lst ys)) (e : SameB d H H') (h : SqT K H a xs) : SqT K H' a xs := by
  rcases h with h | h
  · refine .inl ?_
    rcases h with h | ⟨o, h⟩
    · exact .inl (e.off a _ (ne_of h hd (by intro z; cases z)) h)
    · exact .inr ⟨o, e.off a _ (ne_of h hd (by intro z; cases z)) h⟩
  · exact .inr h
mutual
theorem dp_sb {K : PySem.W.Frag} {H H' : Hp} {D : Addr} {ys : List V} (hD : H D = some (.lst ys)) (e : SameB D H H') : ∀ {v : V} {d : PyData}, nl d = true → Dp K H v d → Dp K H' v d
  | _, _, _, .non => .non
  | _, _, _, .bl b => .bl b
  | _, _, _, .int i => .int i
  | _, _, _, .str x => .str x
  | _, _, n, .lst hs ha => by simp [nl] at n
  | _, _, n, .tup hs ha => .tup (SqT.sb hD e hs) (dpAll_sb hD e (by simpa [nl] using n) ha)
theorem dpAll_sb {K : PySem.W.Frag} {H H' : Hp} {D : Addr} {ys : List V} (hD : H D = some (.lst ys)) (e : SameB D H H') : ∀ {vs : List V} {ds : List PyData}, nlAll ds = true → DpAll K H vs ds → DpAll K H' vs ds
  | _, _, _, .nil => .nil
  | _, _, n, .cons h t => by
    have n' := n
    simp only [nlAll, Bool.and_eq_true] at n'
    exact .cons (dp_sb hD e n'.1 h) (dpAll_sb hD e n'.2 t)
end
theorem Dr.lst {K : PySem.W.Frag} {H : Hp} {d : Addr} (h : Dr K H d) : ∃ ys, H d = some (.lst ys) := by
  obtain ⟨s, c, ns, h1, _⟩ := h.ex
  exact ⟨_, h1⟩
/-- data without lists stays -/
theorem Dr.dp {K : PySem.W.Frag} {H H' : Hp} {d : Addr} (h : Dr K H d) (e : SameB d H H') {v : V} {x : PyData} (n : nl x = true) (hx : Dp K H v x) : Dp K H' v x := by
  obtain ⟨ys, h1⟩ := h.lst
  exact dp_sb h1 e n hx
theorem Dr.dpAll {K : PySem.W.Frag} {H H' : Hp} {d : Addr} (h : Dr K H d) (e : SameB d H H') {vs : List V} {ds : List PyData} (n : nlAll ds = true) (hx : DpAll K H vs ds) : DpAll K H' vs ds := by
  obtain ⟨ys, h1⟩ := h.lst
  exact dpAll_sb h1 e n hx
theorem Dr.sqt {K : PySem.W.Frag} {H H' : Hp} {d a : Addr} {xs : List V} (h : Dr K H d) (e : SameB d H H') (hx : SqT K H a xs) : SqT K H' a xs := by
  obtain ⟨ys, h1⟩ := h.lst
  exact SqT.sb h1 e hx
theorem Dr.slt {K : PySem.W.Frag} {H H' : Hp} {d a C dx : Addr} {vs : List (Option V)} (h : Dr K H d) (e : SameB d H H') (hx : SlX.Slt H a C dx vs) : SlX.Slt H' a C dx vs := by
  obtain ⟨ys, h1⟩ := h.lst
  rcases hx with ⟨z1, z2⟩ | ⟨z1, z2⟩
  · exact .inl ⟨e.off a _ (ne_of z1 h1 (by intro z; cases z)) z1, z2⟩
  · exact .inr ⟨e.off a _ (ne_of z1 h1 (by intro z; unfold SlX.SlO at z; cases z)) z1, e.off dx _ (ne_of z2 h1 (by intro z; cases z)) z2⟩
section
variable {P : Program} {w : World} {K : PySem.W.Frag} {mg : Str → Option Value} {base : Heap}
def sp_lnext (K : PySem.W.Frag) : Sp := fun vs H Q _ => ∃ d, ∃ bd : Nat, vs = [.ref d, .int ((bd : Nat) : Int)] ∧ Dr K H d ∧ 1 ≤ bd ∧ ∀ r H', SameB d H H' → Dr K H' d → r < bd → Q (.int ((r : Nat) : Int)) H'
-- _law_next: 0 _law_draw_here, 1 _law_bound, 2 _law_at, 3 _law_cell
theorem sc_law_next : FnScope ["_law_draw_here", "_law_bound", "_law_at", "_law_cell"] ["_law_draw_here", "_law_bound"] (defScope s_law_next) := ⟨rfl, rfl, rfl, by decide +kernel, rfl, by decide +kernel, by decide +kernel⟩
theorem ok_lnext (T : Facts w K mg) (F : FnAt K mg "_law_next" s_law_next) (c_law_cell_at : Cal P w K mg base 1 "_law_cell_at" (sp_cell_at K)) (c_law_number : Cal P w K mg base 2 "_law_number" sp_number) : Cal P w K mg base 3 "_law_next" (sp_lnext K) := by
  refine cal_mk F sc_law_next (fun _ _ _ _ _ _ us hl => match us, hl with | [_, _], _ => rfl) (fun vs H Q E h => ?_) (fun f cdv A outer s H vs Q E hr h => ?_)
  · obtain ⟨d, bd, rfl, _⟩ := h
    rfl
  · obtain ⟨d, bd, rfl, dr, hbd, k⟩ := h
    have nd := sc_law_next.nd
    refine ⟨_, (pss_cons (ps_asg (pe_op op_add (pe_ix ix_list (pv 0) pe_int (fun _ _ => rfl)) pe_int) (pg_sub (pv 0) pe_int set_list))
    (pss_cons (ps_set (i := 2) nd rfl (Or.inl rfl) (pe_op op_fdiv (pe_ix ix_list (pv 0) pe_int (fun _ _ => rfl)) pe_int))
    (pss_cons (ps_set (i := 3) nd rfl (Or.inl rfl) (pe_op op_add (pc c_law_cell_at hr (by decide) (by rfl) (pa_cons (pe_ix ix_list (pv 0) pe_int (fun _ _ => rfl)) (pa_cons (pe_op op_add (pe_ix ix_list (pv 0) pe_int (fun _ _ => rfl)) (pv 2)) pa_nil))) (pe_op op_mul pe_int (pv 2))))
    (pss_one (ps_ret (pc c_law_number hr (by decide) (by rfl) (pa_cons (pv 3) (pa_cons (pe_op op_add (pe_op op_mod (pe_callTy call_int1 (by rfl) T.b_int (by decide +kernel) (pa_cons (pe_ix ix_list (pv 0) pe_int (fun _ _ => rfl)) pa_nil)) pe_int) pe_int) (pa_cons (pv 1) pa_nil))))))))), ?_⟩
    obtain ⟨s, c, ns, hd, hs⟩ := dr.ex
    refine ⟨_, rfl, d, _, _, _, rfl, rfl, .inl (.inl hd), atI_nat (j := 2) rfl, _, _, rfl, rfl, _, rfl, d, _, 2, 2, rfl, rfl, hd, rfl, ?_⟩
    have hd1 : (upd H d (.lst [.ref s, .int 0, .int ((c + 1 : Nat) : Int)])) d = some (.lst [.ref s, .int 0, .int ((c + 1 : Nat) : Int)]) := upd_same
    have sb : SameB d H (upd H d (.lst [.ref s, .int 0, .int ((c + 1 : Nat) : Int)])) := ⟨fun a u n e => by rw [upd_ne n]; exact e, fun s' y z e => by
      rw [hd] at e
      have e' := HO.lst.inj (Option.some.inj e)
      cases e'
      exact ⟨_, upd_same⟩⟩
    have hs1 : SqL K (upd H d (.lst [.ref s, .int 0, .int ((c + 1 : Nat) : Int)])) s (ns.map V.int) := by
      rcases hs with hs | hs
      · refine .inl ?_
        rcases hs with hs | ⟨o, hs⟩
        · refine .inl (sb.off s _ (fun z => ?_) hs)
          rw [z, hd] at hs
          have q := HO.lst.inj (Option.some.inj hs)
          cases ns with
          | nil => cases q
          | cons a r => exact V.noConfusion (List.cons.inj q).1
        · exact .inr ⟨o, sb.off s _ (ne_of hs hd (by intro z; cases z)) hs⟩
      · exact .inr hs
    have e1 : ([V.ref s, V.int 0, V.int ((c : Nat) : Int)].set 2 (V.int (((c : Nat) : Int) + 1))) = [.ref s, .int 0, .int ((c + 1 : Nat) : Int)] := by simp
    rw [e1]
    generalize upd H d (.lst [.ref s, .int 0, .int ((c + 1 : Nat) : Int)]) = H1 at hd1 sb hs1 ⊢
    have dr1 : Dr K H1 d := ⟨s, c + 1, ns, hd1, hs1⟩
    refine ⟨_, rfl, d, _, _, _, rfl, rfl, .inl (.inl hd1), atI_nat (j := 2) rfl, _, _, rfl, rfl, ⟨by decide, by decide⟩, ?_⟩
    refine ⟨_, rfl, d, _, _, _, rfl, rfl, .inl (.inl hd1), atI_nat (j := 0) rfl, _, rfl, d, _, _, _, rfl, rfl, .inl (.inl hd1), atI_nat (j := 1) rfl, _, rfl, _, _, rfl, rfl, s, (c + 1) / 12, ns, ?_, hs1, fun z => ?_⟩
    · have e3 : (0 : Int) + ((c + 1 : Nat) : Int) / 12 = (((c + 1) / 12 : Nat) : Int) := by omega
      show [V.ref s, V.int (0 + ((c + 1 : Nat) : Int) / 12)] = _
      rw [e3]
    refine ⟨_, rfl, _, _, rfl, rfl, .inl (by decide), _, _, rfl, rfl, ?_⟩
    obtain ⟨m, hm, em⟩ := mod_nat ((c + 1 : Nat) : Int) (s := 12) (by omega)
    refine ⟨_, rfl, _, rfl, d, _, _, _, rfl, rfl, .inl (.inl hd1), atI_nat (j := 2) rfl, .inl ⟨_, rfl, _, _, rfl, rfl, (by decide : (0 : Int) < 12), _, _, rfl, rfl, _, rfl, z + 31 * (((c + 1 : Nat) : Int) / 12), m + 1, bd, ?_, by omega, hbd, fun r H' e hr' => k r H' (sb.trans (Same.b d e)) (dr1.ext e) hr'⟩⟩
    have em' : ((c + 1 : Nat) : Int) % 12 = ((m : Nat) : Int) := em
    show [V.int _, V.int (((c + 1 : Nat) : Int) % 12 + 1), V.int _] = _
    rw [em']
    rfl
def sp_pick (K : PySem.W.Frag) : Sp := fun vs H Q _ => ∃ d p, ∃ xs : List V, vs = [.ref d, .ref p] ∧ Dr K H d ∧ SqL K H p xs ∧ p ≠ d ∧ xs ≠ [] ∧ ∀ x H', SameB d H H' → Dr K H' d → x ∈ xs → Q x H'
-- _law_pick: 0 _law_draw_here, 1 _law_things
theorem sc_law_pick : FnScope ["_law_draw_here", "_law_things"] ["_law_draw_here", "_law_things"] (defScope s_law_pick) := ⟨rfl, rfl, rfl, by decide +kernel, rfl, by decide +kernel, by decide +kernel⟩
theorem ok_pick (T : Facts w K mg) (F : FnAt K mg "_law_pick" s_law_pick) (c_law_next : Cal P w K mg base 3 "_law_next" (sp_lnext K)) : Cal P w K mg base 4 "_law_pick" (sp_pick K) := by
  refine cal_mk F sc_law_pick (fun _ _ _ _ _ _ us hl => match us, hl with | [_, _], _ => rfl) (fun vs H Q E h => ?_) (fun f cdv A outer s H vs Q E hr h => ?_)
  · obtain ⟨d, p, xs, rfl, _⟩ := h
    rfl
  · obtain ⟨d, p, xs, rfl, dr, hp, ne, nn, k⟩ := h
    have nd := sc_law_pick.nd
    refine ⟨_, (pss_one (ps_ret (pe_ix ix_list (pv 1) (pc c_law_next hr (by decide) (by rfl) (pa_cons (pv 0) (pa_cons (pe_callB call_len_seq (by rfl) T.b_len (by decide +kernel) (pa_cons (pv 1) pa_nil)) pa_nil))) (fun _ _ => rfl)))), ?_⟩
    have hl : 1 ≤ xs.length := by
      cases xs with
      | nil => exact absurd rfl nn
      | cons a r => simp
    refine ⟨_, rfl, _, rfl, _, rfl, p, xs, rfl, .inl hp, d, xs.length, rfl, dr, hl, fun r H' e dr' hr' => ?_⟩
    exact ⟨p, xs, _, xs[r], rfl, rfl, SqL.sb ne e hp, atI_nat (List.getElem?_eq_getElem hr'), k _ H' e dr' (List.getElem_mem _)⟩
end
end Rr
namespace Rr
open PySem PySem.Spec PyProof.Rows L2
theorem word_list {x : V} (h : x ∈ [V.str "put", V.str "move", V.str "add", V.str "sub", V.str "less", V.str "take", V.str "tell", V.str "tell"]) : x = .str "put" ∨ x = .str "move" ∨ (∃ o : Op3, x = .str o.w) ∨ x = .str "take" ∨ x = .str "tell" := by
  simp only [List.mem_cons, List.not_mem_nil, or_false] at h
  rcases h with h | h | h | h | h | h | h | h
  · exact .inl h
  · exact .inr (.inl h)
  · exact .inr (.inr (.inl ⟨.add, h⟩))
  · exact .inr (.inr (.inl ⟨.sub, h⟩))
  · exact .inr (.inr (.inl ⟨.less, h⟩))
  · exact .inr (.inr (.inr (.inl h)))
  · exact .inr (.inr (.inr (.inr h)))
  · exact .inr (.inr (.inr (.inr h)))
theorem Op3.nput (o : Op3) : o.w ≠ "put" := by cases o <;> decide +kernel
theorem Op3.nmove (o : Op3) : o.w ≠ "move" := by cases o <;> decide +kernel
theorem Op3.ntake (o : Op3) : inV (.str o.w) [.str "take", .str "tell"] = false := by
  rw [inV_two]
  cases o <;> decide +kernel
section
variable {P : Program} {w : World} {K : PySem.W.Frag} {mg : Str → Option Value} {base : Heap}
def sp_lrow (K : PySem.W.Frag) : Sp := fun vs H Q _ => ∃ d, ∃ many wide : Nat, vs = [.ref d, .int ((many : Nat) : Int), .int ((wide : Nat) : Int)] ∧ Dr K H d ∧ 1 ≤ many ∧ 1 ≤ wide ∧ ∀ v r H', SameB d H H' → Dr K H' d → Dp K H' v (Rw.d r) → r.ok many wide → Q v H'
-- _law_row: 0 _law_draw_here, 1 _law_many, 2 _law_wide, 3 _law_word, 4 _law_r, 5 _law_s, 6 _law_t
theorem sc_law_row : FnScope ["_law_draw_here", "_law_many", "_law_wide", "_law_word", "_law_r", "_law_s", "_law_t"] ["_law_draw_here", "_law_many", "_law_wide"] (defScope s_law_row) := ⟨rfl, rfl, rfl, by decide +kernel, rfl, by decide +kernel, by decide +kernel⟩
theorem ok_lrow (T : Facts w K mg) (F : FnAt K mg "_law_row" s_law_row) (c_law_pick : Cal P w K mg base 4 "_law_pick" (sp_pick K)) (c_law_next : Cal P w K mg base 3 "_law_next" (sp_lnext K)) : Cal P w K mg base 5 "_law_row" (sp_lrow K) := by
  refine cal_mk F sc_law_row (fun _ _ _ _ _ _ us hl => match us, hl with | [_, _, _], _ => rfl) (fun vs H Q E h => ?_) (fun f cdv A outer s H vs Q E hr h => ?_)
  · obtain ⟨d, many, wide, rfl, _⟩ := h
    rfl
  · obtain ⟨d, many, wide, rfl, dr, h1, h2, k⟩ := h
    have nd := sc_law_row.nd
    refine ⟨_, (pss_cons (ps_set (i := 3) nd rfl (Or.inl rfl) (pc c_law_pick hr (by decide) (by rfl) (pa_cons (pv 0) (pa_cons (pe_lst (pa_cons pe_str (pa_cons pe_str (pa_cons pe_str (pa_cons pe_str (pa_cons pe_str (pa_cons pe_str (pa_cons pe_str (pa_cons pe_str pa_nil))))))))) pa_nil))))
    (pss_cons (ps_par3 (i := 4) (j := 5) (l := 6) (by rfl) nd rfl rfl rfl (by decide) (by decide) (by decide) rfl rfl rfl (pa_cons (pc c_law_next hr (by decide) (by rfl) (pa_cons (pv 0) (pa_cons (pv 1) pa_nil))) (pa_cons (pc c_law_next hr (by decide) (by rfl) (pa_cons (pv 0) (pa_cons (pv 1) pa_nil))) (pa_cons (pc c_law_next hr (by decide) (by rfl) (pa_cons (pv 0) (pa_cons (pv 1) pa_nil))) pa_nil))) (by rfl))
    (pss_cons (ps_if (pt_cmpR op_eq (pv 3) pe_str (nomark _)) (pss_one (ps_ret (pe_tup (pa_cons (pv 3) (pa_cons (pv 4) (pa_cons (pc c_law_next hr (by decide) (by rfl) (pa_cons (pv 0) (pa_cons (pv 2) pa_nil))) pa_nil)))))) pss_nil)
    (pss_cons (ps_if (pt_cmpR op_in_seq (pv 3) (pe_tup (pa_cons pe_str (pa_cons pe_str pa_nil))) (by rfl)) (pss_one (ps_ret (pe_tup (pa_cons (pv 3) (pa_cons (pv 4) pa_nil))))) pss_nil)
    (pss_one (ps_ret (pe_ifExp (pt_cmpR op_eq (pv 3) pe_str (nomark _)) (pe_tup (pa_cons (pv 3) (pa_cons (pv 4) (pa_cons (pv 5) pa_nil)))) (pe_tup (pa_cons (pv 3) (pa_cons (pv 4) (pa_cons (pv 5) (pa_cons (pv 6) pa_nil)))))))))))), ?_⟩
    obtain ⟨ys, hd⟩ := dr.lst
    refine ⟨_, rfl, line1 (by simp), fun p hp => ?_⟩
    have sN : ∀ {o : HO}, SameB d H (upd H p o) := fun {o} => Same.b d (Same.new hp)
    refine ⟨d, p, _, rfl, dr.ext (Same.new hp), .inl (.inl upd_same), (ne_of_none hd hp).symm, by simp, fun x H1 s1 dr1 hx => ?_⟩
    replace s1 := sN.trans s1
    refine ⟨_, rfl, _, rfl, d, many, rfl, dr1, h1, fun r H2 s2 dr2 hr2 => ⟨_, rfl, _, rfl, d, many, rfl, dr2, h1, fun t H3 s3 dr3 hr3 => ⟨_, rfl, _, rfl, d, many, rfl, dr3, h1, fun u H4 s4 dr4 hr4 => ?_⟩⟩⟩
    replace s4 := ((s1.trans s2).trans s3).trans s4
    clear s1 s2 s3 dr1 dr2 dr3
    refine ⟨_, _, _, rfl, ?_⟩
    rcases word_list hx with rfl | rfl | ⟨o, rfl⟩ | rfl | rfl
    · refine ⟨_, rfl, rfl, _, rfl, iteT' (dT rfl) ?_⟩
      refine ⟨_, rfl, _, rfl, _, rfl, _, rfl, d, wide, rfl, dr4, h2, fun n H5 s5 dr5 hn => ⟨line1 (by simp), fun q hq => ?_⟩⟩
      exact k _ (.put r n) _ (s4.trans (s5.trans (Same.b d (Same.new hq)))) (dr5.ext (Same.new hq)) (.tup (.inl (.inl upd_same)) (.cons (.str _) (.cons (.int _) (.cons (.int _) .nil)))) ⟨hr2, hn⟩
    · refine ⟨_, rfl, rfl, _, rfl, iteF' (dF (by decide +kernel)) ?_⟩
      refine ⟨_, rfl, line1 (by simp), fun p2 hp2 => ⟨p2, _, rfl, .inr (.inl (.inl upd_same)), rfl, rfl, _, rfl, ?_⟩⟩
      rw [show inV (.str ("move" : Str)) [.str "take", .str "tell"] = false by rw [inV_two] <;> decide +kernel]
      refine iteF ⟨_, rfl, rfl, _, rfl, iteT' (dT rfl) ?_⟩
      refine ⟨_, rfl, _, rfl, _, rfl, line1 (by simp), fun q hq => ?_⟩
      exact k _ (.move r t) _ (s4.trans ((Same.b d (Same.new hp2)).trans (Same.b d (Same.new hq)))) ((dr4.ext (Same.new hp2)).ext (Same.new hq)) (.tup (.inl (.inl upd_same)) (.cons (.str _) (.cons (.int _) (.cons (.int _) .nil)))) (fun y hy => by
        simp only [Rw.nats, List.mem_cons, List.not_mem_nil, or_false] at hy
        rcases hy with rfl | rfl <;> assumption)
    · refine ⟨_, rfl, rfl, _, rfl, iteF' (dF o.nput) ?_⟩
      refine ⟨_, rfl, line1 (by simp), fun p2 hp2 => ⟨p2, _, rfl, .inr (.inl (.inl upd_same)), rfl, rfl, _, rfl, ?_⟩⟩
      rw [show inV (.str o.w) [.str "take", .str "tell"] = false from o.ntake]
      refine iteF ⟨_, rfl, rfl, _, rfl, iteF' (dF o.nmove) ?_⟩
      refine ⟨_, rfl, _, rfl, _, rfl, _, rfl, line1 (by simp), fun q hq => ?_⟩
      exact k _ (.op o r t u) _ (s4.trans ((Same.b d (Same.new hp2)).trans (Same.b d (Same.new hq)))) ((dr4.ext (Same.new hp2)).ext (Same.new hq)) (.tup (.inl (.inl upd_same)) (.cons (.str _) (.cons (.int _) (.cons (.int _) (.cons (.int _) .nil))))) (fun y hy => by
        simp only [Rw.nats, List.mem_cons, List.not_mem_nil, or_false] at hy
        rcases hy with rfl | rfl | rfl <;> assumption)
    · refine ⟨_, rfl, rfl, _, rfl, iteF' (dF (by decide +kernel)) ?_⟩
      refine ⟨_, rfl, line1 (by simp), fun p2 hp2 => ⟨p2, _, rfl, .inr (.inl (.inl upd_same)), rfl, rfl, _, rfl, ?_⟩⟩
      rw [show inV (.str ("take" : Str)) [.str "take", .str "tell"] = true by rw [inV_two] <;> decide +kernel]
      refine iteT ⟨_, rfl, _, rfl, line1 (by simp), fun q hq => ?_⟩
      exact k _ (.take r) _ (s4.trans ((Same.b d (Same.new hp2)).trans (Same.b d (Same.new hq)))) ((dr4.ext (Same.new hp2)).ext (Same.new hq)) (.tup (.inl (.inl upd_same)) (.cons (.str _) (.cons (.int _) .nil))) (fun y hy => by
        simp only [Rw.nats, List.mem_cons, List.not_mem_nil, or_false] at hy
        rcases hy with rfl <;> assumption)
    · refine ⟨_, rfl, rfl, _, rfl, iteF' (dF (by decide +kernel)) ?_⟩
      refine ⟨_, rfl, line1 (by simp), fun p2 hp2 => ⟨p2, _, rfl, .inr (.inl (.inl upd_same)), rfl, rfl, _, rfl, ?_⟩⟩
      rw [show inV (.str ("tell" : Str)) [.str "take", .str "tell"] = true by rw [inV_two] <;> decide +kernel]
      refine iteT ⟨_, rfl, _, rfl, line1 (by simp), fun q hq => ?_⟩
      exact k _ (.tell r) _ (s4.trans ((Same.b d (Same.new hp2)).trans (Same.b d (Same.new hq)))) ((dr4.ext (Same.new hp2)).ext (Same.new hq)) (.tup (.inl (.inl upd_same)) (.cons (.str _) (.cons (.int _) .nil))) (fun y hy => by
        simp only [Rw.nats, List.mem_cons, List.not_mem_nil, or_false] at hy
        rcases hy with rfl <;> assumption)
def sp_lend (K : PySem.W.Frag) : Sp := fun vs H Q _ => ∃ d p, ∃ many size : Nat, ∃ l : List Nat, vs = [.ref d, .int ((many : Nat) : Int), .int ((size : Nat) : Int), .ref p] ∧ Dr K H d ∧ H p = some (.lst (natsV l)) ∧ 1 ≤ many ∧ 1 ≤ size ∧ l.length ≤ 2 ∧ (∀ x ∈ l, 1 ≤ x ∧ x < size) ∧
  ∀ v e H', SameB d H H' → Dr K H' d → Dp K H' v (En.d e) → e.ok many size → (∀ x ∈ l, x ∈ e.outs) → Q v H'
-- _law_end: 0 _law_draw_here, 1 _law_many, 2 _law_size, 3 _law_outs_here, 4 _law_way, 5 _law_one, 6 _law_some
theorem sc_law_end : FnScope ["_law_draw_here", "_law_many", "_law_size", "_law_outs_here", "_law_way", "_law_one", "_law_some"] ["_law_draw_here", "_law_many", "_law_size", "_law_outs_here"] (defScope s_law_end) := ⟨rfl, rfl, rfl, by decide +kernel, rfl, by decide +kernel, by decide +kernel⟩
theorem ok_lend (T : Facts w K mg) (F : FnAt K mg "_law_end" s_law_end) (c_law_next : Cal P w K mg base 3 "_law_next" (sp_lnext K)) : Cal P w K mg base 4 "_law_end" (sp_lend K) := by
  refine cal_mk F sc_law_end (fun _ _ _ _ _ _ us hl => match us, hl with | [_, _, _, _], _ => rfl) (fun vs H Q E h => ?_) (fun f cdv A outer s H vs Q E hr h => ?_)
  · obtain ⟨d, p, many, size, l, rfl, _⟩ := h
    rfl
  · obtain ⟨d, p, many, size, l, rfl, dr, hp, h1, h2, l2, hl, k⟩ := h
    have nd := sc_law_end.nd
    refine ⟨_, (pss_cons (ps_par (i := 4) (j := 5) (by rfl) nd rfl rfl (by decide) rfl rfl (pa_cons (pc c_law_next hr (by decide) (by rfl) (pa_cons (pv 0) (pa_cons pe_int pa_nil))) (pa_cons (pc c_law_next hr (by decide) (by rfl) (pa_cons (pv 0) (pa_cons (pv 1) pa_nil))) pa_nil)) (by rfl))
    (pss_cons (ps_if (pt_cmpR (op_eqD hr.units) (pv 3) (pe_lst pa_nil) (nomark _)) (pss_one (ps_ret (pe_ifExp (PW.pt (pw_or (pt_cmpR op_eq (pv 2) pe_int (nomark _)) (pw_or1 (pt_cmpR op_lt (pv 4) pe_int (nomark _))))) (pe_tup (pa_cons pe_str pa_nil)) (pe_tup (pa_cons pe_str (pa_cons (pe_op op_add pe_int (pc c_law_next hr (by decide) (by rfl) (pa_cons (pv 0) (pa_cons (pe_op op_sub (pv 2) pe_int) pa_nil)))) pa_nil)))))) pss_nil)
    (pss_cons (ps_if (PW.pt (pw_and (pt_cmpR op_eq (pe_callB call_len_seq (by rfl) T.b_len (by decide +kernel) (pa_cons (pv 3) pa_nil)) pe_int (nomark _)) (pw_and1 (pt_cmpR op_lt (pv 4) pe_int (nomark _))))) (pss_one (ps_ret (pe_tup (pa_cons pe_str (pa_cons (pe_ix ix_list (pv 3) pe_int (fun _ _ => rfl)) pa_nil))))) pss_nil)
    (pss_cons (ps_set (i := 6) nd rfl (Or.inl rfl) (pe_op op_cat (pv 3) (pe_ifExp (pt_cmpR op_eq (pe_callB call_len_seq (by rfl) T.b_len (by decide +kernel) (pa_cons (pv 3) pa_nil)) pe_int (nomark _)) (pe_lst (pa_cons (pe_op op_add pe_int (pc c_law_next hr (by decide) (by rfl) (pa_cons (pv 0) (pa_cons (pe_op op_sub (pv 2) pe_int) pa_nil)))) pa_nil)) (pe_lst pa_nil))))
    (pss_one (ps_ret (pe_ifExp (pt_cmpR op_eq (pe_op op_mod (pv 4) pe_int) pe_int (nomark _)) (pe_tup (pa_cons pe_str (pa_cons (pv 5) (pa_cons (pe_ix ix_list (pv 6) pe_int (fun _ _ => rfl)) (pa_cons (pe_ix ix_list (pv 6) pe_int (fun _ _ => rfl)) pa_nil))))) (pe_tup (pa_cons pe_str (pa_cons (pv 5) (pa_cons (pe_ix ix_list (pv 6) pe_int (fun _ _ => rfl)) (pa_cons (pe_ix ix_list (pv 6) pe_int (fun _ _ => rfl)) pa_nil)))))))))))), ?_⟩
    have np : p ≠ d := dr.ne hp (fun s y z q => by
      have q2 := HO.lst.inj q
      cases l with
      | nil => cases q2
      | cons a r => exact V.noConfusion (List.cons.inj q2).1)
    refine ⟨_, rfl, d, 4, rfl, dr, by omega, fun wy H1 s1 dr1 hw => ⟨_, rfl, _, rfl, d, many, rfl, dr1, h1, fun r H2 s2 dr2 hr2 => ⟨_, _, rfl, ?_⟩⟩⟩
    have s2' := s1.trans s2
    have p2 := s2'.off _ _ np hp
    refine ⟨_, rfl, line1 (by simp), fun q hq => ⟨.list (natsD l), .list (natsD []), .lst (.inl (.inl ((Same.new hq) _ _ p2))) (natsD_dp l), .lst (.inl (.inl upd_same)) .nil, natsD_sh _, natsD_sh _, _, rfl, ?_⟩⟩
    have s3 := s2'.trans (Same.b d (Same.new (o := .lst []) hq))
    have dr3 := dr2.ext (Same.new (o := .lst []) hq)
    have p3 := (Same.new (o := .lst []) hq) _ _ p2
    rw [natsD_eqv]
    generalize upd H2 q (.lst []) = H3 at s3 dr3 p3 ⊢
    clear s1 s2 s2' p2 dr1 dr2 hq
    rcases l with _ | ⟨x, _ | ⟨y, _ | ⟨z, l⟩⟩⟩
    · refine iteT' (decide_eq_true rfl) ?_
      refine ⟨_, rfl, rfl, _, rfl, ?_⟩
      by_cases e : size = 1
      · refine iteT' (decide_eq_true (by rw [e] <;> rfl)) (iteT ⟨line1 (by simp), fun q hq => ?_⟩)
        exact k _ .stop _ (s3.trans (Same.b d (Same.new hq))) (dr3.ext (Same.new hq)) (.tup (.inl (.inl upd_same)) (.cons (.str _) .nil)) trivial (fun z hz => by cases hz)
      · refine iteF' (decide_eq_false (fun z => e (by have := V.int.inj z; omega))) ⟨_, rfl, _, _, rfl, rfl, _, rfl, ?_⟩
        by_cases e2 : wy < 2
        · refine iteT' (decide_eq_true (by omega)) ⟨line1 (by simp), fun q hq => ?_⟩
          exact k _ .stop _ (s3.trans (Same.b d (Same.new hq))) (dr3.ext (Same.new hq)) (.tup (.inl (.inl upd_same)) (.cons (.str _) .nil)) trivial (fun z hz => by cases hz)
        · refine iteF' (decide_eq_false (by omega)) ⟨_, rfl, _, rfl, _, _, rfl, rfl, d, size - 1, ?_, dr3, by omega, fun n H4 s4 dr4 hn => ⟨_, _, rfl, rfl, line1 (by simp), fun q hq => ?_⟩⟩
          · show [V.ref d, V.int (((size : Nat) : Int) - 1)] = _
            rw [show ((size : Nat) : Int) - 1 = ((size - 1 : Nat) : Int) by omega]
          · refine k _ (.go (n + 1)) _ (s3.trans (s4.trans (Same.b d (Same.new hq)))) (dr4.ext (Same.new hq)) (.tup (.inl (.inl upd_same)) (.cons (.str _) (.cons ?_ .nil))) ⟨by omega, by omega⟩ (fun z hz => by cases hz)
            show Dp K _ (V.int (1 + ((n : Nat) : Int))) _
            rw [show (1 : Int) + ((n : Nat) : Int) = ((n + 1 : Nat) : Int) by omega]
            exact .int _
    · refine iteF' (decide_eq_false (by simp)) ?_
      obtain ⟨x1, x2⟩ := hl x List.mem_cons_self
      refine ⟨_, rfl, p, _, rfl, .inl (.inl (.inl p3)), rfl, _, rfl, iteT' (decide_eq_true rfl) ⟨_, rfl, _, _, rfl, rfl, _, rfl, ?_⟩⟩
      by_cases e2 : wy < 2
      · refine iteT' (decide_eq_true (by omega)) ⟨_, rfl, p, _, _, _, rfl, rfl, .inl (.inl p3), atI_nat (j := 0) rfl, line1 (by simp), fun q hq => ?_⟩
        exact k _ (.go x) _ (s3.trans (Same.b d (Same.new hq))) (dr3.ext (Same.new hq)) (.tup (.inl (.inl upd_same)) (.cons (.str _) (.cons (.int _) .nil))) ⟨x1, x2⟩ (fun z hz => hz)
      · refine iteF' (decide_eq_false (by omega)) ?_
        refine ⟨_, rfl, _, rfl, p, _, rfl, .inl (.inl (.inl p3)), rfl, _, rfl, iteT' (decide_eq_true rfl) ⟨_, rfl, _, rfl, _, _, rfl, rfl, d, size - 1, ?_, dr3, by omega, fun n H4 s4 dr4 hn => ⟨_, _, rfl, rfl, line1 (by simp), fun q hq => ?_⟩⟩⟩
        · show [V.ref d, V.int (((size : Nat) : Int) - 1)] = _
          rw [show ((size : Nat) : Int) - 1 = ((size - 1 : Nat) : Int) by omega]
        have p4 := s4.off _ _ np p3
        have np5 := (Same.new (o := .lst [.int (1 + ((n : Nat) : Int))]) hq) _ _ p4
        refine ⟨p, q, _, _, rfl, rfl, np5, upd_same, line1 (by simp [natsV]), fun q3 hq3 => ?_⟩
        have s6 := ((s3.trans s4).trans (Same.b d (Same.new (o := .lst [.int (1 + ((n : Nat) : Int))]) hq))).trans (Same.b d (Same.new (o := .lst (natsV [x, n + 1])) hq3))
        have dr6 := (dr4.ext (Same.new (o := .lst [.int (1 + ((n : Nat) : Int))]) hq)).ext (Same.new (o := .lst (natsV [x, n + 1])) hq3)
        have ee : natsV [x] ++ [V.int (1 + ((n : Nat) : Int))] = natsV [x, n + 1] := by
          rw [show (1 : Int) + ((n : Nat) : Int) = ((n + 1 : Nat) : Int) by omega] <;> rfl
        have l6 : (upd (upd H4 q (.lst [.int (1 + ((n : Nat) : Int))])) q3 (.lst (natsV [x, n + 1]))) q3 = some (.lst (natsV [x, n + 1])) := upd_same
        rw [ee]
        generalize upd (upd H4 q (.lst [.int (1 + ((n : Nat) : Int))])) q3 (.lst (natsV [x, n + 1])) = H6 at s6 dr6 l6 ⊢
        refine ⟨_, rfl, _, _, rfl, rfl, (by decide : (0 : Int) < 2), rfl, _, rfl, ?_⟩
        by_cases e2 : ((wy : Nat) : Int) % 2 = 0
        · refine iteT' (decide_eq_true (congrArg V.int e2)) ?_
          refine ⟨_, rfl, _, rfl, q3, _, _, _, rfl, rfl, .inl (.inl l6), atI_nat (j := 0) rfl, _, rfl, q3, _, _, _, rfl, rfl, .inl (.inl l6), atI_nat (j := 1) rfl, line1 (by simp), fun q4 hq4 => ?_⟩
          exact k _ (.part r x (n + 1)) _ (s6.trans (Same.b d (Same.new hq4))) (dr6.ext (Same.new hq4)) (.tup (.inl (.inl upd_same)) (.cons (.str _) (.cons (.int _) (.cons (.int _) (.cons (.int _) .nil))))) ⟨hr2, by omega, by omega, by omega, by omega⟩ (fun z hz => by simp only [List.mem_cons, List.not_mem_nil, or_false] at hz; simp only [En.outs, List.mem_cons, List.not_mem_nil, or_false]; omega)
        · refine iteF' (decide_eq_false (fun z => e2 (V.int.inj z))) ?_
          refine ⟨_, rfl, _, rfl, q3, _, _, _, rfl, rfl, .inl (.inl l6), atI_nat (j := 1) rfl, _, rfl, q3, _, _, _, rfl, rfl, .inl (.inl l6), atI_nat (j := 0) rfl, line1 (by simp), fun q4 hq4 => ?_⟩
          exact k _ (.part r (n + 1) x) _ (s6.trans (Same.b d (Same.new hq4))) (dr6.ext (Same.new hq4)) (.tup (.inl (.inl upd_same)) (.cons (.str _) (.cons (.int _) (.cons (.int _) (.cons (.int _) .nil))))) ⟨hr2, by omega, by omega, by omega, by omega⟩ (fun z hz => by simp only [List.mem_cons, List.not_mem_nil, or_false] at hz; simp only [En.outs, List.mem_cons, List.not_mem_nil, or_false]; omega)

    · refine iteF' (decide_eq_false (by simp)) ?_
      obtain ⟨x1, x2⟩ := hl x List.mem_cons_self
      obtain ⟨y1, y2⟩ := hl y (by simp)
      refine ⟨_, rfl, p, _, rfl, .inl (.inl (.inl p3)), rfl, _, rfl, iteF' (decide_eq_false (fun z => by have := V.int.inj z; simp [natsV] at this)) (iteF ?_)⟩
      refine ⟨_, rfl, _, rfl, p, _, rfl, .inl (.inl (.inl p3)), rfl, _, rfl, iteF' (decide_eq_false (fun z => by have := V.int.inj z; simp [natsV] at this)) ⟨line1 (by simp), fun q hq => ?_⟩⟩
      have np5 := (Same.new (o := .lst []) hq) _ _ p3
      refine ⟨p, q, _, _, rfl, rfl, np5, upd_same, line1 (by simp [natsV]), fun q3 hq3 => ?_⟩
      have s6 := (s3.trans (Same.b d (Same.new (o := .lst []) hq))).trans (Same.b d (Same.new (o := .lst (natsV [x, y])) hq3))
      have dr6 := (dr3.ext (Same.new (o := .lst []) hq)).ext (Same.new (o := .lst (natsV [x, y])) hq3)
      have ee : natsV [x, y] ++ [] = natsV [x, y] := List.append_nil _
      have l6 : (upd (upd H3 q (.lst [])) q3 (.lst (natsV [x, y]))) q3 = some (.lst (natsV [x, y])) := upd_same
      rw [ee]
      generalize upd (upd H3 q (.lst [])) q3 (.lst (natsV [x, y])) = H6 at s6 dr6 l6 ⊢
      refine ⟨_, rfl, _, _, rfl, rfl, (by decide : (0 : Int) < 2), rfl, _, rfl, ?_⟩
      by_cases e2 : ((wy : Nat) : Int) % 2 = 0
      · refine iteT' (decide_eq_true (congrArg V.int e2)) ?_
        refine ⟨_, rfl, _, rfl, q3, _, _, _, rfl, rfl, .inl (.inl l6), atI_nat (j := 0) rfl, _, rfl, q3, _, _, _, rfl, rfl, .inl (.inl l6), atI_nat (j := 1) rfl, line1 (by simp), fun q4 hq4 => ?_⟩
        exact k _ (.part r x y) _ (s6.trans (Same.b d (Same.new hq4))) (dr6.ext (Same.new hq4)) (.tup (.inl (.inl upd_same)) (.cons (.str _) (.cons (.int _) (.cons (.int _) (.cons (.int _) .nil))))) ⟨hr2, by omega, by omega, by omega, by omega⟩ (fun z hz => by simp only [List.mem_cons, List.not_mem_nil, or_false] at hz; simp only [En.outs, List.mem_cons, List.not_mem_nil, or_false]; omega)
      · refine iteF' (decide_eq_false (fun z => e2 (V.int.inj z))) ?_
        refine ⟨_, rfl, _, rfl, q3, _, _, _, rfl, rfl, .inl (.inl l6), atI_nat (j := 1) rfl, _, rfl, q3, _, _, _, rfl, rfl, .inl (.inl l6), atI_nat (j := 0) rfl, line1 (by simp), fun q4 hq4 => ?_⟩
        exact k _ (.part r y x) _ (s6.trans (Same.b d (Same.new hq4))) (dr6.ext (Same.new hq4)) (.tup (.inl (.inl upd_same)) (.cons (.str _) (.cons (.int _) (.cons (.int _) (.cons (.int _) .nil))))) ⟨hr2, by omega, by omega, by omega, by omega⟩ (fun z hz => by simp only [List.mem_cons, List.not_mem_nil, or_false] at hz; simp only [En.outs, List.mem_cons, List.not_mem_nil, or_false]; omega)
    · simp at l2
end
end Rr
namespace Rr
open PySem PySem.Spec PyProof.Rows L2
/-- the list at po of the lists at ps, which hold O's numbers -/
structure OutsH (H : Hp) (d po : Addr) (ps : List Addr) (n : Nat) (O : Nat → List Nat) : Prop where
  at_ : H po = some (.lst (ps.map V.ref))
  len : ps.length = n
  ne : po ≠ d
  nd : ps.Nodup
  ex : ∀ i p, ps[i]? = some p → p ≠ d ∧ H p = some (.lst (natsV (O i)))
theorem OutsH.sb {H H' : Hp} {d po : Addr} {ps : List Addr} {n : Nat} {O : Nat → List Nat} (h : OutsH H d po ps n O) (e : SameB d H H') : OutsH H' d po ps n O :=
  ⟨e.off _ _ h.ne h.at_, h.len, h.ne, h.nd, fun i p hp => ⟨(h.ex i p hp).1, e.off _ _ (h.ex i p hp).1 (h.ex i p hp).2⟩⟩
/-- the blocks below b have been led to -/
structure OutsP (size b : Nat) (O : Nat → List Nat) : Prop where
  two : ∀ j, (O j).length ≤ 2
  lt : ∀ j, ∀ x ∈ O j, 1 ≤ x ∧ x < size
  to : ∀ x, 1 ≤ x → x < b → ∃ j, j < x ∧ x ∈ O j
  free : ∀ j, b ≤ j + 1 → O j = []
def addO (O : Nat → List Nat) (j x : Nat) : Nat → List Nat := fun i => if i = j then O i ++ [x] else O i
theorem OutsP.next {size b j : Nat} {O : Nat → List Nat} (h : OutsP size b O) (h1 : 1 ≤ b) (hb : b < size) (hj : j < b) (h2 : (O j).length < 2) : OutsP size (b + 1) (addO O j b) := by
  refine ⟨fun i => ?_, fun i x hx => ?_, fun x x1 x2 => ?_, fun i hi => ?_⟩
  · unfold addO
    split
    · rename_i e
      subst e
      rw [List.length_append, List.length_singleton]
      omega
    · exact h.two i
  · unfold addO at hx
    split at hx
    · rcases List.mem_append.mp hx with hx | hx
      · exact h.lt i x hx
      · rw [List.mem_singleton.mp hx]
        exact ⟨h1, hb⟩
    · exact h.lt i x hx
  · by_cases e : x = b
    · subst e
      refine ⟨j, hj, ?_⟩
      unfold addO
      rw [if_pos rfl]
      exact List.mem_append_right _ (List.mem_singleton.mpr rfl)
    · obtain ⟨i, hi, hx⟩ := h.to x x1 (by omega)
      refine ⟨i, hi, ?_⟩
      unfold addO
      split
      · exact List.mem_append_left _ hx
      · exact hx
  · unfold addO
    rw [if_neg (by omega)]
    exact h.free i (by omega)
section
variable {P : Program} {w : World} {K : PySem.W.Frag} {mg : Str → Option Value} {base : Heap}
def sp_louts (K : PySem.W.Frag) : Sp := fun vs H Q _ => ∃ d, ∃ size : Nat, vs = [.ref d, .int ((size : Nat) : Int)] ∧ Dr K H d ∧ 1 ≤ size ∧ size ≤ 100 ∧ ∀ po ps O H', SameB d H H' → Dr K H' d → OutsH H' d po ps size O → OutsP size size O → Q (.ref po) H'
-- _law_outs: 0 _law_draw_here, 1 _law_size, 2 _law_outs_here*, 3 _law_block, 4 _law_one
theorem sc_law_outs : FnScope ["_law_draw_here", "_law_size", "_law_outs_here", "_law_block", "_law_one"] ["_law_draw_here", "_law_size"] (defScope s_law_outs) := ⟨rfl, rfl, rfl, by decide +kernel, rfl, by decide +kernel, by decide +kernel⟩
theorem ok_louts (T : Facts w K mg) (F : FnAt K mg "_law_outs" s_law_outs) (c_law_pick : Cal P w K mg base 4 "_law_pick" (sp_pick K)) : Cal P w K mg base 5 "_law_outs" (sp_louts K) := by
  refine cal_mk F sc_law_outs (fun _ _ _ _ _ _ us hl => match us, hl with | [_, _], _ => rfl) (fun vs H Q E h => ?_) (fun f cdv A outer s H vs Q E hr h => ?_)
  · obtain ⟨d, size, rfl, _⟩ := h
    rfl
  · obtain ⟨d, size, rfl, dr, h1, h2, k⟩ := h
    have nd := sc_law_outs.nd
    refine ⟨_, (pss_cons (ps_set (i := 2) nd rfl (Or.inr rfl) (pe_lc (own := [("_law_block", 3)]) rfl nd (pi_range1 (by rfl) T.b_range (pa_cons (pv 1) pa_nil)) (blkOk_by (own := [("_law_block", 3)]) (by kernel_rfl)) (fun _ _ _ _ _ => (pg_name (i := 3) nd rfl (Or.inl rfl) (Or.inr rfl))) (fun _ _ _ _ _ => pts_nil) (fun _ _ _ _ _ => (pe_lst pa_nil))))
    (pss_cons (ps_for PassesOwn.never rfl (pi_range2 (by rfl) T.b_range (pa_cons pe_int (pa_cons (pv 1) pa_nil))) (pg_name (i := 3) nd rfl (Or.inl rfl)) (pss_one (ps_expr (pe_bm PySem.F.plainAttrs_list PySem.F.slot_list_append PySem.F.type_list_append mt_append (pe_ix ix_list (pv 2) (pc c_law_pick hr (by decide) (by rfl) (pa_cons (pv 0) (pa_cons (pe_lc (own := [("_law_one", 4)]) rfl nd (pi_range1 (by rfl) T.b_range (pa_cons (pv 3) pa_nil)) (blkOk_by (own := [("_law_one", 4)]) (by kernel_rfl)) (fun _ _ _ _ _ => (pg_name (i := 4) nd rfl (Or.inl rfl) (Or.inr rfl))) (fun _ _ _ _ _ => pts_one (pt_cmpR op_lt (pe_callB (call_lenK (K := K) rfl) (by rfl) T.b_len (by decide +kernel) (pa_cons (pe_ix (ix_listK (K := K) rfl) (pv 2) (pv 4) (fun _ _ => rfl)) pa_nil)) pe_int (nomark _))) (fun _ _ _ _ _ => (pv 4))) pa_nil))) (fun _ _ => rfl)) (pa_cons (pv 3) pa_nil)))))
    (pss_one (ps_ret (pv 2))))), ?_⟩
    refine ⟨_, rfl, _, rfl, by omega, by omega, fun po hpo => ?_⟩
    obtain ⟨ys, hd⟩ := dr.lst
    refine lc_range (fun i H1 => Same H H1 ∧ ∃ ps : List Addr, H1 po = some (.lst (ps.map V.ref)) ∧ ps.length = i ∧ ps.Nodup ∧ ∀ p ∈ ps, H p = none ∧ p ≠ po ∧ H1 p = some (.lst [])) ⟨Same.new hpo, [], upd_same, rfl, List.nodup_nil, fun p hp => by cases hp⟩ (fun i H1 hi z => ?_) (fun H1 z => ?_)
    · obtain ⟨s1, ps, e1, l1, n1, a1⟩ := z
      refine ⟨rfl, ?_⟩
      unfold tYes
      refine iteT ⟨by decide, fun p hp => ⟨ps.map V.ref, ?_, small1000 (by rw [List.length_map]; omega), ?_, ps ++ [p], ?_, ?_, ?_, fun q hq => ?_⟩⟩
      · rw [upd_ne (ne_of_none e1 hp)]
        exact e1
      · exact Same.app (s1.trans (Same.new hp)) hpo
      · rw [upd_same, List.map_append] <;> rfl
      · rw [List.length_append, List.length_singleton, l1]
      · refine List.nodup_append.mpr ⟨n1, by simp, fun a ha b hb e => ?_⟩
        rw [List.mem_singleton.mp hb] at e
        have z := (a1 a ha).2.2
        rw [e, hp] at z
        cases z
      · rcases List.mem_append.mp hq with hq | hq
        · obtain ⟨z1, z2, z3⟩ := a1 q hq
          exact ⟨z1, z2, by rw [upd_ne z2, upd_ne (ne_of_none z3 hp)]; exact z3⟩
        · rw [List.mem_singleton.mp hq]
          have pn : p ≠ po := (ne_of_none e1 hp).symm
          refine ⟨?_, pn, by rw [upd_ne pn, upd_same]⟩
          cases q2 : H p with
          | none => rfl
          | some u =>
            have z := s1 _ _ q2
            rw [hp] at z
            cases z
    · obtain ⟨s1, ps, e1, l1, n1, a1⟩ := z
      have hn : ((size : Nat) : Int).toNat = size := Int.toNat_natCast _
      have dn : ∀ q, H q = none → q ≠ d := fun q hq => (ne_of_none hd hq).symm
      have O1 : OutsH H1 d po ps size (fun _ => []) := ⟨e1, by simpa using l1, dn po hpo, n1, fun i p hp => ⟨dn p (a1 p (List.mem_of_getElem? hp)).1, (a1 p (List.mem_of_getElem? hp)).2.2⟩⟩
      have P1 : OutsP size 1 (fun _ => []) := ⟨fun _ => by simp, fun _ x hx => (by cases hx), fun x x1 x2 => (by omega), fun _ _ => rfl⟩
      have hps : ∀ p ∈ ps, H p = none := fun p hp => (a1 p hp).1
      have sb1 : SameB d H H1 := Same.b d s1
      have dr1 := dr.ext s1
      clear e1 l1 n1 a1 s1
      refine ⟨_, rfl, 1, ((size : Nat) : Int), rfl, ⟨by omega, by omega, by omega, by omega⟩, ?_⟩
      refine for_range (fun i σ' H' => ∃ x3 O, σ' = [some (.ref d), some (.int ((size : Nat) : Int)), some (.ref po), x3, none] ∧ SameB d H H' ∧ Dr K H' d ∧ OutsH H' d po ps size O ∧ OutsP size (i + 1) O)
        ⟨none, _, rfl, sb1, dr1, O1, P1⟩ (fun i σ' H' hi z => ?_) (fun σ' H' z => ?_)
      · obtain ⟨x3, O, rfl, sb, dr', oh, op⟩ := z
        have hi' : i + 1 < size := by omega
        rw [show (1 : Int) + ((i : Nat) : Int) = ((i + 1 : Nat) : Int) by omega]
        refine ⟨_, rfl, _, rfl, _, rfl, _, rfl, by omega, by omega, fun D hD => ?_⟩
        rw [Int.toNat_natCast]
        refine lc_range (fun j H2 => Same H' H2 ∧ H2 D = some (.lst (natsV ((List.range j).filter fun j => decide ((O j).length < 2))))) ⟨Same.new hD, upd_same⟩ (fun j H2 hj z => ?_) (fun H2 z => ?_)
        · obtain ⟨s2, D2⟩ := z
          rw [Int.zero_add]
          have hps2 : ∃ p, ps[j]? = some p := ⟨_, List.getElem?_eq_getElem (by rw [oh.len]; omega)⟩
          obtain ⟨p, hp⟩ := hps2
          have h3 := s2 _ _ (oh.ex j p hp).2
          refine ⟨rfl, _, rfl, _, rfl, po, _, _, .ref p, rfl, rfl, .inl (.inl (s2 _ _ oh.at_)), atI_nat (by rw [List.getElem?_map, hp] <;> rfl), p, _, rfl, .inl (.inl (.inl h3)), _, _, rfl, rfl, _, rfl, ?_⟩
          have ed : decide ((((natsV (O j)).length : Nat) : Int) < 2) = decide ((O j).length < 2) := by
            rw [natsV_len, decide_eq_decide]
            omega
          rw [ed]
          by_cases e : (O j).length < 2
          · refine iteT' (decide_eq_true e) ⟨_, rfl, _, D2, small1000 ?_, Same.app s2 hD, ?_⟩
            · rw [natsV_len]
              have z := List.length_filter_le (fun j => decide ((O j).length < 2)) (List.range j)
              rw [List.length_range] at z
              omega
            · rw [upd_same, List.range_succ, List.filter_append, List.filter_cons_of_pos (by simpa using e), natsV_app] <;> rfl
          · refine iteF' (decide_eq_false e) ⟨s2, ?_⟩
            rw [List.range_succ, List.filter_append, List.filter_cons_of_neg (by simpa using e), List.filter_nil, List.append_nil]
            exact D2
        · obtain ⟨s2, D2⟩ := z
          have dr2 := dr'.ext s2
          have oh2 := oh.sb (Same.b d s2)
          obtain ⟨yd, hyd⟩ := dr'.lst
          have nD : D ≠ d := (ne_of_none hyd hD).symm
          refine ⟨d, D, _, rfl, dr2, .inl (.inl D2), nD, ?_, fun x H3 s3 dr3 hx => ?_⟩
          · intro z
            have z2 : (V.int ((i : Nat) : Int)) ∈ natsV ((List.range (i + 1)).filter fun j => decide ((O j).length < 2)) := by
              refine List.mem_map.mpr ⟨i, List.mem_filter.mpr ⟨List.mem_range.mpr (by omega), ?_⟩, rfl⟩
              rw [op.free i (by omega)]
              rfl
            rw [z] at z2
            cases z2
          · obtain ⟨j, hj, rfl⟩ := List.mem_map.mp hx
            obtain ⟨hj1, hj2⟩ := List.mem_filter.mp hj
            have hj1 := List.mem_range.mp hj1
            have hj2 := of_decide_eq_true hj2
            have oh3 := oh2.sb s3
            obtain ⟨p, hp⟩ : ∃ p, ps[j]? = some p := ⟨_, List.getElem?_eq_getElem (by rw [oh.len]; omega)⟩
            obtain ⟨pd, h3⟩ := oh3.ex j p hp
            refine ⟨po, _, _, .ref p, rfl, rfl, .inl (.inl oh3.at_), atI_nat (by rw [List.getElem?_map, hp] <;> rfl), .inl ⟨rfl, _, .inl (.inl h3)⟩, _, rfl, p, _, _, rfl, rfl, h3, small1000 (by rw [natsV_len]; omega), ?_⟩
            have hpn := hps p (List.mem_of_getElem? hp)
            have s5 := (sb.trans (Same.b d s2)).trans s3
            have s4 : SameB d H (upd H3 p (.lst (natsV (O j) ++ [.int ((i + 1 : Nat) : Int)]))) := s5.upd hpn pd
            have np : po ≠ p := by
              intro z
              have z2 := oh3.at_
              rw [z, h3] at z2
              have z3 := HO.lst.inj (Option.some.inj z2)
              have hl := oh.len
              cases ps with
              | nil => simp at hl; omega
              | cons q r =>
                cases hO : O j with
                | nil => rw [hO] at z3; cases z3
                | cons a b => rw [hO] at z3; exact V.noConfusion (List.cons.inj z3).1
            refine ⟨_, addO O j (i + 1), rfl, s4, ?_, ⟨?_, oh.len, oh.ne, oh.nd, fun q p2 hp2 => ?_⟩, op.next (by omega) hi' hj1 hj2⟩
            · exact dr.upd s5 dr3 hpn pd
            · rw [upd_ne np]
              exact oh3.at_
            · obtain ⟨z1, z2⟩ := oh3.ex q p2 hp2
              refine ⟨z1, ?_⟩
              unfold addO
              by_cases e : q = j
              · subst e
                rw [hp] at hp2
                have e2 := Option.some.inj hp2
                subst e2
                rw [if_pos rfl, upd_same, natsV_app] <;> rfl
              · rw [if_neg e, upd_ne (fun z => e ?_)]
                · exact z2
                · rw [z] at hp2
                  exact (List.getElem?_inj (List.getElem?_eq_some_iff.mp hp2).1 oh.nd).mp (by rw [hp2, hp])
      · obtain ⟨x3, O, rfl, sb, dr', oh, op⟩ := z
        rw [show (((size : Nat) : Int) - 1).toNat + 1 = size by omega] at op
        exact ⟨_, rfl, k po ps O H' sb dr' oh op⟩
end
end Rr
namespace Rr
open PySem PySem.Spec PyProof.Rows L2
theorem SameB.none {d p : Addr} {H H' : Hp} (e : SameB d H H') (n : p ≠ d) (h : H' p = none) : H p = none := by
  cases q : H p with
  | none => rfl
  | some u =>
    have z := e.off p u n q
    rw [h] at z
    cases z
theorem Rw.nl (r : Rw) : Rr.nl r.d = true := by
  show nlAll (_ :: _) = true
  refine nl_all fun d hd => ?_
  rcases List.mem_cons.mp hd with rfl | hd
  · rfl
  · obtain ⟨i, _, rfl⟩ := List.mem_map.mp hd
    rfl
theorem En.nl (e : En) : Rr.nl e.d = true := by cases e <;> rfl
theorem rws_nl (rs : List Rw) : nlAll (rs.map Rw.d) = true := nl_all fun d hd => by
  obtain ⟨r, _, rfl⟩ := List.mem_map.mp hd
  exact r.nl
theorem Bk.nl (b : Bk) : Rr.nl b.d = true := by
  show nlAll [_, _] = true
  refine nl_all fun d hd => ?_
  simp only [List.mem_cons, List.not_mem_nil, or_false] at hd
  rcases hd with rfl | rfl
  · exact rws_nl _
  · exact b.fin.nl
theorem bks_nl (bs : List Bk) : nlAll (bs.map Bk.d) = true := nl_all fun d hd => by
  obtain ⟨r, _, rfl⟩ := List.mem_map.mp hd
  exact r.nl
/-- what is drawn -/
structure Pl (many wide handed : Nat) (bs : List Bk) : Prop where
  m1 : 1 ≤ many
  m3 : many ≤ 3
  w2 : 2 ≤ wide
  w4 : wide ≤ 4
  h : handed ≤ many
  h2 : handed ≤ 2
  bks : Bks many wide bs
def plD (many wide handed : Nat) (bs : List Bk) : PyData := .tuple [.int ((many : Nat) : Int), dBks bs, .int ((handed : Nat) : Int), .int ((wide : Nat) : Int)]
theorem plD_nl (many wide handed : Nat) (bs : List Bk) : nl (plD many wide handed bs) = true := by
  show nlAll [_, _, _, _] = true
  refine nl_all fun d hd => ?_
  simp only [List.mem_cons, List.not_mem_nil, or_false] at hd
  rcases hd with rfl | rfl | rfl | rfl
  · rfl
  · exact bks_nl _
  · rfl
  · rfl
/-- the blocks made so far -/
structure MadeP (many wide size i : Nat) (O : Nat → List Nat) (bs : List Bk) : Prop where
  len : bs.length = i
  ok : ∀ b ∈ bs, b.ok many wide size
  outs : ∀ j b, bs[j]? = some b → ∀ x ∈ O j, x ∈ b.fin.outs
theorem MadeP.next {many wide size i : Nat} {O : Nat → List Nat} {bs : List Bk} (h : MadeP many wide size i O bs) {b : Bk} (hb : b.ok many wide size) (ho : ∀ x ∈ O i, x ∈ b.fin.outs) : MadeP many wide size (i + 1) O (bs ++ [b]) := by
  refine ⟨by rw [List.length_append, h.len] <;> rfl, fun x hx => ?_, fun j x hj y hy => ?_⟩
  · rcases List.mem_append.mp hx with hx | hx
    · exact h.ok x hx
    · rw [List.mem_singleton.mp hx]
      exact hb
  · by_cases e : j < bs.length
    · rw [List.getElem?_append_left e] at hj
      exact h.outs j x hj y hy
    · have e2 : j = bs.length := by
        have z := (List.getElem?_eq_some_iff.mp hj).1
        rw [List.length_append, List.length_singleton] at z
        omega
      subst e2
      rw [List.getElem?_append_right (Nat.le_refl _), Nat.sub_self] at hj
      have e3 : b = x := Option.some.inj hj
      subst e3
      rw [h.len] at hy
      exact ho y hy
theorem MadeP.bks {many wide size : Nat} {O : Nat → List Nat} {bs : List Bk} (h : MadeP many wide size size O bs) (op : OutsP size size O) (h1 : 1 ≤ size) (h2 : size ≤ 16) : Bks many wide bs := by
  have hl := h.len
  refine ⟨by omega, by omega, fun b hb => by rw [hl]; exact h.ok b hb, fun n => ?_⟩
  induction n using Nat.strongRecOn with
  | ind n ih =>
    intro hn
    by_cases e : n = 0
    · subst e
      exact .zero
    · obtain ⟨j, hj, hx⟩ := op.to n (by omega) (by omega)
      have hjl : j < bs.length := by omega
      refine .step (ih j hj hjl) ?_
      unfold outsAt
      rw [List.getElem?_eq_getElem hjl]
      exact h.outs j _ (List.getElem?_eq_getElem hjl) n hx
section
variable {P : Program} {w : World} {K : PySem.W.Frag} {mg : Str → Option Value} {base : Heap}
def sp_lplain (K : PySem.W.Frag) : Sp := fun vs H Q _ => ∃ d, vs = [.ref d, .int 7, .int 2] ∧ Dr K H d ∧ ∀ v many wide handed bs H', SameB d H H' → Dr K H' d → Dp K H' v (plD many wide handed bs) → Pl many wide handed bs → Q v H'
-- _law_plain: 0 _law_draw_here*, 1 _law_sizes, 2 _law_lengths, 3 _law_many*, 4 _law_wide*, 5 _law_size, 6 _law_outs_here, 7 _law_blocks, 8 _law_block, 9 _law_rows, 10 _law_turn
theorem sc_law_plain : FnScope ["_law_draw_here", "_law_sizes", "_law_lengths", "_law_many", "_law_wide", "_law_size", "_law_outs_here", "_law_blocks", "_law_block", "_law_rows", "_law_turn"] ["_law_draw_here", "_law_sizes", "_law_lengths"] (defScope s_law_plain) := ⟨rfl, rfl, rfl, by decide +kernel, rfl, by decide +kernel, by decide +kernel⟩
theorem ok_lplain (T : Facts w K mg) (F : FnAt K mg "_law_plain" s_law_plain) (c_law_next : Cal P w K mg base 3 "_law_next" (sp_lnext K)) (c_law_outs : Cal P w K mg base 5 "_law_outs" (sp_louts K)) (c_law_row : Cal P w K mg base 5 "_law_row" (sp_lrow K)) (c_law_end : Cal P w K mg base 4 "_law_end" (sp_lend K)) : Cal P w K mg base 6 "_law_plain" (sp_lplain K) := by
  refine cal_mk F sc_law_plain (fun _ _ _ _ _ _ us hl => match us, hl with | [_, _, _], _ => rfl) (fun vs H Q E h => ?_) (fun f cdv A outer s H vs Q E hr h => ?_)
  · obtain ⟨d, rfl, _⟩ := h
    rfl
  · obtain ⟨d, rfl, dr, k⟩ := h
    have nd := sc_law_plain.nd
    refine ⟨_, (pss_cons (ps_asg (pe_tup (pa_cons (pe_op op_add pe_int (pc c_law_next hr (by decide) (by rfl) (pa_cons (pv 0) (pa_cons pe_int pa_nil)))) (pa_cons (pe_op op_add pe_int (pc c_law_next hr (by decide) (by rfl) (pa_cons (pv 0) (pa_cons pe_int pa_nil)))) (pa_cons (pe_op op_add pe_int (pc c_law_next hr (by decide) (by rfl) (pa_cons (pv 0) (pa_cons (pv 1) pa_nil)))) pa_nil)))) (pg_tup (n := 3) rfl (pgs_cons (pg_name (i := 3) nd rfl (Or.inr rfl)) (pgs_cons (pg_name (i := 4) nd rfl (Or.inr rfl)) (pgs_cons (pg_name (i := 5) nd rfl (Or.inl rfl)) pgs_nil)))))
    (pss_cons (ps_par (i := 6) (j := 7) (by rfl) nd rfl rfl (by decide) rfl rfl (pa_cons (pc c_law_outs hr (by decide) (by rfl) (pa_cons (pv 0) (pa_cons (pv 5) pa_nil))) (pa_cons (pe_lst pa_nil) pa_nil)) (by rfl))
    (pss_cons (ps_for PassesOwn.never rfl (pi_range1 (by rfl) T.b_range (pa_cons (pv 5) pa_nil)) (pg_name (i := 8) nd rfl (Or.inl rfl)) (pss_cons (ps_setLc (i := 9) (own := [("_law_turn", 10)]) rfl nd rfl rfl (sw_true rfl rfl rfl (by decide +kernel)) (pi_range1 (by rfl) T.b_range (pa_cons (pc c_law_next hr (by decide) (by rfl) (pa_cons (pv 0) (pa_cons (pe_op op_add (pv 2) pe_int) pa_nil))) pa_nil)) (blkOk_by (own := [("_law_turn", 10)]) (by kernel_rfl)) (fun _ _ _ _ _ => (pg_name (i := 10) nd rfl (Or.inl rfl) (Or.inr rfl))) (fun _ _ _ _ _ => pts_nil) (fun _ _ _ _ _ => (pc c_law_row hr (by decide) (by rfl) (pa_cons (pv 0) (pa_cons (pv 3) (pa_cons (pv 4) pa_nil))))))
    (pss_one (ps_expr (pe_bm PySem.F.plainAttrs_list PySem.F.slot_list_append PySem.F.type_list_append mt_append (pv 7) (pa_cons (pe_tup (pa_cons (pe_callTy call_tuple_of (by rfl) T.b_tuple (by decide +kernel) (pa_cons (pv 9) pa_nil)) (pa_cons (pc c_law_end hr (by decide) (by rfl) (pa_cons (pv 0) (pa_cons (pv 3) (pa_cons (pv 5) (pa_cons (pe_ix ix_list (pv 6) (pv 8) (fun _ _ => rfl)) pa_nil))))) pa_nil))) pa_nil))))))
    (pss_one (ps_ret (pe_tup (pa_cons (pv 3) (pa_cons (pe_callTy call_tuple_of (by rfl) T.b_tuple (by decide +kernel) (pa_cons (pv 7) pa_nil)) (pa_cons (pc c_law_next hr (by decide) (by rfl) (pa_cons (pv 0) (pa_cons (pe_op op_add (pe_callB (call_min2 rfl) (by rfl) T.b_min (by decide +kernel) (pa_cons (pv 3) (pa_cons pe_int pa_nil))) pe_int) pa_nil))) (pa_cons (pv 4) pa_nil)))))))))), ?_⟩
    refine ⟨_, rfl, d, 3, rfl, dr, by omega, fun m0 H1 s1 dr1 hm => ⟨_, _, rfl, rfl, _, rfl, d, 3, rfl, dr1, by omega, fun w0 H2 s2 dr2 hw => ⟨_, _, rfl, rfl, _, rfl, _, rfl, d, 7, rfl, dr2, by omega, fun z0 H3 s3 dr3 hz => ⟨_, _, rfl, rfl, ?_⟩⟩⟩⟩
    refine ⟨line1 (by simp), fun p hp => ⟨p, _, rfl, .inl (.inl upd_same), rfl, _, _, rfl, _, _, rfl, _, _, rfl, rfl, ?_⟩⟩
    have s4 := ((s1.trans s2).trans s3).trans (Same.b d (Same.new (o := .tup [.int (1 + ((m0 : Nat) : Int)), .int (2 + ((w0 : Nat) : Int)), .int (1 + ((z0 : Nat) : Int))]) hp))
    have dr4 := dr3.ext (Same.new (o := .tup [.int (1 + ((m0 : Nat) : Int)), .int (2 + ((w0 : Nat) : Int)), .int (1 + ((z0 : Nat) : Int))]) hp)
    dsimp only
    generalize upd H3 p (.tup [.int (1 + ((m0 : Nat) : Int)), .int (2 + ((w0 : Nat) : Int)), .int (1 + ((z0 : Nat) : Int))]) = H4 at s4 dr4 ⊢
    clear s1 s2 s3 dr1 dr2 dr3 hp
    obtain ⟨many, em⟩ : ∃ many : Nat, many = m0 + 1 := ⟨_, rfl⟩
    obtain ⟨wide, ew⟩ : ∃ wide : Nat, wide = w0 + 2 := ⟨_, rfl⟩
    obtain ⟨size, ez⟩ : ∃ size : Nat, size = z0 + 1 := ⟨_, rfl⟩
    rw [show (1 : Int) + ((m0 : Nat) : Int) = ((many : Nat) : Int) by omega, show (2 : Int) + ((w0 : Nat) : Int) = ((wide : Nat) : Int) by omega, show (1 : Int) + ((z0 : Nat) : Int) = ((size : Nat) : Int) by omega]
    refine ⟨_, rfl, _, rfl, d, size, rfl, dr4, by omega, by omega, fun po ps O H5 s5 dr5 oh op => ⟨by decide, fun pb hpb => ⟨_, _, rfl, ?_⟩⟩⟩
    replace s5 := s4.trans s5
    obtain ⟨y5, hd5⟩ := dr5.lst
    have nb : pb ≠ d := (ne_of_none hd5 hpb).symm
    have hb0 : H pb = none := s5.none nb hpb
    have npo : po ≠ pb := ne_of_none oh.at_ hpb
    have nps : ∀ i q, ps[i]? = some q → q ≠ pb := fun i q hq => ne_of_none (oh.ex i q hq).2 hpb
    have s6 : SameB d H (upd H5 pb (.lst [])) := s5.upd hb0 nb
    have dr6 := dr.upd s5 dr5 (o := .lst []) hb0 nb
    have oh6 := oh.sb (Same.b d (Same.new (o := .lst []) hpb))
    have b6 : (upd H5 pb (.lst [])) pb = some (.lst []) := upd_same
    generalize upd H5 pb (.lst []) = H6 at s6 dr6 oh6 b6 ⊢
    clear oh dr5 s5 hpb hd5 s4 dr4
    refine ⟨_, rfl, _, rfl, by omega, by omega, ?_⟩
    refine for_range (fun i σ' H' => ∃ x8 x9 acc bks, σ' = [some (.ref d), some (.int 7), some (.int 2), some (.int ((many : Nat) : Int)), some (.int ((wide : Nat) : Int)), some (.int ((size : Nat) : Int)), some (.ref po), some (.ref pb), x8, x9, none] ∧
        SameB d H H' ∧ Dr K H' d ∧ OutsH H' d po ps size O ∧ H' pb = some (.lst acc) ∧ DpAll K H' acc (bks.map Bk.d) ∧ MadeP many wide size i O bks)
      ⟨none, none, [], [], rfl, s6, dr6, oh6, b6, .nil, ⟨rfl, fun b hb => (by cases hb), fun j b hb => (by simp at hb)⟩⟩ (fun i σ' H' hi z => ?_) (fun σ' H' z => ?_)
    · obtain ⟨x8, x9, acc, bks, rfl, s7, dr7, oh7, b7, da7, mp7⟩ := z
      rw [Int.toNat_natCast] at hi
      rw [Int.zero_add]
      refine ⟨_, rfl, _, rfl, _, _, rfl, rfl, d, 3, rfl, dr7, by omega, fun r8 H8 s8 dr8 hr8 => ⟨_, rfl, by omega, by omega, fun D hD => ?_⟩⟩
      obtain ⟨y8, hd8⟩ := dr8.lst
      have nD : D ≠ d := (ne_of_none hd8 hD).symm
      have s9 := s7.trans s8
      have D0 : H D = none := s9.none nD hD
      have oh8 := oh7.sb s8
      have b8 := s8.off _ _ nb b7
      have da8 := dr7.dpAll s8 (bks_nl _) da7
      have bD : pb ≠ D := ne_of_none b8 hD
      have poD : po ≠ D := ne_of_none oh8.at_ hD
      have psD : ∀ i q, ps[i]? = some q → q ≠ D := fun i q hq => ne_of_none (oh8.ex i q hq).2 hD
      refine lc_range (fun j H9 => ∃ ac rs, SameB d H8 H9 ∧ Dr K H9 d ∧ H9 D = some (.lst ac) ∧ DpAll K H9 ac (rs.map Rw.d) ∧ (∀ r ∈ rs, Rw.ok many wide r) ∧ rs.length = j)
        ⟨[], [], (SameB.refl d H8).upd hD nD, dr8.upd (SameB.refl d H8) dr8 hD nD, upd_same, .nil, fun r hr => (by cases hr), rfl⟩ (fun j H9 hj z => ?_) (fun H9 z => ?_)
      · obtain ⟨ac, rs, sa, dra, Da, dpa, oka, la⟩ := z
        refine ⟨rfl, ?_⟩
        unfold tYes
        refine iteT ?_
        refine ⟨_, rfl, _, rfl, _, rfl, d, many, wide, rfl, dra, by omega, by omega, fun v r Hb sb drb hv rok => ?_⟩
        have Db := sb.off _ _ nD Da
        have sab := sa.trans sb
        have dpb := dra.dpAll sb (rws_nl _) dpa
        have la2 := DpAll.len dpb
        rw [List.length_map] at la2
        refine ⟨ac, Db, small1000 (by omega), ac ++ [v], rs ++ [r], sab.upd hD nD, dr8.upd sab drb hD nD, upd_same, ?_, fun q hq => ?_, by rw [List.length_append, la] <;> rfl⟩
        · rw [List.map_append]
          refine dpAll_put Db ?_ (DpAll.app dpb (.cons hv .nil))
          rw [← List.map_append]
          exact rws_nl _
        · rcases List.mem_append.mp hq with hq | hq
          · exact oka q hq
          · rw [List.mem_singleton.mp hq]
            exact rok
      · obtain ⟨ac, rs, sa, dra, Da, dpa, oka, la⟩ := z
        have sb := s9.trans sa
        have ohb := oh8.sb sa
        have bb := sa.off _ _ nb b8
        have dab := dr8.dpAll sa (bks_nl _) da8
        refine ⟨_, rfl, .inl ⟨rfl, _, .inl (.inl bb)⟩, _, rfl, D, ac, rfl, .inl ⟨.inl (.inl Da), fun t ht => ?_⟩⟩
        have sN := Same.b d (Same.new (o := .tup ac) ht)
        have sc := sb.trans sN
        have drc := dra.ext (Same.new (o := .tup ac) ht)
        have ohc := ohb.sb sN
        have bc := sN.off _ _ nb bb
        have dac := dpAll_ext (Same.new (o := .tup ac) ht) dab
        have dtc : Dp K (upd H9 t (.tup ac)) (.ref t) (.tuple (rs.map Rw.d)) := .tup (.inl (.inl upd_same)) (dpAll_ext (Same.new (o := .tup ac) ht) dpa)
        generalize upd H9 t (.tup ac) = Hc at sc drc ohc bc dac dtc ⊢
        obtain ⟨q, hq⟩ : ∃ q, ps[i]? = some q := ⟨_, List.getElem?_eq_getElem (by rw [oh7.len]; omega)⟩
        refine ⟨_, rfl, _, rfl, _, rfl, _, rfl, _, rfl, po, _, _, .ref q, rfl, rfl, .inl (.inl ohc.at_), atI_nat (by rw [List.getElem?_map, hq] <;> rfl), d, q, many, size, O i, rfl, drc, (ohc.ex i q hq).2, by omega, by omega, op.two i, op.lt i, fun v e Hd sd drd hv eok esub => ⟨line1 (by simp), fun t2 ht2 => ?_⟩⟩
        have bd := sd.off _ _ nb bc
        have sN2 := Same.b d (Same.new (o := .tup [.ref t, v]) ht2)
        have dtd := drc.dp sd (by show nlAll _ = true; exact rws_nl rs) dtc
        have dad := drc.dpAll sd (bks_nl _) dac
        have be := sN2.off _ _ nb bd
        have se := (sc.trans sd).trans sN2
        have dre := drd.ext (Same.new (o := .tup [.ref t, v]) ht2)
        have ohe := (ohc.sb sd).sb sN2
        have dae := dpAll_ext (Same.new (o := .tup [.ref t, v]) ht2) dad
        have dbe : Dp K (upd Hd t2 (.tup [.ref t, v])) (.ref t2) (Bk.d ⟨rs, e⟩) := .tup (.inl (.inl upd_same)) (.cons (dp_ext (Same.new ht2) dtd) (.cons (dp_ext (Same.new ht2) hv) .nil))
        generalize upd Hd t2 (.tup [.ref t, v]) = He at se dre ohe be dae dbe ⊢
        have la3 := DpAll.len dae
        rw [List.length_map, mp7.len] at la3
        refine ⟨pb, acc, _, rfl, rfl, be, small1000 (by omega), ?_⟩
        refine ⟨_, _, acc ++ [.ref t2], bks ++ [⟨rs, e⟩], rfl, se.upd hb0 nb, dr.upd se dre hb0 nb, ?_, upd_same, ?_, mp7.next ⟨by show rs.length ≤ 12; omega, oka, eok⟩ esub⟩
        · refine ⟨by rw [upd_ne npo]; exact ohe.at_, ohe.len, ohe.ne, ohe.nd, fun j x hx => ⟨(ohe.ex j x hx).1, by rw [upd_ne (nps j x hx)]; exact (ohe.ex j x hx).2⟩⟩
        · rw [List.map_append]
          refine dpAll_put be ?_ (DpAll.app dae (.cons dbe .nil))
          rw [← List.map_append]
          exact bks_nl _
    · obtain ⟨x8, x9, acc, bks, rfl, s7, dr7, oh7, b7, da7, mp7⟩ := z
      rw [Int.toNat_natCast] at mp7
      have bk := mp7.bks op (by omega) (by omega)
      refine ⟨_, rfl, _, rfl, pb, acc, rfl, .inl ⟨.inl (.inl b7), fun t ht => ?_⟩⟩
      have sN := Same.b d (Same.new (o := .tup acc) ht)
      have sc := s7.trans sN
      have drc := dr7.ext (Same.new (o := .tup acc) ht)
      have dtc : Dp K (upd H' t (.tup acc)) (.ref t) (dBks bks) := .tup (.inl (.inl upd_same)) (dpAll_ext (Same.new (o := .tup acc) ht) da7)
      generalize upd H' t (.tup acc) = Hc at sc drc dtc ⊢
      refine ⟨_, rfl, _, rfl, _, _, rfl, _, _, rfl, rfl, d, min many 2 + 1, ?_, drc, by omega, fun hn Hd sd drd hh => ⟨_, rfl, line1 (by simp), fun q hq => ?_⟩⟩
      · show [V.ref d, V.int ((if (2 : Int) < ((many : Nat) : Int) then 2 else ((many : Nat) : Int)) + 1)] = _
        rw [show (if (2 : Int) < ((many : Nat) : Int) then 2 else ((many : Nat) : Int)) + 1 = ((min many 2 + 1 : Nat) : Int) by split <;> omega]
      · have sN2 := Same.b d (Same.new (o := .tup [.int ((many : Nat) : Int), .ref t, .int ((hn : Nat) : Int), .int ((wide : Nat) : Int)]) hq)
        refine k _ many wide hn bks _ ((sc.trans sd).trans sN2) (drd.ext (Same.new hq)) (.tup (.inl (.inl upd_same)) (.cons (.int _) (.cons ?_ (.cons (.int _) (.cons (.int _) .nil))))) ⟨by omega, by omega, by omega, by omega, by omega, by omega, bk⟩
        exact dp_ext (Same.new hq) (drc.dp sd (show nl (dBks bks) = true from bks_nl bks) dtc)
end
end Rr
/-! ### max and sorted with key=lambda a: len(fv[a]), fv a captured name -/
namespace Rr
open PySem PySem.Spec PyProof.Rows L2 LamX
section
variable {X : Cx} {pins : List (Addr × Obj)} {σ : L2.St} {H : Hp} {s : Shared}
/-- a heap that keeps all but the frame, whose names stay too -/
theorem inv_over {h : Heap} {tk : Nat} {m : Str → Option Value} (I : Inv X pins σ H s) (F : Fr X.base X.env.locals s.heap m) (F' : Fr X.base X.env.locals h m) (N : News X.base X.env.locals h (rest X.base s.heap X.env.locals X.env.locals)) : Inv X pins σ H { s with heap := h, toks := tk } := by
  have kp : ∀ b o, b ≠ X.env.locals → s.heap.get? b = some o → h.get? b = some o := fun b o n e => kept_of_news I.bk F' N b o n n e
  refine I.step (g' := s.gens) (d' := s.drawn) (ch := []) (fun _ z => nomatch z) (fun b o hb _ _ q _ => kp b o hb q) (fun b o hb _ _ q _ => ⟨o.slots, kp b o hb q⟩) (fun b o _ _ z => z) (fun b o _ q => ?_) (fun b xs q => q) (fun b o u q => q) (fun b ps q => ⟨#[], by rw [q]; simp⟩) (fun m' hn => ?_) (fun b u e => ?_) I.bare
  · by_cases hb : b = X.env.locals
    · obtain ⟨o', _, _, e', _⟩ := F'.ns
      exact ⟨o', by rw [hb]; exact e'⟩
    · exact ⟨o, kp b o hb q⟩
  · rw [SlX.ns_only hn F.ns]
    exact F'.ns
  · refine (I.hok b u e).stay (fun c v hc q => kp c v (fun z => ?_) q) (fun _ q => q) fun _ _ q => q
    have fr := I.free
    rcases hc with w | w
    · rw [← w, z, fr] at e
      cases e
    · rw [z, fr] at w
      cases w
/-- what the key looks up: the object at d under n is the list at p -/
def SubAt (X : Cx) (s : Shared) (fv one : Str) (p2 p3 p4 : Pos) (d p : Addr) (n : Int) (t : Tok) : Prop :=
  ∀ (A : Around) (env : Env) (E : Value → Shared → Prop) (Q : Value → Shared → Prop) (h : Heap) (tk : Nat), A.units + 1 < cLine → (∀ b o, s.heap.get? b = some o → h.get? b = some o) →
    wpAny (model X.prog X.w) A (eval (.Name fv p2) env) (fun o s2 => o = .ref d ∧ wpAny (model X.prog X.w) A (eval (.Name one p3) env) (fun i s3 => i = .int n t ∧ s3 = { s with heap := h, toks := tk }) E s2) E { s with heap := h, toks := tk } →
    (∀ tk', Q (.ref p) { s with heap := h, toks := tk' }) → wpAny (model X.prog X.w) A (eval (.Subscript (.Name fv p2) (.Name one p3) p4) env) Q E { s with heap := h, toks := tk }
theorem sub_list (I : Inv X pins σ H s) {fv one : Str} {p2 p3 p4 : Pos} {d p : Addr} {n : Nat} {t : Tok} {xs : List V} (hd : SqL X.K H d xs) (hx : xs[n]? = some (.ref p)) : SubAt X s fv one p2 p3 p4 d p ((n : Nat) : Int) t := by
  intro A env E Q h tk hu kp hev q
  obtain ⟨its, rv, pl, hz⟩ := I.list hd
  obtain ⟨u, hu2, ru⟩ := rv.get hx
  cases (show u = Value.ref p from ru)
  have hn : n < its.length := (List.getElem?_eq_some_iff.mp hu2).1
  have hl := rv.length
  have h63 := line63
  refine Subscript_ (wpAny_mono hev (fun o s1 z => ?_) fun _ _ x => x)
  obtain ⟨rfl, z⟩ := z
  refine wpAny_mono z (fun i s2 z2 => ?_) fun _ _ x => x
  obtain ⟨rfl, rfl⟩ := z2
  have il : h.IsList d its.toArray := pl.isList.at fun o e => kp d o e
  exact item_listR il (by omega) (by omega) (by simpa using hu2) (q tk) (by rfl)
theorem sub_dict (I : Inv X pins σ H s) {fv one : Str} {p2 p3 p4 : Pos} {d p : Addr} {n : Nat} {t : Tok} {kvs : List (Key × V)} (hd : H d = some (.dK kvs)) (hx : valV kvs (nk n) = some (.ref p)) : SubAt X s fv one p2 p3 p4 d p ((n : Nat) : Int) t := by
  intro A env E Q h tk hu kp hev q
  have hok : HOk X.prog X.w H h := I.hok.kept kp
  obtain ⟨z, hdd, vs, rel, dd⟩ := dk_rd hok (.inl hd)
  obtain ⟨w', hw, rw'⟩ := RelO.some_of (v := V.ref p) (o := valueAt vs (nk n)) (by rw [← hx]; exact rel.val (nk n))
  cases (show w' = Value.ref p from rw')
  refine subD_of PySem.F.slot_dict_getitem.lookup (fun _ _ => rfl) (wpAny_mono hev (fun o s1 z => ?_) fun _ _ x => x)
  obtain ⟨rfl, z⟩ := z
  refine wpAny_mono z (fun i s2 z2 => ?_) fun _ _ x => x
  obtain ⟨rfl, rfl⟩ := z2
  refine ⟨dd.mapOf.typeIs, ?_⟩
  exact wpAny_getItem_of (s := { s with heap := h, toks := tk }) (kV_is (k := nk n) ⟨t, rfl⟩) dd.mapOf hw (q _)
/-- the words of the key -/
structure KeyW (X : Cx) (params : Arguments) (scope : Scope) (fv one : Str) : Prop where
  kind : scope.kind = .function
  co : scope.isCoroutine = false
  gen : scope.isGenerator = false
  nocell : ∀ y ∈ scope.names, y.2 ≠ .cell
  nlen : scope.names.lookup ("len" : Str) = some .globalImplicit
  nfv : scope.names.lookup fv = some .free
  none_ : scope.names.lookup one = some .local
  free : ∀ y ∈ scope.names, y.2 = .free → X.env.scope.names.lookup y.1 = some .cell
  d1 : (fv == ("__debug__" : Str)) = false
  d2 : (fv == ("__classdict__" : Str)) = false
  d3 : (one == ("__debug__" : Str)) = false
  defs : defaultsOf params X.env = ([], [])
  bind : ∀ (q : Str) (body : Expr) (cl : List (Str × Addr)) (pm cv ctv u : Value), bindArgs (PySem.W.kla_fn "<lambda>" q params body scope cl pm cv ctv) ⟨[u], []⟩ = pure [(one, u)]
theorem KeyW.has {params : Arguments} {scope : Scope} {fv one : Str} (L : KeyW X params scope fv one) (ok : X.Ok) : ∀ y ∈ scope.names, y.2 = .free → ∃ c, X.env.cells.lookup y.1 = some c := fun y hy e => ok.has _ (.inl (L.free y hy e))
theorem KeyW.cell {params : Arguments} {scope : Scope} {fv one : Str} (L : KeyW X params scope fv one) (ok : X.Ok) {c : Addr} (hc : X.env.cells.lookup fv = some c) : (cloFrom X.env.cells scope.names []).lookup fv = some c := by
  have hy : (fv, NameKind.free) ∈ scope.names := PySem.mem_of_lookup L.nfv
  obtain ⟨c2, h2⟩ := mem_lookup (cloFrom_has (cells := X.env.cells) (acc := []) hy)
  have e2 := h2
  rcases cloFrom_mem (PySem.mem_of_lookup h2) with hm | ⟨h1, h3⟩
  · cases hm
  · have e : c2 = c := by
      rw [h3, hc] <;> rfl
    rw [e] at e2
    exact e2
/-- one call of the key -/
theorem lam_len {params : Arguments} {scope : Scope} {fv one : Str} {p1 p2 p3 p4 p5 : Pos} {f c' : Addr} {pm ctv : Value} {i : Nat} {d p : Addr} {n : Int} {t : Tok} {ys : List V} {A : Around} (I : Inv X pins σ H s) (L : KeyW X params scope fv one)
    (hf : s.heap.get? f = some (PySem.W.kla_obj "<lambda>" (X.env.qual ++ "<lambda>") params (.Call (.Name "len" p1) [.Subscript (.Name fv p2) (.Name one p3) p4] [] p5) scope (cloFrom X.env.cells scope.names []) pm c' ctv))
    (hco : H c' = some (CodeO c' (X.env.qual ++ "<lambda>"))) (hN : X.N[i]? = some fv) (hcl : X.env.scope.names.lookup fv = some .cell) (hσ : σ[i]? = some (some (.ref d))) (hm : X.mg "len" = none) (hd : A.depth < recursionLimit)
    (hu : ∀ L', (A.deeper (PySem.W.envX (X.env.qual ++ "<lambda>") scope L' f (.ref c') (cloFrom X.env.cells scope.names []))).units + 1 < cLine) (hs : SubAt X s fv one p2 p3 p4 d p n t) (hp : SqL X.K H p ys) :
    wpAny (model X.prog X.w) A (call (.ref f) [.int n t]) (fun v s2 => ∃ h' tk t', s2 = { s with heap := h', toks := tk } ∧ v = .int ((ys.length : Nat) : Int) t' ∧ ∀ b o, s.heap.get? b = some o → h'.get? b = some o) (fun _ _ => False) s := by
  obtain ⟨⟨oc, vs, t0, hoc, hdc, hvc⟩, _, _⟩ := I.hok c' _ hco
  obtain ⟨m, hn, hl⟩ := I.loc
  obtain ⟨u, ru, lk⟩ := hl i fv _ hN hσ (.inr (.inl hcl))
  cases (show u = Value.ref d from ru)
  obtain ⟨its, rv, pl, hz⟩ := I.list hp
  have hlen := rv.length
  have h63 := line63
  obtain ⟨c, hc, hcell⟩ : ∃ c, X.env.cells.lookup fv = some c ∧ s.heap.IsCell c (some (.ref d)) := by
    rcases lk with ⟨k1, _⟩ | ⟨_, c, h1, h2⟩
    · have k2 : X.env.scope.names.lookup fv = some .local := k1
      rw [hcl] at k2
      cases k2
    · exact ⟨c, h1, h2⟩
  have hcc := L.cell I.ok hc
  refine wpAny_call (PySem.W.kla_callFunE hd hf rfl L.co L.gen rfl ⟨c', oc, vs, t0, rfl, hoc, hdc, hvc⟩ ?_)
  rw [L.bind]
  refine wpAny_pure (wpAny_newFunctionEnv L.nocell (fun y hy => ?_) (fun h₁ hns hsb => ⟨I.nolimit.fresh _ hsb, ?_⟩) L.kind)
  · rw [List.mem_singleton.mp hy]
    exact L.none_
  show codeAny _ _ (.expr _ (PySem.W.envX (X.env.qual ++ "<lambda>") scope s.heap.objs.size f (.ref c') (cloFrom X.env.cells scope.names []))) _ _
  have kp : ∀ b o, s.heap.get? b = some o → h₁.get? b = some o := fun b o e => hsb.extBut b o (Nat.ne_of_lt (Heap.lt_size e)) (Heap.get?_push_of_some _ e)
  generalize hev : PySem.W.envX (X.env.qual ++ "<lambda>") scope s.heap.objs.size f (.ref c') (cloFrom X.env.cells scope.names []) = ev
  have hu' := hu s.heap.objs.size
  rw [hev] at hu'
  have ek : ev.scope.kind = .function := by
    rw [← hev]
    exact L.kind
  have el : ev.kindOf "len" = some .globalImplicit := by
    rw [← hev]
    exact L.nlen
  have ef : ev.kindOf fv = some .free := by
    rw [← hev]
    exact L.nfv
  have eo : ev.kindOf one = some .local := by
    rw [← hev]
    exact L.none_
  have ec : ev.cells.lookup fv = some c := by
    rw [← hev]
    exact hcc
  have eg : ev.globals = mainGlobals := by
    rw [← hev] <;> rfl
  have eb : ev.builtins = builtinsNs := by
    rw [← hev] <;> rfl
  have en : h₁.Ns ev.locals (fun x => ([(one, Value.int n t)] : List (Str × Value)).reverse.lookup x) := by
    rw [← hev]
    exact hns
  refine PySem.W.kla_codeExpr (wpAny_mono (?_ : wpAny _ _ _ _ (fun _ _ => False) _) (fun v s' z => z) fun e s' (z : False) => z.elim)
  obtain ⟨mb, b1, b2⟩ := I.mod.blt
  refine wpAny_Call_Name_kw (Calls.Name_function_global ek el (Calls.loadGlobal_builtin (mg := X.mg) (mb := mb) (v := .builtin "len") (by rw [eg]; exact (I.mod.glob.keeps I.bk).keeps kp) hm (by rw [eb]; exact (b1.keeps I.bk).keeps kp) ((b2 "len" (by decide)).trans (by decide +kernel)) ?_) (by decide))
  refine PyProof.Rows.callWith_builtin1 ?_
  show wpAny _ _ (spliced ((false, eval (.Subscript (.Name fv p2) (.Name one p3) p4) ev) :: [])) _ _ _
  refine Calls.spliced_cons (hs _ ev _ _ h₁ _ hu' kp ?_ fun tk' => Calls.spliced_nil ?_)
  · refine wpAny_Name (wpAny_loadName_free ek ef ec (v := .ref d) ?_ ⟨rfl, ?_⟩ L.d2) L.d1
    · obtain ⟨o, ho, hdo⟩ := hcell
      exact ⟨o, kp _ _ ho, hdo⟩
    · exact wpAny_Name (wpAny_loadName_local ek eo en (v := .int n t) (by simp [List.lookup]) ⟨rfl, rfl⟩) L.d3
  · have il : h₁.IsList p its.toArray := pl.isList.at fun o e => kp p o e
    refine Calls.call_len_list (s := { s with heap := h₁, toks := tk' }) il (by rw [List.size_toArray]; omega) ⟨h₁, _, tk' + 1, rfl, ?_, kp⟩
    rw [List.size_toArray, hlen]
/-- the object at d has under n a list of k items -/
def SubOk (K : PySem.W.Frag) (H : Hp) (d : Addr) (n k : Nat) : Prop := ∃ p ys, ((∃ xs, SqL K H d xs ∧ xs[n]? = some (.ref p)) ∨ (∃ kvs, H d = some (.dK kvs) ∧ valV kvs (nk n) = some (.ref p))) ∧ SqL K H p ys ∧ ys.length = k
/-- the key, called by max or sorted -/
theorem key_turn {params : Arguments} {scope : Scope} {fv one : Str} {p1 p2 p3 p4 p5 : Pos} {f c' : Addr} {pm ctv : Value} {i j : Nat} {d : Addr} {n k : Nat} {t : Tok} {A : Around} {h : Heap} {tk : Nat} {m : Str → Option Value} {own : List (Addr × Obj)}
    (I : Inv X pins σ H s) (F : Fr X.base X.env.locals s.heap m) (L : KeyW X params scope fv one)
    (hf : s.heap.get? f = some (PySem.W.kla_obj "<lambda>" (X.env.qual ++ "<lambda>") params (.Call (.Name "len" p1) [.Subscript (.Name fv p2) (.Name one p3) p4] [] p5) scope (cloFrom X.env.cells scope.names []) pm c' ctv))
    (hco : H c' = some (CodeO c' (X.env.qual ++ "<lambda>"))) (hN : X.N[i]? = some fv) (hcl : X.env.scope.names.lookup fv = some .cell) (hσ : σ[i]? = some (some (.ref d))) (hm : X.mg "len" = none) (hr : Room (j + 1) A) (hs : SubOk X.K H d n k)
    (F' : Fr X.base X.env.locals h m) (N' : News X.base X.env.locals h (rest X.base s.heap X.env.locals X.env.locals ++ own)) :
    wpAny (model X.prog X.w) A (call (.ref f) [.int ((n : Nat) : Int) t]) (KskEnd X.base X.env.locals m (rest X.base s.heap X.env.locals X.env.locals ++ own) ((k : Nat) : Int) { s with heap := h, toks := tk }) (fun _ _ => False) { s with heap := h, toks := tk } := by
  have N0 : News X.base X.env.locals h (rest X.base s.heap X.env.locals X.env.locals) := fun p hp => N' p (List.mem_append_left _ hp)
  have J := inv_over (tk := tk) I F F' N0
  have fL : f ≠ X.env.locals := fun z => by
    obtain ⟨o, es, ep, e, hd, _⟩ := F.ns
    rw [← z, hf] at e
    cases e
    cases hd
  have hf' := kept_of_news I.bk F' N0 f _ fL fL hf
  obtain ⟨p, ys, h1, h2, rfl⟩ := hs
  have hu : ∀ L', (A.deeper (PySem.W.envX (X.env.qual ++ "<lambda>") scope L' f (.ref c') (cloFrom X.env.cells scope.names []))).units + 1 < cLine := fun L' => by
    have z := (hr.deeper (PySem.W.envX (X.env.qual ++ "<lambda>") scope L' f (.ref c') (cloFrom X.env.cells scope.names []))).units
    omega
  have sub : SubAt X { s with heap := h, toks := tk } fv one p2 p3 p4 d p ((n : Nat) : Int) t := by
    rcases h1 with ⟨xs, a1, a2⟩ | ⟨kvs, a1, a2⟩
    · exact sub_list J a1 a2
    · exact sub_dict J a1 a2
  refine wpAny_mono (lam_len J L hf' hco hN hcl hσ hm hr.depth hu sub h2) (fun v s' z => ?_) fun _ _ z => z
  obtain ⟨h', tk', t', rfl, rfl, kp'⟩ := z
  exact ⟨h', tk', t', rfl, rfl, ⟨F'.ns.keeps kp', fun b o e => kp' _ _ (F'.keep b o e), F'.above⟩, fun q hq => ⟨kp' _ _ (N' q hq).1, (N' q hq).2⟩⟩
theorem SubOk.extN {K : PySem.W.Frag} {H1 : Hp} {d n k : Nat} (h : SubOk K H d n k) (e : ExtN H H1) : SubOk K H1 d n k := by
  have sq : ∀ {a xs}, SqL K H a xs → SqL K H1 a xs := fun {a xs} z => by
    rcases z with z | z
    · refine .inl ?_
      rcases z with z | ⟨o, z⟩
      · exact .inl (e _ _ z (by intro ps q; cases q))
      · exact .inr ⟨o, e _ _ z (by intro ps q; cases q)⟩
    · exact .inr z
  obtain ⟨p, ys, h1, h2, h3⟩ := h
  refine ⟨p, ys, ?_, sq h2, h3⟩
  rcases h1 with ⟨xs, a1, a2⟩ | ⟨kvs, a1, a2⟩
  · exact .inl ⟨xs, sq a1, a2⟩
  · exact .inr ⟨kvs, e _ _ a1 (by intro ps q; cases q), a2⟩
theorem sqL_extN {K : PySem.W.Frag} {H1 : Hp} {a : Addr} {xs : List V} (z : SqL K H a xs) (e : ExtN H H1) : SqL K H1 a xs := by
  rcases z with z | z
  · refine .inl ?_
    rcases z with z | ⟨o, z⟩
    · exact .inl (e _ _ z (by intro ps q; cases q))
    · exact .inr ⟨o, e _ _ z (by intro ps q; cases q)⟩
  · exact .inr z
/-- max(xs, key=lambda a: len(fv[a])) -/
def tMaxKey (K : PySem.W.Frag) (T : List (Addr × Str)) (i : Nat) (t : TA) : TE := fun σ H Q => t σ H fun vs H1 => ∃ l ns d, ∃ g : Nat → Nat, vs = [.ref l] ∧ SqL K H1 l (natsV ns) ∧ ns ≠ [] ∧ σ[i]? = some (some (.ref d)) ∧ Tabs T H1 ∧ (∀ n ∈ ns, SubOk K H1 d n (g n)) ∧
  ∀ M H2, ExtN H1 H2 → Tabs T H2 → M ∈ ns → (∀ a ∈ ns, g a ≤ g M) → Q (.int ((M : Nat) : Int)) H2
theorem natsV_ints (l : List Nat) : natsV l = (l.map fun (n : Nat) => (n : Int)).map V.int := by
  unfold natsV
  rw [List.map_map] <;> rfl
theorem pe_maxKey {T : List (Addr × Str)} {c P : Addr} {params : Arguments} {scope : Scope} {fv one : Str} {p p1 p2 p3 p4 p5 lpos kpos pos : Pos} {i j : Nat} {e : Expr} {t : TA} (TB : TabB X.base X.mg c P) (hcode : X.env.code = .ref c) (hmT : (P, X.env.qual ++ "<lambda>") ∈ T)
    (hu : ∀ p ∈ T, p.1 = P → p.2 = X.env.qual ++ "<lambda>") (hr : Room (j + 2) X.A) (L : KeyW X params scope fv one) (hN : X.N[i]? = some fv) (hcl : X.env.scope.names.lookup fv = some .cell) (hg : Gl X "max") (hmx : X.mg "max" = none) (hml : X.mg "len" = none) (hc : X.calm = true) (ha : PA X [e] t)
    (he : backTo pos (starEach [e] X.env) = (false, eval e X.env) :: backTo pos (starEach [] X.env) := by rfl) (hpl : (backTo pos (starEach [e] X.env)).any (·.1) = false := by rfl) :
    PE X (.Call (.Name "max" p) [e] [⟨some "key", .Lambda params (.Call (.Name "len" p1) [.Subscript (.Name fv p2) (.Name one p3) p4] [] p5) scope lpos, kpos⟩] pos) (tMaxKey X.K T i t) := by
  refine ⟨fun pins s σ H Q I h => ?_⟩
  refine wpAny_Call_Name_kw (ld_blt (u := .builtin "max") I hg hmx (by decide +kernel) ?_ (by decide) (by decide))
  refine PyProof.Rows.callWith_kw (thn (ha.run pos pins s σ H _ I h) fun us s1 ⟨vs, H1, I1, r1, q1⟩ => ?_) he hpl
  obtain ⟨l, ns, d, g, rfl, hl, hne, hσ, hT, hs, q⟩ := q1
  obtain rfl := Vals.ref1 r1
  show wpAny _ _ (evalAll ((do let v ← eval (.Lambda params _ scope lpos) X.env; standAt pos; pure v) :: [])) _ _ s1
  refine wpAny_evalAll_cons (wpAny_bind (lam_make2 I1 TB hcode hmT hu hT L.defs (L.has I1.ok) fun f c' pm ctv H2 s2 I2 eN T2 hf hfn hfr hco => wpAny_bind (wpAny_standAt (wpAny_pure ?_))))
  refine wpAny_evalAll_nil ?_
  show wpAny _ _ (call (.builtin "max") [.ref l] [(Str.ofString "key", .ref f)]) _ _ s2
  obtain ⟨m, F⟩ := I2.fr
  have N : News X.base X.env.locals s2.heap (rest X.base s2.heap X.env.locals X.env.locals) := fun p hp => news_all p (List.mem_filter.mp hp).1
  obtain ⟨its, rv, pl, hz⟩ := I2.list (sqL_extN hl eN)
  have hi : IntsAre its (ns.map fun (n : Nat) => (n : Int)) := by
    rw [natsV_ints] at rv
    exact rv.ints
  have lL : l ≠ X.env.locals := fun z => by
    obtain ⟨o, es, ep, e, hd, _⟩ := F.ns
    obtain ⟨o2, e2, c2, n2, d2⟩ := pl.isList
    rw [z, e] at e2
    cases e2
    rw [hd] at d2
    cases d2
  refine PyProof.Rows.kmk_max_letter (vs := its) (ns := ns.map fun (n : Nat) => (n : Int)) (fun z => ((g z.toNat : Nat) : Int)) (I2.ok.hd hc) F N (fun h F' N' => pl.isList.at fun o e => kept_of_news I2.bk F' N' l o lL lL e) hi ?_ (fun n t h tk own hn F' N' => ?_) (fun M t h' tk' F' N' hM hb => ?_)
  · rw [List.length_map]
    exact List.length_pos_iff.mpr hne
  · obtain ⟨n0, hn0, rfl⟩ := List.mem_map.mp hn
    rw [Int.toNat_natCast]
    exact key_turn (own := own) I2 F L hf hco hN hcl hσ hml hr.in1 ((hs n0 hn0).extN eN) F' N'
  · obtain ⟨M0, hM0, rfl⟩ := List.mem_map.mp hM
    refine ⟨.int ((M0 : Nat) : Int), H2, inv_over I2 F F' N', ⟨t, rfl⟩, q M0 H2 eN T2 hM0 fun a ha => ?_⟩
    have z := hb ((a : Nat) : Int) (List.mem_map.mpr ⟨a, ha, rfl⟩)
    simp only [Int.toNat_natCast] at z
    omega
/-- a list that came into being at D is known from now on -/
theorem inv_list {h' : Heap} {tk n : Nat} {D : Addr} {xs : List V} {its : List Value} {m : Str → Option Value} (I : Inv X pins σ H s) (F : Fr X.base X.env.locals s.heap m) (F' : Fr X.base X.env.locals h' m) (N' : News X.base X.env.locals h' ((D, PySem.W.listOf its.toArray n) :: rest X.base s.heap X.env.locals X.env.locals))
    (lt : ∀ q ∈ rest X.base s.heap X.env.locals X.env.locals, q.1 < D) (hz : xs.length ≤ sizeLine) (rv : Vals xs its) : H D = none ∧ Inv X pins σ (upd H D (.lst xs)) { s with heap := h', toks := tk } := by
  have N0 : News X.base X.env.locals h' (rest X.base s.heap X.env.locals X.env.locals) := fun p hp => N' p (List.mem_cons_of_mem _ hp)
  have J := inv_over (tk := tk) I F F' N0
  obtain ⟨dg, dL, db⟩ := N' _ List.mem_cons_self
  have noD : ∀ o, s.heap.get? D ≠ some o := fun o e => Nat.lt_irrefl _ (lt (D, o) (mem_rest dL db e dL))
  have gD : s.heap.get? D = none := by
    cases q : s.heap.get? D with
    | none => rfl
    | some o => exact absurd q (noD o)
  have hD : H D = none := I.hok.gone gD
  have ne : ∀ b u, H b = some u → b ≠ D := fun b u e z => by
    rw [z, hD] at e
    cases e
  refine ⟨hD, { J with base := ?_, free := ?_, freeC := fun x c e => ?_, pin := fun p hp => ?_, hok := fun b u e => ?_ }⟩
  · have B := J.base
    exact { B with
      free := fun b o e1 e2 e3 => by
        rw [upd_ne (fun z => ?_)]
        · exact B.free b o e1 e2 e3
        · obtain ⟨o', q⟩ := I.base.there b o e1 e3
          rw [z] at q
          exact noD o' q
      tups := fun b ys e => by
        have z := B.tups b ys e
        rw [upd_ne (ne _ _ z)]
        exact z
      frzs := fun b o u e => by
        have z := B.frzs b o u e
        rw [upd_ne (ne _ _ z)]
        exact z
      tbls := fun b ps e => by
        obtain ⟨more, z⟩ := B.tbls b ps e
        exact ⟨more, by rw [upd_ne (ne _ _ z)]; exact z⟩ }
  · rw [upd_ne dL.symm]
    exact I.free
  · obtain ⟨v, o, ho, _⟩ := I.cell x c e
    rw [upd_ne (fun z => noD o (by rw [← z]; exact ho))]
    exact I.freeC x c e
  · obtain ⟨z1, z2, z3⟩ := J.pin p hp
    obtain ⟨y1, _⟩ := I.pin p hp
    refine ⟨z1, ?_, z3⟩
    rw [upd_ne (fun z => noD p.2 (by rw [← z]; exact y1))]
    exact z2
  · by_cases hb : b = D
    · rw [hb, upd_same] at e
      cases e
      rw [hb]
      exact ⟨hz, its, n, rv, dg⟩
    · rw [upd_ne hb] at e
      exact (J.hok b u e).stay (fun c v _ q => q) (fun c q => by rw [upd_ne (ne _ _ q)]; exact q) fun c ys q => by rw [upd_ne (ne _ _ q)]; exact q
/-- sorted(xs, key=lambda a: len(fv[a])) -/
def tSortKey (K : PySem.W.Frag) (T : List (Addr × Str)) (i : Nat) (t : TA) : TE := fun σ H Q => t σ H fun vs H1 => ∃ l ns d, ∃ g : Nat → Nat, vs = [.ref l] ∧ SqL K H1 l (natsV ns) ∧ ns.length < 64 ∧ σ[i]? = some (some (.ref d)) ∧ Tabs T H1 ∧ (∀ n ∈ ns, SubOk K H1 d n (g n)) ∧
  ∀ ms p H2, ExtN H1 H2 → Tabs T H2 → H2 p = none → ms.Perm ns → ms.Pairwise (fun x y => g x ≤ g y) → Q (.ref p) (upd H2 p (.lst (natsV ms)))
theorem ints_nats : ∀ {zs : List Int}, (∀ z ∈ zs, ∃ n : Nat, z = (n : Int)) → zs = (zs.map Int.toNat).map fun (n : Nat) => (n : Int)
  | [], _ => rfl
  | z :: r, h => by
    obtain ⟨n, rfl⟩ := h z List.mem_cons_self
    rw [List.map_cons, List.map_cons, ← ints_nats fun x hx => h x (List.mem_cons_of_mem _ hx), Int.toNat_natCast]
theorem pe_sortKey {T : List (Addr × Str)} {c P : Addr} {params : Arguments} {scope : Scope} {fv one : Str} {p p1 p2 p3 p4 p5 lpos kpos pos : Pos} {i j : Nat} {e : Expr} {t : TA} (TB : TabB X.base X.mg c P) (hcode : X.env.code = .ref c) (hmT : (P, X.env.qual ++ "<lambda>") ∈ T)
    (hu : ∀ p ∈ T, p.1 = P → p.2 = X.env.qual ++ "<lambda>") (hr : Room (j + 3) X.A) (L : KeyW X params scope fv one) (hN : X.N[i]? = some fv) (hcl : X.env.scope.names.lookup fv = some .cell) (hg : Gl X "sorted") (hmx : X.mg "sorted" = none) (hml : X.mg "len" = none) (ha : PA X [e] t)
    (he : backTo pos (starEach [e] X.env) = (false, eval e X.env) :: backTo pos (starEach [] X.env) := by rfl) (hpl : (backTo pos (starEach [e] X.env)).any (·.1) = false := by rfl) :
    PE X (.Call (.Name "sorted" p) [e] [⟨some "key", .Lambda params (.Call (.Name "len" p1) [.Subscript (.Name fv p2) (.Name one p3) p4] [] p5) scope lpos, kpos⟩] pos) (tSortKey X.K T i t) := by
  refine ⟨fun pins s σ H Q I h => ?_⟩
  refine wpAny_Call_Name_kw (ld_blt (u := .builtin "sorted") I hg hmx (by decide +kernel) ?_ (by decide) (by decide))
  refine PyProof.Rows.callWith_kw (thn (ha.run pos pins s σ H _ I h) fun us s1 ⟨vs, H1, I1, r1, q1⟩ => ?_) he hpl
  obtain ⟨l, ns, d, g, rfl, hl, h64, hσ, hT, hs, q⟩ := q1
  obtain rfl := Vals.ref1 r1
  show wpAny _ _ (evalAll ((do let v ← eval (.Lambda params _ scope lpos) X.env; standAt pos; pure v) :: [])) _ _ s1
  refine wpAny_evalAll_cons (wpAny_bind (lam_make2 I1 TB hcode hmT hu hT L.defs (L.has I1.ok) fun f c' pm ctv H2 s2 I2 eN T2 hf hfn hfr hco => wpAny_bind (wpAny_standAt (wpAny_pure ?_))))
  refine wpAny_evalAll_nil ?_
  show wpAny _ _ (call (.builtin "sorted") [.ref l] [(Str.ofString "key", .ref f)]) _ _ s2
  obtain ⟨m, F⟩ := I2.fr
  have N : News X.base X.env.locals s2.heap (rest X.base s2.heap X.env.locals X.env.locals) := fun p hp => news_all p (List.mem_filter.mp hp).1
  obtain ⟨its, rv, pl, hz⟩ := I2.list (sqL_extN hl eN)
  have hi : IntsAre its (ns.map fun (n : Nat) => (n : Int)) := by
    rw [natsV_ints] at rv
    exact rv.ints
  have lL : l ≠ X.env.locals := fun z => by
    obtain ⟨o, es, ep, e, hd, _⟩ := F.ns
    obtain ⟨o2, e2, c2, n2, d2⟩ := pl.isList
    rw [z, e] at e2
    cases e2
    rw [hd] at d2
    cases d2
  refine PyProof.Rows.ksk_letter (b := false) (vs := its) (ns := ns.map fun (n : Nat) => (n : Int)) (f := .ref f) (fun z => ((g z.toNat : Nat) : Int)) F N pl.isList hi ?_ (PyProof.Rows.ksk_s1 _ _) (fun x => PyProof.Rows.ksk_l1 _ _) (fun x => PyProof.Rows.ksk_t1 f x) (fun n t h tk own hn F' N' => ?_) (fun D vs' ms c h' tk F' N' hlt hi' hlen hp hw _ => ?_)
  · rw [List.length_map]
    exact h64
  · obtain ⟨n0, hn0, rfl⟩ := List.mem_map.mp hn
    rw [Int.toNat_natCast]
    exact key_turn (own := own) I2 F L hf hco hN hcl hσ hml hr.in1.in1 ((hs n0 hn0).extN eN) F' N'
  · have ems : ms = (ms.map Int.toNat).map fun (n : Nat) => (n : Int) := ints_nats fun z hz => by
      obtain ⟨n, _, e⟩ := List.mem_map.mp (hp.mem_iff.mp hz)
      exact ⟨n, e.symm⟩
    have ev : natsV (ms.map Int.toNat) = ms.map V.int := by
      rw [natsV_ints, ← ems]
    have hml2 : (ms.map Int.toNat).length ≤ sizeLine := by
      rw [List.length_map, hlen, List.length_map]
      exact Nat.le_of_lt (small1000 (by omega))
    obtain ⟨hD, J⟩ := inv_list (tk := tk) (xs := natsV (ms.map Int.toNat)) I2 F F' N' hlt (by rw [natsV_len]; exact hml2) (by rw [ev]; exact vals_of_ints hi')
    refine ⟨.ref D, _, J, rfl, q _ D H2 eN T2 hD ?_ ?_⟩
    · have z := hp.map Int.toNat
      rw [List.map_map] at z
      have e : ns.map (Int.toNat ∘ fun (n : Nat) => (n : Int)) = ns := by
        refine (List.map_congr_left fun x _ => ?_).trans (List.map_id _)
        exact Int.toNat_natCast x
      rw [e] at z
      exact z
    · rw [List.pairwise_map]
      refine hw.imp fun {x y} z => ?_
      have z2 : ((g x.toNat : Nat) : Int) ≤ ((g y.toNat : Nat) : Int) := by simpa using z
      omega
end
end Rr
namespace Rr
open PySem PySem.Spec PyProof.Rows L2 LamX
/-! ### defs with a lambda -/
section
variable {P : Program} {w : World} {K : PySem.W.Frag} {mg : Str → Option Value} {base : Heap}
theorem cal_mkC {x : Str} {st : Stmt} {N ps : List Str} {k : Nat} {sp : Sp} (F : FnAt K mg x st) (S : FnScope N ps (defScope st))
    (hb : ∀ (kV doc pm : Value) (an : Option Addr) (cdv ct : Value) (us : List Value), us.length = ps.length → bindArgs (PySem.W.fnOf x x (defArgs st) (defBody st) (defScope st) .none kV doc pm an cdv ct) ⟨us, []⟩ = pure (ps.zip us))
    (len : ∀ vs H Q E, sp vs H Q E → vs.length = ps.length)
    (hbody : ∀ (f : Addr) (A : Around) (outer : List Env) (s : Shared) (H : Hp) (vs : List V) (Q : VK) (E : XK), Room k (A.deeper (envOfC x (defScope st) s.heap.objs.size f (.ref (He.codeOf K (x, none))))) → sp vs H Q E →
      ∃ t, PSs (cxOf CX0 P w K mg base N x (defScope st) f (.ref (He.codeOf K (x, none))) A outer s H E).nox (defBody st) t ∧ t { nx := fun _ H' => Q .non H', rt := Q } (L2.start N vs) H) : Cal P w K mg base (k + 1) x sp := by
  obtain ⟨hm, fd, F⟩ := F
  obtain ⟨oc, od, dV, kV, doc, pm, an, cdv, ct, osl, e1, lk, hcd, hD, hK⟩ := F.ex
  obtain ⟨c, rfl⟩ := He.codeIn_ref hcd
  rw [e1] at lk
  have ec : He.codeOf K (x, none) = c := He.codeOf_eq (p := (x, none)) lk rfl
  have fo : FnOk P w K mg base CX0 (k + 1) (He.ga K x) fd ps sp := by
    rw [e1]
    refine fn_of lk hcd S len fun A outer s H vs Q E hr hsp => ?_
    rw [← ec] at hr ⊢
    obtain ⟨t, h, q⟩ := hbody _ A outer s H vs Q E hr hsp
    exact ⟨t, h.nox, q⟩
  exact ⟨_, fd, ps, fo, hm, F.kp, F.bindsN hb⟩
end
/-- the two tables and their lambdas' names -/
def TLam (K : PySem.W.Frag) : List (Addr × Str) := [((He.cT K ("head_of", none)).2, "head_of.<locals>.<lambda>"), ((He.cT K ("_law_rows_right", none)).2, "_law_rows_right.<locals>.<lambda>")]
structure TabF (K : PySem.W.Frag) (mg : Str → Option Value) (base : Heap) : Prop where
  t1 : TabB base mg (He.cT K ("head_of", none)).1 (He.cT K ("head_of", none)).2
  t2 : TabB base mg (He.cT K ("_law_rows_right", none)).1 (He.cT K ("_law_rows_right", none)).2
  ne : (He.cT K ("head_of", none)).2 ≠ (He.cT K ("_law_rows_right", none)).2
theorem Same.extN {H H' : Hp} (e : Same H H') : ExtN H H' := fun b o h _ => e b o h
/-- what head_of answers -/
def HeadR (bs : List Bk) (b : Nat) (r : V) : Prop := ∃ F, Hds bs F ∧ (((∀ a ∈ F b, a = b) ∧ r = .non) ∨ ∃ M, M ∈ F b ∧ M ≠ b ∧ r = .int ((M : Nat) : Int) ∧ ∀ a ∈ F b, a ≠ b → (F a).length ≤ (F M).length)
section
variable {P : Program} {w : World} {K : PySem.W.Frag} {mg : Str → Option Value} {base : Heap}
def sp_head_of (K : PySem.W.Frag) : Sp := fun vs H Q _ => ∃ v many handed span bs b, vs = [v, .int ((b : Nat) : Int)] ∧ Pr K H v many handed span bs ∧ b < bs.length ∧ Tabs (TLam K) H ∧ ∀ r H', ExtN H H' → Tabs (TLam K) H' → HeadR bs b r → Q r H'
-- head_of: 0 program, 1 block*, 2 found*, 3 some, 4 one
theorem sc_head_of : FnScope ["program", "block", "found", "some", "one"] ["program", "block"] (defScope s_head_of) := ⟨rfl, rfl, rfl, by decide +kernel, rfl, by decide +kernel, by decide +kernel⟩
theorem ok_head_of (T : Facts w K mg) (TF : TabF K mg base) (PF : PrF K) (F : FnAt K mg "head_of" s_head_of) (c_check_block : Cal P w K mg base 3 "check_block" (sp_check_block K)) (c_heads_by_steps : Cal P w K mg base 7 "heads_by_steps" (sp_steps K)) : Cal P w K mg base 8 "head_of" (sp_head_of K) := by
  refine cal_mkC F sc_head_of (fun _ _ _ _ _ _ us hl => match us, hl with | [_, _], _ => rfl) (fun vs H Q E h => ?_) (fun f A outer s H vs Q E hr h => ?_)
  · obtain ⟨v, many, handed, span, bs, b, rfl, _⟩ := h
    rfl
  · obtain ⟨v, many, handed, span, bs, b, rfl, pr, hb, tabs, k⟩ := h
    have nd := sc_head_of.nd
    have hu := hu_of hr
    have TB := TF.t1
    have hmT : ((He.cT K ("head_of", none)).2, ("head_of.<locals>.<lambda>" : Str)) ∈ TLam K := List.mem_cons_self
    have hu2 : ∀ p ∈ TLam K, p.1 = (He.cT K ("head_of", none)).2 → p.2 = "head_of.<locals>.<lambda>" := fun p hp e => by
      simp only [TLam, List.mem_cons, List.not_mem_nil, or_false] at hp
      rcases hp with rfl | rfl
      · rfl
      · exact absurd e.symm TF.ne
    have hcode : (cxOf CX0 P w K mg base ["program", "block", "found", "some", "one"] "head_of" (defScope s_head_of) f (.ref (He.codeOf K ("head_of", none))) A outer s H E).nox.env.code = .ref (He.cT K ("head_of", none)).1 := rfl
    refine ⟨_, (pss_cons (ps_expr (pc c_check_block hr (by decide) (by rfl) (pa_cons (pv 0) (pa_cons (pv 1) pa_nil))))
    (pss_cons (ps_set (i := 2) nd rfl (Or.inr rfl) (pc c_heads_by_steps hr (by decide) (by rfl) (pa_cons (pv 0) pa_nil)))
    (pss_cons (ps_setLc (i := 3) (own := [("one", 4)]) rfl nd rfl rfl (sw_true rfl rfl rfl (by decide +kernel)) (pi_list (pe_dget hu (pv 2) (pv 1) (fun _ _ => rfl))) (blkOk_by (own := [("one", 4)]) (by kernel_rfl)) (fun _ _ _ _ _ => (pg_name (i := 4) nd rfl (Or.inl rfl) (Or.inr rfl))) (fun _ _ _ _ _ => pts_one (pt_cmpR op_ne (pv 4) (pv 1) (nomark _))) (fun _ _ _ _ _ => (pv 4)))
    (pss_one (ps_ret (pe_ifExp (pt_cmpR (op_neD hr.units) (pv 3) (pe_lst pa_nil) (nomark _)) (pe_maxKey TB hcode hmT hu2 hr (KeyW.mk rfl rfl rfl (by decide +kernel) rfl rfl rfl (show ∀ (y : Str × NameKind), y ∈ _ → _ → (defScope s_head_of).names.lookup y.1 = some .cell from by decide +kernel) rfl rfl rfl rfl (fun _ _ _ _ _ _ _ => rfl)) (i := 2) rfl rfl rfl T.b_max T.b_len rfl (pa_cons (pv 3) pa_nil)) pe_non)))))), ?_⟩
    refine ⟨_, rfl, _, rfl, _, many, handed, span, bs, b, rfl, pr, hb, _, rfl, _, many, handed, span, bs, rfl, pr, fun d F H1 e1 fd hds => ?_⟩
    obtain ⟨p, g, hp⟩ := fd.get hb
    have asc := hds.asc b hb
    have fl : (F b).length ≤ 16 := Nat.le_trans asc.len pr.ok.few
    refine ⟨_, rfl, _, rfl, d, _, rfl, g, p, rfl, ⟨_, .inl (.inl hp)⟩, fun D hD => ?_⟩
    refine lc_list_fm (xs := natsV (F b)) (fun v => match v with
      | .int i => !decide (i = ((b : Nat) : Int))
      | _ => false) (fun v => v) (.inl (.inl hp)) (by rw [natsV_len]; omega) hD (fun x => rfl) (fun x hx H2 Q2 e2 q2 => ?_) (fun x hx _ H2 Q2 e2 q2 => ⟨_, rfl, q2 _ (Same.refl _)⟩) (fun H2 e2 D2 => ?_)
    · obtain ⟨a, ha, rfl⟩ := List.mem_map.mp hx
      refine ⟨_, rfl, _, rfl, rfl, _, rfl, ?_⟩
      have z : Q2 (!decide (((a : Nat) : Int) = ((b : Nat) : Int))) H2 := q2 H2 (Same.refl _)
      rw [show decide (((a : Nat) : Int) = ((b : Nat) : Int)) = decide (V.int ((a : Nat) : Int) = V.int ((b : Nat) : Int)) by
        rw [int_eq_nat, decide_eq_decide]
        omega] at z
      exact z
    · rw [filter_nats (F b) (fun a => !decide (a = b)) _ (fun a => by
        show (!decide (((a : Nat) : Int) = ((b : Nat) : Int))) = _
        refine congrArg (!·) ?_
        rw [decide_eq_decide]
        omega)] at D2
      have m2 : ∀ a, a ∈ (F b).filter (fun a => !decide (a = b)) ↔ a ∈ F b ∧ a ≠ b := fun a => by
        rw [List.mem_filter]
        simp
      generalize (F b).filter (fun a => !decide (a = b)) = l at D2 m2
      have s2 := e1.trans e2
      have fd2 := fd.ext e2
      refine ⟨_, rfl, by decide, fun q hq => ⟨.list (natsD l), .list (natsD []), .lst (.inl (.inl ((Same.new hq) _ _ D2))) (natsD_dp l), .lst (.inl (.inl upd_same)) .nil, natsD_sh _, natsD_sh _, _, rfl, ?_⟩⟩
      have s3 := s2.trans (Same.new (o := .lst []) hq)
      have fd3 := fd2.ext (Same.new (o := .lst []) hq)
      have D3 := (Same.new (o := .lst []) hq) _ _ D2
      rw [natsD_eqv]
      by_cases el : l = []
      · refine iteF' (by rw [decide_eq_true el] <;> rfl) ?_
        refine k _ _ (Same.extN s3) (tabs.ext s3) ⟨F, hds, .inl ⟨fun a ha => ?_, rfl⟩⟩
        by_cases q2 : a = b
        · exact q2
        · have z := (m2 a).mpr ⟨ha, q2⟩
          rw [el] at z
          cases z
      · refine iteT' (by rw [decide_eq_false el] <;> rfl) ?_
        refine ⟨_, rfl, D, l, d, fun a => (F a).length, rfl, .inl (.inl D3), el, rfl, tabs.ext s3, fun a ha => ?_, fun M H4 e4 T4 hM hb4 => ?_⟩
        · have hab : a < bs.length := asc.lt ((m2 a).mp ha).1
          obtain ⟨kvs, d1, _, d3⟩ := fd3.ex
          obtain ⟨p2, v2, h2⟩ := d3 a hab
          exact ⟨p2, natsV (F a), .inr ⟨kvs, d1, v2⟩, .inl (.inl h2), natsV_len _⟩
        · obtain ⟨hM1, hM2⟩ := (m2 M).mp hM
          exact k _ _ ((Same.extN s3).trans e4) T4 ⟨F, hds, .inr ⟨M, hM1, hM2, rfl, fun a ha ne => hb4 a ((m2 a).mpr ⟨ha, ne⟩)⟩⟩
end
end Rr
/-! ### the plain law: a block's heads by their count -/
namespace Rr
open PySem PySem.Spec PyProof.Rows L2
section
variable {bs : List Bk} {many span : Nat} {F : Nat → List Nat} {b : Nat} {ms : List Nat}
theorem Hds.sub (h : Hds bs F) {a c : Nat} (ha : a < bs.length) (hc : c < bs.length) (d : Dm bs c a) : ∀ x ∈ F c, x ∈ F a := fun x hx => (h.iff a ha x).mpr (Dm.trans d ((h.iff c hc x).mp hx))
theorem Hds.same (h : Hds bs F) (ok : Bks many span bs) {a c : Nat} (ha : a < bs.length) (hc : c < bs.length) (d : Dm bs c a) (l : (F a).length ≤ (F c).length) : a = c := by
  have sb := h.sub ha hc d
  have ia : a ∈ F c := by
    by_cases q : a ∈ F c
    · exact q
    · have nd : (a :: F c).Nodup := List.nodup_cons.mpr ⟨q, (h.asc c hc).nodup⟩
      have z := sub_len nd (b := F a) fun y hy => by
        rcases List.mem_cons.mp hy with rfl | hy
        · exact (h.iff _ ha _).mpr Dm.self
        · exact sb y hy
      rw [List.length_cons] at z
      omega
  exact Dm.anti (ok.wk hc) ((h.iff c hc a).mp ia) d
/-- the heads of b in the order of their counts -/
structure Ord (bs : List Bk) (F : Nat → List Nat) (b : Nat) (ms : List Nat) : Prop where
  perm : ms.Perm (F b)
  le : ms.Pairwise fun x y => (F x).length ≤ (F y).length
theorem Ord.mem (o : Ord bs F b ms) {x : Nat} : x ∈ ms ↔ x ∈ F b := o.perm.mem_iff
theorem Ord.nodup (o : Ord bs F b ms) (h : Hds bs F) (hb : b < bs.length) : ms.Nodup := o.perm.nodup_iff.mpr (h.asc b hb).nodup
theorem Ord.at (o : Ord bs F b ms) (h : Hds bs F) (ok : Bks many span bs) (hb : b < bs.length) {i : Nat} (hi : i < ms.length) (c : Nat) : c ∈ F ms[i] ↔ c ∈ ms.take (i + 1) := by
  have asc := h.asc b hb
  have lt : ∀ {x}, x ∈ ms → x < bs.length := fun {x} hx => asc.lt (o.mem.mp hx)
  have hin : ms[i] ∈ ms := List.getElem_mem hi
  have hal := lt hin
  have dab := (h.iff b hb _).mp (o.mem.mp hin)
  have pw := List.pairwise_iff_getElem.mp o.le
  rw [List.mem_take_iff_getElem]
  constructor
  · intro hc
    have dca := (h.iff _ hal c).mp hc
    have hcm : c ∈ ms := o.mem.mpr ((h.iff b hb c).mpr (Dm.trans dab dca))
    obtain ⟨j, hj, e⟩ := List.getElem_of_mem hcm
    by_cases q : j < i + 1
    · exact ⟨j, by omega, e⟩
    · have l := pw i j hi hj (by omega)
      rw [e] at l
      have z := h.same ok hal (lt hcm) dca l
      refine ⟨i, by omega, z⟩
  · rintro ⟨j, hj, e⟩
    have hjl : j < ms.length := by omega
    have hcm : c ∈ ms := by
      rw [← e]
      exact List.getElem_mem _
    have dcb := (h.iff b hb c).mp (o.mem.mp hcm)
    rcases Dm.chain (ok.wk hb) dcb dab with d | d
    · exact (h.iff _ hal c).mpr d
    · have l : (F c).length ≤ (F ms[i]).length := by
        by_cases q : j = i
        · subst q
          rw [← e]
          exact Nat.le_refl _
        · have z := pw j i hjl hi (by omega)
          rw [e] at z
          exact z
      have z := h.same ok (lt hcm) hal d l
      rw [← z]
      exact (h.iff c (lt hcm) c).mpr Dm.self
theorem Ord.cnt (o : Ord bs F b ms) (h : Hds bs F) (ok : Bks many span bs) (hb : b < bs.length) {i : Nat} (hi : i < ms.length) : (F ms[i]).length = i + 1 := by
  have asc := h.asc b hb
  have hal : ms[i] < bs.length := asc.lt (o.mem.mp (List.getElem_mem hi))
  have nd := (o.nodup h hb).sublist (List.take_sublist (i + 1) ms)
  have l : (ms.take (i + 1)).length = i + 1 := by
    rw [List.length_take]
    omega
  have z1 := sub_len (h.asc _ hal).nodup fun x hx => (o.at h ok hb hi x).mp hx
  have z2 := sub_len nd fun x hx => (o.at h ok hb hi x).mpr hx
  omega
theorem Ord.one (o : Ord bs F b ms) (h : Hds bs F) (hb : b < bs.length) : 1 ≤ ms.length := List.length_pos_of_mem (o.mem.mpr ((h.iff b hb b).mpr Dm.self))
theorem Ord.last (o : Ord bs F b ms) (h : Hds bs F) (ok : Bks many span bs) (hb : b < bs.length) : ms[ms.length - 1]? = some b := by
  have l := o.one h hb
  have hi : ms.length - 1 < ms.length := by omega
  rw [List.getElem?_eq_getElem hi]
  have hal : ms[ms.length - 1] < bs.length := (h.asc b hb).lt (o.mem.mp (List.getElem_mem hi))
  have ib : b ∈ F ms[ms.length - 1] := (o.at h ok hb hi b).mpr (by
    rw [show ms.length - 1 + 1 = ms.length by omega, List.take_length]
    exact o.mem.mpr ((h.iff b hb b).mpr Dm.self))
  exact congrArg some (Dm.anti (ok.wk hb) ((h.iff b hb _).mp (o.mem.mp (List.getElem_mem hi))) ((h.iff _ hal b).mp ib))
theorem Ord.first (o : Ord bs F b ms) (h : Hds bs F) (ok : Bks many span bs) (hb : b < bs.length) : ms[0]? = some 0 := by
  have l := o.one h hb
  rw [List.getElem?_eq_getElem l]
  have hal : ms[0] < bs.length := (h.asc b hb).lt (o.mem.mp (List.getElem_mem l))
  have iz : 0 ∈ ms.take (0 + 1) := (o.at h ok hb l 0).mp ((h.iff _ hal 0).mpr Dm.zero)
  rw [List.mem_take_iff_getElem] at iz
  obtain ⟨j, hj, e⟩ := iz
  have hj0 : j = 0 := by omega
  subst hj0
  rw [e]
theorem Ord.sorted (o : Ord bs F b ms) (h : Hds bs F) (ok : Bks many span bs) (hb : b < bs.length) {i : Nat} (hi : i < ms.length) {ns : List Nat} (hp : ns.Perm (ms.take (i + 1))) (hs : ns.Pairwise (· ≤ ·)) : ns = F ms[i] := by
  have hal : ms[i] < bs.length := (h.asc b hb).lt (o.mem.mp (List.getElem_mem hi))
  have asc := h.asc _ hal
  have nd := (o.nodup h hb).sublist (List.take_sublist (i + 1) ms)
  have p2 : ns.Perm (F ms[i]) := by
    refine hp.trans ((List.perm_ext_iff_of_nodup nd asc.nodup).mpr fun x => ?_)
    exact (o.at h ok hb hi x).symm
  exact p2.eq_of_pairwise (fun a b _ _ h1 h2 => Nat.le_antisymm h1 h2) hs (asc.sorted.imp fun {a b} z => Nat.le_of_lt z)
/-- head_of's answer -/
theorem Ord.head (o : Ord bs F b ms) (h : Hds bs F) (ok : Bks many span bs) (hb : b < bs.length) (h0 : b ≠ 0) {M : Nat} (hM : M ∈ F b) (hne : M ≠ b) (best : ∀ a ∈ F b, a ≠ b → (F a).length ≤ (F M).length) : 2 ≤ ms.length ∧ ms[ms.length - 2]? = some M := by
  have l2 : 2 ≤ ms.length := by
    have nd : [0, b].Nodup := by simp [Ne.symm h0]
    have z := sub_len nd (b := ms) fun x hx => by
      simp only [List.mem_cons, List.not_mem_nil, or_false] at hx
      rcases hx with rfl | rfl
      · exact o.mem.mpr ((h.iff b hb 0).mpr Dm.zero)
      · exact o.mem.mpr ((h.iff _ hb _).mpr Dm.self)
    simpa using z
  refine ⟨l2, ?_⟩
  have hi : ms.length - 2 < ms.length := by omega
  have last := o.last h ok hb
  obtain ⟨hl, el⟩ := List.getElem?_eq_some_iff.mp last
  have nd := o.nodup h hb
  obtain ⟨j, hj, ej⟩ := List.getElem_of_mem (o.mem.mpr hM)
  have cj := o.cnt h ok hb hj
  have ci := o.cnt h ok hb hi
  rw [ej] at cj
  have inb : ms[ms.length - 2] ≠ b := fun z => by
    have z2 : ms[ms.length - 2] = ms[ms.length - 1] := z.trans el.symm
    have z3 := (List.getElem?_inj (j := ms.length - 1) hi nd).mp (by rw [List.getElem?_eq_getElem hi, List.getElem?_eq_getElem hl, z2])
    omega
  have bst := best _ (o.mem.mp (List.getElem_mem hi)) inb
  have jn : j ≠ ms.length - 1 := fun z => by
    subst z
    exact hne (ej.symm.trans el)
  have ej2 : j = ms.length - 2 := by omega
  subst ej2
  rw [List.getElem?_eq_getElem hi, ej]
theorem Ord.zero (h : Hds bs F) (hb : 0 < bs.length) : ∀ a ∈ F 0, a = 0 := fun a ha => by
  have z := (h.iff 0 hb a).mp ha _ .zero
  exact List.mem_singleton.mp z
theorem Hds.uniq {G : Nat → List Nat} (h : Hds bs F) (g : Hds bs G) (hb : b < bs.length) : F b = G b := (h.asc b hb).ext (g.asc b hb) fun x => (h.iff b hb x).trans (g.iff b hb x).symm
end
end Rr
namespace Rr
open PySem PySem.Spec PyProof.Rows L2 LamX
/-- for over enumerate of a list that stays -/
theorem for_enumL {K : PySem.W.Frag} {a : Addr} {xs : List V} {g : TG} {tb : TS} {D : Ends} {σ : L2.St} {H : Hp} (Pv : Nat → L2.St → Hp → Prop) (z0 : Pv 0 σ H) (zl : ∀ i σ H, i ≤ xs.length → Pv i σ H → SqL K H a xs)
    (zs : ∀ i x σ H T, xs[i]? = some x → Pv i σ H → H T = none → g (.ref T) σ (upd H T (.tup [.int (i : Nat), x])) fun σ2 H2 => tb { D with nx := Pv (i + 1), ct := Pv (i + 1), bk := D.nx } σ2 H2) (zd : ∀ σ H, Pv xs.length σ H → D.nx σ H) :
    ∃ W : Nat → Nat → L2.St → Hp → Prop, (∃ m, W 0 m σ H) ∧ ∀ i m σ H, W i m σ H →
      ((Ite K a).stop i H ∧ D.nx σ H) ∨ ((Ite K a).go i H ∧ ∃ N : L2.St → Hp → Prop, (∀ σ' H', N σ' H' → ∃ m', m' < m ∧ W (i + 1) m' σ' H') ∧ ∀ x H', (Ite K a).yld i H x H' → g x σ H' fun σ2 H2 => tb { D with nx := N, ct := N, bk := D.nx } σ2 H2) := by
  refine ⟨fun i m σ H => m = xs.length - i ∧ i ≤ xs.length ∧ Pv i σ H, ⟨xs.length, by simp, Nat.zero_le _, z0⟩, ?_⟩
  rintro i m σ H ⟨rfl, le, z⟩
  have sq := zl i σ H le z
  rcases Nat.lt_or_ge i xs.length with lt | ge
  · refine .inr ⟨⟨xs, xs[i], sq, by simp [lt]⟩, Pv (i + 1), fun σ' H' z' => ⟨xs.length - (i + 1), by omega, rfl, lt, z'⟩, fun v H' y => ?_⟩
    obtain ⟨T, x, rfl, hT, rfl, hx⟩ := y
    exact zs i x σ _ T (hx xs sq) z hT
  · have en : i = xs.length := by omega
    subst en
    exact .inl ⟨⟨xs, sq, Nat.le_refl _⟩, zd σ H z⟩
/-- a comprehension over it -/
theorem lc_enumL {K : PySem.W.Frag} {a : Addr} {xs : List V} {g : TG} {tt : TT} {te : TE} {vs : List Nat} {σ : L2.St} {H1 : Hp} {D : Addr} {Qd : Hp → Prop} (Pv : Nat → Hp → Prop) (z0 : Pv 0 (upd H1 D (.lst []))) (zl : ∀ i H, i ≤ xs.length → Pv i H → SqL K H a xs)
    (zs : ∀ i x H T, xs[i]? = some x → Pv i H → H T = none → g (.ref T) (wipe σ vs) (upd H T (.tup [.int (i : Nat), x])) fun σ2 H2 => wipe σ2 vs = wipe σ vs ∧ tt σ2 H2 fun b H3 =>
      if b = true then te σ2 H3 fun y H4 => ∃ acc, H4 D = some (.lst acc) ∧ acc.length < sizeLine ∧ Pv (i + 1) (upd H4 D (.lst (acc ++ [y]))) else Pv (i + 1) H3) (zd : ∀ H, Pv xs.length H → Qd H) :
    ∃ W : Nat → Nat → Hp → Prop, (∃ m, W 0 m (upd H1 D (.lst []))) ∧ ∀ i m H, W i m H →
      ((Ite K a).stop i H ∧ Qd H) ∨ ((Ite K a).go i H ∧ ∃ Nx : Hp → Prop, (∀ H', Nx H' → ∃ m', m' < m ∧ W (i + 1) m' H') ∧ ∀ x H', (Ite K a).yld i H x H' → g x (wipe σ vs) H' fun σ2 H2 => wipe σ2 vs = wipe σ vs ∧ tt σ2 H2 fun b H3 =>
        if b = true then te σ2 H3 fun y H4 => ∃ acc, H4 D = some (.lst acc) ∧ acc.length < sizeLine ∧ Nx (upd H4 D (.lst (acc ++ [y]))) else Nx H3) := by
  refine ⟨fun i m H => m = xs.length - i ∧ i ≤ xs.length ∧ Pv i H, ⟨xs.length, by simp, Nat.zero_le _, z0⟩, ?_⟩
  rintro i m H ⟨rfl, le, z⟩
  have sq := zl i H le z
  rcases Nat.lt_or_ge i xs.length with lt | ge
  · refine .inr ⟨⟨xs, xs[i], sq, by simp [lt]⟩, Pv (i + 1), fun H' z' => ⟨xs.length - (i + 1), by omega, rfl, lt, z'⟩, fun v H' y => ?_⟩
    obtain ⟨T, x, rfl, hT, rfl, hx⟩ := y
    exact zs i x _ T (hx xs sq) z hT
  · have en : i = xs.length := by omega
    subst en
    exact .inl ⟨⟨xs, sq, Nat.le_refl _⟩, zd H z⟩
/-- the list at pr of the lists of F's rows -/
structure RowsH (H : Hp) (pr n : Nat) (F : Nat → List Nat) : Prop where
  ex : ∃ xs : List V, H pr = some (.lst xs) ∧ xs.length = n ∧ ∀ b, b < n → ∃ p, xs[b]? = some (.ref p) ∧ H p = some (.lst (natsV (F b)))
theorem RowsH.extN {H H' : Hp} {pr n : Nat} {F : Nat → List Nat} (h : RowsH H pr n F) (e : ExtN H H') : RowsH H' pr n F := by
  obtain ⟨xs, h1, h2, h3⟩ := h.ex
  exact ⟨xs, e _ _ h1 (by intro ps z; cases z), h2, fun b hb => by
    obtain ⟨p, h4, h5⟩ := h3 b hb
    exact ⟨p, h4, e _ _ h5 (by intro ps z; cases z)⟩⟩
theorem Ord.lens {bs : List Bk} {many span b : Nat} {F : Nat → List Nat} {ms : List Nat} (o : Ord bs F b ms) (h : Hds bs F) (ok : Bks many span bs) (hb : b < bs.length) : ms.map (fun a => (F a).length) = (List.range ms.length).map (· + 1) := by
  refine List.ext_getElem (by rw [List.length_map, List.length_map, List.length_range]) fun i h1 h2 => ?_
  rw [List.length_map] at h1
  rw [List.getElem_map, List.getElem_map, List.getElem_range]
  exact o.cnt h ok hb h1
theorem at_back {xs : List V} {k : Nat} {x : V} (h1 : 1 ≤ k) (h2 : k ≤ xs.length) (h : xs[xs.length - k]? = some x) : atI xs (-(k : Int)) = some x := by
  have e : ixN xs.length (-(k : Int)) = some (xs.length - k) := by
    unfold ixN
    rw [if_neg (by omega), if_pos (by omega)]
    exact congrArg some (by omega)
  unfold atI
  rw [e]
  exact h
theorem rg_from (m : Nat) : rgV 1 (((m : Nat) : Int) + 1) = natsV ((List.range m).map (· + 1)) := by
  unfold rgV natsV
  rw [show (((m : Nat) : Int) + 1 - 1).toNat = m by omega, List.map_map]
  exact List.map_congr_left fun i _ => congrArg V.int (by show (1 : Int) + ((i : Nat) : Int) = ((i + 1 : Nat) : Int); omega)
theorem map_nats (ms : List Nat) (g : Nat → Nat) (f : V → V) (h : ∀ a, f (.int ((a : Nat) : Int)) = .int ((g a : Nat) : Int)) : (natsV ms).map f = natsV (ms.map g) := by
  unfold natsV
  rw [List.map_map, List.map_map]
  exact List.map_congr_left fun a _ => h a
theorem Rd.extN {H H' : Hp} {a : Addr} {u : HO} (e : ExtN H H') (n : ∀ ps, u ≠ .tbl ps) (h : Rd H a u) : Rd H' a u := by
  rcases h with h | ⟨o, h⟩
  · exact .inl (e _ _ h n)
  · exact .inr ⟨o, e _ _ h (by intro ps z; cases z)⟩
theorem SqT.extN {K : PySem.W.Frag} {H H' : Hp} {a : Addr} {xs : List V} (e : ExtN H H') (h : SqT K H a xs) : SqT K H' a xs := by
  rcases h with h | h
  · exact .inl (Rd.extN e (by intro ps z; cases z) h)
  · exact .inr h
mutual
theorem dp_extN {K : PySem.W.Frag} {H H' : Hp} (e : ExtN H H') : ∀ {v : V} {d : PyData}, Dp K H v d → Dp K H' v d
  | _, _, .non => .non
  | _, _, .bl b => .bl b
  | _, _, .int i => .int i
  | _, _, .str x => .str x
  | _, _, .lst hs ha => .lst (sqL_extN hs e) (dpAll_extN e ha)
  | _, _, .tup hs ha => .tup (SqT.extN e hs) (dpAll_extN e ha)
theorem dpAll_extN {K : PySem.W.Frag} {H H' : Hp} (e : ExtN H H') : ∀ {vs : List V} {ds : List PyData}, DpAll K H vs ds → DpAll K H' vs ds
  | _, _, .nil => .nil
  | _, _, .cons h t => .cons (dp_extN e h) (dpAll_extN e t)
end
theorem Pr.extN {K : PySem.W.Frag} {H H' : Hp} {v : V} {many handed span : Nat} {bs : List Bk} (e : ExtN H H') (h : Pr K H v many handed span bs) : Pr K H' v many handed span bs := by
  obtain ⟨⟨a, dx, vb, e1, h1, h2⟩, ok⟩ := h
  refine ⟨⟨a, dx, vb, e1, ?_, dp_extN e h2⟩, ok⟩
  rcases h1 with ⟨z1, z2⟩ | ⟨z1, z2⟩
  · exact .inl ⟨e _ _ z1 (by intro ps z; cases z), z2⟩
  · exact .inr ⟨e _ _ z1 (by intro ps z; unfold SlX.SlO at z; cases z), e _ _ z2 (by intro ps z; cases z)⟩
section
variable {P : Program} {w : World} {K : PySem.W.Frag} {mg : Str → Option Value} {base : Heap}
def sp_rows_right (K : PySem.W.Frag) : Sp := fun vs H Q _ => ∃ v pr many handed span bs F, vs = [v, .ref pr] ∧ Pr K H v many handed span bs ∧ RowsH H pr bs.length F ∧ Hds bs F ∧ Tabs (TLam K) H ∧ ∀ H', ExtN H H' → Tabs (TLam K) H' → Q (.bl true) H'
-- _law_rows_right: 0 _law_program, 1 _law_rows*, 2 _law_block, 3 _law_some, 4 _law_order*, 5 _law_one, 6 _law_at
theorem sc_law_rows_right : FnScope ["_law_program", "_law_rows", "_law_block", "_law_some", "_law_order", "_law_one", "_law_at"] ["_law_program", "_law_rows"] (defScope s_law_rows_right) := ⟨rfl, rfl, rfl, by decide +kernel, rfl, by decide +kernel, by decide +kernel⟩
theorem ok_rows_right (T : Facts w K mg) (TF : TabF K mg base) (F : FnAt K mg "_law_rows_right" s_law_rows_right) (c_head_of : Cal P w K mg base 8 "head_of" (sp_head_of K)) : Cal P w K mg base 9 "_law_rows_right" (sp_rows_right K) := by
  refine cal_mkC F sc_law_rows_right (fun _ _ _ _ _ _ us hl => match us, hl with | [_, _], _ => rfl) (fun vs H Q E h => ?_) (fun f A outer s H vs Q E hr h => ?_)
  · obtain ⟨v, pr, many, handed, span, bs, F, rfl, _⟩ := h
    rfl
  · obtain ⟨v, pr, many, handed, span, bs, F, rfl, hpr, hrow, hds, tabs, k⟩ := h
    have nd := sc_law_rows_right.nd
    have hu := hu_of hr
    have TB := TF.t2
    have hmT : ((He.cT K ("_law_rows_right", none)).2, ("_law_rows_right.<locals>.<lambda>" : Str)) ∈ TLam K := List.mem_cons_of_mem _ List.mem_cons_self
    have hu2 : ∀ p ∈ TLam K, p.1 = (He.cT K ("_law_rows_right", none)).2 → p.2 = "_law_rows_right.<locals>.<lambda>" := fun p hp e => by
      simp only [TLam, List.mem_cons, List.not_mem_nil, or_false] at hp
      rcases hp with rfl | rfl
      · exact absurd e TF.ne
      · rfl
    have hcode : (cxOf CX0 P w K mg base ["_law_program", "_law_rows", "_law_block", "_law_some", "_law_order", "_law_one", "_law_at"] "_law_rows_right" (defScope s_law_rows_right) f (.ref (He.codeOf K ("_law_rows_right", none))) A outer s H E).nox.env.code = .ref (He.cT K ("_law_rows_right", none)).1 := rfl
    refine ⟨_, (pss_cons (ps_for PassesOwn.never rfl (pi_enum (by rfl) T.b_enumerate (pa_cons (pv 1) pa_nil)) (pg_tup (n := 2) rfl (pgs_cons (pg_name (i := 2) nd rfl (Or.inl rfl)) (pgs_cons (pg_name (i := 3) nd rfl (Or.inl rfl)) pgs_nil))) (pss_cons (ps_set (i := 4) nd rfl (Or.inr rfl) (pe_sortKey TB hcode hmT hu2 hr (KeyW.mk rfl rfl rfl (by decide +kernel) rfl rfl rfl (show ∀ (y : Str × NameKind), y ∈ _ → _ → (defScope s_law_rows_right).names.lookup y.1 = some .cell from by decide +kernel) rfl rfl rfl rfl (fun _ _ _ _ _ _ _ => rfl)) (i := 1) rfl rfl rfl T.b_sorted T.b_len (pa_cons (pv 3) pa_nil)))
    (pss_cons (ps_if (pt_cmpR (op_neD hr.units) (pe_lc (own := [("_law_one", 5)]) rfl nd (pi_list (pv 4)) (blkOk_by (own := [("_law_one", 5)]) (by kernel_rfl)) (fun _ _ _ _ _ => (pg_name (i := 5) nd rfl (Or.inl rfl) (Or.inr rfl))) (fun _ _ _ _ _ => pts_nil) (fun _ _ _ _ _ => (pe_callB (call_lenK (K := K) rfl) (by rfl) T.b_len (by decide +kernel) (pa_cons (pe_ix (ix_listK (K := K) rfl) (pv 1) (pv 5) (fun _ _ => rfl)) pa_nil)))) (pe_listRg rfl (by rfl) T.b_list (prg_2 (by rfl) T.b_range pe_int (pe_op op_add (pe_callB call_len_seq (by rfl) T.b_len (by decide +kernel) (pa_cons (pv 4) pa_nil)) pe_int))) (nomark _)) (pss_one (ps_ret pe_bl)) pss_nil)
    (pss_cons (ps_if (pt_not (pt_val (pe_callB (cr_all rfl) (by rfl) T.b_all (by decide +kernel) (pa_cons (pe_lc (own := [("_law_at", 6), ("_law_one", 5)]) rfl nd (pi_enum (by rfl) T.b_enumerate (pa_cons (pv 4) pa_nil)) (blkOk_by (own := [("_law_at", 6), ("_law_one", 5)]) (by kernel_rfl)) (g := gTup K 2 (gCons (gName 6) (gCons (gName 5) gNil))) (fun _ _ _ _ _ => (pg_tup (n := 2) rfl (pgs_cons (pg_name (i := 6) nd rfl (Or.inl rfl) (Or.inr rfl)) (pgs_cons (pg_name (i := 5) nd rfl (Or.inl rfl) (Or.inr rfl)) pgs_nil)))) (fun _ _ _ _ _ => pts_nil) (fun _ _ _ _ _ => (pe_cmpR (op_eqDK (K := K) rfl hr.units) (pe_callB (cr_sortedK (K := K) rfl) (by rfl) T.b_sorted (by decide +kernel) (pa_cons (pe_slice (sl_listK (K := K) rfl) (pv 4) po_none (po_some (pe_op op_add (pv 6) pe_int))) pa_nil)) (pe_ix (ix_listK (K := K) rfl) (pv 1) (pv 5) (fun _ _ => rfl)) (nomark _)))) pa_nil)))) (pss_one (ps_ret pe_bl)) pss_nil)
    (pss_cons (ps_if (PW.pt (pw_or (pt_cmpR op_ne (pe_ix ix_list (pv 4) (pe_un un_neg pe_int) (fun _ _ => rfl)) (pv 2) (nomark _)) (pw_or1 (pt_cmpR op_ne (pe_ix ix_list (pv 4) pe_int (fun _ _ => rfl)) pe_int (nomark _))))) (pss_one (ps_ret pe_bl)) pss_nil)
    (pss_one (ps_if (pt_cmpR op_ne (pc c_head_of hr (by decide) (by rfl) (pa_cons (pv 0) (pa_cons (pv 2) pa_nil))) (pe_ifExp (pt_cmpR op_gt (pv 2) pe_int (nomark _)) (pe_ix ix_list (pv 4) (pe_un un_neg pe_int) (fun _ _ => rfl)) pe_non) (nomark _)) (pss_one (ps_ret pe_bl)) pss_nil)))))))
    (pss_one (ps_ret pe_bl))), ?_⟩
    have hr0 := hrow
    obtain ⟨xs0, x1, x2, x3⟩ := hr0.ex
    have ok := hpr.ok
    have hfew := ok.few
    refine ⟨_, rfl, pr, xs0, rfl, .inl (.inl x1), ?_⟩
    refine for_enumL (xs := xs0) (fun i σ' H' => ∃ y2 y3 y4 y5 y6, σ' = [some v, some (.ref pr), y2, y3, y4, y5, y6] ∧ ExtN H H' ∧ Tabs (TLam K) H')
      ⟨none, none, none, none, none, rfl, ExtN.refl H, tabs⟩ (fun i σ' H' _ z => ?_) (fun i x σ' H' T' hx z hT => ?_) (fun σ' H' z => ?_)
    · obtain ⟨_, _, _, _, _, _, e, _⟩ := z
      exact .inl (.inl (e _ _ x1 (by intro ps z; cases z)))
    · obtain ⟨y2, y3, y4, y5, y6, rfl, e1, t1⟩ := z
      have hi : i < bs.length := by
        rw [← x2]
        exact (List.getElem?_eq_some_iff.mp hx).1
      obtain ⟨p, q1, q2⟩ := x3 i hi
      rw [hx] at q1
      cases q1
      have e2 := e1.trans (Same.extN (Same.new (o := .tup [.int (i : Nat), .ref p]) hT))
      have t2 := t1.ext (Same.new (o := .tup [.int (i : Nat), .ref p]) hT)
      refine ⟨T', _, rfl, .inl (.inl upd_same), rfl, _, _, rfl, _, _, rfl, rfl, ?_⟩
      generalize upd H' T' (.tup [.int (i : Nat), .ref p]) = H2 at e2 t2 ⊢
      have hp2 := e2 _ _ q2 (by intro ps z; cases z)
      have asc := hds.asc i hi
      have fl := asc.len
      refine ⟨_, rfl, p, F i, pr, fun a => (F a).length, rfl, .inl (.inl hp2), by omega, rfl, t2, fun a ha => ?_, fun ms po H3 e3 t3 hpo hperm hpw => ?_⟩
      · have r2 := hrow.extN e2
        obtain ⟨xs, a1, a2, a3⟩ := r2.ex
        obtain ⟨p2, a4, a5⟩ := a3 a (asc.lt ha)
        exact ⟨p2, natsV (F a), .inl ⟨xs, .inl (.inl a1), a4⟩, .inl (.inl a5), natsV_len _⟩
      · have ord : Ord bs F i ms := ⟨hperm, hpw⟩
        have e4 := (e2.trans e3).trans (Same.extN (Same.new (o := .lst (natsV ms)) hpo))
        have t4 := t3.ext (Same.new (o := .lst (natsV ms)) hpo)
        have o4 : (upd H3 po (.lst (natsV ms))) po = some (.lst (natsV ms)) := upd_same
        generalize upd H3 po (.lst (natsV ms)) = H4 at e4 t4 o4 ⊢
        have r4 := hrow.extN e4
        have mlt : ∀ x ∈ ms, x < bs.length := fun x hx => asc.lt (ord.mem.mp hx)
        have ml : ms.length ≤ 16 := by
          have z := hperm.length_eq
          omega
        refine ⟨_, rfl, po, rfl, ⟨_, .inl (.inl o4)⟩, fun D hD => ?_⟩
        refine lc_list_fm (xs := natsV ms) (fun _ => true) (fun v => match v with
          | .int a => .int (((F a.toNat).length : Nat) : Int)
          | _ => .non) (.inl (.inl o4)) (by rw [natsV_len]; omega) hD (fun x => rfl) (fun x _ => tyes1) (fun x hx _ H5 Q5 e5 q5 => ?_) (fun H5 e5 D5 => ?_)
        · obtain ⟨a, ha, rfl⟩ := List.mem_map.mp hx
          obtain ⟨xs, a1, a2, a3⟩ := r4.ex
          obtain ⟨p2, a4, a5⟩ := a3 a (mlt a ha)
          refine ⟨_, rfl, _, rfl, pr, xs, _, .ref p2, rfl, rfl, .inl (.inl (e5 _ _ a1)), atI_nat a4, p2, _, rfl, .inl (.inl (.inl (e5 _ _ a5))), ?_⟩
          rw [natsV_len]
          have z := q5 H5 (Same.refl _)
          simp only [Int.toNat_natCast] at z
          exact z
        · rw [filter_all, map_nats ms (fun a => (F a).length) _ (fun a => by show V.int _ = _; rw [Int.toNat_natCast]), ord.lens hds ok hi] at D5
          have o5 := e5 _ _ o4
          have e5' := e4.trans (Same.extN e5)
          have t5 := t4.ext e5
          refine ⟨_, rfl, po, _, rfl, .inl (.inl (.inl o5)), _, _, rfl, rfl, _, _, rfl, rfl, RgOk.of_le (by omega) (by rw [natsV_len]; omega) (by omega) (by omega), fun q hq => ?_⟩
          rw [natsV_len, rg_from]
          have D6 := (Same.new (o := .lst (natsV ((List.range ms.length).map (· + 1)))) hq) _ _ D5
          have o6 := (Same.new (o := .lst (natsV ((List.range ms.length).map (· + 1)))) hq) _ _ o5
          have e6 := e5'.trans (Same.extN (Same.new (o := .lst (natsV ((List.range ms.length).map (· + 1)))) hq))
          have t6 := t5.ext (Same.new (o := .lst (natsV ((List.range ms.length).map (· + 1)))) hq)
          refine ⟨_, _, .lst (.inl (.inl D6)) (natsD_dp _), .lst (.inl (.inl upd_same)) (natsD_dp _), natsD_sh _, natsD_sh _, _, rfl, ?_⟩
          rw [natsD_eqv, decide_eq_true rfl]
          refine iteF ?_
          generalize upd H5 q (.lst (natsV ((List.range ms.length).map (· + 1)))) = H6 at o6 e6 t6 ⊢
          clear D6 hq t5 e5' o5 D5 e5 hD o4 t4 e4 r4
          have r6 := hrow.extN e6
          refine ⟨_, rfl, po, _, rfl, .inl (.inl o6), fun D hD => ?_⟩
          refine lc_enumL (xs := natsV ms) (fun j H7 => Same H6 H7 ∧ H7 D = some (.lst (List.replicate j (V.bl true)))) ⟨Same.new hD, upd_same⟩ (fun j H7 _ z => .inl (.inl (z.1 _ _ o6))) (fun j x H7 T7 hx z hT7 => ?_) (fun H7 z => ?_)
          · obtain ⟨s7, D7⟩ := z
            obtain ⟨c, hc, rfl⟩ := nats_at hx
            have hj : j < ms.length := (List.getElem?_eq_some_iff.mp hc).1
            have ec : ms[j] = c := (List.getElem?_eq_some_iff.mp hc).2
            have s8 := s7.trans (Same.new (o := .tup [.int (j : Nat), .int ((c : Nat) : Int)]) hT7)
            have D8 : (upd H7 T7 (.tup [.int (j : Nat), .int ((c : Nat) : Int)])) D = some (.lst (List.replicate j (V.bl true))) := (Same.new hT7) _ _ D7
            refine ⟨T7, _, rfl, .inl (.inl upd_same), rfl, _, _, rfl, _, _, rfl, rfl, rfl, ?_⟩
            generalize upd H7 T7 (.tup [.int (j : Nat), .int ((c : Nat) : Int)]) = H8 at s8 D8 ⊢
            unfold tYes
            refine iteT ?_
            obtain ⟨xs, a1, a2, a3⟩ := r6.ex
            have hcm : c ∈ ms := List.mem_of_getElem? hc
            obtain ⟨p2, a4, a5⟩ := a3 c (mlt c hcm)
            refine ⟨_, rfl, ?_⟩
            unfold tNoPart
            refine ⟨_, rfl, _, _, rfl, rfl, _, rfl, po, _, rfl, .inl (.inl (s8 _ _ o6)), fun sl hsl => ?_⟩
            rw [show ((j : Nat) : Int) + 1 = ((j + 1 : Nat) : Int) by omega, cut_to (natsV ms) (by rw [natsV_len]; omega), natsV_take]
            have s9 := s8.trans (Same.new (o := .lst (natsV (ms.take (j + 1)))) hsl)
            have D9 := (Same.new (o := .lst (natsV (ms.take (j + 1)))) hsl) _ _ D8
            have l9 : (upd H8 sl (.lst (natsV (ms.take (j + 1))))) sl = some (.lst (natsV (ms.take (j + 1)))) := upd_same
            generalize upd H8 sl (.lst (natsV (ms.take (j + 1)))) = H9 at s9 D9 l9 ⊢
            refine ⟨sl, (ms.take (j + 1)).map fun (n : Nat) => (n : Int), rfl, by rw [← natsV_ints]; exact .inl (.inl l9), by rw [List.length_map, List.length_take]; omega, fun zs q hp hs hq => ?_⟩
            have ez : zs = (zs.map Int.toNat).map fun (n : Nat) => (n : Int) := ints_nats fun z hz => by
              obtain ⟨n, _, e⟩ := List.mem_map.mp (hp.mem_iff.mp hz)
              exact ⟨n, e.symm⟩
            have ev : zs.map V.int = natsV (F c) := by
              have z1 : (zs.map Int.toNat).Perm (ms.take (j + 1)) := by
                have z := hp.map Int.toNat
                rw [List.map_map] at z
                have e : (ms.take (j + 1)).map (Int.toNat ∘ fun (n : Nat) => (n : Int)) = ms.take (j + 1) := (List.map_congr_left fun x _ => Int.toNat_natCast x).trans (List.map_id _)
                rw [e] at z
                exact z
              have z2 : (zs.map Int.toNat).Pairwise (· ≤ ·) := by
                rw [List.pairwise_map]
                exact hs.imp fun {x y} z => by omega
              have z3 := ord.sorted hds ok hi hj z1 z2
              rw [ec] at z3
              rw [natsV_ints, ← z3, ← ez]
            rw [ev]
            have sA := s9.trans (Same.new (o := .lst (natsV (F c))) hq)
            have DA := (Same.new (o := .lst (natsV (F c))) hq) _ _ D9
            refine ⟨_, rfl, _, rfl, pr, xs, _, .ref p2, rfl, rfl, .inl (.inl (sA _ _ a1)), atI_nat a4, .list (natsD (F c)), .list (natsD (F c)), .lst (.inl (.inl upd_same)) (natsD_dp _), .lst (.inl (.inl (sA _ _ a5))) (natsD_dp _), natsD_sh _, natsD_sh _, ?_⟩
            rw [natsD_eqv, decide_eq_true rfl]
            refine ⟨_, DA, small1000 (by rw [List.length_replicate]; omega), Same.app sA hD, ?_⟩
            rw [upd_same, List.replicate_succ']
          · obtain ⟨s7, D7⟩ := z
            rw [natsV_len] at D7
            have e7 := e6.trans (Same.extN s7)
            have t7 := t6.ext s7
            have o7 := s7 _ _ o6
            refine ⟨D, List.replicate ms.length true, rfl, .inl (.inl (by rw [List.map_replicate]; exact D7)), ?_⟩
            rw [show (List.replicate ms.length true).all id = true by simp]
            refine ⟨_, rfl, iteF ?_⟩
            have hlast := ord.last hds ok hi
            have hfirst := ord.first hds ok hi
            have hlen := ord.one hds hi
            have hl0 : atI (natsV ms) (-1) = some (.int ((i : Nat) : Int)) := by
              refine at_back (k := 1) (by omega) (by rw [natsV_len]; omega) ?_
              rw [natsV_len]
              unfold natsV
              rw [List.getElem?_map, hlast] <;> rfl
            have hf0 : atI (natsV ms) 0 = some (.int 0) := by
              refine atI_nat (j := 0) ?_
              unfold natsV
              rw [List.getElem?_map, hfirst] <;> rfl
            refine ⟨_, rfl, _, rfl, po, _, _, _, rfl, rfl, .inl (.inl o7), hl0, _, rfl, rfl, _, rfl, iteF' (by rw [decide_eq_true rfl] <;> rfl) ?_⟩
            refine ⟨_, rfl, po, _, _, _, rfl, rfl, .inl (.inl o7), hf0, rfl, _, rfl, iteF' (by rw [decide_eq_true rfl] <;> rfl) ?_⟩
            refine ⟨_, rfl, _, rfl, v, many, handed, span, bs, i, rfl, hpr.extN e7, hi, t7, fun r H8 e8 t8 hr8 => ?_⟩
            have e9 := e7.trans e8
            have o8 := e8 _ _ o7 (by intro ps z; cases z)
            obtain ⟨G, hG, hcase⟩ := hr8
            have eG : F i = G i := hds.uniq hG hi
            by_cases i0 : i = 0
            · subst i0
              have hall := Ord.zero hG hi
              rcases hcase with ⟨_, rfl⟩ | ⟨M, hM, hne, _⟩
              · refine ⟨_, rfl, _, _, rfl, rfl, _, rfl, iteF' (decide_eq_false (by omega)) ?_⟩
                refine ⟨rfl, _, rfl, iteF' (by rw [decide_eq_true rfl] <;> rfl) ?_⟩
                exact ⟨_, _, _, _, _, rfl, e9, t8⟩
              · exact absurd (hall M hM) hne
            · rcases hcase with ⟨hall, _⟩ | ⟨M, hM, hne, rfl, best⟩
              · have z : (0 : Nat) ∈ G i := (hG.iff i hi 0).mpr Dm.zero
                exact absurd (hall 0 z) (Ne.symm i0)
              · have ordG : Ord bs F i ms := ord
                rw [← eG] at hM best
                have best' : ∀ a ∈ F i, a ≠ i → (F a).length ≤ (F M).length := fun a ha ne => by
                  have z := best a ha ne
                  rw [← hds.uniq hG (asc.lt ha), ← hds.uniq hG (asc.lt hM)] at z
                  exact z
                obtain ⟨l2, em⟩ := ord.head hds ok hi i0 hM hne best'
                have hm2 : atI (natsV ms) (-2) = some (.int ((M : Nat) : Int)) := by
                  refine at_back (k := 2) (by omega) (by rw [natsV_len]; omega) ?_
                  rw [natsV_len]
                  unfold natsV
                  rw [List.getElem?_map, em] <;> rfl
                refine ⟨_, rfl, _, _, rfl, rfl, _, rfl, iteT' (decide_eq_true (by omega)) ?_⟩
                refine ⟨_, rfl, _, rfl, po, _, _, _, rfl, rfl, .inl (.inl o8), hm2, rfl, _, rfl, iteF' (by rw [decide_eq_true rfl] <;> rfl) ?_⟩
                exact ⟨_, _, _, _, _, rfl, e9, t8⟩
    · obtain ⟨_, _, _, _, _, rfl, e, t⟩ := z
      exact k H' e t
end
end Rr
/-! ### a def with cells of its own and the cell __class__ -/
namespace Rr
open PySem PySem.Spec PyProof.Rows L2
theorem store_cs {env : Env} {cs : List (Str × Addr)} {n : Str} {v : Value} (hk : env.scope.kind = .function) (h : cs.lookup n = env.cells.lookup n) : storeName { env with cells := cs } n v = storeName env n v := by
  have e1 : (ScopeKind.function == ScopeKind.class) = false := by decide
  have e2 : (ScopeKind.function == ScopeKind.module) = false := by decide
  unfold storeName PySem.cellOf
  simp only [Env.kindOf, Env.blockKind, h, hk, e1, e2, Bool.false_and, Bool.false_or, Bool.or_false, Bool.false_eq_true, if_false]
theorem forIn_cs {f g : Str × Value → PUnit → Sem (ForInStep PUnit)} : ∀ (bn : List (Str × Value)), (∀ x ∈ bn, ∀ u, f x u = g x u) → (forIn bn PUnit.unit f : Sem PUnit) = forIn bn PUnit.unit g
  | [], _ => by rw [List.forIn_nil, List.forIn_nil]
  | x :: r, h => by
    rw [List.forIn_cons, List.forIn_cons, h x List.mem_cons_self]
    refine congrArg _ (funext fun st => ?_)
    cases st with
    | done b => rfl
    | yield b => exact forIn_cs r fun y hy u => h y (List.mem_cons_of_mem _ hy) u
theorem cells_app : ∀ (names : List (Str × NameKind)) (n : Nat) (acc : List (Str × Addr)), cellsFrom n names acc = cellsFrom n names [] ++ acc
  | [], _, _ => rfl
  | (x, k) :: r, n, acc => by
    unfold cellsFrom
    split
    · rw [cells_app r (n + 1) ((x, n) :: acc), cells_app r (n + 1) [(x, n)], List.append_assoc] <;> rfl
    · exact cells_app r n acc
section
variable {M : Model} {A : Around} {E : Value → Shared → Prop} {s : Shared}
theorem newEnvD {scope : Scope} {globals : Addr} {cl : List (Str × Addr)} {bn : List (Str × Value)} {qual : Str} {func : Option Addr} {code : Value} {builtins : Addr} {Q : Env → Shared → Prop} (hk : scope.kind = .function)
    (hkind : ∀ x ∈ bn, scope.names.lookup x.1 = some .local ∨ (scope.names.lookup x.1 = some .cell ∧ ((cellsFrom (s.heap.objs.size + 1) scope.names []).lookup x.1).isSome = true)) (hcl : ∀ x ∈ bn, cl.lookup x.1 = none)
    (hQ : ∀ s', InCallC s s.heap.objs.size (bindL (fun y => scope.names.lookup y) bn fun _ => none) (cellsFrom (s.heap.objs.size + 1) scope.names []) (bindC (fun y => scope.names.lookup y) bn fun _ => none) s' →
      Q (newEnv scope s.heap.objs.size globals (cellsFrom (s.heap.objs.size + 1) scope.names cl) qual func code none builtins) s') :
    wpAny M A (newFunctionEnv scope globals cl bn qual func code none builtins) Q E s := by
  simp only [newFunctionEnv, Option.isSome_none, Bool.false_eq_true, if_false]
  refine wpAny_bind (wpAny_alloc ?_)
  refine wpAny_bind (wpAny_layCells _ (fun nm kd cs => by cases q : kd == NameKind.cell <;> simp [q]) _ _ _ _ ?_)
  have ok := cellsFrom_ok scope.names (s.heap.push { cls := .type "frame", data := .dict #[] }) (s.heap.objs.size + 1) [] ⟨fun _ _ z => (nomatch z), List.Pairwise.nil⟩ (by rw [Heap.size_push]; exact Nat.le_refl _)
  rw [Heap.size_push] at ok
  have sz : ({ s with heap := s.heap.push { cls := .type "frame", data := .dict #[] } } : Shared).heap.objs.size = s.heap.objs.size + 1 := Heap.size_push ..
  rw [sz]
  have env0 := newEnv scope s.heap.objs.size globals (cellsFrom (s.heap.objs.size + 1) scope.names []) qual func code none builtins
  have same : ∀ x ∈ bn, ∀ v, storeName (newEnv scope s.heap.objs.size globals (cellsFrom (s.heap.objs.size + 1) scope.names cl) qual func code none builtins) x.1 v = storeName (newEnv scope s.heap.objs.size globals (cellsFrom (s.heap.objs.size + 1) scope.names []) qual func code none builtins) x.1 v := fun x hx v => by
    refine store_cs hk (env := newEnv scope s.heap.objs.size globals (cellsFrom (s.heap.objs.size + 1) scope.names []) qual func code none builtins) (cs := cellsFrom (s.heap.objs.size + 1) scope.names cl) ?_
    show (cellsFrom (s.heap.objs.size + 1) scope.names cl).lookup x.1 = (cellsFrom (s.heap.objs.size + 1) scope.names []).lookup x.1
    rw [cells_app, List.lookup_append, hcl x hx]
    cases (cellsFrom (s.heap.objs.size + 1) scope.names []).lookup x.1 <;> rfl
  refine wpAny_bind ?_
  rw [forIn_cs (g := fun x _ => do storeName (newEnv scope s.heap.objs.size globals (cellsFrom (s.heap.objs.size + 1) scope.names []) qual func code none builtins) x.1 x.2; pure (.yield ⟨⟩)) bn fun x hx u => ?_]
  · refine wpAny_bindParams (s₀ := s) (env := newEnv scope s.heap.objs.size globals (cellsFrom (s.heap.objs.size + 1) scope.names []) qual func code none builtins) _ (fun _ _ _ => rfl) hk bn (fun _ => none) (fun _ => none) _ _
      ⟨⟨⟨_, _, rfl⟩, (Heap.Ns.new s.heap (.type "frame")).keeps (pushCells_keeps _ _), fun b o e => pushCells_keeps _ _ b o (Heap.get?_push_of_some _ e), Nat.le_refl _⟩, fun n c hc => (ok.empty n c (PySem.mem_of_lookup hc)).1, ok.apart, fun n c hm => (ok.empty n c hm).2⟩
      hkind fun s' x => wpAny_pure (hQ s' x)
  · obtain ⟨xn, xv⟩ := x
    have z := same (xn, xv) hx xv
    show (do storeName (newEnv scope s.heap.objs.size globals (cellsFrom (s.heap.objs.size + 1) scope.names cl) qual func code none builtins) xn xv; pure (ForInStep.yield PUnit.unit)) = (do storeName (newEnv scope s.heap.objs.size globals (cellsFrom (s.heap.objs.size + 1) scope.names []) qual func code none builtins) xn xv; pure (.yield ⟨⟩))
    rw [z]
end
abbrev envD (qual : Str) (scope : Scope) (L f : Addr) (cd : Value) (cc : Addr) : Env := PySem.W.envX qual scope L f cd (cellsFrom (L + 1) scope.names [("__class__", cc)])
/-- its context -/
def cxD (P : Program) (w : World) (K : PySem.W.Frag) (mg : Str → Option Value) (base : Heap) (N : List Str) (qual : Str) (scope : Scope) (f : Addr) (cd : Value) (cc : Addr) (A : Around) (outer : List Env) (s : Shared) (H : Hp) (E : XK) : Cx where
  prog := P
  w := w
  K := K
  mg := mg
  base := base
  A := A.deeper (envD qual scope s.heap.objs.size f cd cc)
  N := N
  s_0 := s
  H_0 := H
  env := envD qual scope s.heap.objs.size f cd cc
  outer := outer
  stack := envD qual scope s.heap.objs.size f cd cc :: outer
  ex := []
  calm := true
  fn := fun y => !decide (y = "__class__")
  pn := []
  xe := fun e s' => wpAny (model P w) (A.deeper (envD qual scope s.heap.objs.size f cd cc)) (leaving (envD qual scope s.heap.objs.size f cd cc) e) (fun _ s'' => CX0 outer H s E e s'') (fun e' s'' => CX0 outer H s E e' s'') s'
structure DScope (N ps : List Str) (sc : Scope) : Prop where
  kind : sc.kind = .function
  co : sc.isCoroutine = false
  gen : sc.isGenerator = false
  nd : N.Nodup
  pre : N.take ps.length = ps
  par : ∀ x ∈ ps, sc.names.lookup x = some .local ∨ sc.names.lookup x = some .cell
  free : ∀ y ∈ sc.names, y.2 = .free → y.1 = "__class__"
  cls : sc.names.lookup ("__class__" : Str) = some .free
theorem look_cl {L cc : Addr} {names : List (Str × NameKind)} {y : Str} {c : Addr} (h : (cellsFrom (L + 1) names [(("__class__" : Str), cc)]).lookup y = some c) : (cellsFrom (L + 1) names []).lookup y = some c ∨ ((cellsFrom (L + 1) names []).lookup y = none ∧ y = "__class__" ∧ c = cc) := by
  rw [cells_app, List.lookup_append] at h
  cases q : (cellsFrom (L + 1) names []).lookup y with
  | some c' =>
    rw [q] at h
    exact .inl h
  | none =>
    rw [q] at h
    have h2 : ([(("__class__" : Str), cc)] : List (Str × Addr)).lookup y = some c := h
    rw [List.lookup_cons] at h2
    cases e : y == ("__class__" : Str) with
    | true =>
      rw [e] at h2
      exact .inr ⟨rfl, beq_iff_eq.mp e, (Option.some.inj h2).symm⟩
    | false =>
      rw [e] at h2
      cases h2
theorem look_own {L cc : Addr} {names : List (Str × NameKind)} {y : Str} {c : Addr} (h : (cellsFrom (L + 1) names []).lookup y = some c) : (cellsFrom (L + 1) names [(("__class__" : Str), cc)]).lookup y = some c := by
  rw [cells_app, List.lookup_append, h] <;> rfl
theorem inv_startD {P : Program} {w : World} {K : PySem.W.Frag} {mg : Str → Option Value} {base : Heap} {N ps : List Str} {qual : Str} {scope : Scope} {f cc D : Addr} {cd : Value} {A : Around} {outer : List Env} {s s1 : Shared} {H : Hp} {E : XK} {us : List Value} {vs : List V} (S : DScope N ps scope)
    (hd : A.handled = none) (e0 : Env0 P w K mg base A outer s H) (hl : vs.length = ps.length) (r : Vals vs us) (hcc : base.IsCell cc (some (.ref D))) (hown : (cellsFrom (s.heap.objs.size + 1) scope.names []).lookup ("__class__" : Str) = none)
    (x : InCallC s s.heap.objs.size (bindL (fun y => scope.names.lookup y) (ps.zip us) fun _ => none) (cellsFrom (s.heap.objs.size + 1) scope.names []) (bindC (fun y => scope.names.lookup y) (ps.zip us) fun _ => none) s1) :
    Inv (cxD P w K mg base N qual scope f cd cc A outer s H E) [] (L2.start N vs) H s1 := by
  have hpl : ps.length ≤ N.length := by
    have z := congrArg List.length S.pre
    rw [List.length_take] at z
    omega
  obtain ⟨h1, tk, rfl, hk⟩ := x.done
  obtain ⟨oc, ho, hdt⟩ := hcc
  obtain ⟨hos, hoH⟩ := e0.bs _ _ ho
  have clt : cc < s.heap.objs.size := Heap.lt_size hos
  have noA : ∀ b : Addr, b ∉ (cxD P w K mg base N qual scope f cd cc A outer s H E).ex := fun b z => absurd (show b ∈ ([] : List Addr) from z) (by simp)
  have up : ∀ {y c}, (cellsFrom (s.heap.objs.size + 1) scope.names []).lookup y = some c → s.heap.objs.size < c := fun {y c} e => x.above y c (PySem.mem_of_lookup e)
  refine ⟨⟨e0.mod, S.kind, rfl, rfl, Nat.le_refl _, fun y z c a1 a2 => ?_, fun y hy => ?_, fun y c hf e => ?_, fun _ => hd, Around.frames_deeper e0.frames, .inr ⟨rfl, rfl⟩, fun b z => absurd z (noA b), e0.bs, e0.bsz, fun b _ _ => noA b, fun b z => absurd z (noA b), e0.funs, e0.frf⟩,
    rfl, e0.bare, Un.kept hk, ⟨_, x.toInCall.ns, fun i y v a1 a2 a3 => ?_⟩, fun y c e => ?_, e0.hok.fresh (Nat.le_refl _), fun y c e => ?_, fun p hp => absurd (show p ∈ ([] : List (Addr × Obj)) from hp) (by simp), e0.hok.kept hk, ?_⟩
  · rcases look_cl a1 with b1 | ⟨_, b1, b2⟩
    · rcases look_cl a2 with c1 | ⟨_, c1, c2⟩
      · exact name_of_addr x.apart (PySem.mem_of_lookup b1) (PySem.mem_of_lookup c1)
      · have z := up b1
        rw [c2] at z
        exact absurd clt (Nat.not_lt.mpr (Nat.le_of_lt z))
    · rcases look_cl a2 with c1 | ⟨_, c1, c2⟩
      · have z := up c1
        rw [b2] at z
        exact absurd clt (Nat.not_lt.mpr (Nat.le_of_lt z))
      · rw [b1, c1]
  · have hy : scope.names.lookup y = some .cell ∨ scope.names.lookup y = some .free := hy
    rcases hy with hy | hy
    · obtain ⟨c, e⟩ := cell_has (n := s.heap.objs.size + 1) hy
      exact ⟨c, look_own e⟩
    · have e := S.free _ (PySem.mem_of_lookup hy) rfl
      have e : y = "__class__" := e
      subst e
      refine ⟨cc, ?_⟩
      show (cellsFrom (s.heap.objs.size + 1) scope.names [(("__class__" : Str), cc)]).lookup ("__class__" : Str) = some cc
      rw [cells_app, List.lookup_append, hown]
      simp [List.lookup]
  · rcases look_cl e with b1 | ⟨_, b1, b2⟩
    · exact Nat.le_of_lt (up b1)
    · have z : (!decide (y = "__class__")) = true := hf
      rw [decide_eq_true b1] at z
      cases z
  · have a1 : N[i]? = some y := a1
    have hi : i < vs.length := by
      unfold L2.start at a2
      by_cases hi : i < vs.length
      · exact hi
      · rw [List.getElem?_append_right (by simpa using hi), List.getElem?_replicate] at a2
        split at a2 <;> cases a2
    have ha : vs[i]? = some v := by
      unfold L2.start at a2
      rw [List.getElem?_append_left (by simpa using hi), List.getElem?_map] at a2
      cases e : vs[i]? with
      | none =>
        rw [e] at a2
        cases a2
      | some a =>
        rw [e] at a2
        cases a2
        rfl
    obtain ⟨u, hu, rv⟩ := r.get ha
    have hp : ps[i]? = some y := by
      rw [← S.pre, List.getElem?_take_of_lt (by omega)]
      exact a1
    have ndP : ps.Nodup := by
      rw [← S.pre]
      exact S.nd.sublist (List.take_sublist _ _)
    refine ⟨u, rv, ?_⟩
    rcases S.par y (List.mem_of_getElem? hp) with k | k
    · exact .inl ⟨k, bindL_get ndP hp hu k⟩
    · obtain ⟨c, e⟩ := cell_has (n := s.heap.objs.size + 1) k
      refine .inr ⟨.inl k, c, look_own e, ?_⟩
      have q := x.cell y c e
      rw [bindC_get ndP hp hu (by show scope.names.lookup y ≠ _; rw [k]; decide)] at q
      exact q
  · rcases look_cl e with b1 | ⟨_, b1, b2⟩
    · exact ⟨_, x.cell y c b1⟩
    · rw [b2]
      exact ⟨_, oc, hk _ _ hos, hdt⟩
  · rcases look_cl e with b1 | ⟨_, b1, b2⟩
    · exact e0.hok.fresh (Nat.le_of_lt (up b1))
    · rw [b2]
      exact hoH
  · unfold L2.start
    show _ = N.length
    rw [List.length_append, List.length_map, List.length_replicate]
    omega
end Rr
/-! ### super().__init__(..) of a plain class -/
namespace Rr
open PySem PySem.Spec PyProof.Rows L2
/-- what of the text the call asks: the def at f closes over the cell cc, which holds the class D; super of D at x of class D finds the def at f2 -/
structure SupF (prog : Program) (K : PySem.W.Frag) (mg : Str → Option Value) (f cda cc D f2 : Addr) : Prop where
  fo : ∃ of fd ar, K.lookup f = some of ∧ of.data = .func fd ∧ (fd.params.posonlyargs ++ fd.params.args).head? = some ar ∧ ar.arg = "self"
  code : ∃ oc vs file tf, K.lookup cda = some oc ∧ oc.data = .fields vs ∧ vs[2]? = some (.str file tf) ∧ ((prog.main.file : Str) == file) = true
  cell : ∃ oc, K.lookup cc = some oc ∧ oc.data = .cell (some (.ref D))
  top : (prog.main.scope.names.lookup ("super" : Str)).isSome = false
  nos : mg "super" = none
  cls : ∃ cd, PySem.W.clsIn K D = some cd
  sub : PySem.W.mroIn K D (.ref D) = some true
  opq : PySem.W.nsIn K cStatics "thirdparty.any" = some none
  find : PySem.W.ks_superIn K D D "__init__" = some (some (.ref f2))
  ty : PySem.W.typeIn K (.ref f2) = some (.type "function")
  fn : PySem.W.fnIn K f2 = true
def tSup (x : Addr) (sp : Sp) (t : TA) : TE := fun σ H Q => t σ H fun vs H1 => sp (.ref x :: vs) H1 Q E0
theorem super_call {X : Cx} {pins : List (Addr × Obj)} {σ : L2.St} {H : Hp} {s : Shared} {f cda cc D dx f2 x : Addr} {e : Expr} {t : TA} {p0 p1 p2 pos : Pos} {body : List Stmt} {k j : Nat} {sp : Sp} {Q : VK} {pl : Sem Bool} (I : Inv X pins σ H s) (S : SupF X.prog X.K X.mg f cda cc D f2)
    (F : FnR X.prog X.w X.K X.mg X.base CX0 k f2 sp) (hr : Room j X.A) (hk : k ≤ j) (hfu : X.env.func = some f) (hco : X.env.code = .ref cda) (hks : X.env.kindOf "super" = some .globalImplicit) (hkc : X.env.kindOf "__class__" = some .free) (hcl : X.env.cells.lookup ("__class__" : Str) = some cc)
    (hse : X.env.kindOf "self" = some .local) (hN : X.N[0]? = some ("self" : Str)) (hσ : σ[0]? = some (some (.ref x))) (hx : H x = some (.ins D dx [])) (ha : PA X [e] t) (h : tSup x sp t σ H Q)
    (he : starEach [e] X.env = (false, eval e X.env) :: starEach [] X.env) (hpl : (backTo pos (starEach [] X.env)).any (·.1) = false)
    (ht : eval (.Call (.Attribute (.Call (.Name "super" p0) [] [] p1) "__init__" p2) [e] [] pos) X.env = (do
      let ov ← attributeBase (.Call (.Name "super" p0) [] [] p1) "__init__" X.env (eval (.Call (.Name "super" p0) [] [] p1) X.env)
      standAt p2.atName
      let (f, first) ← holding [ov] (getMethod ov "__init__" pl)
      callWith pos f first (backTo pos (starEach [e] X.env)) [])) :
    _root_.PySem.wpAt (model X.prog X.w) X.A (.func body X.env) (eval (.Call (.Attribute (.Call (.Name "super" p0) [] [] p1) "__init__" p2) [e] [] pos) X.env) (EP X pins σ Q) X.xe s := by
  obtain ⟨hh, g, d, t1, os⟩ := s
  have KI := I.kIn
  obtain ⟨of, fd, ar, f1, f3, f4, f5⟩ := S.fo
  obtain ⟨oc, vs, file, tf, c1, c2, c3, c4⟩ := S.code
  obtain ⟨occ, d1, d2⟩ := S.cell
  obtain ⟨cd, hcd⟩ := S.cls
  obtain ⟨mb, b1, b2⟩ := I.mod.blt
  obtain ⟨m, hn, hl⟩ := I.loc
  obtain ⟨u, ru, lk⟩ := hl 0 "self" (.ref x) hN hσ (.inl hse)
  cases (show u = Value.ref x from ru)
  have hself : m "self" = some (.ref x) := by
    rcases lk with ⟨_, z⟩ | ⟨z, _⟩
    · exact z
    · rw [hse] at z
      rcases z with z | z <;> cases z
  obtain ⟨mA, O, _, _, _, _⟩ := ins_get I.hok hx
  obtain ⟨oD, D1, D2⟩ : ∃ oD, hh.get? D = some oD ∧ oD.data = .cls cd := by
    unfold PySem.W.clsIn at hcd
    split at hcd
    · rename_i c d cd' sl ho
      cases hcd
      exact ⟨_, KI _ _ ho, rfl⟩
    · cases hcd
  refine ks_wpAt_MethodCall (pl := pl) ?_ ht
  refine ks_wpAt_super_base (f := f) (cc := cda) hks hkc (by decide) hfu (KI _ _ f1) f3 f4 hco (KI _ _ c1) c2 c3 c4 S.top ?_
  refine PySem.W.ks_loadName_global I.ok.kind hks (Calls.loadGlobal_builtin (by rw [I.ok.glob]; exact I.mod.glob.keeps I.bk) S.nos (by rw [I.ok.blt]; exact b1.keeps I.bk) ((b2 "super" (by decide)).trans (by decide +kernel : bootBuiltins "super" = some (.type "super"))) ⟨rfl, ?_⟩)
  refine wpAny_loadName_free I.ok.kind hkc hcl ⟨_, KI _ _ d1, d2⟩ ?_
  rw [f5]
  refine wpAny_loadName_local I.ok.kind hse hn hself ?_
  refine ks_wpAny_isType_cls D1 D2 ⟨rfl, ?_⟩
  refine ks_wpAny_call_super D1 D2 O.obj rfl (fun c z => ?_) (PySem.W.looks_mroIn KI S.sub) (fun h' e1 kp => ?_)
  · cases z
  have I1 : Inv X pins σ H ⟨h', g, d, t1, os⟩ := I.kept (t' := t1) kp
  have KI1 := I1.kIn
  obtain ⟨of2, g1, g2⟩ : ∃ of2, h'.get? f2 = some of2 ∧ of2.cls = .type "function" := by
    have z := S.ty
    have z' : (X.K.lookup f2).map (·.cls) = some (.type "function") := z
    cases q : X.K.lookup f2 with
    | none =>
      rw [q] at z'
      cases z'
    | some o2 =>
      rw [q] at z'
      exact ⟨o2, KI1 _ _ q, Option.some.inj z'⟩
  have hfind := S.find
  unfold PySem.W.ks_superIn at hfind
  rw [hcd] at hfind
  have xD : x ≠ D := fun z => by
    have z1 := O.obj
    rw [z, D1] at z1
    have z2 := congrArg Obj.data (Option.some.inj z1)
    rw [D2] at z2
    cases z2
  refine ks_wpAny_getMethod_super e1 (PySem.W.looks_opaque KI1 S.opq) (l₀ := cd.mro) ?_ rfl KI1 hfind g1 g2 xD (by decide) ?_
  · exact fun A Q E s k q => wpAny_bind ((PySem.W.looks_clsIn KI1 hcd) A _ E s k (wpAny_pure q))
  have I2 := ClX.met_new (g := f2) (C := x) I1
  refine ClX.callwith_cm I2 (ClX.base_none I1 (Nat.le_refl _)) S.fn (thn (ha.run pos _ _ σ H _ I2 h) fun us s3 ⟨vs, H3, I3, r3, q3⟩ => ⟨⟨ClX.pin_at I3, I3.kIn⟩, ?_⟩) he hpl
  exact ClX.run_cm F (hr.mono hk) pass0 I3 r3 q3
/-- a statement ahead of the rest, in a known activation -/
theorem at_cons {X : Cx} {σ : L2.St} {H : Hp} {s : Shared} {c : Code} {st : Stmt} {rest : List Stmt} {t : TS} {Qf : Flow → Shared → Prop} (hp : PS X st t) (I : Inv X [] σ H s)
    (h : t { nx := fun σ' H' => ∀ s', Inv X [] σ' H' s' → _root_.PySem.wpAt (model X.prog X.w) X.A c (execs rest X.env) Qf X.xe s', rt := fun _ _ => False } σ H) : _root_.PySem.wpAt (model X.prog X.w) X.A c (execs (st :: rest) X.env) Qf X.xe s := by
  refine ks_wpAt_execs_cons (wpAt_of_wpAny (wpAny_mono (hp.run [] s σ H _ I h) (fun f s' z => ?_) fun _ _ z => z))
  cases f with
  | next =>
    obtain ⟨σ', H', J, q⟩ := z
    exact q s' J
  | ret u =>
    obtain ⟨v, σ', H', J, r, q⟩ := z
    exact q.elim
  | brk =>
    obtain ⟨_, _, _, q⟩ := z
    exact q.elim
  | cont =>
    obtain ⟨_, _, _, q⟩ := z
    exact q.elim
end Rr
/-! ### Program(..) -/
namespace Rr
open PySem PySem.Spec PyProof.Rows L2
mutual
theorem dp_keep {K : PySem.W.Frag} {H H' : Hp} (h1 : ∀ q xs, H q = some (.tup xs) → H' q = some (.tup xs)) (h2 : ∀ q o xs, H q = some (.frz o (.tup xs)) → H' q = some (.frz o (.tup xs))) : ∀ {v : V} {d : PyData}, nl d = true → Dp K H v d → Dp K H' v d
  | _, _, _, .non => .non
  | _, _, _, .bl b => .bl b
  | _, _, _, .int i => .int i
  | _, _, _, .str x => .str x
  | _, _, n, .lst hs ha => by simp [nl] at n
  | _, _, n, .tup hs ha => by
    refine .tup ?_ (dpAll_keep h1 h2 (by simpa [nl] using n) ha)
    rcases hs with hs | hs
    · refine .inl ?_
      rcases hs with hs | ⟨o, hs⟩
      · exact .inl (h1 _ _ hs)
      · exact .inr ⟨o, h2 _ _ _ hs⟩
    · exact .inr hs
theorem dpAll_keep {K : PySem.W.Frag} {H H' : Hp} (h1 : ∀ q xs, H q = some (.tup xs) → H' q = some (.tup xs)) (h2 : ∀ q o xs, H q = some (.frz o (.tup xs)) → H' q = some (.frz o (.tup xs))) : ∀ {vs : List V} {ds : List PyData}, nlAll ds = true → DpAll K H vs ds → DpAll K H' vs ds
  | _, _, _, .nil => .nil
  | _, _, n, .cons h t => by
    have n' := n
    simp only [nlAll, Bool.and_eq_true] at n'
    exact .cons (dp_keep h1 h2 n'.1 h) (dpAll_keep h1 h2 n'.2 t)
end
section
variable {P : Program} {w : World} {K : PySem.W.Frag} {mg : Str → Option Value} {base : Heap}
def sp_binit (C : Addr) : Sp := fun vs H Q _ => ∃ a dx v vs0, vs = [.ref a, v] ∧ SlX.Slt H a C dx vs0 ∧ Q .non (SlX.slH H a C dx (SlX.putS 3 v vs0))
/-- Blocks.__init__ -/
def BiAt (K : PySem.W.Frag) : Prop := ∃ fd, FunD K "__init__" "Blocks.__init__" (defArgs s_Blocks___init__) (defBody s_Blocks___init__) (defScope s_Blocks___init__) [] [] (He.ma K (He.ga K "Blocks") "__init__") fd
-- Blocks.__init__: 0 self, 1 blocks
theorem sc_Blocks___init__ : FnScope ["self", "blocks"] ["self", "blocks"] (defScope s_Blocks___init__) := ⟨rfl, rfl, rfl, by decide +kernel, rfl, by decide +kernel, by decide +kernel⟩
theorem ok_binit (PF : PrF K) (F : BiAt K) : FnR P w K mg base CX0 1 (He.ma K (He.ga K "Blocks") "__init__") (sp_binit (He.ga K "Program")) := by
  obtain ⟨fd, F⟩ := F
  refine FnR.imp (FnOk.raw (F.ok sc_Blocks___init__ (sp := sp_binit (He.ga K "Program")) (fun vs H Q E h => ?_) fun cdv A outer s H vs Q E hr h => ?_) (F.bindsN fun _ _ _ _ _ _ us hl => match us, hl with | [_, _], _ => rfl) .nil) (fun vs H Q E h => ?_)
  · obtain ⟨a, dx, v, vs0, rfl, _⟩ := h
    rfl
  · obtain ⟨a, dx, v, vs0, rfl, hsl, k⟩ := h
    have nd := sc_Blocks___init__.nd
    obtain ⟨p, sl⟩ := PF.s_blocks
    refine ⟨_, PSs.nox (pss_one (SlX.ps_sl (pv 0) (pv 1))), ?_⟩
    exact ⟨_, rfl, _, rfl, a, _, dx, p, vs0, 3, rfl, hsl, PF.cls, sl, k⟩
  · rw [List.append_nil]
    exact h
end
theorem dsc_init : DScope ["self", "many", "blocks", "handed", "span", "block"] ["self", "many", "blocks", "handed", "span"] (defScope s_Program___init__) := ⟨rfl, rfl, rfl, by decide +kernel, rfl, by decide +kernel, by decide +kernel, rfl⟩
theorem cells_mem : ∀ (names : List (Str × NameKind)) (n : Nat) (acc : List (Str × Addr)) (x : Str) (c : Addr), (x, c) ∈ cellsFrom n names acc → (x, c) ∈ acc ∨ (x, NameKind.cell) ∈ names
  | [], _, _, _, _, h => .inl h
  | (y, k) :: r, n, acc, x, c, h => by
    unfold cellsFrom at h
    split at h
    · rename_i q
      rcases cells_mem r (n + 1) ((y, n) :: acc) x c h with z | z
      · rcases List.mem_cons.mp z with z | z
        · have e := (Prod.mk.inj z).1
          rw [e, beq_iff_eq.mp q]
          exact .inr List.mem_cons_self
        · exact .inl z
      · exact .inr (List.mem_cons_of_mem _ z)
    · rcases cells_mem r n acc x c h with z | z
      · exact .inl z
      · exact .inr (List.mem_cons_of_mem _ z)
/-- Program.__init__ as the top has left it -/
structure InF (prog : Program) (K : PySem.W.Frag) (mg : Str → Option Value) : Prop where
  ex : ∃ (oc : Value) (od : Option Addr) (doc pm : Value) (an : Option Addr) (kD cda cc : Addr) (ct : Value) (osl : Array (Option Value)),
    K.lookup (He.ma K (He.ga K "Program") "__init__") = some ⟨oc, od, .func (PySem.W.ksFn "__init__" "Program.__init__" (defArgs s_Program___init__) (defBody s_Program___init__) (defScope s_Program___init__) .none (.ref kD) doc pm an (.ref cda) ct cc), osl⟩ ∧
    PySem.W.codeIn K (.ref cda) "Program.__init__" = true ∧ SupF prog K mg (He.ma K (He.ga K "Program") "__init__") cda cc (He.ga K "Program") (He.ma K (He.ga K "Blocks") "__init__")
  makes : Mk K (He.ga K "Program") (He.ma K (He.ga K "Program") "__init__")
section
variable {P : Program} {w : World} {K : PySem.W.Frag} {mg : Str → Option Value} {base : Heap}
def sp_init (K : PySem.W.Frag) : Sp := fun vs H Q _ => ∃ a dx vb, ∃ many handed span : Nat, ∃ bs, vs = [.ref a, .int ((many : Nat) : Int), vb, .int ((handed : Nat) : Int), .int ((span : Nat) : Int)] ∧ H a = some (.ins (He.ga K "Program") dx []) ∧ dx ≠ a ∧ (∀ xs, H dx ≠ some (.tup xs)) ∧ (∀ o xs, H dx ≠ some (.frz o (.tup xs))) ∧ Dp K H vb (dBks bs) ∧ Bks many span bs ∧
  1 ≤ many ∧ many ≤ 8 ∧ handed ≤ many ∧ handed ≤ 3 ∧ 2 ≤ span ∧ span ≤ 8 ∧ ∀ H', (∀ q u, q ≠ a → q ≠ dx → H q = some u → H' q = some u) → Pr K H' (.ref a) many handed span bs → Q .non H'
theorem ok_init (T : Facts w K mg) (PF : PrF K) (IF : InF P K mg) (F2 : FnR P w K mg base CX0 1 (He.ma K (He.ga K "Blocks") "__init__") (sp_binit (He.ga K "Program"))) (c_is_integer : Cal P w K mg base 1 "is_integer" sp_is_integer) (c_is_plain_block : Cal P w K mg base 3 "is_plain_block" (sp_is_plain_block K))
    (c_are_reached : Cal P w K mg base 2 "are_reached" (sp_are_reached K)) : ∃ fd, FnOk P w K mg base CX0 4 (He.ma K (He.ga K "Program") "__init__") fd ["self", "many", "blocks", "handed", "span"] (sp_init K) ∧
      (∀ (s : Shared) (us ws : List Value), K.In s.heap → us.length = 3 → ws.length = 2 → BindsTo s fd ⟨us, (["handed", "span"] : List Str).zip ws⟩ ((["self", "many", "blocks", "handed", "span"] : List Str).zip (us ++ ws))) := by
  obtain ⟨oc, od, doc, pm_, an, kD, cda, cc, ct, osl, lk, hcd, SF⟩ := IF.ex
  refine ⟨PySem.W.ksFn "__init__" "Program.__init__" (defArgs s_Program___init__) (defBody s_Program___init__) (defScope s_Program___init__) .none (.ref kD) doc pm_ an (.ref cda) ct cc, ⟨fun vs H Q E h => ?_, fun A outer s H args us vs Q E hr e0 hb r h => ?_⟩, fun s us ws _ h1 h2 => ?_⟩
  rotate_left 2
  · match us, h1, ws, h2 with
    | [_, _, _], _, [_, _], _ => exact .of_eq rfl
  · obtain ⟨a, dx, vb, many, handed, span, bs, rfl, _⟩ := h
    rfl
  · obtain ⟨a, dx, vb, many, handed, span, bs, rfl, hins, dxa, nt1, nt2, hdb, ok, m1, m8, hm, h3, s2, s8, k⟩ := h
    have S := dsc_init
    have KX : K.In s.heap := e0.mod.kin.keeps fun b o e => (e0.bs b o e).1
    have lim : s.heap.NoLimit := e0.mod.nolimit.keeps fun b o e => (e0.bs b o e).1
    obtain ⟨occ, d1, d2⟩ := SF.cell
    have hkind : ∀ y ∈ (["self", "many", "blocks", "handed", "span"] : List Str).zip us, (defScope s_Program___init__).names.lookup y.1 = some .local ∨ ((defScope s_Program___init__).names.lookup y.1 = some .cell ∧ ((cellsFrom (s.heap.objs.size + 1) (defScope s_Program___init__).names []).lookup y.1).isSome = true) := fun ⟨n, v⟩ hy => by
      rcases S.par n (List.of_mem_zip hy).1 with q | q
      · exact .inl q
      · exact .inr ⟨q, PySem.W.cellsFrom_some _ _ _ (.inl q)⟩
    have hcl : ∀ y ∈ (["self", "many", "blocks", "handed", "span"] : List Str).zip us, ([(("__class__" : Str), cc)] : List (Str × Addr)).lookup y.1 = none := fun ⟨n, v⟩ hy => by
      have z := (List.of_mem_zip hy).1
      have q : ∀ n ∈ (["self", "many", "blocks", "handed", "span"] : List Str), (n == ("__class__" : Str)) = false := by decide +kernel
      show List.lookup n [(("__class__" : Str), cc)] = none
      rw [List.lookup_cons, q n z] <;> rfl
    refine codeAny_call_function hr.depth (KX _ _ lk) rfl S.co S.gen rfl (PySem.W.codeRec_of KX hcd) (hb _ _ _ _ ?_)
    refine newEnvD S.kind hkind hcl fun s1 x => ⟨lim.keeps x.toInCall.keep, ks_codeAny_funcAt ?_⟩
    have hown : (cellsFrom (s.heap.objs.size + 1) (defScope s_Program___init__).names []).lookup ("__class__" : Str) = none := by
      cases q : (cellsFrom (s.heap.objs.size + 1) (defScope s_Program___init__).names []).lookup ("__class__" : Str) with
      | none => rfl
      | some c =>
        rcases cells_mem _ _ _ _ _ (PySem.mem_of_lookup q) with z | z
        · cases z
        · exact absurd z (by decide +kernel)
    have I := inv_startD (N := ["self", "many", "blocks", "handed", "span", "block"]) (qual := "Program.__init__") (f := He.ma K (He.ga K "Program") "__init__") (cd := .ref cda) (E := E) S hr.hd e0 rfl r (D := He.ga K "Program") ⟨occ, e0.mod.kin _ _ d1, d2⟩ hown x
    have hr2 : Room 3 (A.deeper (envD "Program.__init__" (defScope s_Program___init__) s.heap.objs.size (He.ma K (He.ga K "Program") "__init__") (.ref cda) cc)) := hr.deeper _
    have nd := S.nd
    have hu := hu_of hr2
    have hr := hr2
    refine at_cons (X := cxD P w K mg base ["self", "many", "blocks", "handed", "span", "block"] "Program.__init__" (defScope s_Program___init__) (He.ma K (He.ga K "Program") "__init__") (.ref cda) cc A outer s H E) (ps_if (pt_not (pt_val (pc c_is_integer hr (by decide) (by rfl) (pa_cons (pv 1) (pa_cons pe_int (pa_cons (C8.pe_gc (v := .int 8) (by rfl) T.c_MOST_VARIABLES) pa_nil)))))) (pss_one ps_never) pss_nil) I ?_
    refine ⟨_, rfl, _, _, _, rfl, _, rfl, iteF' (by rw [int_ok (show (1 : Int) ≤ ((many : Nat) : Int) by omega) (show ((many : Nat) : Int) ≤ 8 by omega)] <;> rfl) fun s2 I => ?_⟩
    refine at_cons (ps_if (pt_not (pt_val (pc c_is_integer hr (by decide) (by rfl) (pa_cons (pv 3) (pa_cons pe_int (pa_cons (pe_callB (call_min2 rfl) (by rfl) T.b_min (by decide +kernel) (pa_cons (pv 1) (pa_cons (C8.pe_gc (v := .int 3) (by rfl) T.c_MOST_HANDED) pa_nil))) pa_nil)))))) (pss_one ps_never) pss_nil) I ?_
    refine ⟨_, rfl, _, rfl, _, _, rfl, _, _, _, rfl, _, rfl, iteF' (by rw [int_ok (show (0 : Int) ≤ ((handed : Nat) : Int) by omega) (show ((handed : Nat) : Int) ≤ (if (3 : Int) < ((many : Nat) : Int) then 3 else ((many : Nat) : Int)) by split <;> omega)] <;> rfl) fun s3 I => ?_⟩
    refine at_cons (ps_if (pt_not (pt_val (pc c_is_integer hr (by decide) (by rfl) (pa_cons (pv 4) (pa_cons pe_int (pa_cons (C8.pe_gc (v := .int 8) (by rfl) T.c_MOST_SPAN) pa_nil)))))) (pss_one ps_never) pss_nil) I ?_
    refine ⟨_, rfl, _, _, _, rfl, _, rfl, iteF' (by rw [int_ok (show (2 : Int) ≤ ((span : Nat) : Int) by omega) (show ((span : Nat) : Int) ≤ 8 by omega)] <;> rfl) fun s4 I => ?_⟩
    refine at_cons (ps_if (PW.pt (pw_or (pt_not (pt_val (pe_callB call_isi (by rfl) T.b_isinstance (by decide +kernel) (pa_cons (pv 2) (pa_cons (pe_bltn (v := .ty "tuple") (by rfl) T.b_tuple (by decide +kernel) rfl) pa_nil))))) (pw_or1 (pt_not (pt_chain op_le op_le pe_int (pe_callB call_len_seq (by rfl) T.b_len (by decide +kernel) (pa_cons (pv 2) pa_nil)) (C8.pe_gc (v := .int 16) (by rfl) T.c_MOST_BLOCKS)))))) (pss_one ps_never) pss_nil) I ?_
    obtain ⟨t, xs, rfl, hs, hxs⟩ := Dp.isTup hdb
    have hlen := bks_len hxs
    have hone := ok.one
    have hfew := ok.few
    refine ⟨_, rfl, _, _, _, _, true, rfl, .ty _, ty_tup hs, kit_ty (by decide +kernel), true, rfl, iteF ?_⟩
    refine ⟨_, rfl, t, xs, rfl, .inr hs, _, _, rfl, rfl, _, rfl, iteT' (decide_eq_true (by omega)) ⟨_, _, rfl, rfl, _, rfl, iteF' (by rw [decide_eq_true (by omega)] <;> rfl) fun s5 I => ?_⟩⟩
    refine at_cons (ps_if (PW.pt (pw_or (pt_not (pt_val (pe_callB (cr_all rfl) (by rfl) T.b_all (by decide +kernel) (pa_cons (pe_lc (own := [("block", 5)]) rfl nd (pi_tup (pv 2)) (blkOk_by (own := [("block", 5)]) (by kernel_rfl)) (fun _ _ _ _ _ => (pg_name (i := 5) nd rfl (Or.inl rfl) (Or.inr rfl))) (fun _ _ _ _ _ => pts_nil) (fun _ _ _ _ _ => (pc c_is_plain_block hr (by decide) (by rfl) (pa_cons (pv 5) (pa_cons (pv 1) (pa_cons (pv 4) (pa_cons (pe_callB (call_lenK (K := K) rfl) (by rfl) T.b_len (by decide +kernel) (pa_cons (pv 2) pa_nil)) pa_nil))))))) pa_nil)))) (pw_or1 (pt_not (pt_val (pc c_are_reached hr (by decide) (by rfl) (pa_cons (pv 2) pa_nil))))))) (pss_one ps_never) pss_nil) I ?_
    refine ⟨_, rfl, t, rfl, ⟨xs, hs⟩, fun D hD => ?_⟩
    refine lc_tup_fm (xs := xs) (fun _ => true) (fun _ => V.bl true) hs (by omega) hD (fun x => rfl) (fun x _ => tyes1) (fun x hx _ H' Q' e' q' => ?_) (fun H1 e1 hD' => ⟨_, xs.map (fun _ => true), rfl, .inl (.inl ?_), ?_⟩)
    · obtain ⟨i, hi⟩ := List.mem_iff_getElem?.mp hx
      have hil : i < xs.length := (List.getElem?_eq_some_iff.mp hi).1
      obtain ⟨b, hbi⟩ : ∃ b, bs[i]? = some b := ⟨_, List.getElem?_eq_getElem (by omega)⟩
      obtain ⟨v', hv', hdv⟩ := DpAll.at_ hxs (i := i) (d := b.d) (by rw [List.getElem?_map, hbi] <;> rfl)
      rw [hi] at hv'
      cases hv'
      refine ⟨_, rfl, _, rfl, _, rfl, _, rfl, t, xs, rfl, .inr (Same.sqt e' hs), _, b, many, span, bs.length, ?_, dp_ext e' hdv, ok.ok b (List.mem_of_getElem? hbi), q'⟩
      rw [hlen] <;> rfl
    · rw [hD', filter_all, List.map_map] <;> rfl
    rw [all_true]
    refine ⟨_, rfl, iteF ⟨_, rfl, _, bs, many, span, rfl, dp_ext e1 hdb, ok, fun H2 e2 => ⟨_, rfl, iteF fun s6 I => ?_⟩⟩⟩
    have e12 := e1.trans e2
    have hins2 := e12 _ _ hins
    refine ks_wpAt_execs_cons (ks_wpAt_Expr_any ?_)
    refine ks_wpAt_mono (super_call (Q := fun _ H3 => H3 = SlX.slH H2 a (He.ga K "Program") dx (SlX.putS 3 (.ref t) [])) (j := 3) I SF F2 hr (by decide) rfl rfl rfl rfl ?_ rfl rfl rfl hins2 (pa_cons (pv 2) pa_nil) ?_ rfl rfl rfl) (fun v s' z => ?_) fun _ _ z => z
    · show (cellsFrom (s.heap.objs.size + 1) (defScope s_Program___init__).names [(("__class__" : Str), cc)]).lookup ("__class__" : Str) = some cc
      rw [cells_app, List.lookup_append, hown]
      simp [List.lookup]
    · exact ⟨_, rfl, a, dx, .ref t, [], rfl, .inl ⟨hins2, rfl⟩, rfl⟩
    obtain ⟨v', H3, I3, rv, rfl⟩ := z
    obtain ⟨q1, sl1⟩ := PF.s_many
    obtain ⟨q2, sl2⟩ := PF.s_handed
    obtain ⟨q3, sl3⟩ := PF.s_span
    have I := I3
    refine at_cons (SlX.ps_sl (pv 0) (pv 1)) I ?_
    refine ⟨_, rfl, _, rfl, a, _, dx, q1, _, 1, rfl, SlX.slH_slt dxa, PF.cls, sl1, ?_⟩
    rw [SlX.slH_twice dxa]
    intro s7 I
    refine at_cons (SlX.ps_sl (pv 0) (pv 3)) I ?_
    refine ⟨_, rfl, _, rfl, a, _, dx, q2, _, 0, rfl, SlX.slH_slt dxa, PF.cls, sl2, ?_⟩
    rw [SlX.slH_twice dxa]
    intro s8 I
    refine at_cons (SlX.ps_sl (pv 0) (pv 4)) I ?_
    refine ⟨_, rfl, _, rfl, a, _, dx, q3, _, 2, rfl, SlX.slH_slt dxa, PF.cls, sl3, ?_⟩
    rw [SlX.slH_twice dxa]
    intro s9 I
    refine wpAt_of_wpAny (wpAny_execs_nil ?_)
    have off : ∀ q u, q ≠ a → q ≠ dx → H q = some u → SlX.slH H2 a (He.ga K "Program") dx (SlX.putS 2 (.int ((span : Nat) : Int)) (SlX.putS 0 (.int ((handed : Nat) : Int)) (SlX.putS 1 (.int ((many : Nat) : Int)) (SlX.putS 3 (.ref t) [])))) q = some u := fun q u n1 n2 e => by
      rw [SlX.slH_ne n1 n2]
      exact e12 _ _ e
    refine ⟨.non, _, I.os, I.bare, I.base, I.hok, rfl, k _ off ⟨⟨a, dx, .ref t, rfl, SlX.slH_slt dxa, ?_⟩, ok⟩⟩
    refine dp_keep (fun q ys e => off q _ (fun z => ?_) (fun z => ?_) e) (fun q o ys e => off q _ (fun z => ?_) (fun z => ?_) e) (bks_nl bs) hdb
    · rw [z, hins] at e
      cases e
    · rw [z] at e
      exact nt1 _ e
    · rw [z, hins] at e
      cases e
    · rw [z] at e
      exact nt2 _ _ e
end
end Rr
namespace Rr
open PySem PySem.Spec PyProof.Rows L2
theorem pl_parts {K : PySem.W.Frag} {H : Hp} {v : V} {many wide handed : Nat} {bs : List Bk} (h : Dp K H v (plD many wide handed bs)) : ∃ a vb, v = .ref a ∧ SqT K H a [.int ((many : Nat) : Int), vb, .int ((handed : Nat) : Int), .int ((wide : Nat) : Int)] ∧ Dp K H vb (dBks bs) := by
  obtain ⟨a, xs, rfl, hs, ha⟩ := Dp.isTup h
  cases ha with
  | cons h0 r0 =>
  cases r0 with
  | cons h1 r1 =>
  cases r1 with
  | cons h2 r2 =>
  cases r2 with
  | cons h3 r3 =>
  cases r3
  have z0 := Dp.int_eq h0
  have z2 := Dp.int_eq h2
  have z3 := Dp.int_eq h3
  subst z0 z2 z3
  exact ⟨a, _, rfl, hs, h1⟩
section
variable {P : Program} {w : World} {K : PySem.W.Frag} {mg : Str → Option Value} {base : Heap}
def sp_made (K : PySem.W.Frag) : Sp := fun vs H Q _ => ∃ pl many wide handed bs, vs = [pl] ∧ Dp K H pl (plD many wide handed bs) ∧ Pl many wide handed bs ∧ ∀ v H', Same H H' → Pr K H' v many handed wide bs → Q v H'
-- _law_made: 0 _law_plain_here
theorem sc_law_made : FnScope ["_law_plain_here"] ["_law_plain_here"] (defScope s_law_made) := ⟨rfl, rfl, rfl, by decide +kernel, rfl, by decide +kernel, by decide +kernel⟩
theorem ok_made (T : Facts w K mg) (IF : InF P K mg) (F : FnAt K mg "_law_made" s_law_made) (FI : ∃ fd, FnOk P w K mg base CX0 4 (He.ma K (He.ga K "Program") "__init__") fd ["self", "many", "blocks", "handed", "span"] (sp_init K) ∧
      (∀ (s : Shared) (us ws : List Value), K.In s.heap → us.length = 3 → ws.length = 2 → BindsTo s fd ⟨us, (["handed", "span"] : List Str).zip ws⟩ ((["self", "many", "blocks", "handed", "span"] : List Str).zip (us ++ ws)))) : Cal P w K mg base 6 "_law_made" (sp_made K) := by
  obtain ⟨fd, FO, BI⟩ := FI
  have KB : KBn K fd ["self", "many", "blocks", "handed", "span"] 3 ["handed", "span"] (fun us ws => us ++ ws) (fun vs zs => vs ++ zs) := ⟨fun s us ws X h1 h2 => BI s us ws X h1 h2, fun r1 r2 => r1.append r2⟩
  refine cal_mk F sc_law_made (fun _ _ _ _ _ _ us hl => match us, hl with | [_], _ => rfl) (fun vs H Q E h => ?_) (fun f cdv A outer s H vs Q E hr h => ?_)
  · obtain ⟨pl, many, wide, handed, bs, rfl, _⟩ := h
    rfl
  · obtain ⟨pl, many, wide, handed, bs, rfl, hd, ok, k⟩ := h
    have nd := sc_law_made.nd
    refine ⟨_, (pss_one (ps_ret (pe_makeK (n := 2) IF.makes FO hr (by rfl) T.g_Program KB pass0 (pa_cons (pe_ix ix_tup (pv 0) pe_int (fun _ _ => rfl)) (pa_cons (pe_ix ix_tup (pv 0) pe_int (fun _ _ => rfl)) pa_nil)) (pk_cons (pe_ix ix_tup (pv 0) pe_int (fun _ _ => rfl)) (pk_cons (pe_ix ix_tup (pv 0) pe_int (fun _ _ => rfl)) pk_nil))))), ?_⟩
    obtain ⟨a, vb, rfl, hs, hb⟩ := pl_parts hd
    refine ⟨_, rfl, _, _, _, _, rfl, rfl, hs, atI_nat (j := 0) rfl, _, rfl, _, _, _, _, rfl, rfl, hs, atI_nat (j := 1) rfl, _, rfl, _, _, _, _, rfl, rfl, hs, atI_nat (j := 2) rfl, _, rfl, _, _, _, _, rfl, rfl, hs, atI_nat (j := 3) rfl, rfl, rfl, fun x dx hx hdx ne => ?_⟩
    have s1 : Same H (upd (upd H dx (.own x)) x (.ins (He.ga K "Program") dx [])) := (Same.new hdx).trans (Same.new (by rw [upd_ne ne.symm]; exact hx))
    have hm := ok.m1
    have hm3 := ok.m3
    have hw2 := ok.w2
    have hw4 := ok.w4
    have hh := ok.h
    have hh2 := ok.h2
    refine ⟨x, dx, vb, many, handed, wide, bs, rfl, upd_same, ne, fun xs z => ?_, fun o xs z => ?_, dp_ext s1 hb, ok.bks, hm, by omega, hh, by omega, hw2, by omega, fun H' off pr => ⟨rfl, k _ H' (fun q u e => ?_) pr⟩⟩
    · rw [upd_ne ne, upd_same] at z
      cases z
    · rw [upd_ne ne, upd_same] at z
      cases z
    · exact off q u (ne_of_none e hx) (ne_of_none e hdx) (s1 _ _ e)
end
end Rr
/-! ### (0,) * k for any small k -/
namespace Rr
open PySem PySem.Spec PyProof.Rows L2
open AutoSeq1 (wpAny_loadPart')
theorem mul_one (l : Addr) (items : Array Value) (n : Nat) (dd : Option Addr) (sl : Array (Option Value)) (u : Tok) :
    Meets (Builtin.«tuple.__mul__» ⟨[.ref l, .int 1 u], []⟩) (fun _ R s => s.heap.get? l = some { cls := .type "tuple", dict := dd, data := .seq items n, slots := sl } ∧ R (.ok (.ret (.ref l))) s) :=
  .of_wp fun pr ww AA R s0 z => by
    obtain ⟨h0, g0, d0, t0, o0⟩ := s0
    obtain ⟨hl, z2⟩ := z
    have f1 := AutoSeq1.idx_int
    have c1 : (items.isEmpty || (1 : Int) == 1) = true := by simp
    wp_walk using wpAny_loadPart' hl
    exact ⟨_, rfl, z2⟩
theorem mul_zero (l : Addr) (items : Array Value) (n : Nat) (dd : Option Addr) (sl : Array (Option Value)) (u : Tok) (ne : items.isEmpty = false) :
    Meets (Builtin.«tuple.__mul__» ⟨[.ref l, .int 0 u], []⟩) (fun _ R s => s.heap.get? l = some { cls := .type "tuple", dict := dd, data := .seq items n, slots := sl } ∧ R (.ok (.ret (.ref s.heap.objs.size))) { s with heap := s.heap.push { cls := .type "tuple", data := .seq #[] } }) :=
  .of_wp fun pr ww AA R s0 z => by
    obtain ⟨h0, g0, d0, t0, o0⟩ := s0
    obtain ⟨hl, z2⟩ := z
    have f1 := AutoSeq1.idx_int
    wp_walk using wpAny_loadPart' hl
    exact ⟨_, rfl, z2⟩
theorem rep_flat (a : V) : ∀ k : Nat, (List.replicate k [a]).flatten = List.replicate k a
  | 0 => rfl
  | k + 1 => by rw [List.replicate_succ, List.flatten_cons, rep_flat a k, List.replicate_succ] <;> rfl
/-- (v,) * k -/
def rRep1 (K : PySem.W.Frag) : R2 := fun x y H Q => ∃ l, ∃ k : Nat, ∃ v, x = .ref l ∧ y = .int ((k : Nat) : Int) ∧ SqT K H l [v] ∧ k ≤ 1000 ∧ ∀ p H', Same H H' → SqT K H' p (List.replicate k v) → Q (.ref p) H'
theorem op_rep1 {X : Cx} : OpR X (binaryOp .Mult) (rRep1 X.K) := by
  intro pins s σ H x y v u Q I rx ry h
  obtain ⟨l, k, a, rfl, rfl, hT, hk, q⟩ := h
  by_cases h2 : 2 ≤ k
  · refine op_repT pins s σ H _ _ v u Q I rx ry ⟨l, ((k : Nat) : Int), [a], rfl, rfl, hT, by simp, by omega, by omega, by simp, fun p hp => q p _ (Same.new hp) (.inl (.inl ?_))⟩
    rw [upd_same]
    have e : (List.replicate ((k : Nat) : Int).toNat [a]).flatten = List.replicate k a := by
      rw [Int.toNat_natCast]
      exact rep_flat a k
    rw [e]
  · cases (show v = Value.ref l from rx)
    obtain ⟨t, rfl⟩ := ry
    obtain ⟨its, r, ⟨⟨cls, dd, data, sl⟩, ho, hc, n, hd⟩, hs⟩ := I.tuple hT
    simp only at hc hd
    subst hc hd
    have hlen := r.length
    have ne : its.toArray.isEmpty = false := by
      cases its with
      | nil => simp at hlen
      | cons b c => rfl
    rcases (show k = 0 ∨ k = 1 by omega) with rfl | rfl
    · refine wpAny_binaryOp_repeat_ref (T := "tuple") (U := "int") (by decide) ⟨_, ho, rfl⟩ (fun s' => typeIs_int s' _ t) noFill_tuple_mul F.fills_int_mul F.slot_int_rmul repeat_tuple F.slot_int_index.lookup
        (call_meets F.slot_int_rmul (typeIs_int s _ t) F.entry_int_rmul (F.args_int_rmul_2 _ _) (int_rmul_tuple _ t l its.toArray n dd sl)
          ⟨ho, rfl, ⟨_, ho, rfl⟩, call_meets F.slot_tuple_mul ⟨_, ho, rfl⟩ F.entry_tuple_mul (F.args_tuple_mul_2 _ _) (mul_zero l its.toArray n dd sl t ne) ⟨ho, ?_⟩⟩)
      have hD := I.hok.fresh (Nat.le_refl s.heap.objs.size)
      refine ⟨.ref s.heap.objs.size, _, I.laid (t' := s.toks) (o := .tup []) (fun b ob z => Heap.get?_push_of_some _ z) (Nat.le_refl _) ?_, rfl, q _ _ (Same.new hD) (.inl (.inl upd_same))⟩
      exact ⟨Nat.zero_le _, [], .nil, IsTup.new _ _⟩
    · refine wpAny_binaryOp_repeat_ref (T := "tuple") (U := "int") (by decide) ⟨_, ho, rfl⟩ (fun s' => typeIs_int s' _ t) noFill_tuple_mul F.fills_int_mul F.slot_int_rmul repeat_tuple F.slot_int_index.lookup
        (call_meets F.slot_int_rmul (typeIs_int s _ t) F.entry_int_rmul (F.args_int_rmul_2 _ _) (int_rmul_tuple _ t l its.toArray n dd sl)
          ⟨ho, rfl, ⟨_, ho, rfl⟩, call_meets F.slot_tuple_mul ⟨_, ho, rfl⟩ F.entry_tuple_mul (F.args_tuple_mul_2 _ _) (mul_one l its.toArray n dd sl t) ⟨ho, ?_⟩⟩)
      exact ⟨.ref l, H, I, rfl, q _ _ (Same.refl _) hT⟩
/-- t + u -/
theorem cat_any {K : PySem.W.Frag} {H : Hp} {a b : Addr} {xs ys : List V} {Q : VK} (ha : SqT K H a xs) (hb : SqT K H b ys) (hz : xs.length + ys.length ≤ 1000) (q : ∀ p H', Same H H' → SqT K H' p (xs ++ ys) → Q (.ref p) H') : rCatA K (.ref a) (.ref b) H Q := by
  refine ⟨a, b, xs, ys, rfl, rfl, ha, hb, line1 hz, fun e => ?_, fun _ e => ?_, fun _ _ p hp => q p _ (Same.new hp) (.inl (.inl upd_same))⟩
  · subst e
    exact q b H (Same.refl _) hb
  · subst e
    refine q a H (Same.refl _) ?_
    rw [List.append_nil]
    exact ha
end Rr
namespace Rr
open PySem PySem.Spec PyProof.Rows L2
theorem nxt_at {K : PySem.W.Frag} {H : Hp} {xs : List V} {e : V} {bk : Bk} {i : Nat} (h : DpAll K H xs (bk.rows.map Rw.d)) (he : Dp K H e bk.fin.d) (hi : i ≤ bk.rows.length) : ∃ y, (xs ++ [e])[i]? = some y ∧ Dp K H y (nxt bk i) := by
  have hl : xs.length = bk.rows.length := by rw [DpAll.len h, List.length_map]
  unfold nxt
  by_cases q : i < bk.rows.length
  · rw [List.getElem?_eq_getElem q]
    obtain ⟨y, hy, hd⟩ := DpAll.at_ h (i := i) (d := bk.rows[i].d) (by rw [List.getElem?_map, List.getElem?_eq_getElem q] <;> rfl)
    exact ⟨y, by rw [List.getElem?_append_left (by omega)]; exact hy, hd⟩
  · have e0 : bk.rows[i]? = none := List.getElem?_eq_none (by omega)
    rw [e0]
    refine ⟨e, ?_, he⟩
    rw [List.getElem?_append_right (by omega), show i - xs.length = 0 by omega] <;> rfl
section
variable {P : Program} {w : World} {K : PySem.W.Frag} {mg : Str → Option Value} {base : Heap}
def sp_coming (K : PySem.W.Frag) : Sp := fun vs H Q _ => ∃ pl x many wide handed bs b i ns bk, vs = [pl, x] ∧ Dp K H pl (plD many wide handed bs) ∧ Pl many wide handed bs ∧ StV K H x b i ns ∧ bs[b]? = some bk ∧ i ≤ bk.rows.length ∧ ∀ y H', Same H H' → Dp K H' y (nxt bk i) → Q y H'
-- _law_coming: 0 _law_plain_here, 1 _law_state, 2 _law_rows, 3 _law_end_here
theorem sc_law_coming : FnScope ["_law_plain_here", "_law_state", "_law_rows", "_law_end_here"] ["_law_plain_here", "_law_state"] (defScope s_law_coming) := ⟨rfl, rfl, rfl, by decide +kernel, rfl, by decide +kernel, by decide +kernel⟩
theorem ok_coming (T : Facts w K mg) (F : FnAt K mg "_law_coming" s_law_coming) : Cal P w K mg base 1 "_law_coming" (sp_coming K) := by
  refine cal_mk F sc_law_coming (fun _ _ _ _ _ _ us hl => match us, hl with | [_, _], _ => rfl) (fun vs H Q E h => ?_) (fun f cdv A outer s H vs Q E hr h => ?_)
  · obtain ⟨pl, x, many, wide, handed, bs, b, i, ns, bk, rfl, _⟩ := h
    rfl
  · obtain ⟨pl, x, many, wide, handed, bs, b, i, ns, bk, rfl, hd, ok, st, hbk, hi, k⟩ := h
    have nd := sc_law_coming.nd
    refine ⟨_, (pss_cons (ps_asg (pe_ix ix_tup (pe_ix ix_tup (pv 0) pe_int (fun _ _ => rfl)) (pe_ix ix_tup (pv 1) pe_int (fun _ _ => rfl)) (fun _ _ => rfl)) (pg_tup (n := 2) rfl (pgs_cons (pg_name (i := 2) nd rfl (Or.inl rfl)) (pgs_cons (pg_name (i := 3) nd rfl (Or.inl rfl)) pgs_nil))))
    (pss_one (ps_ret (pe_ix ix_tup (pe_op op_catA (pv 2) (pe_tup (pa_cons (pv 3) pa_nil))) (pe_ix ix_tup (pv 1) pe_int (fun _ _ => rfl)) (fun _ _ => rfl))))), ?_⟩
    obtain ⟨a, vb, rfl, hs, hb⟩ := pl_parts hd
    obtain ⟨t, n, rfl, ht, hn⟩ := st.ex
    obtain ⟨tb, xb, rfl, hsb, hab⟩ := Dp.isTup hb
    obtain ⟨y, hy, hdy⟩ := DpAll.at_ hab (i := b) (d := bk.d) (by rw [List.getElem?_map, hbk] <;> rfl)
    obtain ⟨ab, pb, v2, xs, rfl, hsk, hp, hrows, hfin, hr0⟩ := bk_parts hdy
    have bok := ok.bks.bk hbk
    have few := bok.few
    have hxl : xs.length = bk.rows.length := by rw [DpAll.len hrows, List.length_map]
    refine ⟨_, rfl, _, _, _, _, rfl, rfl, hs, atI_nat (j := 1) rfl, _, rfl, _, _, _, _, rfl, rfl, ht, atI_nat (j := 0) rfl, _, _, _, _, rfl, rfl, hsb, atI_nat hy, ab, _, rfl, hsk, rfl, _, _, rfl, _, _, rfl, rfl, ?_⟩
    refine ⟨_, rfl, _, rfl, line1 (by simp), fun q hq => cat_any (Same.sqt (Same.new hq) hp) (.inl (.inl upd_same)) (by rw [List.length_singleton]; omega) fun p H' e' hp' => ?_⟩
    have e2 := (Same.new (o := .tup [v2]) hq).trans e'
    obtain ⟨y2, hy2, hd2⟩ := nxt_at (dpAll_ext e2 hrows) (dp_ext e2 hfin) hi
    exact ⟨_, rfl, _, _, _, _, rfl, rfl, Same.sqt e2 ht, atI_nat (j := 1) rfl, _, _, _, _, rfl, rfl, hp', atI_nat hy2, k _ _ e2 hd2⟩
def sp_options (K : PySem.W.Frag) : Sp := fun vs H Q _ => ∃ pl x many wide handed bs b i ns bk, vs = [pl, x] ∧ Dp K H pl (plD many wide handed bs) ∧ Pl many wide handed bs ∧ StV K H x b i ns ∧ bs[b]? = some bk ∧ i ≤ bk.rows.length ∧ ∀ p H', Same H H' → H' p = some (.lst (stepsL (nw bk i) wide)) → Q (.ref p) H'
-- _law_options: 0 _law_plain_here, 1 _law_state, 2 _law_word
theorem sc_law_options : FnScope ["_law_plain_here", "_law_state", "_law_word"] ["_law_plain_here", "_law_state"] (defScope s_law_options) := ⟨rfl, rfl, rfl, by decide +kernel, rfl, by decide +kernel, by decide +kernel⟩
theorem ok_options (T : Facts w K mg) (F : FnAt K mg "_law_options" s_law_options) (c_law_coming : Cal P w K mg base 1 "_law_coming" (sp_coming K)) : Cal P w K mg base 2 "_law_options" (sp_options K) := by
  refine cal_mk F sc_law_options (fun _ _ _ _ _ _ us hl => match us, hl with | [_, _], _ => rfl) (fun vs H Q E h => ?_) (fun f cdv A outer s H vs Q E hr h => ?_)
  · obtain ⟨pl, x, many, wide, handed, bs, b, i, ns, bk, rfl, _⟩ := h
    rfl
  · obtain ⟨pl, x, many, wide, handed, bs, b, i, ns, bk, rfl, hd, ok, st, hbk, hi, k⟩ := h
    have nd := sc_law_options.nd
    refine ⟨_, (pss_cons (ps_set (i := 2) nd rfl (Or.inl rfl) (pe_ix ix_tup (pc c_law_coming hr (by decide) (by rfl) (pa_cons (pv 0) (pa_cons (pv 1) pa_nil))) pe_int (fun _ _ => rfl)))
    (pss_cons (ps_if (pt_cmpR op_eq (pv 2) pe_str (nomark _)) (pss_one (ps_ret (pe_lst pa_nil))) pss_nil)
    (pss_one (ps_ret (pe_ifExp (pt_cmpR op_eq (pv 2) pe_str (nomark _)) (pe_listRg rfl (by rfl) T.b_list (prg_1 (by rfl) T.b_range (pe_ix ix_tup (pv 0) pe_int (fun _ _ => rfl)))) (pe_lst (pa_cons pe_non pa_nil))))))), ?_⟩
    have hd0 := hd
    obtain ⟨a, vb, rfl, hs, hb⟩ := pl_parts hd0
    have hw4 := ok.w4
    refine ⟨_, rfl, _, rfl, _, x, many, wide, handed, bs, b, i, ns, bk, rfl, hd, ok, st, hbk, hi, fun y H1 e1 hy => ?_⟩
    rw [nxt_eq] at hy
    obtain ⟨t, rfl, ht⟩ := word_tup hy
    refine ⟨_, _, _, _, rfl, rfl, ht, atI_nat (j := 0) rfl, _, rfl, rfl, _, rfl, ?_⟩
    rw [str_dec]
    unfold stepsL at k
    by_cases e : nw bk i = "stop"
    · rw [if_pos e] at k
      exact iteT' (decide_eq_true e) ⟨line1 (by simp), fun p hp => k p _ (e1.trans (Same.new hp)) upd_same⟩
    · rw [if_neg e] at k
      refine iteF' (decide_eq_false e) ⟨_, rfl, rfl, _, rfl, ?_⟩
      rw [str_dec]
      by_cases e2 : nw bk i = "take"
      · rw [if_pos e2] at k
        refine iteT' (decide_eq_true e2) ⟨_, rfl, _, _, _, _, rfl, rfl, Same.sqt e1 hs, atI_nat (j := 3) rfl, _, rfl, RgOk.of_le (by omega) (by omega) (by omega) (by omega), fun p hp => ?_⟩
        rw [rg_nats]
        exact k p _ (e1.trans (Same.new hp)) upd_same
      · rw [if_neg e2] at k
        exact iteF' (decide_eq_false e2) ⟨line1 (by simp), fun p hp => k p _ (e1.trans (Same.new hp)) upd_same⟩
def sp_first (K : PySem.W.Frag) : Sp := fun vs H Q _ => ∃ pl n many wide handed bs, ∃ ns : List Nat, vs = [pl, .ref n] ∧ Dp K H pl (plD many wide handed bs) ∧ Pl many wide handed bs ∧ SqT K H n (natsV ns) ∧ ns.length = handed ∧ ∀ y H', Same H H' → StV K H' y 0 0 (ns ++ List.replicate (many - handed) 0) → Q y H'
-- _law_first: 0 _law_plain_here, 1 _law_numbers
theorem sc_law_first : FnScope ["_law_plain_here", "_law_numbers"] ["_law_plain_here", "_law_numbers"] (defScope s_law_first) := ⟨rfl, rfl, rfl, by decide +kernel, rfl, by decide +kernel, by decide +kernel⟩
theorem ok_first (T : Facts w K mg) (F : FnAt K mg "_law_first" s_law_first) : Cal P w K mg base 1 "_law_first" (sp_first K) := by
  refine cal_mk F sc_law_first (fun _ _ _ _ _ _ us hl => match us, hl with | [_, _], _ => rfl) (fun vs H Q E h => ?_) (fun f cdv A outer s H vs Q E hr h => ?_)
  · obtain ⟨pl, n, many, wide, handed, bs, ns, rfl, _⟩ := h
    rfl
  · obtain ⟨pl, n, many, wide, handed, bs, ns, rfl, hd, ok, hn, hl, k⟩ := h
    have nd := sc_law_first.nd
    refine ⟨_, (pss_one (ps_ret (pe_tup (pa_cons pe_int (pa_cons pe_int (pa_cons (pe_op op_catA (pv 1) (pe_op op_rep1 (pe_tup (pa_cons pe_int pa_nil)) (pe_op op_sub (pe_ix ix_tup (pv 0) pe_int (fun _ _ => rfl)) (pe_ix ix_tup (pv 0) pe_int (fun _ _ => rfl))))) pa_nil)))))), ?_⟩
    obtain ⟨a, vb, rfl, hs, hb⟩ := pl_parts hd
    have hh := ok.h
    have hm3 := ok.m3
    refine ⟨_, rfl, line1 (by simp), fun p hp => ?_⟩
    have sN := Same.new (o := .tup [.int 0]) hp
    refine ⟨_, rfl, _, _, _, _, rfl, rfl, Same.sqt sN hs, atI_nat (j := 0) rfl, _, rfl, _, _, _, _, rfl, rfl, Same.sqt sN hs, atI_nat (j := 2) rfl, _, _, rfl, rfl, p, many - handed, .int 0, rfl, ?_, .inl (.inl upd_same), by omega, fun q H1 e1 hq => ?_⟩
    · show V.int (((many : Nat) : Int) - ((handed : Nat) : Int)) = _
      rw [show ((many : Nat) : Int) - ((handed : Nat) : Int) = ((many - handed : Nat) : Int) by omega]
    · have e2 := sN.trans e1
      refine cat_any (Same.sqt e2 hn) hq (by rw [natsV_len, List.length_replicate]; omega) fun q2 H2 e3 hq2 => ⟨line1 (by simp), fun q3 hq3 => ?_⟩
      have e4 := (e2.trans e3).trans (Same.new (o := .tup [.int 0, .int 0, .ref q2]) hq3)
      refine k _ _ e4 ⟨q3, q2, rfl, .inl (.inl upd_same), Same.sqt (Same.new hq3) ?_⟩
      have ee : natsV ns ++ List.replicate (many - handed) (V.int 0) = natsV (ns ++ List.replicate (many - handed) 0) := by
        unfold natsV
        rw [List.map_append, List.map_replicate] <;> rfl
      rw [← ee]
      exact hq2
end
end Rr
namespace Rr
open PySem PySem.Spec PyProof.Rows L2
/-- tuples of len numbers below wide -/
def HandT (K : PySem.W.Frag) (H : Hp) (xs : List V) (len wide : Nat) : Prop := ∀ x ∈ xs, ∃ n, ∃ ns : List Nat, x = .ref n ∧ SqT K H n (natsV ns) ∧ ns.length = len ∧ ∀ m ∈ ns, m < wide
theorem HandT.ext {K : PySem.W.Frag} {H H' : Hp} {xs : List V} {len wide : Nat} (h : HandT K H xs len wide) (e : Same H H') : HandT K H' xs len wide := fun x hx => by
  obtain ⟨n, ns, e1, h1, h2, h3⟩ := h x hx
  exact ⟨n, ns, e1, Same.sqt e h1, h2, h3⟩
theorem HandT.put {K : PySem.W.Frag} {H : Hp} {D : Addr} {xs ys zs : List V} {len wide : Nat} (h : HandT K H xs len wide) (hD : H D = some (.lst ys)) : HandT K (upd H D (.lst zs)) xs len wide := fun x hx => by
  obtain ⟨n, ns, e1, h1, h2, h3⟩ := h x hx
  exact ⟨n, ns, e1, SqT.put h1 hD, h2, h3⟩
theorem HandT.app {K : PySem.W.Frag} {H : Hp} {xs ys : List V} {len wide : Nat} (h : HandT K H xs len wide) (g : HandT K H ys len wide) : HandT K H (xs ++ ys) len wide := fun x hx => by
  rcases List.mem_append.mp hx with z | z
  · exact h x z
  · exact g x z
section
variable {P : Program} {w : World} {K : PySem.W.Frag} {mg : Str → Option Value} {base : Heap}
def sp_hands (K : PySem.W.Frag) : Sp := fun vs H Q _ => ∃ pl many wide handed bs, vs = [pl] ∧ Dp K H pl (plD many wide handed bs) ∧ Pl many wide handed bs ∧ ∀ p xs H', Same H H' → H' p = some (.lst xs) → xs ≠ [] → HandT K H' xs handed wide → Q (.ref p) H'
-- _law_hands: 0 _law_plain_here, 1 _law_found, 2 _law_turn, 3 _law_longer, 4 _law_row_here*, 5 _law_value
theorem sc_law_hands : FnScope ["_law_plain_here", "_law_found", "_law_turn", "_law_longer", "_law_row_here", "_law_value"] ["_law_plain_here"] (defScope s_law_hands) := ⟨rfl, rfl, rfl, by decide +kernel, rfl, by decide +kernel, by decide +kernel⟩
theorem ok_hands (T : Facts w K mg) (F : FnAt K mg "_law_hands" s_law_hands) : Cal P w K mg base 1 "_law_hands" (sp_hands K) := by
  refine cal_mk F sc_law_hands (fun _ _ _ _ _ _ us hl => match us, hl with | [_], _ => rfl) (fun vs H Q E h => ?_) (fun f cdv A outer s H vs Q E hr h => ?_)
  · obtain ⟨pl, many, wide, handed, bs, rfl, _⟩ := h
    rfl
  · obtain ⟨pl, many, wide, handed, bs, rfl, hd, ok, k⟩ := h
    have nd := sc_law_hands.nd
    refine ⟨_, (pss_cons (ps_set (i := 1) nd rfl (Or.inl rfl) (pe_lst (pa_cons (pe_tup pa_nil) pa_nil)))
    (pss_cons (ps_for PassesOwn.never rfl (pi_range1 (by rfl) T.b_range (pa_cons (pe_ix ix_tup (pv 0) pe_int (fun _ _ => rfl)) pa_nil)) (pg_name (i := 2) nd rfl (Or.inl rfl)) (pss_cons (ps_set (i := 3) nd rfl (Or.inl rfl) (pe_lst pa_nil))
    (pss_cons (ps_for PassesOwn.never rfl (pi_list (pv 1)) (pg_name (i := 4) nd rfl (Or.inr rfl)) (pss_one (ps_set (i := 3) nd rfl (Or.inl rfl) (pe_op op_cat (pv 3) (pe_lc (own := [("_law_value", 5)]) rfl nd (pi_range1 (by rfl) T.b_range (pa_cons (pe_ix ix_tup (pv 0) pe_int (fun _ _ => rfl)) pa_nil)) (blkOk_by (own := [("_law_value", 5)]) (by kernel_rfl)) (fun _ _ _ _ _ => (pg_name (i := 5) nd rfl (Or.inl rfl) (Or.inr rfl))) (fun _ _ _ _ _ => pts_nil) (fun _ _ _ _ _ => (pe_op (op_catAK (K := K) rfl) (pv 4) (pe_tup (pa_cons (pv 5) pa_nil)))))))))
    (pss_one (ps_set (i := 1) nd rfl (Or.inl rfl) (pv 3))))))
    (pss_one (ps_ret (pv 1))))), ?_⟩
    obtain ⟨a, vb, rfl, hs, hb⟩ := pl_parts hd
    have hh2 := ok.h2
    have hw4 := ok.w4
    have hw2 := ok.w2
    refine ⟨by decide, fun t0 ht0 => ⟨line1 (by simp), fun p0 hp0 => ?_⟩⟩
    have s1 : Same H (upd (upd H t0 (.tup [])) p0 (.lst [.ref t0])) := (Same.new ht0).trans (Same.new hp0)
    have x1 : HandT K (upd (upd H t0 (.tup [])) p0 (.lst [.ref t0])) [.ref t0] 0 wide := fun x hx => by
      rw [List.mem_singleton.mp hx]
      exact ⟨t0, [], rfl, Same.sqt (Same.new hp0) (.inl (.inl upd_same)), rfl, fun m hm => (by cases hm)⟩
    refine ⟨_, rfl, _, _, _, _, rfl, rfl, Same.sqt s1 hs, atI_nat (j := 2) rfl, _, rfl, by omega, by omega, ?_⟩
    refine for_range (fun i σ' H' => ∃ pf xs x2 x3 x4, σ' = [some (.ref a), some (.ref pf), x2, x3, x4, none] ∧ Same H H' ∧ H' pf = some (.lst xs) ∧ xs ≠ [] ∧ xs.length ≤ 4 ^ i ∧ HandT K H' xs i wide)
      ⟨p0, _, none, none, none, rfl, s1, upd_same, by simp, by simp, x1⟩ (fun i σ' H' hi z => ?_) (fun σ' H' z => ?_)
    · obtain ⟨pf, xs, x2, x3, x4, rfl, s2, hpf, nn, le, hx⟩ := z
      rw [Int.toNat_natCast] at hi
      have le16 : xs.length ≤ 4 := Nat.le_trans le (Nat.le_trans (Nat.pow_le_pow_right (by omega) (show i ≤ 1 by omega)) (by decide))
      refine ⟨by decide, fun p1 hp1 => ?_⟩
      have s3 := s2.trans (Same.new (o := .lst []) hp1)
      have hpf3 := (Same.new (o := .lst []) hp1) _ _ hpf
      have hx3 := hx.ext (Same.new (o := .lst []) hp1)
      have l3 : (upd H' p1 (.lst [])) p1 = some (.lst []) := upd_same
      generalize upd H' p1 (.lst []) = H3 at s3 hpf3 hx3 l3 ⊢
      refine ⟨_, rfl, pf, rfl, ⟨_, .inl (.inl hpf3)⟩, ?_⟩
      refine for_list (xs := xs) (fun j σ4 H4 => ∃ p4 zs y2 y4, σ4 = [some (.ref a), some (.ref pf), y2, some (.ref p4), y4, none] ∧ Same H3 H4 ∧ H4 p4 = some (.lst zs) ∧ zs.length = j * wide ∧ HandT K H4 zs (i + 1) wide)
        ⟨p1, [], _, x4, rfl, Same.refl _, l3, by simp, fun x hx => (by cases hx)⟩ (fun j σ4 H4 _ z => ?_) (fun j x σ4 H4 hx4 z => ?_) (fun σ4 H4 z => ?_)
      · obtain ⟨_, _, _, _, _, s4, _⟩ := z
        exact .inl (.inl (s4 _ _ hpf3))
      · obtain ⟨p4, zs, y2, y4, rfl, s4, l4, n4, h4⟩ := z
        have hj : j < xs.length := (List.getElem?_eq_some_iff.mp hx4).1
        obtain ⟨n, ns, rfl, hn, ln, bn⟩ := hx3 x (List.mem_of_getElem? hx4)
        have sA := s3.trans s4
        refine ⟨_, rfl, _, rfl, _, _, _, _, rfl, rfl, Same.sqt sA hs, atI_nat (j := 3) rfl, _, rfl, by omega, by omega, fun D hD => ?_⟩
        rw [Int.toNat_natCast]
        refine lc_range (fun v H5 => Same H4 H5 ∧ ∃ acc, H5 D = some (.lst acc) ∧ acc.length = v ∧ HandT K H5 acc (i + 1) wide) ⟨Same.new hD, [], upd_same, rfl, fun x hx => (by cases hx)⟩ (fun v H5 hv z => ?_) (fun H5 z => ?_)
        · obtain ⟨s5, acc, D5, n5, h5⟩ := z
          refine ⟨rfl, ?_⟩
          unfold tYes
          refine iteT ⟨_, rfl, _, rfl, line1 (by simp), fun q hq => ?_⟩
          have s6 := s5.trans (Same.new (o := .tup [.int (0 + ((v : Nat) : Int))]) hq)
          refine cat_any (Same.sqt (s4.trans s6) hn) (.inl (.inl upd_same)) (by rw [natsV_len, List.length_singleton]; omega) fun q2 H7 e7 hq2 => ?_
          have s7 := s6.trans e7
          have D7 := e7 _ _ ((Same.new (o := .tup [.int (0 + ((v : Nat) : Int))]) hq) _ _ D5)
          have h7 := (h5.ext (Same.new (o := .tup [.int (0 + ((v : Nat) : Int))]) hq)).ext e7
          refine ⟨acc, D7, small1000 (by omega), Same.app s7 hD, acc ++ [.ref q2], upd_same, by rw [List.length_append, n5] <;> rfl, ?_⟩
          refine (h7.put D7).app fun x hx => ?_
          rw [List.mem_singleton.mp hx]
          refine ⟨q2, ns ++ [v], rfl, SqT.put ?_ D7, by rw [List.length_append, ln] <;> rfl, fun m hm => ?_⟩
          · rw [natsV_app]
            rw [Int.zero_add] at hq2
            exact hq2
          · rcases List.mem_append.mp hm with z | z
            · exact bn m z
            · rw [List.mem_singleton.mp z]
              exact hv
        · obtain ⟨s5, acc, D5, n5, h5⟩ := z
          have l5 := s5 _ _ l4
          have hjw : j * wide ≤ 4 * 4 := Nat.mul_le_mul (by omega) hw4
          refine ⟨p4, D, zs, acc, rfl, rfl, l5, D5, line1 (by omega), fun q hq => ?_⟩
          have sN := Same.new (o := .lst (zs ++ acc)) hq
          refine ⟨q, zs ++ acc, _, _, rfl, (s4.trans s5).trans sN, upd_same, by rw [List.length_append, n4, n5, Nat.succ_mul], ((h4.ext s5).ext sN).app (h5.ext sN)⟩
      · obtain ⟨p4, zs, y2, y4, rfl, s4, l4, n4, h4⟩ := z
        refine ⟨_, rfl, p4, zs, _, _, _, rfl, s3.trans s4, l4, fun z => ?_, ?_, h4⟩
        · rw [z, List.length_nil] at n4
          have h1 : 1 ≤ xs.length := List.length_pos_iff.mpr nn
          have h2 : 1 * 1 ≤ xs.length * wide := Nat.mul_le_mul h1 (by omega)
          omega
        · rw [n4, Nat.pow_succ]
          exact Nat.mul_le_mul le hw4
    · obtain ⟨pf, xs, x2, x3, x4, rfl, s2, hpf, nn, le, hx⟩ := z
      rw [Int.toNat_natCast] at hx
      exact ⟨_, rfl, k pf xs H' s2 hpf nn hx⟩
end
end Rr
namespace Rr
open PySem PySem.Spec PyProof.Rows L2 LamX
theorem cut_ints (ns : List Int) (lo hi : Option Int) : ∃ ms : List Int, cutV (ns.map V.int) lo hi = ms.map V.int := by
  refine ⟨((ns.drop (HT.sIx (ns.map V.int).length 0 lo)).take (HT.sIx (ns.map V.int).length (ns.map V.int).length hi - HT.sIx (ns.map V.int).length 0 lo)), ?_⟩
  unfold cutV
  rw [List.map_take, List.map_drop]
theorem Dr.refs {K : PySem.W.Frag} {H : Hp} {d a : Addr} {xs : List V} (h : Dr K H d) (ha : H a = some (.lst xs)) (hx : ∀ x ∈ xs, ∃ n, x = .ref n) : a ≠ d := by
  obtain ⟨s, c, ns, h1, _⟩ := h.ex
  refine ne_of ha h1 fun z => ?_
  have e := HO.lst.inj z
  obtain ⟨n, e2⟩ := hx (.int 0) (by rw [e]; simp)
  cases e2
theorem Dr.flat {K : PySem.W.Frag} {H : Hp} {d a : Addr} {xs : List V} (h : Dr K H d) (ha : H a = some (.lst xs)) (hx : ∀ x ∈ xs, ∀ n, x ≠ .ref n) : a ≠ d := by
  obtain ⟨s, c, ns, h1, _⟩ := h.ex
  refine ne_of ha h1 fun z => ?_
  have e := HO.lst.inj z
  exact hx (.ref s) (by rw [e]; simp) s rfl
theorem Dr.extN {K : PySem.W.Frag} {H H' : Hp} {d : Addr} (h : Dr K H d) (e : ExtN H H') : Dr K H' d := by
  obtain ⟨s, c, ns, h1, h2⟩ := h.ex
  exact ⟨s, c, ns, e _ _ h1 (by intro ps z; cases z), sqL_extN h2 e⟩
theorem natsV_noref {l : List Nat} : ∀ x ∈ natsV l, ∀ n, x ≠ .ref n := fun x hx n e => by
  obtain ⟨a, _, rfl⟩ := List.mem_map.mp hx
  cases e
theorem Tabs.sb {T : List (Addr × Str)} {K : PySem.W.Frag} {H H' : Hp} {d : Addr} (t : Tabs T H) (dr : Dr K H d) (e : SameB d H H') : Tabs T H' := fun p hp => by
  obtain ⟨ys, hd⟩ := dr.lst
  obtain ⟨ps, h1, h2, h3⟩ := t p hp
  refine ⟨ps, e.off _ _ (ne_of h1 hd (by intro z; cases z)) h1, h2, fun pos cv hc => ?_⟩
  obtain ⟨c, e1, e2⟩ := h3 pos cv hc
  exact ⟨c, e1, e.off _ _ (ne_of e2 hd (by intro z; cases z)) e2⟩
theorem Pr.sb {K : PySem.W.Frag} {H H' : Hp} {d : Addr} {v : V} {many handed span : Nat} {bs : List Bk} (h : Pr K H v many handed span bs) (dr : Dr K H d) (e : SameB d H H') : Pr K H' v many handed span bs := by
  obtain ⟨⟨a, dx, vb, e1, h1, h2⟩, ok⟩ := h
  exact ⟨⟨a, dx, vb, e1, dr.slt e h1, dr.dp e (by show nlAll _ = true; exact bks_nl bs) h2⟩, ok⟩
theorem RowsH.refs {H : Hp} {pr n : Nat} {F : Nat → List Nat} {xs : List V} (h : RowsH H pr n F) (hx : H pr = some (.lst xs)) : ∀ x ∈ xs, ∃ n, x = .ref n := fun x hm => by
  obtain ⟨ys, h1, h2, h3⟩ := h.ex
  rw [hx] at h1
  cases h1
  obtain ⟨i, hi, e⟩ := List.getElem_of_mem hm
  obtain ⟨p, h4, _⟩ := h3 i (by omega)
  rw [List.getElem?_eq_getElem hi, e] at h4
  exact ⟨p, Option.some.inj h4⟩
theorem RowsH.sb {K : PySem.W.Frag} {H H' : Hp} {d : Addr} {pr n : Nat} {F : Nat → List Nat} (h : RowsH H pr n F) (dr : Dr K H d) (e : SameB d H H') : RowsH H' pr n F := by
  obtain ⟨xs, h1, h2, h3⟩ := h.ex
  refine ⟨xs, e.off _ _ (dr.refs h1 (h.refs h1)) h1, h2, fun b hb => ?_⟩
  obtain ⟨p, h4, h5⟩ := h3 b hb
  exact ⟨p, h4, e.off _ _ (dr.flat h5 natsV_noref) h5⟩
theorem StV.sb {K : PySem.W.Frag} {H H' : Hp} {d : Addr} {v : V} {b i : Nat} {ns : List Nat} (h : StV K H v b i ns) (dr : Dr K H d) (e : SameB d H H') : StV K H' v b i ns := by
  obtain ⟨a, n, e1, h1, h2⟩ := h.ex
  exact ⟨a, n, e1, dr.sqt e h1, dr.sqt e h2⟩
theorem StV.put {K : PySem.W.Frag} {H : Hp} {D : Addr} {ys zs : List V} {v : V} {b i : Nat} {ns : List Nat} (h : StV K H v b i ns) (hD : H D = some (.lst ys)) : StV K (upd H D (.lst zs)) v b i ns := by
  obtain ⟨a, n, e1, h1, h2⟩ := h.ex
  exact ⟨a, n, e1, SqT.put h1 hD, SqT.put h2 hD⟩
theorem RowsH.extS {H H' : Hp} {pr n : Nat} {F : Nat → List Nat} (h : RowsH H pr n F) (e : Same H H') : RowsH H' pr n F := h.extN (Same.extN e)
/-- what stays in the rounds -/
structure Rnd (K : PySem.W.Frag) (H : Hp) (d : Addr) (v pl : V) (pr many wide handed : Nat) (bs : List Bk) (F : Nat → List Nat) : Prop where
  dr : Dr K H d
  tb : Tabs (TLam K) H
  prg : Pr K H v many handed wide bs
  pl : Dp K H pl (plD many wide handed bs)
  rows : RowsH H pr bs.length F
theorem Rnd.sb {K : PySem.W.Frag} {H H' : Hp} {d : Addr} {v pl : V} {pr many wide handed : Nat} {bs : List Bk} {F : Nat → List Nat} (r : Rnd K H d v pl pr many wide handed bs F) (e : SameB d H H') (dr : Dr K H' d) : Rnd K H' d v pl pr many wide handed bs F :=
  ⟨dr, Tabs.sb r.tb r.dr e, r.prg.sb r.dr e, r.dr.dp e (plD_nl _ _ _ _) r.pl, r.rows.sb r.dr e⟩
theorem Rnd.ext {K : PySem.W.Frag} {H H' : Hp} {d : Addr} {v pl : V} {pr many wide handed : Nat} {bs : List Bk} {F : Nat → List Nat} (r : Rnd K H d v pl pr many wide handed bs F) (e : Same H H') : Rnd K H' d v pl pr many wide handed bs F := r.sb (Same.b d e) (r.dr.ext e)
theorem hds_of {n : Nat} {R : Nat → List Nat → Prop} (h : ∀ b, b < n → ∃ l, R b l) : ∃ F : Nat → List Nat, ∀ b, b < n → R b (F b) := by
  refine ⟨fun b => if hb : b < n then Classical.choose (h b hb) else [], fun b hb => ?_⟩
  have e : (fun b => if hb : b < n then Classical.choose (h b hb) else []) b = Classical.choose (h b hb) := dif_pos hb
  rw [e]
  exact Classical.choose_spec (h b hb)
theorem rows_of {H : Hp} {D : Addr} {acc : List V} {bs : List Bk} (hD : H D = some (.lst acc)) (n : acc.length = bs.length) (r : ∀ b, b < bs.length → ∃ p l, acc[b]? = some (.ref p) ∧ H p = some (.lst (natsV l)) ∧ Hd bs b l) : ∃ F, RowsH H D bs.length F ∧ Hds bs F := by
  obtain ⟨F0, hF0⟩ := hds_of (R := fun b l => ∃ p, acc[b]? = some (.ref p) ∧ H p = some (.lst (natsV l)) ∧ Hd bs b l) (n := bs.length) fun b hb => by
    obtain ⟨p, l, h1, h2, h3⟩ := r b hb
    exact ⟨l, p, h1, h2, h3⟩
  refine ⟨F0, ⟨acc, hD, n, fun b hb => ?_⟩, fun b hb => ?_, fun b hb => ?_⟩
  · obtain ⟨p, h1, h2, _⟩ := hF0 b hb
    exact ⟨p, h1, h2⟩
  · obtain ⟨p, _, _, h⟩ := hF0 b hb
    exact h.1
  · obtain ⟨p, _, _, h⟩ := hF0 b hb
    exact h.2
theorem tk_of {bk : Bk} {i span : Nat} {x : V} (h : nw bk i ≠ "stop") (hx : x ∈ stepsL (nw bk i) span) : Tk bk i span x := by
  unfold Tk
  by_cases e : nw bk i = "take"
  · rw [if_pos e]
    rw [stepsL_take e] at hx
    obtain ⟨t, ht, rfl⟩ := List.mem_map.mp hx
    exact ⟨t, List.mem_range.mp ht, rfl⟩
  · rw [if_neg e]
    rw [stepsL_none h e] at hx
    exact List.mem_singleton.mp hx
theorem stepsL_stop {wd : Str} {span : Nat} (e : wd = "stop") : stepsL wd span = [] := if_pos e
theorem stepsL_noref {wd : Str} {span : Nat} : ∀ x ∈ stepsL wd span, ∀ n, x ≠ .ref n := fun x hx n e => by
  subst e
  unfold stepsL at hx
  by_cases h1 : wd = "stop"
  · rw [if_pos h1] at hx
    cases hx
  · rw [if_neg h1] at hx
    by_cases h2 : wd = "take"
    · rw [if_pos h2] at hx
      obtain ⟨t, _, z⟩ := List.mem_map.mp hx
      cases z
    · rw [if_neg h2] at hx
      cases List.mem_singleton.mp hx
section
variable {P : Program} {w : World} {K : PySem.W.Frag} {mg : Str → Option Value} {base : Heap}
def sp_law (K : PySem.W.Frag) : Sp := fun vs H Q _ => ∃ a, ∃ ns : List Int, vs = [.ref a] ∧ SqL K H a (ns.map V.int) ∧ Tabs (TLam K) H ∧ ∀ H', Q (.bl true) H'
-- law: 0 _law_script, 1 _law_draw_here, 2 _law_by, 3 _law_plain_here, 4 _law_program*, 5 _law_rows, 6 _law_turn, 7 _law_state, 8 _law_met*, 9 _law_walk, 10 _law_can, 11 _law_late, 12 _law_block, 13 _law_one
theorem sc_law : FnScope ["_law_script", "_law_draw_here", "_law_by", "_law_plain_here", "_law_program", "_law_rows", "_law_turn", "_law_state", "_law_met", "_law_walk", "_law_can", "_law_late", "_law_block", "_law_one"] ["_law_script"] (defScope s_law) := ⟨rfl, rfl, rfl, by decide +kernel, rfl, by decide +kernel, by decide +kernel⟩
theorem fn_mk {x : Str} {st : Stmt} {N ps : List Str} {k : Nat} {sp : Sp} {f : Addr} {fd : FuncData} (F : FunD K x x (defArgs st) (defBody st) (defScope st) [] [] f fd) (S : FnScope N ps (defScope st)) (len : ∀ vs H Q E, sp vs H Q E → vs.length = ps.length)
    (hbody : ∀ (cdv : Value) (A : Around) (outer : List Env) (s : Shared) (H : Hp) (vs : List V) (Q : VK) (E : XK), Room k (A.deeper (envOfC x (defScope st) s.heap.objs.size f cdv)) → sp vs H Q E →
      ∃ t, PSs (cxOf CX0 P w K mg base N x (defScope st) f cdv A outer s H E).nox (defBody st) t ∧ t { nx := fun _ H' => Q .non H', rt := Q } (start N vs) H) : FnOk P w K mg base CX0 (k + 1) f fd ps sp := by
  refine F.ok S len fun cdv A outer s H vs Q E hr hsp => ?_
  obtain ⟨t, h, q⟩ := hbody cdv A outer s H vs Q E hr hsp
  exact ⟨t, h.nox, q⟩
theorem ok_law {f : Addr} {fd : FuncData} (T : Facts w K mg) (F : FunD K "law" "law" (defArgs s_law) (defBody s_law) (defScope s_law) [] [] f fd) (c_law_plain : Cal P w K mg base 6 "_law_plain" (sp_lplain K)) (c_law_made : Cal P w K mg base 6 "_law_made" (sp_made K)) (c_heads : Cal P w K mg base 8 "heads" (sp_heads K)) (c_law_rows_right : Cal P w K mg base 9 "_law_rows_right" (sp_rows_right K))
    (c_law_first : Cal P w K mg base 1 "_law_first" (sp_first K)) (c_law_pick : Cal P w K mg base 4 "_law_pick" (sp_pick K)) (c_law_hands : Cal P w K mg base 1 "_law_hands" (sp_hands K)) (c_law_options : Cal P w K mg base 2 "_law_options" (sp_options K)) (c_step : Cal P w K mg base 9 "step" (sp_step K)) : FnOk P w K mg base CX0 10 f fd ["_law_script"] (sp_law K) := by
  refine fn_mk F sc_law (fun vs H Q E h => ?_) (fun cdv A outer s H vs Q E hr h => ?_)
  · obtain ⟨a, ns, rfl, _⟩ := h
    rfl
  · obtain ⟨a, ns, rfl, hs, tabs, k⟩ := h
    have nd := sc_law.nd
    have hu := hu_of hr
    refine ⟨_, (pss_cons (ps_set (i := 1) nd rfl (Or.inl rfl) (pe_lst (pa_cons (pe_slice sl_list (pv 0) po_none (po_some pe_int)) (pa_cons pe_int (pa_cons pe_int pa_nil)))))
    (pss_cons (ps_for PassesOwn.never rfl (pi_range1 (by rfl) T.b_range (pa_cons pe_int pa_nil)) (pg_name (i := 2) nd rfl (Or.inl rfl)) (pss_cons (ps_set (i := 3) nd rfl (Or.inl rfl) (pc c_law_plain hr (by decide) (by rfl) (pa_cons (pv 1) (pa_cons pe_int (pa_cons pe_int pa_nil)))))
    (pss_cons (ps_set (i := 4) nd rfl (Or.inr rfl) (pc c_law_made hr (by decide) (by rfl) (pa_cons (pv 3) pa_nil)))
    (pss_cons (ps_setLc (i := 5) (own := [("_law_block", 12)]) rfl nd rfl rfl (sw_true rfl rfl rfl (by decide +kernel)) (pi_range1 (by rfl) T.b_range (pa_cons (pe_callB call_len_seq (by rfl) T.b_len (by decide +kernel) (pa_cons (pe_ix ix_tup (pv 3) pe_int (fun _ _ => rfl)) pa_nil)) pa_nil)) (blkOk_by (own := [("_law_block", 12)]) (by kernel_rfl)) (fun _ _ _ _ _ => (pg_name (i := 12) nd rfl (Or.inl rfl) (Or.inr rfl))) (fun _ _ _ _ _ => pts_nil) (fun _ _ _ _ _ => (pc c_heads hr (by decide) (by rfl) (pa_cons (pv 4) (pa_cons (pv 12) pa_nil)))))
    (pss_cons (ps_if (pt_not (pt_val (pc c_law_rows_right hr (by decide) (by rfl) (pa_cons (pv 4) (pa_cons (pv 5) pa_nil))))) (pss_one (ps_ret pe_bl)) pss_nil)
    (pss_one (ps_for PassesOwn.never rfl (pi_range1 (by rfl) T.b_range (pa_cons pe_int pa_nil)) (pg_name (i := 6) nd rfl (Or.inl rfl)) (pss_cons (ps_asg (pe_tup (pa_cons (pc c_law_first hr (by decide) (by rfl) (pa_cons (pv 3) (pa_cons (pc c_law_pick hr (by decide) (by rfl) (pa_cons (pv 1) (pa_cons (pc c_law_hands hr (by decide) (by rfl) (pa_cons (pv 3) pa_nil)) pa_nil))) pa_nil))) (pa_cons (pe_lst pa_nil) pa_nil))) (pg_tup (n := 2) rfl (pgs_cons (pg_name (i := 7) nd rfl (Or.inl rfl)) (pgs_cons (pg_name (i := 8) nd rfl (Or.inr rfl)) pgs_nil))))
    (pss_one (ps_for PassesOwn.never rfl (pi_range1 (by rfl) T.b_range (pa_cons pe_int pa_nil)) (pg_name (i := 9) nd rfl (Or.inl rfl)) (C8.pss_cut (ps_if (pt_cmpR op_notIn_seq (pe_ix ix_tup (pv 7) pe_int (fun _ _ => rfl)) (pv 8) (by rfl)) (pss_one (ps_expr (pe_bm PySem.F.plainAttrs_list PySem.F.slot_list_append PySem.F.type_list_append mt_append (pv 8) (pa_cons (pe_ix ix_tup (pv 7) pe_int (fun _ _ => rfl)) pa_nil)))) pss_nil)
    (pss_cons (ps_if (pt_not (pt_val (pe_callB (cr_all rfl) (by rfl) T.b_all (by decide +kernel) (pa_cons (pe_lc (own := [("_law_one", 13)]) rfl nd (pi_list (pe_ix ix_list (pv 5) (pe_ix ix_tup (pv 7) pe_int (fun _ _ => rfl)) (fun _ _ => rfl))) (blkOk_by (own := [("_law_one", 13)]) (by kernel_rfl)) (fun _ _ _ _ _ => (pg_name (i := 13) nd rfl (Or.inl rfl) (Or.inr rfl))) (fun _ _ _ _ _ => pts_nil) (fun _ _ _ _ _ => (pe_cmpR (op_inK (K := K) rfl) (pv 13) (pv 8) (by rfl)))) pa_nil)))) (pss_one (ps_ret pe_bl)) pss_nil)
    (pss_cons (ps_set (i := 10) nd rfl (Or.inl rfl) (pc c_law_options hr (by decide) (by rfl) (pa_cons (pv 3) (pa_cons (pv 7) pa_nil))))
    (C8.pss_cut (ps_set (i := 11) nd rfl (Or.inl rfl) (pe_ifExp (pt_cmpR (op_neD hr.units) (pv 10) (pe_lst pa_nil) (nomark _)) (pc c_step hr (by decide) (by rfl) (pa_cons (pv 4) (pa_cons (pv 7) (pa_cons (pc c_law_pick hr (by decide) (by rfl) (pa_cons (pv 1) (pa_cons (pv 10) pa_nil))) pa_nil)))) (pv 7)))
    (pss_cons (ps_if (pt_cmpR op_isN (pv 11) pe_non (nomark _)) (pss_one (ps_ret pe_bl)) pss_nil)
    (pss_one (ps_set (i := 7) nd rfl (Or.inl rfl) (pv 11))))))))))))))))))
    (pss_one (ps_ret pe_bl)))), ?_⟩
    refine ⟨_, rfl, ?_⟩
    unfold tNoPart
    refine ⟨_, rfl, a, _, rfl, hs, fun p1 hp1 => ⟨line1 (by simp), fun d hd => ?_⟩⟩
    obtain ⟨ms0, em0⟩ := cut_ints ns none (some 63)
    rw [em0] at hd ⊢
    have dr0 : Dr K (upd (upd H p1 (.lst (ms0.map V.int))) d (.lst [.ref p1, .int 0, .int 0])) d := ⟨p1, 0, ms0, upd_same, .inl (.inl ((Same.new hd) _ _ upd_same))⟩
    have tb0 : Tabs (TLam K) (upd (upd H p1 (.lst (ms0.map V.int))) d (.lst [.ref p1, .int 0, .int 0])) := tabs.ext ((Same.new hp1).trans (Same.new hd))
    generalize upd (upd H p1 (.lst (ms0.map V.int))) d (.lst [.ref p1, .int 0, .int 0]) = H0 at dr0 tb0 ⊢
    clear em0 hd hp1 tabs hs
    refine ⟨_, rfl, by decide, by decide, ?_⟩
    refine for_range (fun i σ' H' => ∃ x2 x3 x4 x5 x6 x7 x8 x9 x10 x11, σ' = [some (.ref a), some (.ref d), x2, x3, x4, x5, x6, x7, x8, x9, x10, x11, none, none] ∧ Dr K H' d ∧ Tabs (TLam K) H')
      ⟨none, none, none, none, none, none, none, none, none, none, rfl, dr0, tb0⟩ (fun i0 σ' H' hi z => ?_) (fun σ' H' z => ?_)
    · obtain ⟨x2, x3, x4, x5, x6, x7, x8, x9, x10, x11, rfl, dr, tb⟩ := z
      refine ⟨_, rfl, d, rfl, dr, fun pl many wide handed bs H1 s1 dr1 hpl ok => ?_⟩
      have tb1 := Tabs.sb tb dr s1
      refine ⟨_, rfl, pl, many, wide, handed, bs, rfl, hpl, ok, fun v H2 e2 hv => ?_⟩
      have dr2 := dr1.ext e2
      have tb2 := tb1.ext e2
      have hpl2 := dp_ext e2 hpl
      clear tb1 hpl e2 s1 dr tb dr1
      have hpl0 := hpl2
      obtain ⟨at_, vb, rfl, hst, hb⟩ := pl_parts hpl0
      obtain ⟨tb_, xb, rfl, hsb, hab⟩ := Dp.isTup hb
      have hxl : xb.length = bs.length := by rw [DpAll.len hab, List.length_map]
      have hfew := ok.bks.few
      refine ⟨_, rfl, _, _, _, _, rfl, rfl, hst, atI_nat (j := 1) rfl, tb_, xb, rfl, .inr hsb, _, rfl, by omega, by omega, fun D hD => ?_⟩
      refine lc_range (fun j H3 => Same H2 H3 ∧ ∃ acc, H3 D = some (.lst acc) ∧ acc.length = j ∧ ∀ b, b < j → ∃ p l, acc[b]? = some (.ref p) ∧ H3 p = some (.lst (natsV l)) ∧ Hd bs b l)
        ⟨Same.new hD, [], upd_same, rfl, fun b hb => by omega⟩ (fun j H3 hj z => ?_) (fun H3 z => ?_)
      · obtain ⟨e3, acc, D3, n3, r3⟩ := z
        have hjb : j < bs.length := by omega
        rw [Int.zero_add]
        refine ⟨rfl, ?_⟩
        unfold tYes
        refine iteT ?_
        refine ⟨_, rfl, _, rfl, v, many, handed, wide, bs, j, rfl, hv.ext e3, hjb, fun p l H4 e4 hp4 hl => ?_⟩
        have D4 := e4 _ _ D3
        have self : j ∈ l := (hl.2 j).mpr Dm.self
        have nD : ∀ (q : Addr) (m : List Nat) (ac : List V), (∀ x ∈ ac, ∃ n, x = V.ref n) → H4 D = some (.lst ac) → H4 q = some (.lst (natsV m)) → m ≠ [] → q ≠ D := fun q m ac h1 h2 h3 h4 => by
          refine ne_of h3 h2 fun z => ?_
          have z2 := HO.lst.inj z
          cases m with
          | nil => exact h4 rfl
          | cons y r =>
            obtain ⟨n, e⟩ := h1 (.int ((y : Nat) : Int)) (by rw [← z2]; exact List.mem_cons_self)
            cases e
        have rf : ∀ x ∈ acc, ∃ n, x = V.ref n := fun x hx => by
          obtain ⟨c, hc, e⟩ := List.getElem_of_mem hx
          obtain ⟨q, _, h5, _⟩ := r3 c (by omega)
          rw [List.getElem?_eq_getElem hc, e] at h5
          exact ⟨q, Option.some.inj h5⟩
        refine ⟨acc, D4, small1000 (by omega), Same.app (e3.trans e4) hD, acc ++ [.ref p], upd_same, by rw [List.length_append, n3] <;> rfl, fun b hb => ?_⟩
        by_cases eb : b = j
        · subst eb
          refine ⟨p, l, by rw [List.getElem?_append_right (by omega), n3, Nat.sub_self] <;> rfl, ?_, hl⟩
          rw [upd_ne (nD p l acc rf D4 hp4 (List.ne_nil_of_mem self))]
          exact hp4
        · obtain ⟨q, m, h5, h6, h7⟩ := r3 b (by omega)
          refine ⟨q, m, by rw [List.getElem?_append_left (by omega)]; exact h5, ?_, h7⟩
          rw [upd_ne (nD q m acc rf D4 (e4 _ _ h6) (List.ne_nil_of_mem ((h7.2 b).mpr Dm.self)))]
          exact e4 _ _ h6
      · obtain ⟨e3, acc, D3, n3, r3⟩ := z
        rw [Int.toNat_natCast, hxl] at n3 r3
        have tb3 := tb2.ext e3
        have dr3 := dr2.ext e3
        have hv3 := hv.ext e3
        have hpl3 := dp_ext e3 hpl2
        obtain ⟨F0, rows3, hds⟩ := rows_of D3 n3 r3
        have rnd3 : Rnd K H3 d v (.ref at_) D many wide handed bs F0 := ⟨dr3, tb3, hv3, hpl3, rows3⟩
        clear r3 n3 D3 e3 hD hab hsb hb hst tb2 dr2 hv hpl2
        refine ⟨_, rfl, _, rfl, v, D, many, handed, wide, bs, F0, rfl, hv3, rows3, hds, tb3, fun H4 e4 t4 => ⟨true, rfl, iteF ?_⟩⟩
        have rnd4 : Rnd K H4 d v (.ref at_) D many wide handed bs F0 := ⟨dr3.extN e4, t4, hv3.extN e4, dp_extN e4 hpl3, rows3.extN e4⟩
        clear rnd3 rows3 hpl3 hv3 dr3 tb3
        refine ⟨_, rfl, by decide, by decide, ?_⟩
        refine for_range (fun i σ' H' => ∃ x6 x7 x8 x9 x10 x11, σ' = [some (.ref a), some (.ref d), some (.int (0 + ((i0 : Nat) : Int))), some (.ref at_), some v, some (.ref D), x6, x7, x8, x9, x10, x11, none, none] ∧ Rnd K H' d v (.ref at_) D many wide handed bs F0)
          ⟨_, _, _, _, _, _, rfl, rnd4⟩ (fun i σ' H' hi z => ?_) (fun σ' H' z => ?_)
        · obtain ⟨x6, x7, x8, x9, x10, x11, rfl, rnd⟩ := z
          refine ⟨_, rfl, _, rfl, _, rfl, .ref at_, many, wide, handed, bs, rfl, rnd.pl, ok, fun ph xs H5 e5 hph nn hx => ⟨d, ph, xs, rfl, rnd.dr.ext e5, .inl (.inl hph), (rnd.dr.ext e5).refs hph (fun x hxm => ?_), nn, fun x H6 s6 dr6 hxm => ?_⟩⟩
          · obtain ⟨n, _, e, _⟩ := hx x hxm
            exact ⟨n, e⟩
          obtain ⟨n, ns2, rfl, hn, ln, bn⟩ := hx x hxm
          have rnd6 := (rnd.ext e5).sb s6 dr6
          have hn6 := (rnd.dr.ext e5).sqt s6 hn
          refine ⟨.ref at_, n, many, wide, handed, bs, ns2, rfl, rnd6.pl, ok, hn6, ln, fun y H7 e7 st => ?_⟩
          have rnd7 := rnd6.ext e7
          clear rnd6 hn6 e7 s6 dr6 hx hxm hph nn e5 rnd
          refine ⟨line1 (by simp), fun pm hpm => ⟨line1 (by simp), fun tt htt => ⟨tt, _, rfl, .inl (.inl upd_same), rfl, _, _, rfl, _, _, rfl, rfl, ?_⟩⟩⟩
          obtain ⟨yd, hdd⟩ := rnd7.dr.lst
          have npd : pm ≠ d := (ne_of_none hdd hpm).symm
          have e8 : Same H7 (upd (upd H7 pm (.lst [])) tt (.tup [y, .ref pm])) := (Same.new hpm).trans (Same.new htt)
          have m8 : (upd (upd H7 pm (.lst [])) tt (.tup [y, .ref pm])) pm = some (.lst (natsV [])) := (Same.new htt) _ _ upd_same
          generalize upd (upd H7 pm (.lst [])) tt (.tup [y, .ref pm]) = H8 at e8 m8 ⊢
          clear htt
          have h0 : 0 < bs.length := ok.bks.one
          have so0 : StOk many wide bs 0 0 (ns2 ++ List.replicate (many - handed) 0) bs[0] := ⟨List.getElem?_eq_getElem h0, Nat.zero_le _, by rw [List.length_append, List.length_replicate, ln]; have := ok.h; omega, fun z hz => by
            rcases List.mem_append.mp hz with z1 | z1
            · exact bn z z1
            · rw [(List.mem_replicate.mp z1).2]
              have := ok.w2
              omega⟩
          refine ⟨_, rfl, by decide, by decide, ?_⟩
          refine for_range (fun j σ' H' => ∃ ms b r ns bk x l x9 x10 x11, σ' = [some (.ref a), some (.ref d), some (.int (0 + ((i0 : Nat) : Int))), some (.ref at_), some v, some (.ref D), some (.int (0 + ((i : Nat) : Int))), some x, some (.ref pm), x9, x10, x11, none, none] ∧
              SameB d H7 H' ∧ Dr K H' d ∧ H' pm = some (.lst (natsV ms)) ∧ ms.length ≤ j ∧ StV K H' x b r ns ∧ StOk many wide bs b r ns bk ∧ Wk bs b l ∧ ∀ y ∈ l, y = b ∨ y ∈ ms)
            ⟨[], 0, 0, _, _, y, [0], _, _, _, rfl, Same.b d e8, rnd7.dr.ext e8, m8, Nat.le_refl _, st.ext e8, so0, .zero, fun y hy => .inl (List.mem_singleton.mp hy)⟩ (fun j σ' H' hj z => ?_) (fun σ' H' z => ?_)
          · obtain ⟨ms, b, r, ns, bk, x, l, x9, x10, x11, rfl, s9, dr9, m9, n9, st9, so, wk, wm⟩ := z
            have hj60 : j < 60 := hj
            obtain ⟨sa, sn, rfl, hsa, hsn⟩ := st9.ex
            refine ⟨fun σ'' H'' => ∃ ms2, σ'' = [some (.ref a), some (.ref d), some (.int (0 + ((i0 : Nat) : Int))), some (.ref at_), some v, some (.ref D), some (.int (0 + ((i : Nat) : Int))), some (.ref sa), some (.ref pm), some (.int (0 + ((j : Nat) : Int))), x10, x11, none, none] ∧
              SameB d H7 H'' ∧ Dr K H'' d ∧ H'' pm = some (.lst (natsV ms2)) ∧ ms2.length ≤ j + 1 ∧ StV K H'' (.ref sa) b r ns ∧ ∀ y ∈ l, y ∈ ms2, ?_, ?_⟩
            · refine ⟨_, rfl, _, _, _, _, rfl, rfl, hsa, atI_nat (j := 0) rfl, _, rfl, pm, _, rfl, .inl (.inl (.inl m9)), rfl, flat_nats ms, _, rfl, ?_⟩
              rw [inV_nats]
              by_cases e : b ∈ ms
              · refine iteF' (by rw [decide_eq_true e] <;> rfl) ⟨ms, rfl, s9, dr9, m9, by omega, st9, fun y hy => ?_⟩
                rcases wm y hy with rfl | h1
                · exact e
                · exact h1
              · refine iteT' (by rw [decide_eq_false e] <;> rfl) ?_
                refine ⟨_, rfl, .inl ⟨rfl, _, .inl (.inl m9)⟩, _, rfl, _, _, _, _, rfl, rfl, hsa, atI_nat (j := 0) rfl, pm, _, _, rfl, rfl, m9, small1000 (by rw [natsV_len]; omega), ms ++ [b], rfl, s9.upd hpm npd, rnd7.dr.upd s9 dr9 hpm npd, ?_, by rw [List.length_append, List.length_singleton]; omega, st9.put m9, fun y hy => ?_⟩
                · rw [upd_same, natsV_app] <;> rfl
                · rcases wm y hy with rfl | h1
                  · exact List.mem_append_right _ (List.mem_singleton.mpr rfl)
                  · exact List.mem_append_left _ h1
            · rintro σ'' H'' ⟨ms2, rfl, sA, drA, mA, nA, stA, wA⟩
              clear s9 dr9 m9 n9 st9 wm hsa hsn
              obtain ⟨sa', sn, ee, hsa, hsn⟩ := stA.ex
              cases ee
              have rndA := rnd7.sb sA drA
              obtain ⟨xsR, r1, r2, r3⟩ := rndA.rows.ex
              have hb : b < bs.length := (List.getElem?_eq_some_iff.mp so.at_).1
              obtain ⟨pb, r4, r5⟩ := r3 b hb
              have fl := (hds.asc b hb).len
              refine ⟨_, rfl, _, rfl, _, _, _, _, rfl, rfl, hsa, atI_nat (j := 0) rfl, D, xsR, _, .ref pb, rfl, rfl, .inl (.inl r1), atI_nat r4, pb, rfl, ⟨_, .inl (.inl r5)⟩, fun E5 hE5 => ?_⟩
              refine lc_list_fm (xs := natsV (F0 b)) (fun _ => true) (fun _ => .bl true) (.inl (.inl r5)) (by rw [natsV_len]; omega) hE5 (fun x => rfl) (fun x _ => tyes1) (fun x hx _ H5 Q5 e5 q5 => ?_) (fun H5 e5 D5 => ?_)
              · obtain ⟨c, hc, rfl⟩ := List.mem_map.mp hx
                refine ⟨_, rfl, _, rfl, pm, _, rfl, .inl (.inl (.inl (e5 _ _ mA))), rfl, flat_nats ms2, ?_⟩
                rw [inV_nats]
                exact q_true (decide_eq_true (wA c (((hds.iff b hb c).mp hc) l wk))) (q5 H5 (Same.refl _))
              · rw [filter_all, List.map_const'] at D5
                refine ⟨E5, List.replicate (natsV (F0 b)).length true, rfl, .inl (.inl (by rw [List.map_replicate]; exact D5)), ?_⟩
                rw [show (List.replicate (natsV (F0 b)).length true).all id = true by simp]
                refine ⟨_, rfl, iteF ?_⟩
                clear D5 hE5 r1 r2 r3 r4 r5 hsa hsn
                have sB := sA.trans (Same.b d e5)
                have drB := drA.ext e5
                have mB := e5 _ _ mA
                have stB := stA.ext e5
                have rndB := rnd7.sb sB drB
                clear sA drA mA stA rndA e5
                refine ⟨_, rfl, _, rfl, .ref at_, .ref sa, many, wide, handed, bs, b, r, ns, bk, rfl, rndB.pl, ok, stB, so.at_, so.row, fun pc H6 e6 hpc => ?_⟩
                have sC := sB.trans (Same.b d e6)
                have drC := drB.ext e6
                have mC := e6 _ _ mB
                have stC := stB.ext e6
                have rndC := rnd7.sb sC drC
                clear sB drB mB stB rndB e6
                refine ⟨fun σ'' H'' => ∃ y b' r' ns' bk' l', σ'' = [some (.ref a), some (.ref d), some (.int (0 + ((i0 : Nat) : Int))), some (.ref at_), some v, some (.ref D), some (.int (0 + ((i : Nat) : Int))), some (.ref sa), some (.ref pm), some (.int (0 + ((j : Nat) : Int))), some (.ref pc), some y, none, none] ∧
                  SameB d H7 H'' ∧ Dr K H'' d ∧ H'' pm = some (.lst (natsV ms2)) ∧ StV K H'' y b' r' ns' ∧ StOk many wide bs b' r' ns' bk' ∧ Wk bs b' l' ∧ ∀ z ∈ l', z = b' ∨ z ∈ ms2, ?_, ?_⟩
                · refine ⟨_, rfl, line1 (by simp), fun q hq => ?_⟩
                  have e7 := Same.new (o := .lst []) hq
                  have sD := sC.trans (Same.b d e7)
                  have drD := drC.ext e7
                  have mD := e7 _ _ mC
                  have stD := stC.ext e7
                  have rndD := rnd7.sb sD drD
                  have hpcD := e7 _ _ hpc
                  have q7 : (upd H6 q (.lst [])) q = some (.lst []) := upd_same
                  generalize upd H6 q (.lst []) = H9 at sD drD mD stD rndD hpcD q7 e7 ⊢
                  clear sC drC mC stC rndC hpc e7 hq
                  by_cases es : nw bk r = "stop"
                  · rw [stepsL_stop es] at hpcD
                    refine ⟨.list (natsD []), .list (natsD []), .lst (.inl (.inl hpcD)) .nil, .lst (.inl (.inl q7)) .nil, natsD_sh _, natsD_sh _, _, rfl, ?_⟩
                    rw [natsD_eqv, decide_eq_true rfl]
                    refine iteF ?_
                    exact ⟨_, rfl, _, b, r, ns, bk, l, rfl, sD, drD, mD, stD, so, wk, fun z hz => .inr (wA z hz)⟩
                  · have tst : ∃ dd n, Dp K H9 (.ref pc) dd ∧ Sh n dd ∧ n ≤ 64 ∧ PyData.eqv dd (.list []) = false ∧ stepsL (nw bk r) wide ≠ [] := by
                      by_cases e : nw bk r = "take"
                      · rw [stepsL_take e] at hpcD ⊢
                        obtain ⟨s', e2⟩ : ∃ s', wide = s' + 1 := ⟨wide - 1, by have := ok.w2; omega⟩
                        refine ⟨.list (natsD (List.range wide)), 1, .lst (.inl (.inl hpcD)) (natsD_dp _), sh_lst fun d hd => ?_, by decide, ?_, ?_⟩
                        · obtain ⟨j, _, rfl⟩ := List.mem_map.mp hd
                          exact sh_int _
                        · rw [e2]
                          unfold natsD
                          rw [List.range_succ_eq_map, List.map_cons]
                          exact eqv_nilL _ _
                        · rw [e2, List.range_succ_eq_map]
                          unfold natsV
                          rw [List.map_cons]
                          exact List.cons_ne_nil _ _
                      · rw [stepsL_none es e] at hpcD ⊢
                        refine ⟨.list [.none], 1, .lst (.inl (.inl hpcD)) (.cons .non .nil), sh_lst fun d hd => ?_, by decide, eqv_nilL _ _, List.cons_ne_nil _ _⟩
                        rw [List.mem_singleton.mp hd]
                        exact sh_non
                    obtain ⟨dd, n, hdd2, sh, h64, ev, nn2⟩ := tst
                    refine ⟨dd, .list [], hdd2, .lst (.inl (.inl q7)) .nil, sh.shaped h64, sh_nilL.shaped (by decide), _, rfl, iteT' (by rw [ev] <;> rfl) ?_⟩
                    refine ⟨_, rfl, _, rfl, _, rfl, _, rfl, d, pc, _, rfl, drD, .inl (.inl hpcD), drD.flat hpcD stepsL_noref, nn2, fun tk HA sE drE htk => ?_⟩
                    have rndE := rndD.sb sE drE
                    have stE := stD.sb drD sE
                    have mE := sE.off _ _ npd mD
                    have hw4 := ok.w4
                    have hm3 := ok.m3
                    refine ⟨v, .ref sa, tk, many, handed, wide, bs, b, r, ns, bk, rfl, rndE.prg, ⟨ok.w2, by omega, by omega⟩, stE, so, es, tk_of es htk, fun y b' r' ns' bk' HB eB stF soF tr => ?_⟩
                    have base_ : SameB d H7 HB ∧ Dr K HB d ∧ HB pm = some (.lst (natsV ms2)) := ⟨(sD.trans sE).trans (Same.b d eB), drE.ext eB, eB _ _ mE⟩
                    obtain ⟨sF, drF, mF⟩ := base_
                    rcases tr with rfl | tr
                    · exact ⟨y, _, r', ns', bk', l, rfl, sF, drF, mF, stF, soF, wk, fun z hz => .inr (wA z hz)⟩
                    · refine ⟨y, b', r', ns', bk', b' :: l, rfl, sF, drF, mF, stF, soF, .step wk tr, fun z hz => ?_⟩
                      rcases List.mem_cons.mp hz with rfl | hz
                      · exact .inl rfl
                      · exact .inr (wA z hz)
                · rintro σ'' H'' ⟨y, b', r', ns', bk', l', rfl, sF, drF, mF, stF, soF, wkF, wmF⟩
                  obtain ⟨ya, yn, rfl, _, _⟩ := stF.ex
                  refine ⟨_, rfl, rfl, _, rfl, iteF' (decide_eq_false (fun z => by cases z)) ?_⟩
                  exact ⟨_, rfl, ms2, b', r', ns', bk', .ref ya, l', _, _, _, rfl, sF, drF, mF, nA, stF, soF, wkF, wmF⟩
          · obtain ⟨ms, b, r, ns, bk, x, l, x9, x10, x11, rfl, s9, dr9, _⟩ := z
            exact ⟨_, _, _, _, _, _, rfl, rnd7.sb s9 dr9⟩
        · obtain ⟨x6, x7, x8, x9, x10, x11, rfl, rnd⟩ := z
          exact ⟨_, _, _, _, _, _, _, _, _, _, rfl, rnd.dr, rnd.tb⟩
    · obtain ⟨x2, x3, x4, x5, x6, x7, x8, x9, x10, x11, rfl, dr, tb⟩ := z
      exact k H'
end
end Rr
/-! ### the head: what is looked at after the top has run -/
namespace Rr
open PySem L2
abbrev rowR : PySem.W.OpenRow := PySem.W.OpenLaw.row PySem.Challenge.rw_registerrooms_k20_whole_heads_on_runs
def names1 : List Str := ["_wall", "RoomError", "BadProgram", "BadBlock", "BadInputs", "BadState", "MOST_VARIABLES", "MOST_BLOCKS", "MOST_ROWS", "MOST_SPAN", "MOST_HANDED", "SIZES", "is_integer", "is_row", "is_end", "targets_of", "are_reached", "Blocks", "is_plain_block", "Program", "check_program", "check_graph", "check_block"]
def names2 : List Str := ["heads_by_steps", "heads", "head_of", "what_is_next", "takes_next", "value_of", "with_number", "stepped", "steps_from", "is_state", "is_step", "step"]
def names3 : List Str := ["_law_cell_at", "_law_draw", "_law_number", "_law_next", "_law_pick", "_law_row", "_law_outs", "_law_end", "_law_plain", "_law_made", "_law_hands", "_law_first", "_law_coming", "_law_options", "_law_rows_right"]
def looseNames : List Str := names1 ++ names2 ++ names3
def defF (x : Str) (st : Stmt) : He.DefD := ⟨(x, none), x, x, defArgs st, defBody st, defScope st, [], []⟩
def defF1 (x : Str) (st : Stmt) : He.DefD := ⟨(x, none), x, x, defArgs st, defBody st, defScope st, [.non], []⟩
def defM (m qual : Str) (st : Stmt) : He.DefD := ⟨("Program", some m), m, qual, defArgs st, defBody st, defScope st, [], []⟩
def defB : He.DefD := ⟨("Blocks", some "__init__"), "__init__", "Blocks.__init__", defArgs s_Blocks___init__, defBody s_Blocks___init__, defScope s_Blocks___init__, [], []⟩
def fn1 : List He.DefD := [defF "is_integer" s_is_integer, defF "is_row" s_is_row, defF "is_end" s_is_end, defF "targets_of" s_targets_of, defF "is_plain_block" s_is_plain_block, defF "are_reached" s_are_reached, defF "check_graph" s_check_graph, defF "check_program" s_check_program, defF "check_block" s_check_block, defF "heads_by_steps" s_heads_by_steps, defF "heads" s_heads, defF "head_of" s_head_of, defF "what_is_next" s_what_is_next, defF "takes_next" s_takes_next, defF "steps_from" s_steps_from, defF "with_number" s_with_number, defF "value_of" s_value_of, defF "is_state" s_is_state, defF "is_step" s_is_step, defF "_law_cell_at" s_law_cell_at, defF "_law_draw" s_law_draw, defF "_law_number" s_law_number, defF "_law_next" s_law_next, defF "_law_pick" s_law_pick, defF "_law_row" s_law_row, defF "_law_end" s_law_end, defF "_law_outs" s_law_outs, defF "_law_plain" s_law_plain, defF "_law_made" s_law_made, defF "_law_coming" s_law_coming, defF "_law_options" s_law_options, defF "_law_first" s_law_first, defF "_law_rows_right" s_law_rows_right, defF "_law_hands" s_law_hands, defF "law" s_law]
def fn2 : List He.DefD := [defF1 "stepped" s_stepped, defF1 "step" s_step, defB]
def fn3 : List He.DefD := [defM "__len__" "Blocks.__len__" s_Blocks___len__, defM "__getitem__" "Blocks.__getitem__" s_Blocks___getitem__, defM "rows" "Blocks.rows" s_Blocks_rows, defM "end" "Blocks.end" s_Blocks_end, defM "followers" "Blocks.followers" s_Blocks_followers, defM "edges_into" "Blocks.edges_into" s_Blocks_edges_into, defM "entered" "Program.entered" s_Program_entered]
def fnL : List He.DefD := fn1 ++ fn2 ++ fn3
def fa2 : List He.Fa := [.glo "is_integer", .glo "is_row", .glo "is_end", .glo "targets_of", .glo "is_plain_block", .glo "are_reached", .glo "check_graph", .glo "check_program", .glo "check_block", .glo "heads_by_steps", .glo "heads", .glo "head_of", .glo "what_is_next", .glo "takes_next", .glo "steps_from", .glo "with_number", .glo "value_of", .glo "is_state", .glo "is_step", .glo "_law_cell_at", .glo "_law_draw", .glo "_law_number", .glo "_law_next", .glo "_law_pick", .glo "_law_row", .glo "_law_end", .glo "_law_outs", .glo "_law_plain", .glo "_law_made", .glo "_law_coming", .glo "_law_options", .glo "_law_first", .glo "_law_rows_right", .glo "_law_hands", .glo "law", .glo "stepped", .glo "step", .meth "Program" "__len__", .meth "Program" "__getitem__", .meth "Program" "rows", .meth "Program" "end", .meth "Program" "followers", .meth "Program" "edges_into", .meth "Program" "entered"]
def fa1 : List He.Fa := [.glo "Blocks", .glo "Program", .glo "SIZES", .free "isinstance", .free "int", .free "bool", .free "tuple", .free "str", .free "list", .free "len", .free "all", .free "range", .free "enumerate", .free "sorted", .free "min", .free "max", .free "super",
  .int "MOST_VARIABLES" 8, .int "MOST_BLOCKS" 16, .int "MOST_ROWS" 12, .int "MOST_SPAN" 8, .int "MOST_HANDED" 3, .mkr "Program"]
def faL : List He.Fa := fa1 ++ fa2
def tsL : List He.Tab := [(fun K => He.ga K "SIZES", ["put", "move", "add", "sub", "less", "take", "tell"])]
def tfL : List He.Defn := [("head_of", none), ("_law_rows_right", none)]
def szL : List (Str × He.Dv) := [("put", .int 3), ("move", .int 3), ("add", .int 4), ("sub", .int 4), ("less", .int 4), ("take", .int 2), ("tell", .int 2)]
def oTrue (x : Option Bool) : Bool := match x with
  | some true => true
  | _ => false
theorem oTrue_ok {x : Option Bool} (h : oTrue x = true) : x = some true := by
  cases x with
  | none => cases h
  | some b => cases b with
    | true => rfl
    | false => cases h
def slotB (K : PySem.W.Frag) (f : Str) (i : Nat) : Bool := match PySem.W.findIn K (.ref (He.ga K "Program")) f with
  | some (some (.ref p)) => He.eqO (PySem.W.specialIn K (.ref p) "__get__") (some (some (.builtin "member_descriptor.__get__"))) && (oTrue (PySem.W.takesIn K (.ref p)) && (decide (PySem.W.typeIn K (.ref p) = some (.type "member_descriptor")) && decide (PySem.W.slotIn K p (He.ga K "Program") = some i)))
  | _ => false
theorem slotB_ok {K : PySem.W.Frag} {f : Str} {i : Nat} (h : slotB K f i = true) (lt : i < 1000) : ∃ p, SlX.Slot1 K (He.ga K "Program") f p i := by
  unfold slotB at h
  split at h
  · rename_i p hp
    obtain ⟨h1, h2⟩ := He.ba h
    obtain ⟨h3, h4⟩ := He.ba h2
    obtain ⟨h5, h6⟩ := He.ba h4
    exact ⟨p, hp, He.eqO_ok h1, oTrue_ok h3, of_decide_eq_true h5, of_decide_eq_true h6, lt⟩
  · cases h
def fileB (K : PySem.W.Frag) (c : Addr) : Bool := match K.lookup c with
  | some ⟨_, _, .fields vs, _⟩ => (match (vs[2]? : Option Value) with
    | some (.str file _) => (rowR.prog.main.file : Str) == file
    | _ => false)
  | _ => false
theorem fileB_ok {K : PySem.W.Frag} {c : Addr} (h : fileB K c = true) : ∃ oc vs file tf, K.lookup c = some oc ∧ oc.data = .fields vs ∧ vs[2]? = some (.str file tf) ∧ ((rowR.prog.main.file : Str) == file) = true := by
  unfold fileB at h
  split at h
  · rename_i cls dict vs sl hl
    split at h
    · rename_i file tf hv
      exact ⟨_, vs, file, tf, hl, rfl, hv, h⟩
    · cases h
  · cases h
def cellB (K : PySem.W.Frag) (c D : Addr) : Bool := match K.lookup c with
  | some ⟨_, _, .cell (some (.ref a)), _⟩ => decide (a = D)
  | _ => false
theorem cellB_ok {K : PySem.W.Frag} {c D : Addr} (h : cellB K c D = true) : ∃ oc, K.lookup c = some oc ∧ oc.data = .cell (some (.ref D)) := by
  unfold cellB at h
  split at h
  · rename_i cls dict a sl hl
    have e := of_decide_eq_true h
    subst e
    exact ⟨_, hl, rfl⟩
  · cases h
abbrev InV : Type := Option (Str × Str × Arguments × FuncBody × Scope × Addr × Value × Addr)
def inAt (K : PySem.W.Frag) : Addr := He.ma K (He.ga K "Program") "__init__"
def inV0 (K : PySem.W.Frag) : InV := match K.lookup (inAt K) with
  | some ⟨_, _, .func fd, _⟩ => some (fd.name, fd.qualname, fd.params, fd.body, fd.scope, fd.globals, fd.defaults, fd.builtins)
  | _ => none
def inVal : InV := some ("__init__", "Program.__init__", defArgs s_Program___init__, .stmts (defBody s_Program___init__), defScope s_Program___init__, mainGlobals, .none, builtinsNs)
def inB (K : PySem.W.Frag) : Bool := match K.lookup (inAt K) with
  | some ⟨_, _, .func fd, _⟩ => (match fd.kwdefaults with
    | .ref _ => (match fd.code with
      | .ref cda => (match fd.closure with
        | [(x, cc)] => decide (x = "__class__") && (PySem.W.codeIn K (.ref cda) "Program.__init__" && (fileB K cda && cellB K cc (He.ga K "Program")))
        | _ => false)
      | _ => false)
    | _ => false)
  | _ => false
theorem inB_ok {K : PySem.W.Frag} (h : inB K = true) (e : inV0 K = inVal) : ∃ (oc : Value) (od : Option Addr) (doc pm : Value) (an : Option Addr) (kD cda cc : Addr) (ct : Value) (osl : Array (Option Value)),
    K.lookup (inAt K) = some ⟨oc, od, .func (PySem.W.ksFn "__init__" "Program.__init__" (defArgs s_Program___init__) (defBody s_Program___init__) (defScope s_Program___init__) .none (.ref kD) doc pm an (.ref cda) ct cc), osl⟩ ∧
    PySem.W.codeIn K (.ref cda) "Program.__init__" = true ∧ fileB K cda = true ∧ cellB K cc (He.ga K "Program") = true := by
  unfold inB at h
  unfold inV0 at e
  split at h
  · rename_i oc od fd osl hl
    rw [hl] at e
    obtain ⟨n1, n2, n3, n4, n5, n6, n7, n8, n9, n10, n11, n12, n13, n14, n15⟩ := fd
    have e2 : (some (n1, n2, n3, n4, n5, n6, n8, n15) : InV) = inVal := e
    unfold inVal at e2
    simp only [Option.some.injEq, Prod.mk.injEq] at e2
    obtain ⟨h1, h2, h3, h4, h5, h6, h7, h8⟩ := e2
    subst h1 h2 h3 h4 h5 h6 h7 h8
    dsimp only at h
    split at h
    · rename_i kD
      split at h
      · rename_i cda
        split at h
        · rename_i x cc
          obtain ⟨z1, z2⟩ := He.ba h
          obtain ⟨z3, z4⟩ := He.ba z2
          obtain ⟨z5, z6⟩ := He.ba z4
          have e3 := of_decide_eq_true z1
          subst e3
          exact ⟨oc, od, n10, n11, n12, kD, cda, cc, n14, osl, hl, z3, z5, z6⟩
        · cases h
      · cases h
    · cases h
  · cases h
def exL (K : PySem.W.Frag) : List Bool := [He.valsB K (He.ga K "SIZES") szL,
  PySem.W.plainGet K (He.ga K "Program") Str.empty, PySem.W.isClsIn K (He.ga K "Program"), PySem.W.plainOver K (He.ga K "Program"), He.eqO (PySem.W.findIn K (.ref (He.ga K "Program")) "__setattr__") (some (some (.builtin "object.__setattr__"))),
  He.eqO (PySem.W.findIn K (.ref (He.ga K "Program")) "__class__") (some (some (.builtin "object.__class__"))), He.eqO (PySem.W.specialIn K (.builtin "object.__class__") "__get__") (some (some (.builtin "getset_descriptor.__get__"))), oTrue (PySem.W.takesIn K (.builtin "object.__class__")), oTrue (PySem.W.mroIn K (He.ga K "Program") (.type "object")),
  slotB K "blocks" 3, slotB K "many" 1, slotB K "handed" 0, slotB K "span" 2,
  oTrue (PySem.W.kitOne K (.ref (He.ga K "Program")) (.ref (He.ga K "Program"))), oTrue (PySem.W.kitOne K (.ref (He.ga K "Program")) (.ref (He.ga K "Blocks"))),
  inB K, (PySem.W.clsIn K (He.ga K "Program")).isSome, oTrue (PySem.W.mroIn K (He.ga K "Program") (.ref (He.ga K "Program"))), He.eqO (PySem.W.nsIn K cStatics "thirdparty.any") (some none),
  He.eqO (PySem.W.ks_superIn K (He.ga K "Program") (He.ga K "Program") "__init__") (some (some (.ref (He.ma K (He.ga K "Blocks") "__init__")))), decide (PySem.W.typeIn K (.ref (He.ma K (He.ga K "Blocks") "__init__")) = some (.type "function")), PySem.W.fnIn K (He.ma K (He.ga K "Blocks") "__init__"),
  decide ((He.cT K ("head_of", none)).2 ≠ (He.cT K ("_law_rows_right", none)).2),
  PySem.W.makesIn K (He.ga K "Program"), He.eqO (PySem.W.findIn K (.ref (He.ga K "Program")) "__init__") (some (some (.ref (inAt K)))), PySem.W.isFn K (.ref (inAt K)), PySem.W.keepIn K (.ref (He.ga K "Program"))]
def exB (K : PySem.W.Frag) : Bool := (exL K).all id
theorem exB_at {K : PySem.W.Frag} (h : exB K = true) (i : Nat) {b : Bool} (e : (exL K)[i]? = some b) : b = true := List.all_eq_true.mp h b (List.mem_of_getElem? e)
/-! ### the Hook -/
def frK (g : Addr → Option Obj) : PySem.W.Frag := He.frT g (He.asD g 6 ++ [cStatics])
abbrev AlI : Type := He.AlT × InV × Bool
def obI (g : Addr → Option Obj) : AlI := (He.obsT faL fnL tsL (frK g), inV0 (frK g), exB (frK g) && He.tabsB g tfL (frK g))
def vaI (w : World) : AlI := (He.valT fnL tsL w, inVal, true)
structure SaysI (w : World) (h : Heap) (K : PySem.W.Frag) : Prop where
  t : He.SaysT faL fnL tsL w K
  iv : inV0 K = inVal
  more : exB K = true
  tabs : ∀ p ∈ tfL, PySem.W.codeHdIn K (He.cT K p).1 (He.cT K p).2 = true ∧ K.lookup (He.cT K p).2 = none ∧ h.get? (He.cT K p).2 = some { cls := .none, data := .fields #[] }
theorem pair3 {α β γ : Type} {a a' : α} {b b' : β} {c c' : γ} (e : (a, b, c) = (a', b', c')) : a = a' ∧ b = b' ∧ c = c' := by
  injection e with h1 h2
  injection h2 with h3 h4
  exact ⟨h1, h3, h4⟩
theorem tabsI_of {g : Addr → Option Obj} {K : PySem.W.Frag} (h : He.tabsB g tfL K = true) : ∀ p ∈ tfL, PySem.W.codeHdIn K (He.cT K p).1 (He.cT K p).2 = true ∧ ∃ o, g (He.cT K p).2 = some o ∧ He.emptyTab o = true := fun p hp => by
  unfold He.tabsB at h
  have z := List.all_eq_true.mp h p hp
  rw [Bool.and_eq_true] at z
  obtain ⟨k1, k2⟩ := z
  refine ⟨k1, ?_⟩
  split at k2
  · rename_i o ho
    exact ⟨o, ho, k2⟩
  · cases k2
theorem saysI_of {w : World} {h : Heap} (e : obI h.get? = vaI w) : SaysI w h (frK h.get?) := by
  unfold obI vaI at e
  obtain ⟨e1, e2, e5⟩ := pair3 e
  rw [Bool.and_eq_true] at e5
  obtain ⟨e3, e4⟩ := e5
  refine ⟨e1, e2, e3, fun p hp => ?_⟩
  obtain ⟨k1, o, ho, k2⟩ := tabsI_of e4 p hp
  refine ⟨k1, He.frT_none ho k2, ?_⟩
  rw [ho, He.emptyTab_eq k2]
def hkI : PySem.W.Hook where
  α := AlI
  obs := fun s => obI s.heap.get?
  val := vaI
  says := fun w h => ∃ K : PySem.W.Frag, K.In h ∧ SaysI w h K
  of := fun _ _ e => ⟨_, He.frT_in, saysI_of e⟩
  keeps := fun _ _ _ ⟨K, hK, c⟩ k => ⟨K, PySem.W.Frag.In.keeps hK k, ⟨c.t, c.iv, c.more, fun p hp => ⟨(c.tabs p hp).1, (c.tabs p hp).2.1, k _ _ (c.tabs p hp).2.2⟩⟩⟩
def obT (s : PySem.W.SharedT) : AlI := obI (HandSHeadRun.getT s)
theorem obT_eq (s : PySem.W.SharedT) : obT s = hkI.obs s.abs := by
  have e : HandSHeadRun.getT s = s.abs.heap.get? := funext (HandSHeadRun.getT_eq s)
  show obI (HandSHeadRun.getT s) = obI s.abs.heap.get?
  rw [e]
end Rr
/-! ### the Hook's word, turned to what the walks ask -/
namespace Rr
open PySem PySem.Spec PyProof.Rows L2 LamX
section
variable {w : World} {h : Heap} {K : PySem.W.Frag} {mg : Str → Option Value}
theorem int_rel {x : Str} {i : Int} (e : ∃ t, mg x = some (.int i t)) : ∃ u, mg x = some u ∧ RelV (.int i) u := by
  obtain ⟨t, e⟩ := e
  exact ⟨_, e, t, rfl⟩
theorem sz_of (c : SaysI w h K) : ∀ q ∈ ([("put", 3), ("move", 3), ("add", 4), ("sub", 4), ("less", 4), ("take", 2), ("tell", 2)] : List (Str × Int)), ∃ u, PySem.W.nsIn K (He.ga K "SIZES") q.1 = some (some u) ∧ RelV (.int q.2) u := fun q hq => by
  have hm : ((q.1, He.Dv.int q.2) : Str × He.Dv) ∈ szL := List.mem_map_of_mem (f := fun (q : Str × Int) => (q.1, He.Dv.int q.2)) hq
  exact He.valsB_ok (exB_at c.more 0 rfl) hm
theorem facts_I (X : K.In h) (G : h.Ns mainGlobals mg) (c : SaysI w h K) : Facts w K mg where
  b_isinstance := He.free_ok X G (c.t.d.fact 3 (f := .free "isinstance") rfl)
  b_int := He.free_ok X G (c.t.d.fact 4 (f := .free "int") rfl)
  b_bool := He.free_ok X G (c.t.d.fact 5 (f := .free "bool") rfl)
  b_tuple := He.free_ok X G (c.t.d.fact 6 (f := .free "tuple") rfl)
  b_str := He.free_ok X G (c.t.d.fact 7 (f := .free "str") rfl)
  b_list := He.free_ok X G (c.t.d.fact 8 (f := .free "list") rfl)
  b_len := He.free_ok X G (c.t.d.fact 9 (f := .free "len") rfl)
  b_all := He.free_ok X G (c.t.d.fact 10 (f := .free "all") rfl)
  b_range := He.free_ok X G (c.t.d.fact 11 (f := .free "range") rfl)
  b_enumerate := He.free_ok X G (c.t.d.fact 12 (f := .free "enumerate") rfl)
  b_sorted := He.free_ok X G (c.t.d.fact 13 (f := .free "sorted") rfl)
  b_min := He.free_ok X G (c.t.d.fact 14 (f := .free "min") rfl)
  b_max := He.free_ok X G (c.t.d.fact 15 (f := .free "max") rfl)
  c_MOST_VARIABLES := int_rel (He.int_ok X G (c.t.d.fact 17 (f := .int "MOST_VARIABLES" 8) rfl))
  c_MOST_BLOCKS := int_rel (He.int_ok X G (c.t.d.fact 18 (f := .int "MOST_BLOCKS" 16) rfl))
  c_MOST_ROWS := int_rel (He.int_ok X G (c.t.d.fact 19 (f := .int "MOST_ROWS" 12) rfl))
  c_MOST_SPAN := int_rel (He.int_ok X G (c.t.d.fact 20 (f := .int "MOST_SPAN" 8) rfl))
  c_MOST_HANDED := int_rel (He.int_ok X G (c.t.d.fact 21 (f := .int "MOST_HANDED" 3) rfl))
  g_Blocks := He.glo_ok X G (c.t.d.fact 0 (f := .glo "Blocks") rfl)
  g_Program := He.glo_ok X G (c.t.d.fact 1 (f := .glo "Program") rfl)
  g_SIZES := He.glo_ok X G (c.t.d.fact 2 (f := .glo "SIZES") rfl)
  szD := c.t.tab 0 rfl
  sz := sz_of c
theorem prf_I (c : SaysI w h K) : PrF K where
  cls := ⟨exB_at c.more 1 rfl, exB_at c.more 2 rfl, exB_at c.more 3 rfl, He.eqO_ok (exB_at c.more 4 rfl)⟩
  isi := ⟨He.eqO_ok (exB_at c.more 5 rfl), He.eqO_ok (exB_at c.more 6 rfl), oTrue_ok (exB_at c.more 7 rfl), oTrue_ok (exB_at c.more 8 rfl)⟩
  s_blocks := slotB_ok (exB_at c.more 9 rfl) (by decide)
  s_many := slotB_ok (exB_at c.more 10 rfl) (by decide)
  s_handed := slotB_ok (exB_at c.more 11 rfl) (by decide)
  s_span := slotB_ok (exB_at c.more 12 rfl) (by decide)
  kP := oTrue_ok (exB_at c.more 13 rfl)
  kB := oTrue_ok (exB_at c.more 14 rfl)
theorem inf_I (X : K.In h) (G : h.Ns mainGlobals mg) (c : SaysI w h K) : InF rowR.prog K mg := by
  obtain ⟨oc, od, doc, pm_, an, kD, cda, cc, ct, osl, lk, hcd, hf, hc⟩ := inB_ok (exB_at c.more 15 rfl) c.iv
  have fs : ∃ cd, PySem.W.clsIn K (He.ga K "Program") = some cd := Option.isSome_iff_exists.mp (exB_at c.more 16 rfl)
  refine ⟨⟨oc, od, doc, pm_, an, kD, cda, cc, ct, osl, lk, hcd, ?_⟩, He.mkr_ok (c.t.d.fact 22 (f := .mkr "Program") rfl)⟩
  exact {
    fo := ⟨_, _, _, lk, rfl, rfl, rfl⟩
    code := fileB_ok hf
    cell := cellB_ok hc
    top := by kernel_rfl
    nos := He.free_ok X G (c.t.d.fact 16 (f := .free "super") rfl)
    cls := fs
    sub := oTrue_ok (exB_at c.more 17 rfl)
    opq := He.eqO_ok (exB_at c.more 18 rfl)
    find := He.eqO_ok (exB_at c.more 19 rfl)
    ty := of_decide_eq_true (exB_at c.more 20 rfl)
    fn := exB_at c.more 21 rfl }
theorem bi_I (c : SaysI w h K) : BiAt K := c.t.d.def_ 37 (d := defB) rfl
theorem at_is_integer (X : K.In h) (G : h.Ns mainGlobals mg) (c : SaysI w h K) : FnAt K mg "is_integer" s_is_integer := ⟨He.glo_ok X G (c.t.d.fact 23 (f := .glo "is_integer") rfl), c.t.d.def_ 0 (d := defF "is_integer" s_is_integer) rfl⟩
theorem at_is_row (X : K.In h) (G : h.Ns mainGlobals mg) (c : SaysI w h K) : FnAt K mg "is_row" s_is_row := ⟨He.glo_ok X G (c.t.d.fact 24 (f := .glo "is_row") rfl), c.t.d.def_ 1 (d := defF "is_row" s_is_row) rfl⟩
theorem at_is_end (X : K.In h) (G : h.Ns mainGlobals mg) (c : SaysI w h K) : FnAt K mg "is_end" s_is_end := ⟨He.glo_ok X G (c.t.d.fact 25 (f := .glo "is_end") rfl), c.t.d.def_ 2 (d := defF "is_end" s_is_end) rfl⟩
theorem at_targets_of (X : K.In h) (G : h.Ns mainGlobals mg) (c : SaysI w h K) : FnAt K mg "targets_of" s_targets_of := ⟨He.glo_ok X G (c.t.d.fact 26 (f := .glo "targets_of") rfl), c.t.d.def_ 3 (d := defF "targets_of" s_targets_of) rfl⟩
theorem at_is_plain_block (X : K.In h) (G : h.Ns mainGlobals mg) (c : SaysI w h K) : FnAt K mg "is_plain_block" s_is_plain_block := ⟨He.glo_ok X G (c.t.d.fact 27 (f := .glo "is_plain_block") rfl), c.t.d.def_ 4 (d := defF "is_plain_block" s_is_plain_block) rfl⟩
theorem at_are_reached (X : K.In h) (G : h.Ns mainGlobals mg) (c : SaysI w h K) : FnAt K mg "are_reached" s_are_reached := ⟨He.glo_ok X G (c.t.d.fact 28 (f := .glo "are_reached") rfl), c.t.d.def_ 5 (d := defF "are_reached" s_are_reached) rfl⟩
theorem at_check_graph (X : K.In h) (G : h.Ns mainGlobals mg) (c : SaysI w h K) : FnAt K mg "check_graph" s_check_graph := ⟨He.glo_ok X G (c.t.d.fact 29 (f := .glo "check_graph") rfl), c.t.d.def_ 6 (d := defF "check_graph" s_check_graph) rfl⟩
theorem at_check_program (X : K.In h) (G : h.Ns mainGlobals mg) (c : SaysI w h K) : FnAt K mg "check_program" s_check_program := ⟨He.glo_ok X G (c.t.d.fact 30 (f := .glo "check_program") rfl), c.t.d.def_ 7 (d := defF "check_program" s_check_program) rfl⟩
theorem at_check_block (X : K.In h) (G : h.Ns mainGlobals mg) (c : SaysI w h K) : FnAt K mg "check_block" s_check_block := ⟨He.glo_ok X G (c.t.d.fact 31 (f := .glo "check_block") rfl), c.t.d.def_ 8 (d := defF "check_block" s_check_block) rfl⟩
theorem at_heads_by_steps (X : K.In h) (G : h.Ns mainGlobals mg) (c : SaysI w h K) : FnAt K mg "heads_by_steps" s_heads_by_steps := ⟨He.glo_ok X G (c.t.d.fact 32 (f := .glo "heads_by_steps") rfl), c.t.d.def_ 9 (d := defF "heads_by_steps" s_heads_by_steps) rfl⟩
theorem at_heads (X : K.In h) (G : h.Ns mainGlobals mg) (c : SaysI w h K) : FnAt K mg "heads" s_heads := ⟨He.glo_ok X G (c.t.d.fact 33 (f := .glo "heads") rfl), c.t.d.def_ 10 (d := defF "heads" s_heads) rfl⟩
theorem at_head_of (X : K.In h) (G : h.Ns mainGlobals mg) (c : SaysI w h K) : FnAt K mg "head_of" s_head_of := ⟨He.glo_ok X G (c.t.d.fact 34 (f := .glo "head_of") rfl), c.t.d.def_ 11 (d := defF "head_of" s_head_of) rfl⟩
theorem at_what_is_next (X : K.In h) (G : h.Ns mainGlobals mg) (c : SaysI w h K) : FnAt K mg "what_is_next" s_what_is_next := ⟨He.glo_ok X G (c.t.d.fact 35 (f := .glo "what_is_next") rfl), c.t.d.def_ 12 (d := defF "what_is_next" s_what_is_next) rfl⟩
theorem at_takes_next (X : K.In h) (G : h.Ns mainGlobals mg) (c : SaysI w h K) : FnAt K mg "takes_next" s_takes_next := ⟨He.glo_ok X G (c.t.d.fact 36 (f := .glo "takes_next") rfl), c.t.d.def_ 13 (d := defF "takes_next" s_takes_next) rfl⟩
theorem at_steps_from (X : K.In h) (G : h.Ns mainGlobals mg) (c : SaysI w h K) : FnAt K mg "steps_from" s_steps_from := ⟨He.glo_ok X G (c.t.d.fact 37 (f := .glo "steps_from") rfl), c.t.d.def_ 14 (d := defF "steps_from" s_steps_from) rfl⟩
theorem at_with_number (X : K.In h) (G : h.Ns mainGlobals mg) (c : SaysI w h K) : FnAt K mg "with_number" s_with_number := ⟨He.glo_ok X G (c.t.d.fact 38 (f := .glo "with_number") rfl), c.t.d.def_ 15 (d := defF "with_number" s_with_number) rfl⟩
theorem at_value_of (X : K.In h) (G : h.Ns mainGlobals mg) (c : SaysI w h K) : FnAt K mg "value_of" s_value_of := ⟨He.glo_ok X G (c.t.d.fact 39 (f := .glo "value_of") rfl), c.t.d.def_ 16 (d := defF "value_of" s_value_of) rfl⟩
theorem at_is_state (X : K.In h) (G : h.Ns mainGlobals mg) (c : SaysI w h K) : FnAt K mg "is_state" s_is_state := ⟨He.glo_ok X G (c.t.d.fact 40 (f := .glo "is_state") rfl), c.t.d.def_ 17 (d := defF "is_state" s_is_state) rfl⟩
theorem at_is_step (X : K.In h) (G : h.Ns mainGlobals mg) (c : SaysI w h K) : FnAt K mg "is_step" s_is_step := ⟨He.glo_ok X G (c.t.d.fact 41 (f := .glo "is_step") rfl), c.t.d.def_ 18 (d := defF "is_step" s_is_step) rfl⟩
theorem at_law_cell_at (X : K.In h) (G : h.Ns mainGlobals mg) (c : SaysI w h K) : FnAt K mg "_law_cell_at" s_law_cell_at := ⟨He.glo_ok X G (c.t.d.fact 42 (f := .glo "_law_cell_at") rfl), c.t.d.def_ 19 (d := defF "_law_cell_at" s_law_cell_at) rfl⟩
theorem at_law_draw (X : K.In h) (G : h.Ns mainGlobals mg) (c : SaysI w h K) : FnAt K mg "_law_draw" s_law_draw := ⟨He.glo_ok X G (c.t.d.fact 43 (f := .glo "_law_draw") rfl), c.t.d.def_ 20 (d := defF "_law_draw" s_law_draw) rfl⟩
theorem at_law_number (X : K.In h) (G : h.Ns mainGlobals mg) (c : SaysI w h K) : FnAt K mg "_law_number" s_law_number := ⟨He.glo_ok X G (c.t.d.fact 44 (f := .glo "_law_number") rfl), c.t.d.def_ 21 (d := defF "_law_number" s_law_number) rfl⟩
theorem at_law_next (X : K.In h) (G : h.Ns mainGlobals mg) (c : SaysI w h K) : FnAt K mg "_law_next" s_law_next := ⟨He.glo_ok X G (c.t.d.fact 45 (f := .glo "_law_next") rfl), c.t.d.def_ 22 (d := defF "_law_next" s_law_next) rfl⟩
theorem at_law_pick (X : K.In h) (G : h.Ns mainGlobals mg) (c : SaysI w h K) : FnAt K mg "_law_pick" s_law_pick := ⟨He.glo_ok X G (c.t.d.fact 46 (f := .glo "_law_pick") rfl), c.t.d.def_ 23 (d := defF "_law_pick" s_law_pick) rfl⟩
theorem at_law_row (X : K.In h) (G : h.Ns mainGlobals mg) (c : SaysI w h K) : FnAt K mg "_law_row" s_law_row := ⟨He.glo_ok X G (c.t.d.fact 47 (f := .glo "_law_row") rfl), c.t.d.def_ 24 (d := defF "_law_row" s_law_row) rfl⟩
theorem at_law_end (X : K.In h) (G : h.Ns mainGlobals mg) (c : SaysI w h K) : FnAt K mg "_law_end" s_law_end := ⟨He.glo_ok X G (c.t.d.fact 48 (f := .glo "_law_end") rfl), c.t.d.def_ 25 (d := defF "_law_end" s_law_end) rfl⟩
theorem at_law_outs (X : K.In h) (G : h.Ns mainGlobals mg) (c : SaysI w h K) : FnAt K mg "_law_outs" s_law_outs := ⟨He.glo_ok X G (c.t.d.fact 49 (f := .glo "_law_outs") rfl), c.t.d.def_ 26 (d := defF "_law_outs" s_law_outs) rfl⟩
theorem at_law_plain (X : K.In h) (G : h.Ns mainGlobals mg) (c : SaysI w h K) : FnAt K mg "_law_plain" s_law_plain := ⟨He.glo_ok X G (c.t.d.fact 50 (f := .glo "_law_plain") rfl), c.t.d.def_ 27 (d := defF "_law_plain" s_law_plain) rfl⟩
theorem at_law_made (X : K.In h) (G : h.Ns mainGlobals mg) (c : SaysI w h K) : FnAt K mg "_law_made" s_law_made := ⟨He.glo_ok X G (c.t.d.fact 51 (f := .glo "_law_made") rfl), c.t.d.def_ 28 (d := defF "_law_made" s_law_made) rfl⟩
theorem at_law_coming (X : K.In h) (G : h.Ns mainGlobals mg) (c : SaysI w h K) : FnAt K mg "_law_coming" s_law_coming := ⟨He.glo_ok X G (c.t.d.fact 52 (f := .glo "_law_coming") rfl), c.t.d.def_ 29 (d := defF "_law_coming" s_law_coming) rfl⟩
theorem at_law_options (X : K.In h) (G : h.Ns mainGlobals mg) (c : SaysI w h K) : FnAt K mg "_law_options" s_law_options := ⟨He.glo_ok X G (c.t.d.fact 53 (f := .glo "_law_options") rfl), c.t.d.def_ 30 (d := defF "_law_options" s_law_options) rfl⟩
theorem at_law_first (X : K.In h) (G : h.Ns mainGlobals mg) (c : SaysI w h K) : FnAt K mg "_law_first" s_law_first := ⟨He.glo_ok X G (c.t.d.fact 54 (f := .glo "_law_first") rfl), c.t.d.def_ 31 (d := defF "_law_first" s_law_first) rfl⟩
theorem at_law_rows_right (X : K.In h) (G : h.Ns mainGlobals mg) (c : SaysI w h K) : FnAt K mg "_law_rows_right" s_law_rows_right := ⟨He.glo_ok X G (c.t.d.fact 55 (f := .glo "_law_rows_right") rfl), c.t.d.def_ 32 (d := defF "_law_rows_right" s_law_rows_right) rfl⟩
theorem at_law_hands (X : K.In h) (G : h.Ns mainGlobals mg) (c : SaysI w h K) : FnAt K mg "_law_hands" s_law_hands := ⟨He.glo_ok X G (c.t.d.fact 56 (f := .glo "_law_hands") rfl), c.t.d.def_ 33 (d := defF "_law_hands" s_law_hands) rfl⟩
theorem at_stepped (X : K.In h) (G : h.Ns mainGlobals mg) (c : SaysI w h K) : FnAt1 K mg "stepped" s_stepped := ⟨He.glo_ok X G (c.t.d.fact 58 (f := .glo "stepped") rfl), c.t.d.def_ 35 (d := defF1 "stepped" s_stepped) rfl⟩
theorem at_step (X : K.In h) (G : h.Ns mainGlobals mg) (c : SaysI w h K) : FnAt1 K mg "step" s_step := ⟨He.glo_ok X G (c.t.d.fact 59 (f := .glo "step") rfl), c.t.d.def_ 36 (d := defF1 "step" s_step) rfl⟩
theorem mt_len (c : SaysI w h K) : MtAt K "__len__" "Blocks.__len__" s_Blocks___len__ := ⟨He.meth_ok (c.t.d.fact 60 (f := .meth "Program" "__len__") rfl), c.t.d.def_ 38 (d := defM "__len__" "Blocks.__len__" s_Blocks___len__) rfl⟩
theorem mt_getitem (c : SaysI w h K) : MtAt K "__getitem__" "Blocks.__getitem__" s_Blocks___getitem__ := ⟨He.meth_ok (c.t.d.fact 61 (f := .meth "Program" "__getitem__") rfl), c.t.d.def_ 39 (d := defM "__getitem__" "Blocks.__getitem__" s_Blocks___getitem__) rfl⟩
theorem mt_rows (c : SaysI w h K) : MtAt K "rows" "Blocks.rows" s_Blocks_rows := ⟨He.meth_ok (c.t.d.fact 62 (f := .meth "Program" "rows") rfl), c.t.d.def_ 40 (d := defM "rows" "Blocks.rows" s_Blocks_rows) rfl⟩
theorem mt_end (c : SaysI w h K) : MtAt K "end" "Blocks.end" s_Blocks_end := ⟨He.meth_ok (c.t.d.fact 63 (f := .meth "Program" "end") rfl), c.t.d.def_ 41 (d := defM "end" "Blocks.end" s_Blocks_end) rfl⟩
theorem mt_followers (c : SaysI w h K) : MtAt K "followers" "Blocks.followers" s_Blocks_followers := ⟨He.meth_ok (c.t.d.fact 64 (f := .meth "Program" "followers") rfl), c.t.d.def_ 42 (d := defM "followers" "Blocks.followers" s_Blocks_followers) rfl⟩
theorem mt_edges_into (c : SaysI w h K) : MtAt K "edges_into" "Blocks.edges_into" s_Blocks_edges_into := ⟨He.meth_ok (c.t.d.fact 65 (f := .meth "Program" "edges_into") rfl), c.t.d.def_ 43 (d := defM "edges_into" "Blocks.edges_into" s_Blocks_edges_into) rfl⟩
theorem mt_entered (c : SaysI w h K) : MtAt K "entered" "Program.entered" s_Program_entered := ⟨He.meth_ok (c.t.d.fact 66 (f := .meth "Program" "entered") rfl), c.t.d.def_ 44 (d := defM "entered" "Program.entered" s_Program_entered) rfl⟩
theorem law_I (c : SaysI w h K) : ∃ fd, FunD K "law" "law" (defArgs s_law) (defBody s_law) (defScope s_law) [] [] (He.ga K "law") fd := c.t.d.def_ 34 (d := defF "law" s_law) rfl
theorem law_g (X : K.In h) (G : h.Ns mainGlobals mg) (c : SaysI w h K) : mg "law" = some (.ref (He.ga K "law")) := He.glo_ok X G (c.t.d.fact 57 (f := .glo "law") rfl)
theorem tab_I {base : Heap} (c : SaysI w h K) (C : ∀ p ∈ tfL.map (He.cT K), TabB base mg p.1 p.2) : TabF K mg base where
  t1 := C (He.cT K ("head_of", none)) List.mem_cons_self
  t2 := C (He.cT K ("_law_rows_right", none)) (List.mem_cons_of_mem _ List.mem_cons_self)
  ne := of_decide_eq_true (exB_at c.more 22 rfl)
/-- all walks, joined -/
theorem law_fn {base : Heap} {fd : FuncData} (X : K.In h) (G : h.Ns mainGlobals mg) (c : SaysI w h K) (C : ∀ p ∈ tfL.map (He.cT K), TabB base mg p.1 p.2) (FL : FunD K "law" "law" (defArgs s_law) (defBody s_law) (defScope s_law) [] [] (He.ga K "law") fd) : FnOk rowR.prog w K mg base CX0 10 (He.ga K "law") fd ["_law_script"] (sp_law K) := by
  have T := facts_I X G c
  have PF := prf_I c
  have IF := inf_I X G c
  have TF := tab_I c C
  have c1 := ok_is_integer (P := rowR.prog) (base := base) T (at_is_integer X G c)
  have c2 := ok_is_row T (at_is_row X G c) c1
  have c3 := ok_is_end T (at_is_end X G c) c1
  have c4 := ok_targets_of (P := rowR.prog) (base := base) T (at_targets_of X G c)
  have c5 := ok_is_plain_block T (at_is_plain_block X G c) c2 c3
  have c6 := ok_are_reached T (at_are_reached X G c) c4
  have m1 := ok_len (P := rowR.prog) (base := base) T PF (mt_len c)
  have m2 := ok_getitem T PF (mt_getitem c) c1
  have m3 := ok_rows T PF (mt_rows c) m2
  have m4 := ok_end T PF (mt_end c) m2
  have m5 := ok_followers T PF (mt_followers c) m4 c4
  have m6 := ok_edges T PF (mt_edges_into c) m2 m5
  have m7 := ok_entered (P := rowR.prog) (base := base) T (mt_entered c)
  have c7 := ok_check_graph (P := rowR.prog) (base := base) T PF (at_check_graph X G c)
  have c8 := ok_check_program (P := rowR.prog) (base := base) T PF (at_check_program X G c)
  have c9 := ok_check_block T PF (at_check_block X G c) c7 m1 c1
  have d1 := ok_steps T PF (at_heads_by_steps X G c) m1 m6
  have d2 := ok_heads T PF (at_heads X G c) c9 d1
  have d3 := ok_head_of T TF PF (at_head_of X G c) c9 d1
  have d4 := ok_next T PF (at_what_is_next X G c) m3 m4
  have d5 := ok_takes T (at_takes_next X G c) d4
  have d6 := ok_steps_from T PF (at_steps_from X G c) d4 d5
  have d7 := ok_with (P := rowR.prog) (base := base) T (at_with_number X G c)
  have d8 := ok_value (P := rowR.prog) (base := base) T PF (at_value_of X G c)
  have d9 := ok_stepped T PF (at_stepped X G c) d4 c4 m7 d8 d7
  have e1 := ok_is_state T PF (at_is_state X G c) c1 m1 m3
  have e2 := ok_is_step T (at_is_step X G c) d6
  have e3 := ok_step T PF (at_step X G c) c8 e1 d6 e2 d9
  have f1 := ok_cell_at (P := rowR.prog) (base := base) T (at_law_cell_at X G c)
  have f2 := ok_draw (P := rowR.prog) (base := base) T (at_law_draw X G c)
  have f3 := ok_number T (at_law_number X G c) f2
  have f4 := ok_lnext T (at_law_next X G c) f1 f3
  have f5 := ok_pick T (at_law_pick X G c) f4
  have f6 := ok_lrow T (at_law_row X G c) f5 f4
  have f7 := ok_lend T (at_law_end X G c) f4
  have f8 := ok_louts T (at_law_outs X G c) f5
  have f9 := ok_lplain T (at_law_plain X G c) f4 f8 f6 f7
  have g1 := ok_binit (P := rowR.prog) (w := w) (mg := mg) (base := base) PF (bi_I c)
  have g2 := ok_init T PF IF g1 c1 c5 c6
  have g3 := ok_made T IF (at_law_made X G c) g2
  have g4 := ok_coming (P := rowR.prog) (base := base) T (at_law_coming X G c)
  have g5 := ok_options T (at_law_options X G c) g4
  have g6 := ok_first (P := rowR.prog) (base := base) T (at_law_first X G c)
  have g7 := ok_rows_right T TF (at_law_rows_right X G c) d3
  have g8 := ok_hands (P := rowR.prog) (base := base) T (at_law_hands X G c)
  exact ok_law T FL f9 g3 d2 g7 g6 f5 g8 g5 e3
/-- what the end asks -/
theorem law_at {fa : Addr} (X : K.In h) (G : h.Ns mainGlobals mg) (c : SaysI w h K) (hmg : mg "law" = some (.ref fa)) : LawAtS PySem.Challenge.rw_registerrooms_k20_whole_heads_on_runs w K CX0 10 63 "_law_script" mg fa h := by
  obtain ⟨fd, FL⟩ := law_I c
  have e := hmg.symm.trans (law_g X G c)
  cases e
  have b := FunD.bindsA (ps := ["_law_script"]) FL fun _ _ _ _ _ _ us hl => match us, hl with | [_], _ => rfl
  have tb : ∀ p ∈ tfL.map (He.cT K), PySem.W.codeHdIn K p.1 p.2 = true ∧ K.lookup p.2 = none ∧ h.get? p.2 = some { cls := .none, data := .fields #[] } := fun p hp => by
    obtain ⟨q, hq, rfl⟩ := List.mem_map.mp hp
    exact c.tabs q hq
  refine ⟨fd, tfL.map (He.cT K), sp_law K, fun p hp => (tb p hp).2.2, fun p hp => (tb p hp).2.1, fun p hp => PySem.W.codeHd_of_K X (tb p hp).1, fun s v => b s [v] rfl, fun H a ns hl _ hT hS => ⟨a, ns, rfl, hS, fun p hp => ?_, fun _ => rfl⟩, fun base XB GB C => law_fn X G c C FL⟩
  · simp only [TLam, List.mem_cons, List.not_mem_nil, or_false] at hp
    rcases hp with rfl | rfl
    · exact TabS.nil (hT (He.cT K ("head_of", none)) List.mem_cons_self)
    · exact TabS.nil (hT (He.cT K ("_law_rows_right", none)) (List.mem_cons_of_mem _ List.mem_cons_self))
end
end Rr
set_option maxHeartbeats 0
/-! ### the run of the top, in the kernel -/
namespace Rr
open PySem L2
def RunI (w : World) : Prop := HandSHeadRun.RunEq rowR (PySem.W.view rowR.prog [55]) hkI obT 4000 looseNames w
theorem run_f (w : World) : RunI (w.withFollow "special-get-raises" false) := by
  intro os
  kernel_rfl
theorem run_t (w : World) : RunI (w.withFollow "special-get-raises" true) := by
  intro os
  kernel_rfl
theorem run_all (w : World) : RunI w := PySem.W.byRow2 "special-get-raises" (P := RunI) run_f run_t w
end Rr
set_option maxHeartbeats 0
/-! ### the end -/
namespace Rr
open PySem PySem.Spec PyProof.Rows L2 LamX
theorem law_call : PySem.W.WalkO (PySem.W.view rowR.prog [55]) looseNames (PySem.W.XL (PySem.W.view rowR.prog [55]) []) hkI.says rowR.toRowW (HandSHeadRun.topDef rowR.prog 55) [] (fun f vs => PySem.call f vs) := by
  refine LamX.walk_ofTsE (l := PySem.Challenge.rw_registerrooms_k20_whole_heads_on_runs) (n := 63) (k := 10) (x := "_law_script") (CX := fun _ => L2.CX0) rfl (by decide) (by kernel_rfl) ⟨rfl, by decide, by decide⟩ ?F (fun _ _ _ _ _ z => z)
  intro w mg fa h Y G hmg0
  obtain ⟨K, KX, c⟩ := Y
  have hmg : mg ("law" : PySem.Str) = some (.ref fa) := by
    have e : (HandSHeadRun.topDef rowR.prog 55).name = ("law" : PySem.Str) := by kernel_rfl
    rw [← e]
    exact hmg0
  exact ⟨K, KX, law_at KX G c hmg⟩
end Rr
open PySem PySem.W PySem.Calls PyProof.Rows
theorem PySem.Challenge.cw_registerrooms_k20_whole_heads_on_runs_holds : PySem.Challenge.rw_registerrooms_k20_whole_heads_on_runs.Holds := by
  w_on; o_law
  refine HandSHeadRun.head_any (r := OpenLaw.row PySem.Challenge.rw_registerrooms_k20_whole_heads_on_runs) (q := view (OpenLaw.row PySem.Challenge.rw_registerrooms_k20_whole_heads_on_runs).prog [55]) (H := Rr.hkI) (ob := Rr.obT) (M := 4000) (loose := Rr.looseNames) (d := HandSHeadRun.topDef (OpenLaw.row PySem.Challenge.rw_registerrooms_k20_whole_heads_on_runs).prog 55) (kwd := []) Rr.obT_eq
    (by kernel_rfl) (fun s => by kernel_rfl) Rr.run_all (by kernel_rfl) (by kernel_rfl) (by kernel_rfl) (by rfl) (by first | assumption | decide +kernel) (by decide +kernel) ⟨rfl, rfl, rfl, rfl, rfl, by decide +kernel⟩ ?hw Rr.law_call
  case hw => w_witness2
