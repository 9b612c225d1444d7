import PyProof.Rows.All
import Wide.All
import OpenK.AllK
import Wide.FinOn
import HandS.ForMost
import HandS.NoneIn
import HandS.TupAny
import HandS.IsInst
import HandS.Walk
import HandS.Codes
import HandS.Zip
import KE.GoesNew
import PySem.Challenge.RW_vellum_k51_whole_no_wrong_price_taken
set_option Elab.async false
set_option linter.all false
set_option maxRecDepth 100000
set_option maxHeartbeats 4000000
/-! The plain law of k51: prices of choices, a table's bounds, and that none is cheaper. No program in sight. -/
namespace K51
/-- the price of the first k columns of a choice -/
def cost (ow : Nat → Nat → Int) (turn : Int) (c : Nat → Nat) : Nat → Int
  | 0 => 0
  | k + 1 => cost ow turn c k + ow k (c k) + (if 0 < k ∧ c (k - 1) ≠ c k then turn else 0)
/-- what turning from elder k to elder j costs -/
def tn (turn : Int) (k j : Nat) : Int := if k = j then 0 else turn
/-- one number of a table is no more than what it can be come to at -/
def Cell (ow : Nat → Nat → Int) (turn : Int) (m : Nat) (T : Nat → Nat → Int) (i j : Nat) : Prop :=
  (i = 0 → T i j ≤ ow i j) ∧ (0 < i → ∀ k, k < m → T i j ≤ ow i j + (T (i - 1) k + tn turn k j))
/-- .. each number of a column -/
def Col (ow : Nat → Nat → Int) (turn : Int) (m : Nat) (T : Nat → Nat → Int) (i : Nat) : Prop := ∀ j, j < m → Cell ow turn m T i j
/-- what the examiner asks -/
def Stands (ow : Nat → Nat → Int) (turn : Int) (n m : Nat) (T : Nat → Nat → Int) (c : Nat → Nat) (price : Int) : Prop :=
  cost ow turn c n = price ∧ (∀ i, i < n → Col ow turn m T i) ∧ (0 < n → ∀ k, k < m → price ≤ T (n - 1) k)
theorem cost_succ (ow : Nat → Nat → Int) (turn : Int) (c : Nat → Nat) (k : Nat) :
    cost ow turn c (k + 1) = cost ow turn c k + ow k (c k) + (if 0 < k ∧ c (k - 1) ≠ c k then turn else 0) := rfl
theorem col_cost {ow : Nat → Nat → Int} {turn : Int} {n m : Nat} {T : Nat → Nat → Int} {c : Nat → Nat}
    (hB : ∀ i, i < n → Col ow turn m T i) (hc : ∀ i, i < n → c i < m) : ∀ i, i < n → T i (c i) ≤ cost ow turn c (i + 1)
  | 0, h => by
    have h1 := (hB 0 h (c 0) (hc 0 h)).1 rfl
    rw [cost_succ, if_neg (fun z => Nat.lt_irrefl 0 z.1)]
    show T 0 (c 0) ≤ 0 + ow 0 (c 0) + 0
    omega
  | i + 1, h => by
    have ih := col_cost hB hc i (Nat.lt_of_succ_lt h)
    have h1 := (hB (i + 1) h (c (i + 1)) (hc _ h)).2 (Nat.succ_pos i) (c i) (hc i (Nat.lt_of_succ_lt h))
    rw [cost_succ]
    have h1 : T (i + 1) (c (i + 1)) ≤ ow (i + 1) (c (i + 1)) + (T i (c i) + tn turn (c i) (c (i + 1))) := h1
    unfold tn at h1
    show T (i + 1) (c (i + 1)) ≤ cost ow turn c (i + 1) + ow (i + 1) (c (i + 1)) + (if 0 < i + 1 ∧ c i ≠ c (i + 1) then turn else 0)
    by_cases e : c i = c (i + 1)
    · rw [if_pos e] at h1
      rw [if_neg (fun z => z.2 e)]
      omega
    · rw [if_neg e] at h1
      rw [if_pos ⟨Nat.succ_pos i, e⟩]
      omega
/-- where a choice stands, none is cheaper -/
theorem stands_least {ow : Nat → Nat → Int} {turn : Int} {n m : Nat} {T : Nat → Nat → Int} {c : Nat → Nat} {price : Int}
    (h : Stands ow turn n m T c price) (c' : Nat → Nat) (hc : ∀ i, i < n → c' i < m) : price ≤ cost ow turn c' n := by
  obtain ⟨h1, h2, h3⟩ := h
  cases n with
  | zero =>
    have e : price = 0 := h1.symm
    rw [e]
    exact Int.le_refl 0
  | succ n =>
    have q := col_cost h2 hc n (Nat.lt_succ_self n)
    have q2 := h3 (Nat.succ_pos n) (c' n) (hc n (Nat.lt_succ_self n))
    have q2 : price ≤ T n (c' n) := q2
    omega
/-- what total is: nought without columns, else the least number of the last one -/
def Tot (n m : Nat) (T : Nat → Nat → Int) (total : Int) : Prop := (n = 0 → total = 0) ∧ (0 < n → (∃ k, k < m ∧ total = T (n - 1) k) ∧ ∀ k, k < m → total ≤ T (n - 1) k)
/-- the examiner takes just what the law says -/
theorem stands_iff {ow : Nat → Nat → Int} {turn : Int} {n m : Nat} {T : Nat → Nat → Int} {c : Nat → Nat} {price total : Int} (ht : Tot n m T total) :
    Stands ow turn n m T c price ↔ ((∀ i, i < n → Col ow turn m T i) ∧ price = cost ow turn c n ∧ price ≤ total) := by
  constructor
  · intro ⟨h1, h2, h3⟩
    refine ⟨h2, h1.symm, ?_⟩
    rcases Nat.eq_zero_or_pos n with z | z
    · rw [ht.1 z, ← h1, z]
      exact Int.le_refl 0
    · obtain ⟨⟨k, hk, e⟩, _⟩ := ht.2 z
      rw [e]
      exact h3 z k hk
  · intro ⟨h1, h2, h3⟩
    refine ⟨h2.symm, h1, fun z k hk => ?_⟩
    have := (ht.2 z).2 k hk
    omega
end K51
/-! Two rules of my own over the library's walks: min of a tuple of ints, enumerate of a tuple. -/
namespace K51
open PySem PySem.Spec PyProof.Rows L2
section
variable {X : Cx}
/-- min(t): the ints of t, and what follows with the least of them -/
def rMinT (K : PySem.W.Frag) : List V → Hp → VK → Prop := fun vs H Q =>
  ∃ (a : Addr) (ns : List Int), vs = [V.ref a] ∧ SqT K H a (ns.map V.int) ∧ 0 < ns.length ∧
    ∀ m, m ∈ ns → (∀ y, y ∈ ns → m ≤ y) → Q (.int m) H
theorem getD_in {ns : List Int} {j : Nat} (h : j < ns.length) : ns.getD j 0 = ns[j] := by
  rw [List.getD_eq_getElem?_getD, List.getElem?_eq_getElem h]
  rfl
theorem cr_minT (hc : X.calm = true) : CallR X (.builtin "min") (rMinT X.K) := fun pins s σ H vs us Q I r h => by
  obtain ⟨a, ns, rfl, tup, pos, goal⟩ := h
  obtain ⟨its, rv, there, _⟩ := I.tuple tup
  have hT : s.heap.IsTuple a its.toArray := there
  have len : ns.length = its.length := by simpa using rv.length
  have ha : a < s.heap.objs.size := there.lt
  have each : ∀ (j : Nat) (v : Value), its.toArray[j]? = some v → j < ns.length ∧ ∃ t, v = .int (ns.getD j 0) t := fun j v hv => by
    have hv' : its[j]? = some v := by simpa using hv
    have hj : j < ns.length := len ▸ (List.getElem?_eq_some_iff.mp hv').1
    have hx : (ns.map V.int)[j]? = some (.int (ns.getD j 0)) := by
      rw [List.getElem?_map, List.getElem?_eq_getElem hj, getD_in hj]
      rfl
    obtain ⟨u, hu, t, eu⟩ := rv.get hx
    exact ⟨hj, t, Option.some.inj (hv'.symm.trans hu) |>.trans eu⟩
  rw [Vals.ref1 r]
  refine call_min_walk (wpAny_pyIter_tuple hT ⟨s.heap.objs.size, [s.heap.objs.size, a], [s.heap.objs.size], its.toArray.size, _, _, _, rfl,
    Walks.tuple (A := X.A.in1) (I.ok.hd hc) s.heap.objs.size a (Nat.ne_of_lt ha) its.toArray, ⟨⟨_, Heap.get?_push_size _ rfl, rfl, rfl⟩, hT.push _⟩,
    fun b hb => ?_, by rw [List.size_toArray, ← len]; exact pos, CmpOf.ints_lt (fun j => ns.getD j 0) (fun j v q => (each j v q).2), fun v h' tk hv keep => ?_⟩)
  · rw [Heap.size_push]
    have two : b = s.heap.objs.size ∨ b = a := by simpa using hb
    cases two with
    | inl e => exact e ▸ Nat.lt_succ_self _
    | inr e => exact e ▸ Nat.lt_succ_of_lt ha
  · obtain ⟨hj, t, ev⟩ := each _ v hv
    have best := (argBest_lt (fun j => ns.getD j 0) (its.toArray.size - 1)).2
    refine ⟨.int _, H, I.kept (fun b o eb => ?_), ⟨t, ev⟩, goal _ (by rw [getD_in hj]; exact List.getElem_mem hj) fun y hy => ?_⟩
    · have hb := Heap.lt_size eb
      exact keep b o (fun z => Nat.ne_of_lt hb (by simpa using z)) (Heap.get?_push_of_some _ eb)
    · obtain ⟨j, hj2, ey⟩ := List.getElem_of_mem hy
      have le := best j (by rw [List.size_toArray]; omega)
      rw [← ey, ← getD_in hj2]
      exact le
end
/-! ### enumerate(t), t a tuple -/
/-- enumerate(v) of one argument, for any v whose iter is known -/
theorem enum_one {v : Value} {o : Obj} {G : Heap → Prop} (B : Begins v o G) : Meets (Builtin.«enumerate.__new__» ⟨[.type "enumerate", v], []⟩) fun _ R s =>
    G s.heap ∧ R (.ok (.ret (.ref (s.heap.objs.size + 1)))) { s with heap := (s.heap.push o).push ⟨.type "enumerate", none, .fields #[.none, .bool false, .ref s.heap.objs.size, rawInt 0, .none, .none], #[]⟩ } :=
  .of_wp fun prog w A R s want => by
    rcases s with ⟨hp, gs, dr, tk, os⟩
    rcases want with ⟨hg, hr⟩
    have hsub := sub_enumerate
    have step : ∀ {A' : Around} {E Q : Value → Shared → Prop}, Q (.ref hp.objs.size) ⟨hp.push o, gs, dr, tk, os⟩ → wpAny (model prog w) A' (pyIter v) Q E ⟨hp, gs, dr, tk, os⟩ := fun q => B.iter _ _ _ _ ⟨hp, gs, dr, tk, os⟩ _ hg q
    have e : (hp.push o).objs.size = hp.objs.size + 1 := Heap.size_push ..
    rw [← e] at hr
    wp_walk using step
    refine wpAny_stack_any fun st => ?_
    refine wpAny_pure ?_
    split
    · rename_i c _ _ _ _ _
      generalize (c == Value.type "enumerate") = b
      cases b <;> (wp_walk using step; exact ⟨_, rfl, hr⟩)
    · wp_walk using step
      exact ⟨_, rfl, hr⟩
/-- the pairs of enumerate over the tuple at a: T is the pair of a turn, new in the heap -/
def IteT (K : PySem.W.Frag) (a : Addr) : It where
  go i H := ∃ xs x, SqT K H a xs ∧ xs[i]? = some x
  yld i H v H' := ∃ T x, v = .ref T ∧ H T = none ∧ (∀ xs, SqT K H a xs → xs[i]? = some x) ∧ H' = upd H T (.tup [.int ((i : Nat) : Int), x])
  stop i H := ∃ xs : List V, SqT K H a xs ∧ xs.length = i
/-- the state of the two cells ahead of turn i -/
def TnE (a e it : Addr) (i : Nat) (h : Heap) : Prop := (∃ old, IsEnum h e it (0 + ((i : Nat) : Int)) old) ∧ h.IsTupleIter it a i ∧ e ≠ it
theorem TnE.apart {a e it : Addr} {i : Nat} {h : Heap} {items : Array Value} (st : TnE a e it i h) (t : h.IsTuple a items) : a ≠ it ∧ a ≠ e := by
  obtain ⟨⟨old, he⟩, ⟨p, hp, cp, _⟩, _⟩ := st
  obtain ⟨q, hq, cq, _⟩ := t
  constructor <;> intro z
  · rw [z, hp] at hq
    rw [← Option.some.inj hq, cp] at cq
    exact absurd cq (by decide)
  · rw [z] at hq
    have he2 : Value.type "enumerate" = Value.type "tuple" := by
      rw [← cq, ← Option.some.inj ((show h.get? e = some _ from he).symm.trans hq)]
    exact absurd he2 (by decide)
theorem TnE.obj {a e it : Addr} {i : Nat} {h : Heap} (st : TnE a e it i h) (b : Addr) (hb : b ∈ [e, it]) : ∃ o, h.get? b = some o ∧ ∀ v, o.data ≠ .cell v := by
  obtain ⟨⟨old, he⟩, ⟨p, hp, _, dp⟩, _⟩ := st
  rcases List.mem_cons.mp hb with rfl | hit
  · exact ⟨_, he, fun v z => nomatch z⟩
  · cases List.mem_singleton.mp hit
    exact ⟨p, hp, fun v z => nomatch dp.symm.trans z⟩
theorem turn_enumT {P : Program} {w : World} {K : PySem.W.Frag} {elts : List Expr} {kk : Nat} {tpos : Pos} (a e it : Addr) : Turn P w K (.Tuple elts kk tpos) (IteT K a) [e, it] e (TnE a e it) where
  mem := List.mem_cons_self
  obj i h st := st.obj
  keep i h h' st k := ⟨st.1.imp fun old he => k e List.mem_cons_self _ he, st.2.1.at fun o => k it (by simp) o, st.2.2⟩
  item := by
    rintro X rfl rfl rfl hc i pins s σ H E I hf st ⟨xs, x, hq, hx⟩
    obtain ⟨its, rv, there, _⟩ := I.tuple hq
    obtain ⟨u, hu, ur⟩ := rv.get hx
    have t : s.heap.IsTuple a its.toArray := there
    obtain ⟨ai, ae⟩ := st.apart t
    have hlt : i < its.toArray.size := by
      rw [List.size_toArray]
      exact (List.getElem?_eq_some_iff.mp hu).1
    refine (GoesN.enumFrom 0 (Draws.tuple (A := X.A.in1) (I.ok.hd hc) it a ai its.toArray) e st.2.2 (by simp [st.2.2, Ne.symm ae]) (by simp)).goes i s
      (fun v s2 => ∃ x H', Inv X pins σ H' s2 ∧ RelV x v ∧ (IteT X.K a).yld i H x H' ∧ TnE a e it (i + 1) s2.heap ∧ ∀ b ∈ [e, it], H' b = none) E hlt ⟨st.1, st.2.1, t⟩ fun v h' tk hY next old _ => ?_
    obtain ⟨T, tok, y, rfl, big, hy, pair⟩ := hY
    have ey : y = u := Option.some.inj (hy.symm.trans (by simpa using hu))
    rw [ey] at pair
    have pair2 : ObjOk X.prog X.w (upd H T (.tup [.int ((i : Nat) : Int), x])) h' T (.tup [.int ((i : Nat) : Int), x]) :=
      ⟨by show 2 ≤ sizeLine; decide, [.int (0 + ((i : Nat) : Int)) tok, u], .cons ⟨tok, by rw [Int.zero_add]⟩ (.cons ur .nil), pair⟩
    refine ⟨.ref T, _, I.turnedNew (ch := [e, it]) old hf big pair2, rfl, ⟨T, x, rfl, I.hok.fresh big, fun ys hys => I.tuple_inj hys hq ▸ hx, rfl⟩, ⟨next.1, next.2.1, st.2.2⟩, fun b hb => ?_⟩
    obtain ⟨o, ho, _⟩ := st.obj b hb
    rw [upd_ne (Nat.ne_of_lt (Nat.lt_of_lt_of_le (Heap.lt_size ho) big))]
    exact (hf b hb).1
  done := by
    rintro X rfl rfl rfl hc i pins s σ H E I hf st ⟨xs, hq, hx⟩
    obtain ⟨its, rv, there, _⟩ := I.tuple hq
    have t : s.heap.IsTuple a its.toArray := there
    have at_end : its.toArray.size = i := by
      rw [List.size_toArray, ← hx]
      exact rv.length.symm
    obtain ⟨ai, ae⟩ := st.apart t
    refine (GoesN.enumFrom (elts := elts) (x1 := kk) (pos := tpos) 0 (Draws.tuple (A := X.A.in1) (I.ok.hd hc) it a ai its.toArray) e st.2.2 (by simp [st.2.2, Ne.symm ae]) (by simp)).stops s
      (fun s1 => Inv X pins σ H s1) E ⟨by rw [at_end]; exact st.1, by rw [at_end]; exact st.2.1, t⟩ fun h' tk old _ => ?_
    exact I.turnedL old hf
  self A i s Q E st q := st.1.elim fun _ he => wpAny_pyIter_enum he q
def iEnumT (K : PySem.W.Frag) (ta : TA) : TI := fun σ H R => ta σ H fun vs H1 =>
  ∃ a xs, vs = [.ref a] ∧ SqT K H1 a xs ∧ R (IteT K a) H1
theorem pi_enumT {X : Cx} {e : Expr} {ta : TA} {p pos tpos : Pos} {elts : List Expr} {kk : Nat} (hg : Gl X "enumerate") (hm : X.mg "enumerate" = none) (ha : PA X [e] ta) (hs : starEach [e] X.env = [(false, eval e X.env)] := by rfl) :
    PI X (.Tuple elts kk tpos) (.Call (.Name "enumerate" p) [e] [] pos) (iEnumT X.K ta) := by
  constructor
  intro pins s σ H R I hw
  have arg := ha.run pos pins s σ H _ I hw
  refine Call_ (ld_blt I hg hm boot_enumerate (callWith_type1 (thn arg fun us s1 got => ?_) hs rfl))
  obtain ⟨vs, H1, I1, rel, a, xs, rfl, hq, after⟩ := got
  rw [Vals.ref1 rel]
  obtain ⟨its, rv, there, _⟩ := I1.tuple hq
  have t : s1.heap.IsTuple a its.toArray := there
  have made := enum_one (begins_tuple a its.toArray)
  refine callType_new F.called_enumerate (by decide) (F.typeCall_enumerate_1 _) (F.newCall_enumerate_1 _) (fun _ => F.args_object_init_2 _ _) F.entry_enumerate_new made ⟨t, ?_⟩
  generalize hh : Heap.push (Heap.push s1.heap _) _ = h2
  have keep : ∀ b o, s1.heap.get? b = some o → h2.get? b = some o := fun b o q => hh ▸ Heap.get?_push_of_some _ (Heap.get?_push_of_some _ q)
  have hsz : (s1.heap.push { cls := .type "tuple_iterator", data := .fields #[.ref a, .int 0 0] }).objs.size = s1.heap.objs.size + 1 := Heap.size_push ..
  have hit : h2.IsTupleIter s1.heap.objs.size a 0 := ⟨_, hh ▸ Heap.get?_push_of_some _ (Heap.get?_push_size _ rfl), rfl, rfl⟩
  have hen : IsEnum h2 (s1.heap.objs.size + 1) s1.heap.objs.size 0 .none := by
    rw [← hh, ← hsz]
    exact (Heap.get?_push_size (_) rfl)
  refine ⟨⟨_, hen, rfl⟩, wpAny_pyIter_enum hen ?_⟩
  have fresh : ∀ b, b ∈ [s1.heap.objs.size + 1, s1.heap.objs.size] → s1.heap.objs.size ≤ b := fun b hb => by
    rcases List.mem_cons.mp hb with rfl | hit
    · exact Nat.le_succ _
    · exact Nat.le_of_eq (List.mem_singleton.mp hit).symm
  exact ⟨_, _, _, _, H1, rfl, I1.kept keep, turn_enumT a _ _, ⟨⟨.none, hen⟩, hit, Nat.succ_ne_self _⟩, fun b hb => I1.fpOk (fresh b hb) (I1.hok.fresh (fresh b hb)), after⟩
/-- the walk over such pairs, for for_it and lc_it -/
theorem walk_enumT {K : PySem.W.Frag} {a : Addr} {xs : List V} : Walk (IteT K a) xs.length (fun H => SqT K H a xs) fun i H v H' => ∃ T x, v = .ref T ∧ H T = none ∧ xs[i]? = some x ∧ H' = upd H T (.tup [.int ((i : Nat) : Int), x]) where
  goes i H hi q := ⟨xs, xs[i], q, List.getElem?_eq_getElem hi⟩
  stops H q := ⟨xs, q, rfl⟩
  yields i H v H' _ q := fun ⟨T, x, e1, e2, e3, e4⟩ => ⟨T, x, e1, e2, e3 xs q, e4⟩
end K51
/-! The text's places and scopes, small lemmas, the shapes that the promises speak of. -/
namespace K51
open PySem PySem.Spec PyProof.Rows L2
/-! ### the text -/
def topS (i : Nat) : Stmt := PySem.Challenge.pw_vellum_k51_whole_no_wrong_price_taken.main.body.getD i (.Pass ⟨0, 0, 0, 0⟩)
abbrev sOwn : Stmt := topS 1
abbrev sChoice : Stmt := topS 2
abbrev sAhead : Stmt := topS 3
abbrev sColumn : Stmt := topS 4
abbrev sStand : Stmt := topS 5
abbrev sCell : Stmt := topS 7
abbrev sWord : Stmt := topS 8
abbrev sEntry : Stmt := topS 9
abbrev sColumns : Stmt := topS 10
abbrev sTwo : Stmt := topS 11
abbrev sLChoice : Stmt := topS 12
abbrev sChoices : Stmt := topS 13
abbrev sBounds : Stmt := topS 14
abbrev sSlack : Stmt := topS 15
abbrev sMade : Stmt := topS 16
abbrev sLaw : Stmt := topS 17
theorem scOwn : FnScope ["entries", "elders", "slip", "at", "elder"] ["entries", "elders", "slip", "at", "elder"] (defScope sOwn) := ⟨rfl, rfl, rfl, by decide +kernel, rfl, by decide +kernel, by decide +kernel⟩
theorem scChoice : FnScope ["entries", "elders", "slip", "turn", "choice", "price", "at", "elder"] ["entries", "elders", "slip", "turn", "choice"] (defScope sChoice) := ⟨rfl, rfl, rfl, by decide +kernel, rfl, by decide +kernel, by decide +kernel⟩
theorem scAhead : FnScope ["row", "elder", "turn", "other", "price"] ["row", "elder", "turn"] (defScope sAhead) := ⟨rfl, rfl, rfl, by decide +kernel, rfl, by decide +kernel, by decide +kernel⟩
theorem scColumn : FnScope ["entries", "elders", "slip", "turn", "table", "at", "elder", "most"] ["entries", "elders", "slip", "turn", "table", "at"] (defScope sColumn) := ⟨rfl, rfl, rfl, by decide +kernel, rfl, by decide +kernel, by decide +kernel⟩
theorem scStand : FnScope ["entries", "elders", "slip", "turn", "price", "choice", "table", "row", "at"] ["entries", "elders", "slip", "turn", "price", "choice", "table"] (defScope sStand) := ⟨rfl, rfl, rfl, by decide +kernel, rfl, by decide +kernel, by decide +kernel⟩
theorem scCell : FnScope ["script", "k"] ["script", "k"] (defScope sCell) := ⟨rfl, rfl, rfl, by decide +kernel, rfl, by decide +kernel, by decide +kernel⟩
theorem scWord : FnScope ["number", "word", "k"] ["number"] (defScope sWord) := ⟨rfl, rfl, rfl, by decide +kernel, rfl, by decide +kernel, by decide +kernel⟩
theorem scEntry : FnScope ["number", "menu"] ["number", "menu"] (defScope sEntry) := ⟨rfl, rfl, rfl, by decide +kernel, rfl, by decide +kernel, by decide +kernel⟩
theorem scColumns : FnScope ["script", "most", "wide", "many", "long", "near", "k", "sums", "at", "menu", "rows", "row", "mine", "number"] ["script", "most", "wide"] (defScope sColumns) := ⟨rfl, rfl, rfl, by decide +kernel, rfl, by decide +kernel, by decide +kernel⟩
theorem scTwo : FnScope ["script", "prices", "cell", "most"] ["script"] (defScope sTwo) := ⟨rfl, rfl, rfl, by decide +kernel, rfl, by decide +kernel, by decide +kernel⟩
theorem scLChoice : FnScope ["entries", "elders", "prices", "choice", "price", "at", "mine"] ["entries", "elders", "prices", "choice"] (defScope sLChoice) := ⟨rfl, rfl, rfl, by decide +kernel, rfl, by decide +kernel, by decide +kernel⟩
theorem scChoices : FnScope ["many", "long", "choices", "at", "longer", "choice", "elder"] ["many", "long"] (defScope sChoices) := ⟨rfl, rfl, rfl, by decide +kernel, rfl, by decide +kernel, by decide +kernel⟩
theorem scBounds : FnScope ["entries", "elders", "prices", "table", "at", "elder", "unlike", "rest", "other", "turn"] ["entries", "elders", "prices", "table"] (defScope sBounds) := ⟨rfl, rfl, rfl, by decide +kernel, rfl, by decide +kernel, by decide +kernel⟩
theorem scSlack : FnScope ["script", "at", "elder", "cell"] ["script", "at", "elder"] (defScope sSlack) := ⟨rfl, rfl, rfl, by decide +kernel, rfl, by decide +kernel, by decide +kernel⟩
theorem scMade : FnScope ["script", "entries", "elders", "prices", "table", "at", "row", "elder", "most", "ahead", "ways", "k"] ["script", "entries", "elders", "prices"] (defScope sMade) := ⟨rfl, rfl, rfl, by decide +kernel, rfl, by decide +kernel, by decide +kernel⟩
theorem scLaw : FnScope ["script", "entries", "elders", "prices", "table", "bounds", "choices", "costs", "total", "cost", "choice", "price", "found", "c"] ["script"] (defScope sLaw) := ⟨rfl, rfl, rfl, by decide +kernel, rfl, by decide +kernel, by decide +kernel⟩
/-! ### tuples as functions -/
theorem range_get {α : Type} {n i : Nat} (f : Nat → α) (h : i < n) : ((List.range n).map f)[i]? = some (f i) := by
  rw [List.getElem?_map, List.getElem?_range h]
  rfl
theorem range_at {α : Type} {n i : Nat} {f : Nat → α} (h : i < n) : atI ((List.range n).map f) ((i : Nat) : Int) = some (f i) := atI_nat (range_get f h)
theorem range_len {α : Type} (n : Nat) (f : Nat → α) : ((List.range n).map f).length = n := by
  simp
theorem range_last {α : Type} {n : Nat} {f : Nat → α} (h : 0 < n) : atI ((List.range n).map f) (-1) = some (f (n - 1)) := by
  obtain ⟨k, rfl⟩ : ∃ k, n = k + 1 := ⟨n - 1, by omega⟩
  rw [List.range_succ, List.map_append, List.map_singleton]
  exact atI_last _ _
theorem range_snoc {α : Type} {i : Nat} {f g : Nat → α} {v : α} (hg : ∀ k, k < i → g k = f k) (hv : g i = v) : (List.range i).map f ++ [v] = (List.range (i + 1)).map g := by
  rw [List.range_succ, List.map_append, List.map_singleton, hv]
  congr 1
  refine List.map_congr_left fun k hk => ?_
  exact (hg k (List.mem_range.mp hk)).symm
theorem map_range {n : Nat} {ns : List Int} (h : ns.length = n) : ns.map V.int = (List.range n).map fun j => V.int (ns.getD j 0) := by
  subst h
  refine List.ext_getElem? fun i => ?_
  by_cases hi : i < ns.length
  · rw [range_get _ hi, List.getElem?_map, List.getElem?_eq_getElem hi, List.getD_eq_getElem?_getD, List.getElem?_eq_getElem hi]
    rfl
  · rw [List.getElem?_eq_none (by rw [List.length_map]; omega), List.getElem?_eq_none (by rw [range_len]; omega)]
theorem range_ints (n : Nat) (f : Nat → Int) : ((List.range n).map fun j => V.int (f j)) = ((List.range n).map f).map V.int := by
  rw [List.map_map]
  rfl
theorem atI_some {α : Type} {l : List α} {r : Int} (h0 : 0 ≤ r) (h1 : r < l.length) : ∃ v, v ∈ l ∧ atI l r = some v := by
  obtain ⟨k, rfl⟩ := Int.eq_ofNat_of_zero_le h0
  have hk : k < l.length := by omega
  exact ⟨l[k], List.getElem_mem hk, atI_nat (List.getElem?_eq_getElem hk)⟩
theorem cut_to (xs : List V) (k : Nat) : cutV xs none (some ((k : Nat) : Int)) = xs.take k := by
  unfold cutV
  rw [HT.sIx_none, HT.sIx_nat, List.drop_zero, Nat.sub_zero]
  rw [List.take_eq_take_iff]
  omega
theorem cut_from1 (xs : List V) : cutV xs (some 1) none = xs.drop 1 := by
  have e : HT.sIx xs.length 0 (some 1) = min 1 xs.length := HT.sIx_nat _ _ 1
  unfold cutV
  rw [e, HT.sIx_none]
  rcases xs with _ | ⟨x, r⟩
  · rfl
  · have e1 : min 1 (x :: r).length = 1 := Nat.min_eq_left (Nat.succ_le_succ (Nat.zero_le _))
    rw [e1]
    exact List.take_of_length_le (Nat.le_of_eq List.length_drop)
theorem ixN_in {n : Nat} {i : Int} (h0 : 0 ≤ i) (h1 : i < n) : ixN n i = some i.toNat := by
  unfold ixN
  rw [if_pos h0, if_pos h1]
theorem list_range {α : Type} {n : Nat} {xs : List α} (d : α) (h : xs.length = n) : xs = (List.range n).map fun j => xs.getD j d := by
  subst h
  refine List.ext_getElem? fun i => ?_
  by_cases hi : i < xs.length
  · rw [range_get _ hi, List.getElem?_eq_getElem hi, List.getD_eq_getElem?_getD, List.getElem?_eq_getElem hi]
    rfl
  · rw [List.getElem?_eq_none (by omega), List.getElem?_eq_none (by rw [range_len]; omega)]
theorem drop_range {α : Type} (m : Nat) (f : Nat → α) : ((List.range (m + 1)).map f).drop 1 = (List.range m).map fun k => f (k + 1) := by
  rw [List.range_succ_eq_map, List.map_cons, List.drop_succ_cons, List.drop_zero, List.map_map]
  rfl
/-! ### heaps -/
/-- tuples stand -/
def Tm (H H' : Hp) : Prop := ∀ a xs, H a = some (.tup xs) → H' a = some (.tup xs)
theorem Tm.refl (H : Hp) : Tm H H := fun _ _ h => h
theorem Tm.trans {H H1 H2 : Hp} (a : Tm H H1) (b : Tm H1 H2) : Tm H H2 := fun c xs h => b c xs (a c xs h)
theorem tm_of {H H' : Hp} (h : Same H H') : Tm H H' := fun a _ e => h a _ e
theorem same_new {H : Hp} {p : Addr} {o : HO} (h : H p = none) : Same H (upd H p o) := fun b x e => by
  rw [upd_ne (ne_of_none e h)]
  exact e
theorem tm_put {H : Hp} {p : Addr} {xs : List V} {o : HO} (h : H p = some (.lst xs)) : Tm H (upd H p o) := fun b x e => by
  rw [upd_ne (ne_of e h (by intro z; cases z))]
  exact e
/-- what the def made itself may change: all that stood at its entry stands -/
theorem same_put {H0 H : Hp} {p : Addr} {o : HO} (h : H0 p = none) (s : Same H0 H) : Same H0 (upd H p o) := fun b x e => by
  rw [upd_ne (ne_of_none e h)]
  exact s b x e
theorem Same.none {H0 H : Hp} {p : Addr} (s : Same H0 H) (h : H p = Option.none) : H0 p = Option.none := Same.free s h
theorem row_snoc {H : Hp} {r : Addr} {ms : List Int} {z : Int} {j : Nat} (h : ms.length = j) : ∃ l : List Int, (upd H r (.lst (ms.map V.int ++ [V.int z]))) r = some (.lst (l.map V.int)) ∧ l.length = j + 1 := by
  refine ⟨ms ++ [z], ?_, ?_⟩
  · rw [upd_same, List.map_append]
    rfl
  · rw [List.length_append, h]
    rfl
/-! ### shapes -/
/-- an entry: None or a text -/
def Fl (v : V) : Prop := v = .non ∨ ∃ z, v = .str z
theorem Fl.scal {x y : V} (h : Fl x) (h' : Fl y) : scal x y = true := by
  rcases h with rfl | ⟨z, rfl⟩ <;> rcases h' with rfl | ⟨u, rfl⟩ <;> rfl
structure Dat (H : Hp) (ae ad : Addr) (n m : Nat) (En : Nat → V) (De : Nat → Nat → V) : Prop where
  es : H ae = some (.tup ((List.range n).map En))
  ds : ∃ as : Nat → Addr, H ad = some (.tup ((List.range m).map fun j => V.ref (as j))) ∧ ∀ j, j < m → H (as j) = some (.tup ((List.range n).map (De j)))
  fe : ∀ i, i < n → Fl (En i)
  fd : ∀ j i, j < m → i < n → Fl (De j i)
  sn : n ≤ 1000
  sm : m ≤ 1000
  pm : 0 < m
theorem Dat.mono {H H' : Hp} {ae ad : Addr} {n m : Nat} {En : Nat → V} {De : Nat → Nat → V} (t : Tm H H') (d : Dat H ae ad n m En De) : Dat H' ae ad n m En De := by
  obtain ⟨es, ⟨as, h1, h2⟩, fe, fd, sn, sm, pm⟩ := d
  exact ⟨t _ _ es, ⟨as, t _ _ h1, fun j hj => t _ _ (h2 j hj)⟩, fe, fd, sn, sm, pm⟩
def ow (En : Nat → V) (De : Nat → Nat → V) (slip : Int) (i j : Nat) : Int := if En i = De j i then 0 else slip
/-- a choice -/
structure Cho (H : Hp) (a : Addr) (n m : Nat) (c : Nat → Nat) : Prop where
  at_ : H a = some (.tup ((List.range n).map fun i => V.int (c i : Nat)))
  lt : ∀ i, i < n → c i < m
theorem Cho.mono {H H' : Hp} {a : Addr} {n m : Nat} {c : Nat → Nat} (t : Tm H H') (d : Cho H a n m c) : Cho H' a n m c := ⟨t _ _ d.at_, d.lt⟩
def Ch (H : Hp) (n m : Nat) (x : V) : Prop := ∃ a c, x = .ref a ∧ Cho H a n m c
theorem Ch.mono {H H' : Hp} {n m : Nat} {x : V} (t : Tm H H') (d : Ch H n m x) : Ch H' n m x := by
  obtain ⟨a, c, e, h⟩ := d
  exact ⟨a, c, e, h.mono t⟩
theorem pow_small {m i : Nat} (h0 : 0 < m) (h3 : m ≤ 3) (h4 : i ≤ 4) : m ^ i ≤ 81 := by
  have e1 : m = 1 ∨ m = 2 ∨ m = 3 := by omega
  have e2 : i = 0 ∨ i = 1 ∨ i = 2 ∨ i = 3 ∨ i = 4 := by omega
  rcases e1 with rfl | rfl | rfl <;> rcases e2 with rfl | rfl | rfl | rfl | rfl <;> decide
/-- a table -/
def Tab (H : Hp) (t : Addr) (n m : Nat) (T : Nat → Nat → Int) : Prop :=
  ∃ ta : Nat → Addr, H t = some (.tup ((List.range n).map fun i => V.ref (ta i))) ∧ ∀ i, i < n → H (ta i) = some (.tup ((List.range m).map fun j => V.int (T i j)))
theorem Tab.mono {H H' : Hp} {t : Addr} {n m : Nat} {T : Nat → Nat → Int} (u : Tm H H') (d : Tab H t n m T) : Tab H' t n m T := by
  obtain ⟨ta, h1, h2⟩ := d
  exact ⟨ta, u _ _ h1, fun i hi => u _ _ (h2 i hi)⟩
/-! ### loops over range(n), the turn's number as it is -/
theorem walk_rng {n : Nat} : Walk (Itr 0 n) n (fun _ => True) (YFn fun i => .int ((i : Nat) : Int)) :=
  (walk_range (lo := 0)).mono (fun _ h => h) fun i H x H' _ _ y => ⟨y.1, y.2.trans (congrArg V.int (Int.zero_add _))⟩
/-- a for over range(n), Pv by the turn, the slots, the heap -/
def for_rng {n : Nat} {g : TG} {tb : TS} {D : Ends} {σ : L2.St} {H : Hp} (Pv : Nat → L2.St → Hp → Prop) (start : Pv 0 σ H)
    (turn : ∀ i σ H, i < n → Pv i σ H → g (.int ((i : Nat) : Int)) σ H fun σ2 H2 => tb { D with nx := Pv (i + 1), ct := Pv (i + 1), bk := D.nx } σ2 H2)
    (after : ∀ σ H, Pv n σ H → D.nx σ H) :=
  for_it (g := g) (tb := tb) (D := D) (walk_rng (n := n)) Pv start (fun _ _ _ _ _ => trivial) (fun i x σ H H' hi p y => by
    obtain ⟨rfl, rfl⟩ := y
    exact turn i σ _ hi p) after
/-- a comprehension over range(n) -/
def lc_rng {n : Nat} {g : TG} {tt : TT} {te : TE} {vs : List Nat} {σ : L2.St} {H1 : Hp} {D : Addr} {Qd : Hp → Prop} (Pv : Nat → Hp → Prop) (start : Pv 0 (upd H1 D (.lst [])))
    (turn : ∀ i H, i < n → Pv i H → g (.int ((i : Nat) : Int)) (wipe σ vs) H fun σ2 H2 => wipe σ2 vs = wipe σ vs ∧ tt σ2 H2 fun b H3 =>
      if b = true then (te σ2 H3 fun y H4 => ∃ l, H4 D = some (.lst l) ∧ l.length < sizeLine ∧ Pv (i + 1) (upd H4 D (.lst (l ++ [y])))) else Pv (i + 1) H3)
    (after : ∀ H, Pv n H → Qd H) :=
  lc_it (walk_rng (n := n)) Pv start (fun _ _ _ _ => trivial) (fun i x H H' hi p y => by
    obtain ⟨rfl, rfl⟩ := y
    exact turn i _ hi p) after
theorem small62 {n : Nat} (h : n ≤ 1000000) : -(2 ^ 62) ≤ ((n : Nat) : Int) ∧ ((n : Nat) : Int) < 2 ^ 62 := by
  constructor <;> omega
theorem b01' (b : Bool) : 0 ≤ (if b then (1 : Int) else 0) ∧ (if b then (1 : Int) else 0) ≤ 1 := by
  cases b <;> decide
theorem vne_of {a b : Nat} (h : (!decide (V.int ((a : Nat) : Int) = V.int ((b : Nat) : Int))) = true) : a ≠ b := fun z => by
  subst z
  simp at h
theorem veq_of {a b : Nat} (h : ¬ (!decide (V.int ((a : Nat) : Int) = V.int ((b : Nat) : Int))) = true) : a = b := by
  by_cases z : a = b
  · exact z
  · have z2 : ¬ V.int ((a : Nat) : Int) = V.int ((b : Nat) : Int) := fun e => z (by have := V.int.inj e; omega)
    rw [decide_eq_false z2] at h
    exact absurd rfl h
/-- turn * int(other != elder) -/
theorem tn_mul (turn : Int) (i j : Nat) : turn * (if (!decide (V.int (i : Nat) = V.int (j : Nat))) = true then (1 : Int) else 0) = tn turn i j := by
  unfold tn
  by_cases z : i = j
  · subst z
    simp
  · have z2 : ¬ V.int (i : Nat) = V.int (j : Nat) := fun e => z (by have := V.int.inj e; omega)
    rw [if_neg z, decide_eq_false z2]
    simp
/-- slip * int(entry != other) -/
theorem ow_mul (En : Nat → V) (De : Nat → Nat → V) (slip : Int) (i j : Nat) : slip * (if (!decide (En i = De j i)) = true then (1 : Int) else 0) = ow En De slip i j := by
  unfold ow
  by_cases z : En i = De j i
  · rw [if_pos z, decide_eq_true z]
    simp
  · rw [if_neg z, decide_eq_false z]
    simp
theorem cost_tn {o : Nat → Nat → Int} {turn : Int} {c : Nat → Nat} {i : Nat} (h : 0 < i) : cost o turn c (i + 1) = cost o turn c i + o i (c i) + tn turn (c i) (c (i - 1)) := by
  rw [cost_succ]
  unfold tn
  by_cases z : c i = c (i - 1)
  · rw [if_pos z, if_neg (fun y => y.2 z.symm)]
  · rw [if_neg z, if_pos ⟨h, fun y => z y.symm⟩]
theorem cost_first {o : Nat → Nat → Int} {turn : Int} {c : Nat → Nat} {i : Nat} (h : ¬ 0 < i) : cost o turn c (i + 1) = cost o turn c i + o i (c i) := by
  rw [cost_succ, if_neg (fun z => h z.1), Int.add_zero]
theorem b01 (b : Bool) : -(2 ^ 64) < (if b then (1 : Int) else 0) ∧ (if b then (1 : Int) else 0) < 2 ^ 64 := by
  cases b <;> decide
end K51
namespace K51
open PySem PySem.Spec PyProof.Rows L2
section
variable {P : Program} {w : World} {K : PySem.W.Frag} {mg : Str → Option Value} {base : Heap}
def spOwn : Sp := fun vs H Q _ => ∃ (ae ad : Addr) (n m : Nat) (En : Nat → V) (De : Nat → Nat → V) (slip : Int) (i j : Nat), vs = [.ref ae, .ref ad, .int slip, .int (i : Nat), .int (j : Nat)] ∧ Dat H ae ad n m En De ∧ i < n ∧ j < m ∧ Q (.int (ow En De slip i j)) H
theorem ok_own {f : Addr} {fd : FuncData} {k : Nat} (F : Fun K "own_price" "own_price" sOwn f fd) : FnOk P w K mg base CX0 (k + 1) f fd ["entries", "elders", "slip", "at", "elder"] spOwn := by
  refine F.ok scOwn (fun vs H Q E h => ?_) (fun cdv A outer s H vs Q E hr h => ?_)
  · obtain ⟨ae, ad, n, m, En, De, slip, i, j, rfl, _⟩ := h
    rfl
  · obtain ⟨ae, ad, n, m, En, De, slip, i, j, rfl, hD, hi, hj, q⟩ := h
    obtain ⟨hes, ⟨as, h1, h2⟩, fe, fd', _⟩ := hD
    refine ⟨_, pss_cons (ps_if (pt_cmpR op_eq (pe_ix ix_tup (pv 0) (pv 3) (fun _ _ => rfl)) (pe_ix ix_tup (pe_ix ix_tup (pv 1) (pv 4) (fun _ _ => rfl)) (pv 3) (fun _ _ => rfl)) (nomark _))
      (pss_one (ps_ret pe_int)) pss_nil) (pss_one (ps_ret (pv 2))), ?_⟩
    refine ⟨.ref ae, rfl, .int i, rfl, ae, _, i, _, rfl, rfl, SqT.of hes, range_at hi, .ref ad, rfl, .int j, rfl, ad, _, j, _, rfl, rfl, SqT.of h1, range_at hj,
      .int i, rfl, as j, _, i, _, rfl, rfl, SqT.of (h2 j hj), range_at hi, Fl.scal (fe i hi) (fd' j i hj hi), _, rfl, ite2 (fun e => ?_) (fun e => ?_)⟩
    · have e1 : ow En De slip i j = 0 := if_pos (of_decide_eq_true e)
      rw [e1] at q
      exact q
    · have e1 : ow En De slip i j = slip := if_neg fun z => e (decide_eq_true z)
      rw [e1] at q
      exact ⟨.int slip, rfl, q⟩
end
end K51
namespace K51
open PySem PySem.Spec PyProof.Rows L2
section
variable {P : Program} {w : World} {K : PySem.W.Frag} {mg : Str → Option Value} {base : Heap}
def spAhead : Sp := fun vs H Q _ => ∃ (ar : Addr) (m j : Nat) (R : Nat → Int) (turn : Int), vs = [.ref ar, .int (j : Nat), .int turn] ∧ H ar = some (.tup ((List.range m).map fun k => V.int (R k))) ∧ 0 < m ∧ m ≤ 1000 ∧
  ∀ H' M, Same H H' → (∃ k, k < m ∧ M = R k + tn turn k j) → (∀ k, k < m → M ≤ R k + tn turn k j) → Q (.int M) H'
theorem ok_ahead {f : Addr} {fd : FuncData} {k : Nat} (F : Fun K "least_ahead" "least_ahead" sAhead f fd) (me : mg "enumerate" = none) (mm : mg "min" = none) (mi : mg "int" = none) :
    FnOk P w K mg base CX0 (k + 1) f fd ["row", "elder", "turn"] spAhead := by
  refine F.ok scAhead (fun vs H Q E h => ?_) (fun cdv A outer s H vs Q E hr h => ?_)
  · obtain ⟨ar, m, j, R, turn, rfl, _⟩ := h
    rfl
  · obtain ⟨ar, m, j, R, turn, rfl, hR, h0, hm, q⟩ := h
    refine ⟨_, pss_one (ps_ret (pe_callB (cr_min rfl) (by rfl) mm (by decide +kernel) (pa_cons (pe_lc (own := [("other", 3), ("price", 4)]) (g := gTup K 2 (gCons (gName 3) (gCons (gName 4) gNil))) (tt := tYes) rfl scAhead.nd (pi_enumT (by rfl) me (pa_cons (pv 0) pa_nil))
      (blkOk_by (N := ["row", "elder", "turn", "other", "price"]) (sc := defScope sAhead) (by decide +kernel))
      (fun _ _ _ _ _ => pg_tup rfl (pgs_cons (pg_name (i := 3) scAhead.nd rfl (Or.inl rfl)) (pgs_cons (pg_name (i := 4) scAhead.nd rfl (Or.inl rfl)) pgs_nil))) (fun _ _ _ _ _ => pts_nil)
      (fun _ _ _ _ _ => pe_op op_add (pv 4) (pe_op op_mul (pv 2) (pe_callTy call_int1 (by rfl) mi (by decide +kernel) (pa_cons (pe_cmpR op_ne (pv 3) (pv 1) (nomark _)) pa_nil))))) pa_nil))), ?_⟩
    refine ⟨.ref ar, rfl, ar, _, rfl, SqT.of hR, fun D nD => lc_it (walk_enumT (xs := (List.range m).map fun k => V.int (R k)))
      (fun i H' => Same H H' ∧ H' D = some (.lst (((List.range i).map fun k => R k + tn turn k j).map V.int)))
      ⟨same_new nD, upd_same⟩ (fun i H' _ hP => SqT.of (hP.1 _ _ hR)) (fun i v H' H2 _ hP hy => ?_) (fun H' hP => ?_)⟩
    · obtain ⟨s1, eD⟩ := hP
      obtain ⟨T, x, rfl, nT, hx, rfl⟩ := hy
      have hi : i < m := by
        have := (List.getElem?_eq_some_iff.mp hx).1
        rw [range_len] at this
        exact this
      have ex : x = .int (R i) := Option.some.inj (hx.symm.trans (range_get _ hi))
      subst ex
      have s2 : Same H (upd H' T (.tup [.int (i : Nat), .int (R i)])) := s1.trans (same_new nT)
      have eD2 : (upd H' T (.tup [.int (i : Nat), .int (R i)])) D = some (.lst (((List.range i).map fun k => R k + tn turn k j).map V.int)) := same_new nT _ _ eD
      refine ⟨T, [.int (i : Nat), .int (R i)], rfl, SqT.of upd_same, rfl, .int (i : Nat), [.int (R i)], rfl, .int (R i), [], rfl, rfl, rfl, ?_⟩
      refine ⟨.int (R i), rfl, .int turn, rfl, .int (i : Nat), rfl, .int (j : Nat), rfl, rfl, .inr ⟨_, rfl, _, _, rfl, rfl, .inr (b01 _), _, _, rfl, rfl, _, eD2, ?_, same_put nD s2, ?_⟩⟩
      · rw [List.length_map, range_len]
        exact small1000 (by omega)
      · rw [upd_same, List.range_succ, List.map_append, List.map_append]
        rw [tn_mul]
        rfl
    · obtain ⟨s1, eD⟩ := hP
      rw [range_len] at eD
      refine ⟨D, _, rfl, SqL.of eD, by rw [range_len]; exact h0, fun M hM hle => q H' M s1 ?_ fun k hk => ?_⟩
      · obtain ⟨k, hk, e⟩ := List.mem_map.mp hM
        exact ⟨k, List.mem_range.mp hk, e.symm⟩
      · exact hle _ (List.mem_map.mpr ⟨k, List.mem_range.mpr hk, rfl⟩)
end
end K51
namespace K51
open PySem PySem.Spec PyProof.Rows L2
section
variable {P : Program} {w : World} {K : PySem.W.Frag} {mg : Str → Option Value} {base : Heap}
def spChoice : Sp := fun vs H Q _ => ∃ (ae ad ac : Addr) (n m : Nat) (En : Nat → V) (De : Nat → Nat → V) (slip turn : Int) (c : Nat → Nat), vs = [.ref ae, .ref ad, .int slip, .int turn, .ref ac] ∧ Dat H ae ad n m En De ∧ Cho H ac n m c ∧
  ∀ H', Same H H' → Q (.int (cost (ow En De slip) turn c n)) H'
theorem ok_choice {f fO : Addr} {fd fdO : FuncData} {k : Nat} (F : Fun K "choice_price" "choice_price" sChoice f fd) (FO : Fun K "own_price" "own_price" sOwn fO fdO)
    (bO : Binds K fdO ["entries", "elders", "slip", "at", "elder"] []) (gO : mg "own_price" = some (.ref fO)) (ml : mg "len" = none) (me : mg "enumerate" = none) :
    FnOk P w K mg base CX0 (k + 2) f fd ["entries", "elders", "slip", "turn", "choice"] spChoice := by
  have GO : FnOk P w K mg base CX0 (k + 1) fO fdO ["entries", "elders", "slip", "at", "elder"] spOwn := ok_own FO
  refine F.ok scChoice (fun vs H Q E h => ?_) (fun cdv A outer s H vs Q E hr h => ?_)
  · obtain ⟨ae, ad, ac, n, m, En, De, slip, turn, c, rfl, _⟩ := h
    rfl
  · obtain ⟨ae, ad, ac, n, m, En, De, slip, turn, c, rfl, hD, hC, q⟩ := h
    refine ⟨_, pss_cons (ps_if (pt_cmpR op_ne (pe_callB call_len_seq (by rfl) ml PySem.boot_len (pa_cons (pv 4) pa_nil)) (pe_callB call_len_seq (by rfl) ml PySem.boot_len (pa_cons (pv 0) pa_nil)) (nomark _)) (pss_one (ps_ret pe_non)) pss_nil)
      (pss_cons (ps_set (i := 5) scChoice.nd rfl (.inl rfl) pe_int)
      (pss_cons (ps_for PassesOwn.never rfl (pi_enumT (by rfl) me (pa_cons (pv 4) pa_nil)) (pg_tup rfl (pgs_cons (pg_name (i := 6) scChoice.nd rfl (.inl rfl)) (pgs_cons (pg_name (i := 7) scChoice.nd rfl (.inl rfl)) pgs_nil)))
        (pss_cons (ps_if (PW.pt (pw_or (pt_cmpR op_lt (pv 7) pe_int (nomark _)) (pw_or1 (pt_cmpR op_ge (pv 7) (pe_callB call_len_seq (by rfl) ml PySem.boot_len (pa_cons (pv 1) pa_nil)) (nomark _))))) (pss_one (ps_ret pe_non)) pss_nil)
        (pss_cons (ps_set (i := 5) scChoice.nd rfl (.inl rfl) (pe_op op_add (pv 5) (pe_call GO hr (by rfl) gO FO.kp bO .nil pass0 (pa_cons (pv 0) (pa_cons (pv 1) (pa_cons (pv 2) (pa_cons (pv 6) (pa_cons (pv 7) pa_nil))))))))
        (pss_one (ps_if (PW.pt (pw_and (pt_cmpR op_gt (pv 6) pe_int (nomark _)) (pw_and1 (pt_cmpR op_ne (pe_ix ix_tup (pv 4) (pe_op op_sub (pv 6) pe_int) (fun _ _ => rfl)) (pv 7) (nomark _)))))
          (pss_one (ps_set (i := 5) scChoice.nd rfl (.inl rfl) (pe_op op_add (pv 5) (pv 3)))) pss_nil)))))
      (pss_one (ps_ret (pv 5))))), ?_⟩
    -- the lengths are alike
    refine ⟨.ref ac, rfl, ac, _, rfl, .inr (SqT.of hC.at_), .ref ae, rfl, ae, _, rfl, .inr (SqT.of hD.es), rfl, _, rfl, ite2 (fun e => ?_) (fun _ => ?_)⟩
    · rw [range_len, range_len] at e
      simp at e
    -- price = 0; the loop
    refine ⟨.ref ac, rfl, ac, _, rfl, SqT.of hC.at_, for_it (walk_enumT (xs := (List.range n).map fun i => V.int (c i : Nat)))
      (fun i σ H' => ∃ y6 y7, σ = [some (.ref ae), some (.ref ad), some (.int slip), some (.int turn), some (.ref ac), some (.int (cost (ow En De slip) turn c i)), y6, y7] ∧ Same H H')
      ⟨none, none, rfl, Same.refl H⟩ (fun i σ H' _ hP => ?_) (fun i v σ H' H2 _ hP hy => ?_) (fun σ H' hP => ?_)⟩
    · obtain ⟨_, _, _, s1⟩ := hP
      exact SqT.of (s1 _ _ hC.at_)
    · obtain ⟨y6, y7, rfl, s1⟩ := hP
      obtain ⟨T, x, rfl, nT, hx, rfl⟩ := hy
      have hi : i < n := by
        have := (List.getElem?_eq_some_iff.mp hx).1
        rw [range_len] at this
        exact this
      have ex : x = .int (c i : Nat) := Option.some.inj (hx.symm.trans (range_get _ hi))
      subst ex
      have hc := hC.lt i hi
      have s2 : Same H (upd H' T (.tup [.int (i : Nat), .int (c i : Nat)])) := s1.trans (same_new nT)
      have hD2 := hD.mono (tm_of s2)
      have hC2 := hC.mono (tm_of s2)
      obtain ⟨hes, ⟨as, h1, h2⟩, fe, fd', _⟩ := id hD2
      refine ⟨T, [.int (i : Nat), .int (c i : Nat)], rfl, SqT.of upd_same, rfl, .int (i : Nat), [.int (c i : Nat)], rfl, .int (c i : Nat), [], rfl, rfl, ?_⟩
      refine ⟨.int (c i : Nat), rfl, _, _, rfl, rfl, _, rfl, ite2 (fun e => ?_) (fun _ => ?_)⟩
      · have := of_decide_eq_true e
        omega
      refine ⟨.int (c i : Nat), rfl, .ref ad, rfl, ad, _, rfl, .inr (SqT.of h1), _, _, rfl, rfl, _, rfl, ite2 (fun e => ?_) (fun _ => ?_)⟩
      · have := of_decide_eq_true e
        rw [range_len] at this
        omega
      -- price = price + own_price(..)
      refine ⟨_, rfl, .ref ae, rfl, .ref ad, rfl, .int slip, rfl, .int (i : Nat), rfl, .int (c i : Nat), rfl, ae, ad, n, m, En, De, slip, i, c i, rfl, hD2, hi, hc, _, _, rfl, rfl, ?_⟩
      refine ⟨.int (i : Nat), rfl, _, _, rfl, rfl, _, rfl, ite2 (fun e => ?_) (fun e => ?_)⟩
      · have h0 : 0 < i := by
          have := of_decide_eq_true e
          omega
        refine ⟨.ref ac, rfl, .int (i : Nat), rfl, _, _, rfl, rfl, ac, _, _, _, rfl, rfl, SqT.of hC2.at_, at_of (j := i - 1) (by omega) (range_get _ (by omega)), .int (c i : Nat), rfl, rfl, _, rfl, ite2 (fun e2 => ?_) (fun e2 => ?_)⟩
        · refine ⟨_, rfl, .int turn, rfl, _, _, rfl, rfl, some (.int (i : Nat)), some (.int (c i : Nat)), ?_, s2⟩
          have hne : c (i - 1) ≠ c i := vne_of e2
          rw [cost_succ, if_pos ⟨h0, hne⟩]
          rfl
        · refine ⟨some (.int (i : Nat)), some (.int (c i : Nat)), ?_, s2⟩
          have heq : ¬ (0 < i ∧ c (i - 1) ≠ c i) := fun z => z.2 (veq_of e2)
          rw [cost_succ, if_neg heq, Int.add_zero]
          rfl
      · have h0 : ¬ 0 < i := fun z => e (decide_eq_true (by omega))
        refine iteF ?_
        refine ⟨some (.int (i : Nat)), some (.int (c i : Nat)), ?_, s2⟩
        rw [cost_succ, if_neg (fun z => h0 z.1), Int.add_zero]
        rfl
    · obtain ⟨y6, y7, rfl, s1⟩ := hP
      rw [range_len]
      exact ⟨_, rfl, q H' s1⟩
end
end K51
namespace K51
open PySem PySem.Spec PyProof.Rows L2
section
variable {P : Program} {w : World} {K : PySem.W.Frag} {mg : Str → Option Value} {base : Heap}
def spColumn : Sp := fun vs H Q _ => ∃ (ae ad at_ : Addr) (n m : Nat) (En : Nat → V) (De : Nat → Nat → V) (slip turn : Int) (T : Nat → Nat → Int) (i : Nat), vs = [.ref ae, .ref ad, .int slip, .int turn, .ref at_, .int (i : Nat)] ∧ Dat H ae ad n m En De ∧ Tab H at_ n m T ∧ i < n ∧
  ∀ H' b, Same H H' → (b = true ↔ Col (ow En De slip) turn m T i) → Q (.bl b) H'
theorem ok_column {f fO fA : Addr} {fd fdO fdA : FuncData} {k : Nat} (F : Fun K "column_bounds" "column_bounds" sColumn f fd) (FO : Fun K "own_price" "own_price" sOwn fO fdO) (FA : Fun K "least_ahead" "least_ahead" sAhead fA fdA)
    (bO : Binds K fdO ["entries", "elders", "slip", "at", "elder"] []) (gO : mg "own_price" = some (.ref fO)) (bA : Binds K fdA ["row", "elder", "turn"] []) (gA : mg "least_ahead" = some (.ref fA))
    (ml : mg "len" = none) (mr : mg "range" = none) (me : mg "enumerate" = none) (mm : mg "min" = none) (mi : mg "int" = none) :
    FnOk P w K mg base CX0 (k + 2) f fd ["entries", "elders", "slip", "turn", "table", "at"] spColumn := by
  have GO : FnOk P w K mg base CX0 (k + 1) fO fdO ["entries", "elders", "slip", "at", "elder"] spOwn := ok_own FO
  have GA : FnOk P w K mg base CX0 (k + 1) fA fdA ["row", "elder", "turn"] spAhead := ok_ahead FA me mm mi
  refine F.ok scColumn (fun vs H Q E h => ?_) (fun cdv A outer s H vs Q E hr h => ?_)
  · obtain ⟨ae, ad, at_, n, m, En, De, slip, turn, T, i, rfl, _⟩ := h
    rfl
  · obtain ⟨ae, ad, at_, n, m, En, De, slip, turn, T, i, rfl, hD, hT, hi, q⟩ := h
    refine ⟨_, pss_cons (ps_for PassesOwn.never rfl (pi_range1 (by rfl) mr (pa_cons (pe_callB call_len_seq (by rfl) ml PySem.boot_len (pa_cons (pv 1) pa_nil)) pa_nil)) (pg_name (i := 6) scColumn.nd rfl (.inl rfl))
        (pss_cons (ps_set (i := 7) scColumn.nd rfl (.inl rfl) (pe_call GO hr (by rfl) gO FO.kp bO .nil pass0 (pa_cons (pv 0) (pa_cons (pv 1) (pa_cons (pv 2) (pa_cons (pv 5) (pa_cons (pv 6) pa_nil)))))))
        (pss_cons (ps_if (pt_cmpR op_gt (pv 5) pe_int (nomark _)) (pss_one (ps_set (i := 7) scColumn.nd rfl (.inl rfl) (pe_op op_add (pv 7) (pe_call GA hr (by rfl) gA FA.kp bA .nil pass0 (pa_cons (pe_ix ix_tup (pv 4) (pe_op op_sub (pv 5) pe_int) (fun _ _ => rfl)) (pa_cons (pv 6) (pa_cons (pv 3) pa_nil))))))) pss_nil)
        (pss_one (ps_if (pt_cmpR op_gt (pe_ix ix_tup (pe_ix ix_tup (pv 4) (pv 5) (fun _ _ => rfl)) (pv 6) (fun _ _ => rfl)) (pv 7) (nomark _)) (pss_one (ps_ret pe_bl)) pss_nil)))))
      (pss_one (ps_ret pe_bl)), ?_⟩
    obtain ⟨hes, ⟨as, h1, h2⟩, fe, fd', sn, sm, pm⟩ := id hD
    refine ⟨.ref ad, rfl, ad, _, rfl, .inr (SqT.of h1), ((m : Nat) : Int), by rw [range_len], (small62 (by omega)).1, (small62 (by omega)).2, for_rng (n := m)
      (fun j σ H' => ∃ y6 y7, σ = [some (.ref ae), some (.ref ad), some (.int slip), some (.int turn), some (.ref at_), some (.int (i : Nat)), y6, y7] ∧ Same H H' ∧ ∀ j', j' < j → Cell (ow En De slip) turn m T i j')
      ⟨none, none, rfl, Same.refl H, fun j' z => absurd z (Nat.not_lt_zero _)⟩ (fun j σ H' hj hP => ?_) (fun σ H' hP => ?_)⟩
    · obtain ⟨y6, y7, rfl, s1, hB⟩ := hP
      have hD1 := hD.mono (tm_of s1)
      refine ⟨.ref ae, rfl, .ref ad, rfl, .int slip, rfl, .int (i : Nat), rfl, .int (j : Nat), rfl, ae, ad, n, m, En, De, slip, i, j, rfl, hD1, hi, hj, ?_⟩
      refine ⟨.int (i : Nat), rfl, _, _, rfl, rfl, _, rfl, ite2 (fun e => ?_) (fun e => ?_)⟩
      · have h0 : 0 < i := by
          have := of_decide_eq_true e
          omega
        obtain ⟨ta, t1, t2⟩ := hT.mono (tm_of s1)
        refine ⟨_, rfl, .ref at_, rfl, .int (i : Nat), rfl, _, _, rfl, rfl, at_, _, _, _, rfl, rfl, SqT.of t1, at_of (j := i - 1) (by omega) (range_get _ (by omega)), .int (j : Nat), rfl, .int turn, rfl,
          ta (i - 1), m, j, T (i - 1), turn, rfl, t2 (i - 1) (by omega), pm, sm, fun H2 M s2 hM hle => ?_⟩
        have s3 := s1.trans s2
        obtain ⟨tb, u1, u2⟩ := hT.mono (tm_of s3)
        refine ⟨_, _, rfl, rfl, ?_⟩
        refine ⟨.ref at_, rfl, .int (i : Nat), rfl, at_, _, _, _, rfl, rfl, SqT.of u1, range_at hi, .int (j : Nat), rfl, _, _, _, _, rfl, rfl, SqT.of (u2 i hi), range_at hj, _, rfl, _, _, rfl, rfl, _, rfl, ite2 (fun e2 => ?_) (fun e2 => ?_)⟩
        · have e3 := of_decide_eq_true e2
          refine q H2 false s3 ⟨fun z => absurd z Bool.false_ne_true, fun hc => ?_⟩
          obtain ⟨kk, hk, eM⟩ := hM
          have := (hc j hj).2 h0 kk hk
          omega
        · have e3 : ¬ (T i j > ow En De slip i j + M) := fun z => e2 (decide_eq_true z)
          refine ⟨_, _, rfl, s3, fun j' hj' => ?_⟩
          by_cases z : j' < j
          · exact hB j' z
          · have z2 : j' = j := by omega
            subst z2
            refine ⟨fun z3 => absurd z3 (by omega), fun _ kk hk => ?_⟩
            have := hle kk hk
            omega
      · have h0 : ¬ 0 < i := fun z => e (decide_eq_true (by omega))
        obtain ⟨tb, u1, u2⟩ := hT.mono (tm_of s1)
        refine ⟨.ref at_, rfl, .int (i : Nat), rfl, at_, _, _, _, rfl, rfl, SqT.of u1, range_at hi, .int (j : Nat), rfl, _, _, _, _, rfl, rfl, SqT.of (u2 i hi), range_at hj, _, rfl, _, _, rfl, rfl, _, rfl, ite2 (fun e2 => ?_) (fun e2 => ?_)⟩
        · have e3 := of_decide_eq_true e2
          refine q H' false s1 ⟨fun z => absurd z Bool.false_ne_true, fun hc => ?_⟩
          have := (hc j hj).1 (by omega)
          omega
        · have e3 : ¬ (T i j > ow En De slip i j) := fun z => e2 (decide_eq_true z)
          refine ⟨_, _, rfl, s1, fun j' hj' => ?_⟩
          by_cases z : j' < j
          · exact hB j' z
          · have z2 : j' = j := by omega
            subst z2
            exact ⟨fun _ => by omega, fun z3 => absurd z3 h0⟩
    · obtain ⟨y6, y7, rfl, s1, hB⟩ := hP
      exact q H' true s1 ⟨fun _ j hj => hB j hj, fun _ => rfl⟩
end
end K51
namespace K51
open PySem PySem.Spec PyProof.Rows L2
section
variable {P : Program} {w : World} {K : PySem.W.Frag} {mg : Str → Option Value} {base : Heap}
def spStand : Sp := fun vs H Q _ => ∃ (ae ad ac at_ : Addr) (n m : Nat) (En : Nat → V) (De : Nat → Nat → V) (slip turn price : Int) (c : Nat → Nat) (T : Nat → Nat → Int),
  vs = [.ref ae, .ref ad, .int slip, .int turn, .int price, .ref ac, .ref at_] ∧ Dat H ae ad n m En De ∧ Cho H ac n m c ∧ Tab H at_ n m T ∧
  ∀ H' b, Same H H' → (b = true ↔ Stands (ow En De slip) turn n m T c price) → Q (.bl b) H'
theorem ok_stand {f fO fA fC fB : Addr} {fd fdO fdA fdC fdB : FuncData} {k : Nat} (F : Fun K "turns_stand" "turns_stand" sStand f fd) (FO : Fun K "own_price" "own_price" sOwn fO fdO) (FA : Fun K "least_ahead" "least_ahead" sAhead fA fdA)
    (FC : Fun K "choice_price" "choice_price" sChoice fC fdC) (FB : Fun K "column_bounds" "column_bounds" sColumn fB fdB)
    (bO : Binds K fdO ["entries", "elders", "slip", "at", "elder"] []) (gO : mg "own_price" = some (.ref fO)) (bA : Binds K fdA ["row", "elder", "turn"] []) (gA : mg "least_ahead" = some (.ref fA))
    (bC : Binds K fdC ["entries", "elders", "slip", "turn", "choice"] []) (gC : mg "choice_price" = some (.ref fC)) (bB : Binds K fdB ["entries", "elders", "slip", "turn", "table", "at"] []) (gB : mg "column_bounds" = some (.ref fB))
    (ml : mg "len" = none) (mr : mg "range" = none) (me : mg "enumerate" = none) (mm : mg "min" = none) (mi : mg "int" = none) :
    FnOk P w K mg base CX0 (k + 3) f fd ["entries", "elders", "slip", "turn", "price", "choice", "table"] spStand := by
  have GC : FnOk P w K mg base CX0 (k + 2) fC fdC ["entries", "elders", "slip", "turn", "choice"] spChoice := ok_choice FC FO bO gO ml me
  have GB : FnOk P w K mg base CX0 (k + 2) fB fdB ["entries", "elders", "slip", "turn", "table", "at"] spColumn := ok_column FB FO FA bO gO bA gA ml mr me mm mi
  refine F.ok scStand (fun vs H Q E h => ?_) (fun cdv A outer s H vs Q E hr h => ?_)
  · obtain ⟨ae, ad, ac, at_, n, m, En, De, slip, turn, price, c, T, rfl, _⟩ := h
    rfl
  · obtain ⟨ae, ad, ac, at_, n, m, En, De, slip, turn, price, c, T, rfl, hD, hC, hT, q⟩ := h
    refine ⟨_, pss_cons (ps_if (PW.pt (pw_or (pt_cmpR op_ne (pe_call GC hr (by rfl) gC FC.kp bC .nil pass0 (pa_cons (pv 0) (pa_cons (pv 1) (pa_cons (pv 2) (pa_cons (pv 3) (pa_cons (pv 5) pa_nil)))))) (pv 4) (nomark _))
          (pw_or1 (pt_cmpR op_ne (pe_callB call_len_seq (by rfl) ml PySem.boot_len (pa_cons (pv 6) pa_nil)) (pe_callB call_len_seq (by rfl) ml PySem.boot_len (pa_cons (pv 0) pa_nil)) (nomark _))))) (pss_one (ps_ret pe_bl)) pss_nil)
      (pss_cons (ps_for PassesOwn.never rfl (pi_tup (pv 6)) (pg_name (i := 7) scStand.nd rfl (.inl rfl))
        (pss_one (ps_if (pt_cmpR op_ne (pe_callB call_len_seq (by rfl) ml PySem.boot_len (pa_cons (pv 7) pa_nil)) (pe_callB call_len_seq (by rfl) ml PySem.boot_len (pa_cons (pv 1) pa_nil)) (nomark _)) (pss_one (ps_ret pe_bl)) pss_nil)))
      (pss_cons (ps_for PassesOwn.never rfl (pi_range1 (by rfl) mr (pa_cons (pe_callB call_len_seq (by rfl) ml PySem.boot_len (pa_cons (pv 0) pa_nil)) pa_nil)) (pg_name (i := 8) scStand.nd rfl (.inl rfl))
        (pss_one (ps_if (pt_not (pt_val (pe_call GB hr (by rfl) gB FB.kp bB .nil pass0 (pa_cons (pv 0) (pa_cons (pv 1) (pa_cons (pv 2) (pa_cons (pv 3) (pa_cons (pv 6) (pa_cons (pv 8) pa_nil))))))))) (pss_one (ps_ret pe_bl)) pss_nil)))
      (pss_one (ps_ret (pe_or (pe_cmpR op_eq (pe_callB call_len_seq (by rfl) ml PySem.boot_len (pa_cons (pv 6) pa_nil)) pe_int (nomark _))
        (pe_one (pe_cmpR op_ge (pe_callB (cr_minT rfl) (by rfl) mm (by decide +kernel) (pa_cons (pe_ix ix_tup (pv 6) (pe_un un_neg pe_int) (fun _ _ => rfl)) pa_nil)) (pv 4) (nomark _)))))))), ?_⟩
    obtain ⟨hes, ⟨as, h1, h2⟩, fe, fd', sn, sm, pm⟩ := id hD
    refine ⟨.ref ae, rfl, .ref ad, rfl, .int slip, rfl, .int turn, rfl, .ref ac, rfl, ae, ad, ac, n, m, En, De, slip, turn, c, rfl, hD, hC, fun H1 s1 => ?_⟩
    refine ⟨.int price, rfl, rfl, _, rfl, ite2 (fun e => iteT (q H1 false s1 ⟨fun z => absurd z Bool.false_ne_true, fun hc => ?_⟩)) (fun e => ?_)⟩
    · rw [hc.1] at e
      simp at e
    have ec : cost (ow En De slip) turn c n = price := by
      by_cases z : cost (ow En De slip) turn c n = price
      · exact z
      · have z2 : ¬ V.int (cost (ow En De slip) turn c n) = V.int price := fun y => z (V.int.inj y)
        rw [decide_eq_false z2] at e
        exact absurd rfl e
    obtain ⟨ta, t1, t2⟩ := hT.mono (tm_of s1)
    have hD1 := hD.mono (tm_of s1)
    refine ⟨.ref at_, rfl, at_, _, rfl, .inr (SqT.of t1), .ref ae, rfl, ae, _, rfl, .inr (SqT.of hD1.es), rfl, _, rfl, ite2 (fun e => ?_) (fun _ => ?_)⟩
    · rw [range_len, range_len] at e
      simp at e
    -- for row in table
    refine ⟨.ref at_, rfl, at_, rfl, ⟨_, SqT.of t1⟩, for_tup (xs := (List.range n).map fun i => V.ref (ta i))
      (fun i σ H' => ∃ y7, σ = [some (.ref ae), some (.ref ad), some (.int slip), some (.int turn), some (.int price), some (.ref ac), some (.ref at_), y7, none] ∧ H' = H1)
      ⟨none, rfl, rfl⟩ (fun i σ H' _ hP => ?_) (fun i x σ H' hx hP => ?_) (fun σ H' hP => ?_)⟩
    · obtain ⟨_, _, rfl⟩ := hP
      exact SqT.of t1
    · obtain ⟨y7, rfl, rfl⟩ := hP
      have hi : i < n := by
        have := (List.getElem?_eq_some_iff.mp hx).1
        rw [range_len] at this
        exact this
      have ex : x = .ref (ta i) := Option.some.inj (hx.symm.trans (range_get _ hi))
      subst ex
      obtain ⟨as', u1, u2⟩ := hD1.ds
      refine ⟨.ref (ta i), rfl, ta i, _, rfl, .inr (SqT.of (t2 i hi)), .ref ad, rfl, ad, _, rfl, .inr (SqT.of u1), rfl, _, rfl, ite2 (fun e => ?_) (fun _ => ⟨_, rfl, rfl⟩)⟩
      rw [range_len, range_len] at e
      simp at e
    · obtain ⟨y7, rfl, rfl⟩ := hP
      -- for at in range(len(entries))
      refine ⟨.ref ae, rfl, ae, _, rfl, .inr (SqT.of hD1.es), ((n : Nat) : Int), by rw [range_len], (small62 (by omega)).1, (small62 (by omega)).2, for_rng (n := n)
        (fun i σ H2 => ∃ y8, σ = [some (.ref ae), some (.ref ad), some (.int slip), some (.int turn), some (.int price), some (.ref ac), some (.ref at_), y7, y8] ∧ Same H H2 ∧ ∀ i', i' < i → Col (ow En De slip) turn m T i')
        ⟨none, rfl, s1, fun i' z => absurd z (Nat.not_lt_zero _)⟩ (fun i σ H2 hi hP => ?_) (fun σ H2 hP => ?_)⟩
      · obtain ⟨y8, rfl, s2, hB⟩ := hP
        refine ⟨.ref ae, rfl, .ref ad, rfl, .int slip, rfl, .int turn, rfl, .ref at_, rfl, .int (i : Nat), rfl, ae, ad, at_, n, m, En, De, slip, turn, T, i, rfl, hD.mono (tm_of s2), hT.mono (tm_of s2), hi, fun H3 b s3 hb => ⟨b, rfl, ?_⟩⟩
        cases b with
        | true =>
          refine ⟨_, rfl, s2.trans s3, fun i' hi' => ?_⟩
          by_cases z : i' < i
          · exact hB i' z
          · have z2 : i' = i := by omega
            subst z2
            exact hb.mp rfl
        | false =>
          exact q H3 false (s2.trans s3) ⟨fun z => absurd z Bool.false_ne_true, fun hc => hb.mpr (hc.2.1 i hi)⟩
      · obtain ⟨y8, rfl, s2, hB⟩ := hP
        obtain ⟨tb, u1, u2⟩ := hT.mono (tm_of s2)
        refine ⟨.ref at_, rfl, at_, _, rfl, .inr (SqT.of u1), rfl, _, rfl, ite2 (fun e => ?_) (fun e => ?_)⟩
        · have e0 := V.int.inj (of_decide_eq_true e)
          rw [range_len] at e0
          exact q H2 true s2 ⟨fun _ => ⟨ec, hB, fun z => absurd z (by omega)⟩, fun _ => rfl⟩
        · have h0 : 0 < n := by
            rcases Nat.eq_zero_or_pos n with z | z
            · rw [range_len, z] at e
              exact absurd rfl e
            · exact z
          refine ⟨.ref at_, rfl, 1, rfl, at_, _, _, _, rfl, rfl, SqT.of u1, range_last h0, tb (n - 1), (List.range m).map (T (n - 1)), rfl, SqT.of ((u2 (n - 1) (by omega)).trans (by rw [range_ints])), by rw [range_len]; exact pm, fun M hM hle => ?_⟩
          refine ⟨.int price, rfl, _, _, rfl, rfl, q H2 _ s2 ⟨fun z => ⟨ec, hB, fun _ kk hk => ?_⟩, fun hc => decide_eq_true ?_⟩⟩
          · have z1 := of_decide_eq_true z
            have z2 := hle _ (List.mem_map.mpr ⟨kk, List.mem_range.mpr hk, rfl⟩)
            omega
          · obtain ⟨kk, hk, eM⟩ := List.mem_map.mp hM
            have := hc.2.2 h0 kk (List.mem_range.mp hk)
            omega
end
end K51
namespace K51
open PySem PySem.Spec PyProof.Rows L2
section
variable {P : Program} {w : World} {K : PySem.W.Frag} {mg : Str → Option Value} {base : Heap}
/-! ### _law_cell_at: some int -/
def spCell (K : PySem.W.Frag) : Sp := fun vs H Q _ => ∃ (a : Addr) (ns : List Int) (k : Int), vs = [.ref a, .int k] ∧ SqL K H a (ns.map V.int) ∧ 0 ≤ k ∧ ∀ z, Q (.int z) H
theorem ok_cell {f : Addr} {fd : FuncData} {k : Nat} (F : Fun K "_law_cell_at" "_law_cell_at" sCell f fd) (ml : mg "len" = none) :
    FnOk P w K mg base CX0 (k + 1) f fd ["script", "k"] (spCell K) := by
  refine F.ok scCell (fun vs H Q E h => ?_) (fun cdv A outer s H vs Q E hr h => ?_)
  · obtain ⟨a, ns, z, rfl, _⟩ := h
    rfl
  · obtain ⟨a, ns, z, rfl, hS, h0, q⟩ := h
    refine ⟨_, pss_cons (ps_if (pt_cmpR op_lt (pv 1) (pe_callB call_len_seq (by rfl) ml PySem.boot_len (pa_cons (pv 0) pa_nil)) (nomark _)) (pss_one (ps_ret (pe_ix ix_list (pv 0) (pv 1) (fun _ _ => rfl)))) pss_nil)
      (pss_one (ps_ret pe_int)), ?_⟩
    refine ⟨.int z, rfl, .ref a, rfl, a, _, rfl, .inl hS, _, _, rfl, rfl, _, rfl, ite2 (fun e => ?_) (fun _ => q 0)⟩
    have e1 := of_decide_eq_true e
    obtain ⟨v, hv, ea⟩ := atI_some h0 e1
    obtain ⟨i, _, rfl⟩ := List.mem_map.mp hv
    exact ⟨.ref a, rfl, .int z, rfl, a, _, z, _, rfl, rfl, hS, ea, q i⟩
/-! ### _law_word: some text -/
def spWord : Sp := fun vs H Q _ => ∃ (z : Int), vs = [.int z] ∧ ∀ x, Q (.str x) H
theorem abz_len : ("abz" : Str).cps.toList.length = 3 := by decide +kernel
theorem ok_word {f : Addr} {fd : FuncData} {k : Nat} (F : Fun K "_law_word" "_law_word" sWord f fd) (mr : mg "range" = none) (mi : mg "int" = none) :
    FnOk P w K mg base CX0 (k + 1) f fd ["number"] spWord := by
  refine F.ok scWord (fun vs H Q E h => ?_) (fun cdv A outer s H vs Q E hr h => ?_)
  · obtain ⟨z, rfl, _⟩ := h
    rfl
  · obtain ⟨z, rfl, q⟩ := h
    refine ⟨_, pss_cons (ps_set (i := 1) scWord.nd rfl (.inl rfl) pe_str)
      (pss_cons (ps_for PassesOwn.never rfl (pi_range1 (by rfl) mr (pa_cons (pe_op op_add (pe_op op_add pe_int (pe_op op_mod (pv 0) pe_int)) (pe_op op_mul pe_int (pe_callTy call_int1 (by rfl) mi (by decide +kernel) (pa_cons (pe_cmpR op_eq (pe_op op_mod (pv 0) pe_int) pe_int (nomark _)) pa_nil)))) pa_nil)) (pg_name (i := 2) scWord.nd rfl (.inl rfl))
        (pss_cons (ps_set (i := 0) scWord.nd rfl (.inl rfl) (pe_op op_fdiv (pv 0) pe_int))
        (pss_one (ps_set (i := 1) scWord.nd rfl (.inl rfl) (pe_op op_add_str (pv 1) (pe_ix ix_str pe_str (pe_op op_mod (pv 0) pe_int) (fun _ _ => rfl)))))))
      (pss_one (ps_ret (pv 1)))), ?_⟩
    have hb := b01' (decide (V.int (z % 23) = V.int 7))
    have hm : 0 ≤ z % 3 ∧ z % 3 < 3 := by omega
    refine ⟨.int z, rfl, _, _, rfl, rfl, (by show (0 : Int) < 3; decide), _, _, rfl, rfl, .int z, rfl, _, _, rfl, rfl, (by show (0 : Int) < 23; decide), rfl, .inr ⟨_, rfl, _, _, rfl, rfl, .inl (by decide), _, _, rfl, rfl, _, rfl, by omega, by omega, for_rng
      (fun i σ H' => ∃ (y : Int) (x : Str) (y2 : Option V), σ = [some (.int y), some (.str x), y2] ∧ H' = H ∧ x.length ≤ i)
      ⟨z, _, none, rfl, rfl, Nat.zero_le _⟩ (fun i σ H' hi hP => ?_) (fun σ H' hP => ?_)⟩⟩
    · obtain ⟨y, x, y2, rfl, rfl, hx⟩ := hP
      obtain ⟨c, hc, ec⟩ := atI_some (l := ("abz" : Str).cps.toList) (r := y / 3 % 3) (by omega) (by rw [abz_len]; omega)
      refine ⟨.int y, rfl, _, _, rfl, rfl, ⟨by decide, by decide⟩, .str x, rfl, .int (y / 3), rfl, _, _, rfl, rfl, (by show (0 : Int) < 3; decide), _, _, c, rfl, rfl, by decide +kernel, ec, _, _, rfl, rfl, ?_, ?_⟩
      · have : (⟨#[c]⟩ : Str).length = 1 := rfl
        have h2 := small1000 (n := x.length + 1) (by omega)
        omega
      · refine ⟨_, _, _, rfl, rfl, ?_⟩
        rw [Str.length_append]
        have : (⟨#[c]⟩ : Str).length = 1 := rfl
        omega
    · obtain ⟨y, x, y2, rfl, rfl, hx⟩ := hP
      exact ⟨.str x, rfl, q x⟩
/-! ### _law_entry: None or a text -/
def spEntry : Sp := fun vs H Q _ => ∃ (z menu : Int), vs = [.int z, .int menu] ∧ 1 ≤ menu ∧ menu ≤ 3 ∧ ∀ H' v, Same H H' → Fl v → Q v H'
theorem ok_entry {f fW : Addr} {fd fdW : FuncData} {k : Nat} (F : Fun K "_law_entry" "_law_entry" sEntry f fd) (FW : Fun K "_law_word" "_law_word" sWord fW fdW)
    (bW : Binds K fdW ["number"] []) (gW : mg "_law_word" = some (.ref fW)) (mr : mg "range" = none) (mi : mg "int" = none) :
    FnOk P w K mg base CX0 (k + 2) f fd ["number", "menu"] spEntry := by
  have GW : FnOk P w K mg base CX0 (k + 1) fW fdW ["number"] spWord := ok_word FW mr mi
  refine F.ok scEntry (fun vs H Q E h => ?_) (fun cdv A outer s H vs Q E hr h => ?_)
  · obtain ⟨z, menu, rfl, _⟩ := h
    rfl
  · obtain ⟨z, menu, rfl, h1, h3, q⟩ := h
    refine ⟨_, pss_cons (ps_if (pt_cmpR op_eq (pe_op op_mod (pv 0) pe_int) pe_int (nomark _)) (pss_one (ps_ret pe_non)) pss_nil)
      (pss_cons (ps_if (pt_cmpR op_eq (pe_op op_mod (pv 0) pe_int) pe_int (nomark _)) (pss_one (ps_ret (pe_call GW hr (by rfl) gW FW.kp bW .nil pass0 (pa_cons (pe_op op_fdiv (pv 0) pe_int) pa_nil)))) pss_nil)
      (pss_one (ps_ret (pe_ix ix_list (pe_slice sl_list (pe_lst (pa_cons pe_str (pa_cons pe_str (pa_cons pe_str pa_nil)))) po_none (po_some (pv 1))) (pe_op op_mod (pe_op op_fdiv (pv 0) pe_int) (pv 1)) (fun _ _ => rfl))))), ?_⟩
    refine ⟨.int z, rfl, _, _, rfl, rfl, (by show (0 : Int) < 5; decide), rfl, _, rfl, ite2 (fun _ => q H .non (Same.refl H) (.inl rfl)) (fun _ => ?_)⟩
    refine ⟨.int z, rfl, _, _, rfl, rfl, (by show (0 : Int) < 5; decide), rfl, _, rfl, ite2 (fun _ => ?_) (fun _ => ?_)⟩
    · exact ⟨.int z, rfl, _, _, rfl, rfl, ⟨by decide, by decide⟩, _, rfl, fun x => q H (.str x) (Same.refl H) (.inr ⟨x, rfl⟩)⟩
    · obtain ⟨mn, rfl⟩ := Int.eq_ofNat_of_zero_le (show 0 ≤ menu by omega)
      refine ⟨by show 3 ≤ sizeLine; decide, fun p np => ⟨.int mn, rfl, mn, rfl, p, _, rfl, SqL.of upd_same, fun l nl => ?_⟩⟩
      rw [cut_to]
      have s1 : Same H (upd (upd H p (.lst [.str "ark", .str "ar", .str "bell"])) l (.lst (List.take mn [.str "ark", .str "ar", .str "bell"]))) := (same_new np).trans (same_new nl)
      obtain ⟨v, hv, ev⟩ := atI_some (l := List.take mn [V.str "ark", V.str "ar", V.str "bell"]) (r := z / 5 % mn) (Int.emod_nonneg _ (by omega)) (by
        rw [List.length_take]
        have h5 : z / 5 % (mn : Int) < mn := Int.emod_lt_of_pos _ (by omega)
        have h6 : ([V.str "ark", V.str "ar", V.str "bell"] : List V).length = 3 := rfl
        omega)
      refine ⟨.int z, rfl, _, _, rfl, rfl, ⟨by decide, by decide⟩, .int mn, rfl, _, _, rfl, rfl, (by show (0 : Int) < mn; omega), l, _, _, v, rfl, rfl, SqL.of upd_same, ev, q _ v s1 ?_⟩
      have hv2 := List.mem_of_mem_take hv
      rcases List.mem_cons.mp hv2 with e | hv2
      · exact .inr ⟨_, e⟩
      · rcases List.mem_cons.mp hv2 with e | hv2
        · exact .inr ⟨_, e⟩
        · rcases List.mem_cons.mp hv2 with e | hv2
          · exact .inr ⟨_, e⟩
          · cases hv2
/-! ### _law_slack: some int -/
def spSlack (K : PySem.W.Frag) : Sp := fun vs H Q _ => ∃ (a : Addr) (ns : List Int) (i j : Nat), vs = [.ref a, .int (i : Nat), .int (j : Nat)] ∧ SqL K H a (ns.map V.int) ∧ ∀ H' z, Same H H' → Q (.int z) H'
theorem ok_slack {f fC : Addr} {fd fdC : FuncData} {k : Nat} (F : Fun K "_law_slack" "_law_slack" sSlack f fd) (FC : Fun K "_law_cell_at" "_law_cell_at" sCell fC fdC)
    (bC : Binds K fdC ["script", "k"] []) (gC : mg "_law_cell_at" = some (.ref fC)) (ml : mg "len" = none) :
    FnOk P w K mg base CX0 (k + 2) f fd ["script", "at", "elder"] (spSlack K) := by
  have GC : FnOk P w K mg base CX0 (k + 1) fC fdC ["script", "k"] (spCell K) := ok_cell FC ml
  refine F.ok scSlack (fun vs H Q E h => ?_) (fun cdv A outer s H vs Q E hr h => ?_)
  · obtain ⟨a, ns, i, j, rfl, _⟩ := h
    rfl
  · obtain ⟨a, ns, i, j, rfl, hS, q⟩ := h
    refine ⟨_, pss_cons (ps_set (i := 3) scSlack.nd rfl (.inl rfl) (pe_op op_add (pe_op op_fdiv (pe_call GC hr (by rfl) gC FC.kp bC .nil pass0 (pa_cons (pv 0) (pa_cons (pe_op op_add (pe_op op_add pe_int (pe_op op_mul pe_int (pv 1))) (pv 2)) pa_nil))) pe_int)
        (pe_call GC hr (by rfl) gC FC.kp bC .nil pass0 (pa_cons (pv 0) (pa_cons pe_int pa_nil)))))
      (pss_cons (ps_if (pt_cmpR op_eq (pe_op op_mod (pv 3) pe_int) pe_int (nomark _)) (pss_one (ps_ret (pe_un un_neg pe_int))) pss_nil)
      (pss_one (ps_ret (pe_ix ix_list (pe_lst (pa_cons pe_int (pa_cons pe_int (pa_cons pe_int (pa_cons pe_int (pa_cons pe_int (pa_cons pe_int (pa_cons pe_int (pa_cons pe_int pa_nil))))))))) (pe_op op_mod (pv 3) pe_int) (fun _ _ => rfl))))), ?_⟩
    refine ⟨.ref a, rfl, .int (i : Nat), rfl, _, _, rfl, rfl, .inl (by decide), _, _, rfl, rfl, .int (j : Nat), rfl, _, _, rfl, rfl, a, ns, _, rfl, hS, by omega, fun z1 => ?_⟩
    refine ⟨_, _, rfl, rfl, ⟨by decide, by decide⟩, .ref a, rfl, a, ns, _, rfl, hS, by decide, fun z2 => ?_⟩
    refine ⟨_, _, rfl, rfl, ?_⟩
    refine ⟨_, rfl, _, _, rfl, rfl, (by show (0 : Int) < 8; decide), rfl, _, rfl, ite2 (fun _ => ⟨_, rfl, q H _ (Same.refl H)⟩) (fun _ => ?_)⟩
    refine ⟨by show 8 ≤ sizeLine; decide, fun p np => ?_⟩
    obtain ⟨v, hv, ev⟩ := atI_some (l := ([0, 0, 1, 0, 2, 0, 0, 0] : List Int).map V.int) (r := (z1 / 7 + z2) % 8) (by omega) (by
      have h6 : (([0, 0, 1, 0, 2, 0, 0, 0] : List Int).map V.int).length = 8 := rfl
      omega)
    obtain ⟨x, _, rfl⟩ := List.mem_map.mp hv
    exact ⟨_, rfl, _, _, rfl, rfl, (by show (0 : Int) < 8; decide), p, _, _, .int x, rfl, rfl, SqL.of upd_same, ev, q _ x (same_new np)⟩
/-! ### _law_two_prices -/
def spTwo (K : PySem.W.Frag) : Sp := fun vs H Q _ => ∃ (a : Addr) (ns : List Int), vs = [.ref a] ∧ SqL K H a (ns.map V.int) ∧ ∀ H' p s t, Same H H' → H' p = some (.lst [.int s, .int t]) → Q (.ref p) H'
theorem ok_two {f fC : Addr} {fd fdC : FuncData} {k : Nat} (F : Fun K "_law_two_prices" "_law_two_prices" sTwo f fd) (FC : Fun K "_law_cell_at" "_law_cell_at" sCell fC fdC)
    (bC : Binds K fdC ["script", "k"] []) (gC : mg "_law_cell_at" = some (.ref fC)) (ml : mg "len" = none) :
    FnOk P w K mg base CX0 (k + 2) f fd ["script"] (spTwo K) := by
  have GC : FnOk P w K mg base CX0 (k + 1) fC fdC ["script", "k"] (spCell K) := ok_cell FC ml
  refine F.ok scTwo (fun vs H Q E h => ?_) (fun cdv A outer s H vs Q E hr h => ?_)
  · obtain ⟨a, ns, rfl, _⟩ := h
    rfl
  · obtain ⟨a, ns, rfl, hS, q⟩ := h
    refine ⟨_, pss_cons (ps_set (i := 1) scTwo.nd rfl (.inl rfl) (pe_lst pa_nil))
      (pss_cons (ps_for PassesOwn.never rfl (pi_list (pe_lst (pa_cons (pe_call GC hr (by rfl) gC FC.kp bC .nil pass0 (pa_cons (pv 0) (pa_cons pe_int pa_nil))) (pa_cons (pe_call GC hr (by rfl) gC FC.kp bC .nil pass0 (pa_cons (pv 0) (pa_cons pe_int pa_nil))) pa_nil)))) (pg_name (i := 2) scTwo.nd rfl (.inl rfl))
        (pss_cons (ps_set (i := 3) scTwo.nd rfl (.inl rfl) (pe_ix ix_list (pe_lst (pa_cons pe_int (pa_cons pe_int (pa_cons (pe_op op_add (pe_op op_pow pe_int pe_int) pe_int) pa_nil)))) (pe_op op_mod (pv 2) pe_int) (fun _ _ => rfl)))
        (pss_one (ps_expr (pe_bm PySem.F.plainAttrs_list PySem.F.slot_list_append PySem.F.type_list_append mt_append (pv 1) (pa_cons (pe_op op_mod (pe_op op_fdiv (pv 2) pe_int) (pv 3)) pa_nil))))))
      (pss_one (ps_ret (pv 1)))), ?_⟩
    refine ⟨Nat.zero_le _, fun p np => ?_⟩
    have s1 : Same H (upd H p (.lst [])) := same_new np
    have hS1 := s1.seq hS
    refine ⟨.ref a, rfl, a, ns, _, rfl, hS1, by decide, fun z1 => ⟨.ref a, rfl, a, ns, _, rfl, hS1, by decide, fun z2 => ?_⟩⟩
    refine ⟨by show 2 ≤ sizeLine; decide, fun l nl => ?_⟩
    have s2 := same_new (o := .lst [.int z1, .int z2]) nl
    refine ⟨l, rfl, ⟨_, SqL.of upd_same⟩, for_list (xs := [.int z1, .int z2])
      (fun i σ H' => ∃ (y2 y3 : Option V) (ms : List Int), σ = [some (.ref a), some (.ref p), y2, y3] ∧ Same H H' ∧ H' l = some (.lst [.int z1, .int z2]) ∧ H' p = some (.lst (ms.map V.int)) ∧ ms.length = i)
      ⟨none, none, [], rfl, s1.trans s2, upd_same, s2 _ _ upd_same, rfl⟩ (fun i σ H' _ hP => ?_) (fun i x σ H' hx hP => ?_) (fun σ H' hP => ?_)⟩
    · obtain ⟨_, _, _, _, _, el, _⟩ := hP
      exact SqL.of el
    · obtain ⟨y2, y3, ms, rfl, s3, el, ep, em⟩ := hP
      obtain ⟨z, rfl⟩ : ∃ z, x = .int z := by
        have := List.mem_of_getElem? hx
        rcases List.mem_cons.mp this with e | this
        · exact ⟨_, e⟩
        · rcases List.mem_cons.mp this with e | this
          · exact ⟨_, e⟩
          · cases this
      have hi : i < 2 := (List.getElem?_eq_some_iff.mp hx).1
      obtain ⟨v, hv, ev⟩ := atI_some (l := ([3, 7, 10 ^ (30 : Int).toNat + 1] : List Int).map V.int) (r := z % 3) (by omega) (by
        have h6 : (([3, 7, 10 ^ (30 : Int).toNat + 1] : List Int).map V.int).length = 3 := rfl
        omega)
      obtain ⟨y, hy, rfl⟩ := List.mem_map.mp hv
      have y0 : 0 < y := by
        rcases List.mem_cons.mp hy with e | hy2
        · omega
        · rcases List.mem_cons.mp hy2 with e | hy3
          · omega
          · rcases List.mem_cons.mp hy3 with e | hy4
            · rw [e]
              decide
            · cases hy4
      refine ⟨_, _, rfl, rfl, ⟨by decide, by decide, by decide⟩, _, _, rfl, rfl, by show 3 ≤ sizeLine; decide, fun d nd => ?_⟩
      have s4 := same_new (o := .lst [.int 3, .int 7, .int (10 ^ (30 : Int).toNat + 1)]) nd
      have ep2 := s4 _ _ ep
      refine ⟨.int z, rfl, _, _, rfl, rfl, (by show (0 : Int) < 3; decide), d, _, _, .int y, rfl, rfl, SqL.of upd_same, ev, ?_⟩
      refine ⟨.ref p, rfl, .inl ⟨rfl, _, SqL.of ep2⟩, .int z, rfl, _, _, rfl, rfl, ⟨by decide, by decide⟩, .int y, rfl, _, _, rfl, rfl, y0, p, _, _, rfl, rfl, ep2, ?_, ?_⟩
      · rw [List.length_map]
        exact small1000 (by omega)
      · refine ⟨_, _, ms ++ [z / 3 % y], rfl, same_put np (s3.trans s4), ?_, ?_, ?_⟩
        · have npl : p ≠ l := ne_of_none upd_same nl
          rw [upd_ne npl.symm]
          exact s4 _ _ el
        · rw [upd_same, List.map_append]
          rfl
        · rw [List.length_append, em]
          rfl
    · obtain ⟨y2, y3, ms, rfl, s3, el, ep, em⟩ := hP
      have em2 : ms.length = 2 := em
      match ms, em2 with
      | [u, v], _ => exact ⟨.ref p, rfl, q H' p u v s3 ep⟩
end
end K51
namespace K51
open PySem PySem.Spec PyProof.Rows L2
section
variable {P : Program} {w : World} {K : PySem.W.Frag} {mg : Str → Option Value} {base : Heap}
/-! ### _law_choice_price: the same price -/
def spLChoice (K : PySem.W.Frag) : Sp := fun vs H Q _ => ∃ (ae ad ap ac : Addr) (n m : Nat) (En : Nat → V) (De : Nat → Nat → V) (slip turn : Int) (c : Nat → Nat), vs = [.ref ae, .ref ad, .ref ap, .ref ac] ∧ Dat H ae ad n m En De ∧ SqL K H ap [.int slip, .int turn] ∧ Cho H ac n m c ∧
  Q (.int (cost (ow En De slip) turn c n)) H
theorem ok_lchoice {f : Addr} {fd : FuncData} {k : Nat} (F : Fun K "_law_choice_price" "_law_choice_price" sLChoice f fd) (ml : mg "len" = none) (mr : mg "range" = none) (mi : mg "int" = none) :
    FnOk P w K mg base CX0 (k + 1) f fd ["entries", "elders", "prices", "choice"] (spLChoice K) := by
  refine F.ok scLChoice (fun vs H Q E h => ?_) (fun cdv A outer s H vs Q E hr h => ?_)
  · obtain ⟨ae, ad, ap, ac, n, m, En, De, slip, turn, c, rfl, _⟩ := h
    rfl
  · obtain ⟨ae, ad, ap, ac, n, m, En, De, slip, turn, c, rfl, hD, hP, hC, q⟩ := h
    refine ⟨_, pss_cons (ps_set (i := 4) scLChoice.nd rfl (.inl rfl) pe_int)
      (pss_cons (ps_for PassesOwn.never rfl (pi_range1 (by rfl) mr (pa_cons (pe_callB call_len_seq (by rfl) ml PySem.boot_len (pa_cons (pv 3) pa_nil)) pa_nil)) (pg_name (i := 5) scLChoice.nd rfl (.inl rfl))
        (pss_cons (ps_set (i := 6) scLChoice.nd rfl (.inl rfl) (pe_ix ix_tup (pv 1) (pe_ix ix_tup (pv 3) (pv 5) (fun _ _ => rfl)) (fun _ _ => rfl)))
        (pss_cons (ps_set (i := 4) scLChoice.nd rfl (.inl rfl) (pe_op op_add (pv 4) (pe_op op_mul (pe_ix ix_list (pv 2) pe_int (fun _ _ => rfl)) (pe_callTy call_int1 (by rfl) mi (by decide +kernel) (pa_cons (pe_cmpR op_ne (pe_ix ix_tup (pv 0) (pv 5) (fun _ _ => rfl)) (pe_ix ix_tup (pv 6) (pv 5) (fun _ _ => rfl)) (nomark _)) pa_nil)))))
        (pss_one (ps_if (pt_cmpR op_gt (pv 5) pe_int (nomark _)) (pss_one (ps_set (i := 4) scLChoice.nd rfl (.inl rfl) (pe_op op_add (pv 4) (pe_op op_mul (pe_ix ix_list (pv 2) pe_int (fun _ _ => rfl)) (pe_callTy call_int1 (by rfl) mi (by decide +kernel) (pa_cons (pe_cmpR op_ne (pe_ix ix_tup (pv 3) (pv 5) (fun _ _ => rfl)) (pe_ix ix_tup (pv 3) (pe_op op_sub (pv 5) pe_int) (fun _ _ => rfl)) (nomark _)) pa_nil)))))) pss_nil)))))
      (pss_one (ps_ret (pv 4)))), ?_⟩
    obtain ⟨hes, ⟨as, h1, h2⟩, fe, fd', sn, sm, pm⟩ := id hD
    refine ⟨.ref ac, rfl, ac, _, rfl, .inr (SqT.of hC.at_), ((n : Nat) : Int), by rw [range_len], (small62 (by omega)).1, (small62 (by omega)).2, for_rng (n := n)
      (fun i σ H' => ∃ y5 y6, σ = [some (.ref ae), some (.ref ad), some (.ref ap), some (.ref ac), some (.int (cost (ow En De slip) turn c i)), y5, y6] ∧ H' = H)
      ⟨none, none, rfl, rfl⟩ (fun i σ H' hi hI => ?_) (fun σ H' hI => ?_)⟩
    · obtain ⟨y5, y6, rfl, rfl⟩ := hI
      have hc := hC.lt i hi
      refine ⟨.ref ad, rfl, .ref ac, rfl, .int (i : Nat), rfl, ac, _, _, _, rfl, rfl, SqT.of hC.at_, range_at hi, ad, _, _, _, rfl, rfl, SqT.of h1, range_at hc, ?_⟩
      refine ⟨_, rfl, .ref ap, rfl, ap, _, _, .int slip, rfl, rfl, hP, atI_nat (j := 0) rfl, .ref ae, rfl, .int (i : Nat), rfl, ae, _, _, _, rfl, rfl, SqT.of hes, range_at hi, .ref (as (c i)), rfl, .int (i : Nat), rfl, as (c i), _, _, _, rfl, rfl, SqT.of (h2 _ hc), range_at hi,
        Fl.scal (fe i hi) (fd' _ i hc hi), .inr ⟨_, rfl, _, _, rfl, rfl, .inr (b01 _), _, _, rfl, rfl, ?_⟩⟩
      rw [ow_mul]
      refine ⟨.int (i : Nat), rfl, _, _, rfl, rfl, _, rfl, ite2 (fun e => ?_) (fun e => ?_)⟩
      · have h0 : 0 < i := by
          have := of_decide_eq_true e
          omega
        refine ⟨_, rfl, .ref ap, rfl, ap, _, _, .int turn, rfl, rfl, hP, atI_nat (j := 1) rfl, .ref ac, rfl, .int (i : Nat), rfl, ac, _, _, _, rfl, rfl, SqT.of hC.at_, range_at hi, .ref ac, rfl, .int (i : Nat), rfl, _, _, rfl, rfl, ac, _, _, _, rfl, rfl, SqT.of hC.at_, at_of (j := i - 1) (by omega) (range_get _ (by omega)),
          rfl, .inr ⟨_, rfl, _, _, rfl, rfl, .inr (b01 _), _, _, rfl, rfl, ?_⟩⟩
        rw [tn_mul]
        refine ⟨some (.int (i : Nat)), some (.ref (as (c i))), ?_, rfl⟩
        rw [cost_tn h0]
        rfl
      · have h0 : ¬ 0 < i := fun z => e (decide_eq_true (by omega))
        refine ⟨some (.int (i : Nat)), some (.ref (as (c i))), ?_, rfl⟩
        rw [cost_first h0]
        rfl
    · obtain ⟨y5, y6, rfl, rfl⟩ := hI
      exact ⟨_, rfl, q⟩
end
end K51
namespace K51
open PySem PySem.Spec PyProof.Rows L2
section
variable {P : Program} {w : World} {K : PySem.W.Frag} {mg : Str → Option Value} {base : Heap}
/-! ### _law_bounds -/
def spBounds (K : PySem.W.Frag) : Sp := fun vs H Q _ => ∃ (ae ad ap at_ : Addr) (n m : Nat) (En : Nat → V) (De : Nat → Nat → V) (slip turn : Int) (T : Nat → Nat → Int), vs = [.ref ae, .ref ad, .ref ap, .ref at_] ∧ Dat H ae ad n m En De ∧ SqL K H ap [.int slip, .int turn] ∧ Tab H at_ n m T ∧
  ∀ b, (b = true ↔ ∀ i, i < n → Col (ow En De slip) turn m T i) → Q (.bl b) H
theorem ok_bounds {f : Addr} {fd : FuncData} {k : Nat} (F : Fun K "_law_bounds" "_law_bounds" sBounds f fd) (ml : mg "len" = none) (mr : mg "range" = none) (mi : mg "int" = none) :
    FnOk P w K mg base CX0 (k + 1) f fd ["entries", "elders", "prices", "table"] (spBounds K) := by
  refine F.ok scBounds (fun vs H Q E h => ?_) (fun cdv A outer s H vs Q E hr h => ?_)
  · obtain ⟨ae, ad, ap, at_, n, m, En, De, slip, turn, T, rfl, _⟩ := h
    rfl
  · obtain ⟨ae, ad, ap, at_, n, m, En, De, slip, turn, T, rfl, hD, hP, hT, q⟩ := h
    refine ⟨_, pss_cons (ps_for PassesOwn.never rfl (pi_range1 (by rfl) mr (pa_cons (pe_callB call_len_seq (by rfl) ml PySem.boot_len (pa_cons (pv 0) pa_nil)) pa_nil)) (pg_name (i := 4) scBounds.nd rfl (.inl rfl))
        (pss_one (ps_for PassesOwn.never rfl (pi_range1 (by rfl) mr (pa_cons (pe_callB call_len_seq (by rfl) ml PySem.boot_len (pa_cons (pv 1) pa_nil)) pa_nil)) (pg_name (i := 5) scBounds.nd rfl (.inl rfl))
          (pss_cons (ps_set (i := 6) scBounds.nd rfl (.inl rfl) (pe_cmpR op_ne (pe_ix ix_tup (pv 0) (pv 4) (fun _ _ => rfl)) (pe_ix ix_tup (pe_ix ix_tup (pv 1) (pv 5) (fun _ _ => rfl)) (pv 4) (fun _ _ => rfl)) (nomark _)))
          (pss_cons (ps_set (i := 7) scBounds.nd rfl (.inl rfl) (pe_op op_sub (pe_ix ix_tup (pe_ix ix_tup (pv 3) (pv 4) (fun _ _ => rfl)) (pv 5) (fun _ _ => rfl)) (pe_op op_mul (pe_ix ix_list (pv 2) pe_int (fun _ _ => rfl)) (pe_callTy call_int1 (by rfl) mi (by decide +kernel) (pa_cons (pv 6) pa_nil)))))
          (pss_cons (ps_if (PW.pt (pw_and (pt_cmpR op_eq (pv 4) pe_int (nomark _)) (pw_and1 (pt_cmpR op_gt (pv 7) pe_int (nomark _))))) (pss_one (ps_ret pe_bl)) pss_nil)
          (pss_one (ps_for PassesOwn.never rfl (pi_range1 (by rfl) mr (pa_cons (pe_callB call_len_seq (by rfl) ml PySem.boot_len (pa_cons (pv 1) pa_nil)) pa_nil)) (pg_name (i := 8) scBounds.nd rfl (.inl rfl))
            (pss_cons (ps_set (i := 9) scBounds.nd rfl (.inl rfl) (pe_op op_mul (pe_ix ix_list (pv 2) pe_int (fun _ _ => rfl)) (pe_callTy call_int1 (by rfl) mi (by decide +kernel) (pa_cons (pe_cmpR op_ne (pv 8) (pv 5) (nomark _)) pa_nil))))
            (pss_one (ps_if (PW.pt (pw_and (pt_cmpR op_gt (pv 4) pe_int (nomark _)) (pw_and1 (pt_cmpR op_gt (pv 7) (pe_op op_add (pe_ix ix_tup (pe_ix ix_tup (pv 3) (pe_op op_sub (pv 4) pe_int) (fun _ _ => rfl)) (pv 8) (fun _ _ => rfl)) (pv 9)) (nomark _))))) (pss_one (ps_ret pe_bl)) pss_nil)))))))))))
      (pss_one (ps_ret pe_bl)), ?_⟩
    obtain ⟨hes, ⟨as, h1, h2⟩, fe, fd', sn, sm, pm⟩ := id hD
    obtain ⟨ta, t1, t2⟩ := id hT
    have nf : ∀ {X : Prop}, ¬ X → (false = true ↔ X) := fun h => ⟨fun z => absurd z Bool.false_ne_true, fun z => absurd z h⟩
    refine ⟨.ref ae, rfl, ae, _, rfl, .inr (SqT.of hes), ((n : Nat) : Int), by rw [range_len], (small62 (by omega)).1, (small62 (by omega)).2, for_rng (n := n)
      (fun i σ H' => ∃ y4 y5 y6 y7 y8 y9, σ = [some (.ref ae), some (.ref ad), some (.ref ap), some (.ref at_), y4, y5, y6, y7, y8, y9] ∧ H' = H ∧ ∀ i', i' < i → Col (ow En De slip) turn m T i')
      ⟨none, none, none, none, none, none, rfl, rfl, fun i' z => absurd z (Nat.not_lt_zero _)⟩ (fun i σ H' hi hI => ?_) (fun σ H' hI => ?_)⟩
    · obtain ⟨y4, y5, y6, y7, y8, y9, rfl, rfl, hB⟩ := hI
      refine ⟨.ref ad, rfl, ad, _, rfl, .inr (SqT.of h1), ((m : Nat) : Int), by rw [range_len], (small62 (by omega)).1, (small62 (by omega)).2, for_rng (n := m)
        (fun j σ H1 => ∃ y5 y6 y7 y8 y9, σ = [some (.ref ae), some (.ref ad), some (.ref ap), some (.ref at_), some (.int (i : Nat)), y5, y6, y7, y8, y9] ∧ H1 = H' ∧ ∀ j', j' < j → Cell (ow En De slip) turn m T i j')
        ⟨y5, y6, y7, y8, y9, rfl, rfl, fun i' z => absurd z (Nat.not_lt_zero _)⟩ (fun j σ H1 hj hJ => ?_) (fun σ H1 hJ => ?_)⟩
      · obtain ⟨y5, y6, y7, y8, y9, rfl, rfl, hK⟩ := hJ
        refine ⟨.ref ae, rfl, .int (i : Nat), rfl, ae, _, _, _, rfl, rfl, SqT.of hes, range_at hi, .ref ad, rfl, .int (j : Nat), rfl, ad, _, _, _, rfl, rfl, SqT.of h1, range_at hj, .int (i : Nat), rfl, as j, _, _, _, rfl, rfl, SqT.of (h2 j hj), range_at hi, Fl.scal (fe i hi) (fd' j i hj hi), ?_⟩
        refine ⟨.ref at_, rfl, .int (i : Nat), rfl, at_, _, _, _, rfl, rfl, SqT.of t1, range_at hi, .int (j : Nat), rfl, ta i, _, _, _, rfl, rfl, SqT.of (t2 i hi), range_at hj, .ref ap, rfl, ap, _, _, .int slip, rfl, rfl, hP, atI_nat (j := 0) rfl, _, rfl, .inr ⟨_, rfl, _, _, rfl, rfl, .inr (b01 _), _, _, rfl, rfl, ?_⟩⟩
        rw [ow_mul]
        refine ⟨.int (i : Nat), rfl, rfl, _, rfl, ite2 (fun e => ?_) (fun e => ?_)⟩
        · have h0 : i = 0 := by
            have := V.int.inj (of_decide_eq_true e)
            omega
          refine ⟨_, rfl, _, _, rfl, rfl, _, rfl, ite2 (fun e2 => ?_) (fun e2 => ?_)⟩
          · have e3 := of_decide_eq_true e2
            refine q false (nf fun hc => ?_)
            have := (hc i hi j hj).1 h0
            omega
          · have e3 : ¬ (T i j - ow En De slip i j > 0) := fun z => e2 (decide_eq_true z)
            refine ⟨.ref ad, rfl, ad, _, rfl, .inr (SqT.of h1), ((m : Nat) : Int), by rw [range_len], (small62 (by omega)).1, (small62 (by omega)).2, for_rng (n := m)
              (fun l σ H2 => ∃ y6 y8 y9, σ = [some (.ref ae), some (.ref ad), some (.ref ap), some (.ref at_), some (.int (i : Nat)), some (.int (j : Nat)), y6, some (.int (T i j - ow En De slip i j)), y8, y9] ∧ H2 = H1)
              ⟨_, y8, y9, rfl, rfl⟩ (fun l σ H2 hl hL => ?_) (fun σ H2 hL => ?_)⟩
            · obtain ⟨y6, y8, y9, rfl, rfl⟩ := hL
              refine ⟨.ref ap, rfl, ap, _, _, .int turn, rfl, rfl, hP, atI_nat (j := 1) rfl, .int (l : Nat), rfl, .int (j : Nat), rfl, rfl, .inr ⟨_, rfl, _, _, rfl, rfl, .inr (b01 _), ?_⟩⟩
              refine ⟨.int (i : Nat), rfl, _, _, rfl, rfl, _, rfl, ite2 (fun e4 => ?_) (fun e4 => iteF ⟨_, _, _, rfl, rfl⟩)⟩
              have := of_decide_eq_true e4
              omega
            · obtain ⟨y6, y8, y9, rfl, rfl⟩ := hL
              refine ⟨_, _, _, _, _, rfl, rfl, fun j' hj' => ?_⟩
              by_cases z : j' < j
              · exact hK j' z
              · have z2 : j' = j := by omega
                subst z2
                exact ⟨fun _ => by omega, fun z3 => absurd z3 (by omega)⟩
        · have h0 : 0 < i := by
            rcases Nat.eq_zero_or_pos i with i0 | i1
            · subst i0
              exact absurd rfl e
            · exact i1
          refine iteF ?_
          refine ⟨.ref ad, rfl, ad, _, rfl, .inr (SqT.of h1), ((m : Nat) : Int), by rw [range_len], (small62 (by omega)).1, (small62 (by omega)).2, for_rng (n := m)
            (fun l σ H2 => ∃ y6 y8 y9, σ = [some (.ref ae), some (.ref ad), some (.ref ap), some (.ref at_), some (.int (i : Nat)), some (.int (j : Nat)), y6, some (.int (T i j - ow En De slip i j)), y8, y9] ∧ H2 = H1 ∧ ∀ l', l' < l → T i j ≤ ow En De slip i j + (T (i - 1) l' + tn turn l' j))
            ⟨_, y8, y9, rfl, rfl, fun i' z => absurd z (Nat.not_lt_zero _)⟩ (fun l σ H2 hl hL => ?_) (fun σ H2 hL => ?_)⟩
          · obtain ⟨y6, y8, y9, rfl, rfl, hM⟩ := hL
            refine ⟨.ref ap, rfl, ap, _, _, .int turn, rfl, rfl, hP, atI_nat (j := 1) rfl, .int (l : Nat), rfl, .int (j : Nat), rfl, rfl, .inr ⟨_, rfl, _, _, rfl, rfl, .inr (b01 _), ?_⟩⟩
            refine ⟨.int (i : Nat), rfl, _, _, rfl, rfl, _, rfl, ite2 (fun _ => ?_) (fun e4 => (e4 (decide_eq_true (by omega))).elim)⟩
            refine ⟨_, rfl, .ref at_, rfl, .int (i : Nat), rfl, _, _, rfl, rfl, at_, _, _, _, rfl, rfl, SqT.of t1, at_of (j := i - 1) (by omega) (range_get _ (by omega)), .int (l : Nat), rfl, ta (i - 1), _, _, _, rfl, rfl, SqT.of (t2 (i - 1) (by omega)), range_at hl, _, rfl, _, _, rfl, rfl, _, _, rfl, rfl, _, rfl, ite2 (fun e5 => ?_) (fun e5 => ?_)⟩
            · have e6 : T i j - ow En De slip i j > T (i - 1) l + turn * (if (!decide (V.int (l : Nat) = V.int (j : Nat))) = true then (1 : Int) else 0) := of_decide_eq_true e5
              rw [tn_mul] at e6
              refine q false (nf fun hc => ?_)
              have := (hc i hi j hj).2 h0 l hl
              omega
            · have e6 : ¬ (T i j - ow En De slip i j > T (i - 1) l + turn * (if (!decide (V.int (l : Nat) = V.int (j : Nat))) = true then (1 : Int) else 0)) := fun z => e5 (decide_eq_true z)
              rw [tn_mul] at e6
              refine ⟨_, _, _, rfl, rfl, fun l' hl' => ?_⟩
              by_cases z : l' < l
              · exact hM l' z
              · have z2 : l' = l := by omega
                subst z2
                omega
          · obtain ⟨y6, y8, y9, rfl, rfl, hM⟩ := hL
            refine ⟨_, _, _, _, _, rfl, rfl, fun j' hj' => ?_⟩
            by_cases z : j' < j
            · exact hK j' z
            · have z2 : j' = j := by omega
              subst z2
              exact ⟨fun z3 => absurd z3 (by omega), fun _ kk hk => hM kk hk⟩
      · obtain ⟨y5, y6, y7, y8, y9, rfl, rfl, hK⟩ := hJ
        refine ⟨_, _, _, _, _, _, rfl, rfl, fun i' hi' => ?_⟩
        by_cases z : i' < i
        · exact hB i' z
        · have z2 : i' = i := by omega
          subst z2
          exact fun j hj => hK j hj
    · obtain ⟨y4, y5, y6, y7, y8, y9, rfl, rfl, hB⟩ := hI
      exact q true ⟨fun _ => hB, fun _ => rfl⟩
end
end K51
namespace K51
open PySem PySem.Spec PyProof.Rows L2
section
variable {P : Program} {w : World} {K : PySem.W.Frag} {mg : Str → Option Value} {base : Heap}
/-! ### _law_choices -/
def spChoices : Sp := fun vs H Q _ => ∃ (m n : Nat), vs = [.int (m : Nat), .int (n : Nat)] ∧ 0 < m ∧ m ≤ 3 ∧ n ≤ 4 ∧
  ∀ H' p xs, Same H H' → H' p = some (.lst xs) → 0 < xs.length → xs.length ≤ 81 → (∀ x, x ∈ xs → Ch H' n m x) → Q (.ref p) H'
theorem ok_choices {f : Addr} {fd : FuncData} {k : Nat} (F : Fun K "_law_choices" "_law_choices" sChoices f fd) (mr : mg "range" = none) :
    FnOk P w K mg base CX0 (k + 1) f fd ["many", "long"] spChoices := by
  refine F.ok scChoices (fun vs H Q E h => ?_) (fun cdv A outer s H vs Q E hr h => ?_)
  · obtain ⟨m, n, rfl, _⟩ := h
    rfl
  · obtain ⟨m, n, rfl, m0, m3, n4, q⟩ := h
    refine ⟨_, pss_cons (ps_set (i := 2) scChoices.nd rfl (.inl rfl) (pe_lst (pa_cons (pe_tup pa_nil) pa_nil)))
      (pss_cons (ps_for PassesOwn.never rfl (pi_range1 (by rfl) mr (pa_cons (pv 1) pa_nil)) (pg_name (i := 3) scChoices.nd rfl (.inl rfl))
        (pss_cons (ps_set (i := 4) scChoices.nd rfl (.inl rfl) (pe_lst pa_nil))
        (pss_cons (ps_for PassesOwn.never rfl (pi_list (pv 2)) (pg_name (i := 5) scChoices.nd rfl (.inr rfl))
          (pss_one (ps_expr (pe_bm PySem.F.plainAttrs_list PySem.F.slot_list_extend PySem.F.type_list_extend mt_extend (pv 4) (pa_cons
            (pe_lc (own := [("elder", 6)]) (g := gName 6) (tt := tYes) (te := tOp (rCatA K) (tVar 5) (tTup (tCons (tVar 6) tNil))) rfl scChoices.nd (pi_range1 (by rfl) mr (pa_cons (pv 0) pa_nil)) (blkOk_by (N := ["many", "long", "choices", "at", "longer", "choice", "elder"]) (sc := defScope sChoices) (by decide +kernel))
              (fun _ _ _ _ _ => pg_name (i := 6) scChoices.nd rfl (Or.inl rfl)) (fun _ _ _ _ _ => pts_nil) (fun _ _ _ _ _ => pe_op op_catA (pv 5) (pe_tup (pa_cons (pv 6) pa_nil)))) pa_nil)))))
        (pss_one (ps_set (i := 2) scChoices.nd rfl (.inl rfl) (pv 4))))))
      (pss_one (ps_ret (pv 2)))), ?_⟩
    refine ⟨Nat.zero_le _, fun e0 ne => ⟨by show 1 ≤ sizeLine; decide, fun p np => ?_⟩⟩
    have s0 : Same H (upd (upd H e0 (.tup [])) p (.lst [.ref e0])) := (same_new ne).trans (same_new np)
    refine ⟨.int (n : Nat), rfl, ((n : Nat) : Int), rfl, (small62 (by omega)).1, (small62 (by omega)).2, for_rng (n := n)
      (fun i σ H' => ∃ pc xs y3 y4 y5, σ = [some (.int (m : Nat)), some (.int (n : Nat)), some (.ref pc), y3, y4, y5, none] ∧ Same H H' ∧ H' pc = some (.lst xs) ∧ xs.length = m ^ i ∧ ∀ x, x ∈ xs → Ch H' i m x)
      ⟨p, _, none, none, none, rfl, s0, upd_same, rfl, fun x hx => ?_⟩ (fun i σ H' hi hI => ?_) (fun σ H' hI => ?_)⟩
    · have ex : x = .ref e0 := by simpa using hx
      exact ⟨e0, fun _ => 0, ex, same_new np _ _ upd_same, fun i hi => absurd hi (Nat.not_lt_zero _)⟩
    · obtain ⟨pc, xs, y3, y4, y5, rfl, s1, ec, el, hx⟩ := hI
      refine ⟨Nat.zero_le _, fun L nL => ?_⟩
      have s2 : Same H' (upd H' L (.lst [])) := same_new nL
      refine ⟨.ref pc, rfl, pc, rfl, ⟨_, SqL.of (s2 _ _ ec)⟩, for_list (xs := xs)
        (fun r σ H2 => ∃ y5 ys, σ = [some (.int (m : Nat)), some (.int (n : Nat)), some (.ref pc), some (.int (i : Nat)), some (.ref L), y5, none] ∧ Same H' H2 ∧ H2 L = some (.lst ys) ∧ ys.length = r * m ∧ ∀ y, y ∈ ys → Ch H2 (i + 1) m y)
        ⟨y5, [], rfl, s2, upd_same, (Nat.zero_mul m).symm, fun y hy => nomatch hy⟩ (fun r σ H2 _ hJ => ?_) (fun r x σ H2 hxr hJ => ?_) (fun σ H2 hJ => ?_)⟩
      · obtain ⟨_, _, _, s3, _⟩ := hJ
        exact SqL.of (s3 _ _ ec)
      · obtain ⟨y5, ys, rfl, s3, eL, ly, hy⟩ := hJ
        obtain ⟨a, c, rfl, hC⟩ := hx x (List.mem_of_getElem? hxr)
        have hr' : r < xs.length := (List.getElem?_eq_some_iff.mp hxr).1
        have hb : (r + 1) * m ≤ 81 := by
          have h1 : (r + 1) * m ≤ xs.length * m := Nat.mul_le_mul_right m hr'
          have h2 : xs.length * m = m ^ (i + 1) := by rw [el, Nat.pow_succ]
          have h3 := pow_small m0 m3 (i := i + 1) (by omega)
          omega
        have hb2 : (r + 1) * m = r * m + m := Nat.succ_mul r m
        refine ⟨.ref L, rfl, .inl ⟨rfl, _, SqL.of eL⟩, .int (m : Nat), rfl, ((m : Nat) : Int), rfl, (small62 (by omega)).1, (small62 (by omega)).2, fun D nD => lc_rng (n := m)
          (fun u H3 => Same H2 H3 ∧ ∃ zs, H3 D = some (.lst zs) ∧ zs.length = u ∧ ∀ z, z ∈ zs → Ch H3 (i + 1) m z)
          ⟨same_new nD, [], upd_same, rfl, fun z hz => nomatch hz⟩ (fun u H3 hu hK => ?_) (fun H3 hK => ?_)⟩
        · obtain ⟨s4, zs, eD, lz, hz⟩ := hK
          have hC3 := hC.mono (tm_of (s3.trans s4))
          have fin : ∀ (H4 : Hp) (y : V), Same H3 H4 → Ch H4 (i + 1) m y → ∃ acc, H4 D = some (.lst acc) ∧ acc.length < sizeLine ∧ Same H2 (upd H4 D (.lst (acc ++ [y]))) ∧ ∃ zs, (upd H4 D (.lst (acc ++ [y]))) D = some (.lst zs) ∧ zs.length = u + 1 ∧ ∀ z, z ∈ zs → Ch (upd H4 D (.lst (acc ++ [y]))) (i + 1) m z := by
            intro H4 y s5 hy4
            have eD4 := s5 _ _ eD
            refine ⟨zs, eD4, small1000 (by omega), same_put nD (s4.trans s5), _, upd_same, by rw [List.length_append, lz]; rfl, fun z hzz => ?_⟩
            rcases List.mem_append.mp hzz with h1 | h1
            · exact ((hz z h1).mono (tm_of s5)).mono (tm_put eD4)
            · have e : z = y := by simpa using h1
              subst e
              exact hy4.mono (tm_put eD4)
          have hlt : ∀ q, q < i + 1 → (fun q => if q = i then u else c q) q < m := fun q hq => by
            show (if q = i then u else c q) < m
            by_cases z : q = i
            · rw [if_pos z]
              exact hu
            · rw [if_neg z]
              exact hC.lt q (by omega)
          have hsn : ((List.range i).map fun q => V.int (c q : Nat)) ++ [V.int (u : Nat)] = (List.range (i + 1)).map fun q => V.int (((fun q => if q = i then u else c q) q : Nat) : Int) :=
            range_snoc (fun q hq => by
              show V.int (((if q = i then u else c q : Nat)) : Int) = _
              rw [if_neg (by omega)]) (by
              show V.int (((if i = i then u else c i : Nat)) : Int) = _
              rw [if_pos rfl])
          refine ⟨rfl, .ref a, rfl, .int (u : Nat), rfl, by show 1 ≤ sizeLine; decide, fun b nb => ?_⟩
          have s5 : Same H3 (upd H3 b (.tup [.int (u : Nat)])) := same_new nb
          refine ⟨a, b, _, _, rfl, rfl, SqT.of (s5 _ _ hC3.at_), SqT.of upd_same, ?_, fun e => ?_, (fun _ e => nomatch e), fun _ _ t nt => ?_⟩
          · rw [range_len]
            exact Nat.le_of_lt (small1000 (show i + 1 ≤ 1000 by omega))
          · refine fin _ (.ref b) s5 ⟨b, _, rfl, ?_, hlt⟩
            rw [e, List.nil_append] at hsn
            rw [upd_same, hsn]
          · refine fin _ (.ref t) (s5.trans (same_new nt)) ⟨t, _, rfl, ?_, hlt⟩
            rw [upd_same, hsn]
        · obtain ⟨s4, zs, eD, lz, hz⟩ := hK
          have eL3 := s4 _ _ eL
          refine ⟨L, D, ys, zs, rfl, rfl, eL3, eD, Nat.le_of_lt (small1000 (by omega)), some (.ref a), ys ++ zs, rfl, same_put nL (s3.trans s4), upd_same, ?_, fun y hyy => ?_⟩
          · rw [List.length_append, ly, lz, hb2]
          · rcases List.mem_append.mp hyy with h1 | h1
            · exact ((hy y h1).mono (tm_of s4)).mono (tm_put eL3)
            · exact (hz y h1).mono (tm_put eL3)
      · obtain ⟨y5, ys, rfl, s3, eL, ly, hy⟩ := hJ
        exact ⟨.ref L, rfl, L, ys, _, _, _, rfl, s1.trans s3, eL, by rw [ly, el, Nat.pow_succ], hy⟩
    · obtain ⟨pc, xs, y3, y4, y5, rfl, s1, ec, el, hx⟩ := hI
      exact ⟨.ref pc, rfl, q H' pc xs s1 ec (by rw [el]; exact Nat.pow_pos m0) (by rw [el]; exact pow_small m0 m3 n4) hx⟩
end
end K51
namespace K51
open PySem PySem.Spec PyProof.Rows L2
section
variable {P : Program} {w : World} {K : PySem.W.Frag} {mg : Str → Option Value} {base : Heap}
/-! ### _law_made_up: some table -/
def spMade (K : PySem.W.Frag) : Sp := fun vs H Q _ => ∃ (a ae ad ap : Addr) (ns : List Int) (n m : Nat) (En : Nat → V) (De : Nat → Nat → V) (slip turn : Int), vs = [.ref a, .ref ae, .ref ad, .ref ap] ∧ SqL K H a (ns.map V.int) ∧ Dat H ae ad n m En De ∧ SqL K H ap [.int slip, .int turn] ∧
  ∀ H' p T, Same H H' → Tab H' p n m T → Q (.ref p) H'
theorem ok_made {f fC fS : Addr} {fd fdC fdS : FuncData} {k : Nat} (F : Fun K "_law_made_up" "_law_made_up" sMade f fd) (FC : Fun K "_law_cell_at" "_law_cell_at" sCell fC fdC) (FS : Fun K "_law_slack" "_law_slack" sSlack fS fdS)
    (bC : Binds K fdC ["script", "k"] []) (gC : mg "_law_cell_at" = some (.ref fC)) (bS : Binds K fdS ["script", "at", "elder"] []) (gS : mg "_law_slack" = some (.ref fS))
    (ml : mg "len" = none) (mr : mg "range" = none) (mi : mg "int" = none) (mm : mg "min" = none) (mt : mg "tuple" = none) :
    FnOk P w K mg base CX0 (k + 3) f fd ["script", "entries", "elders", "prices"] (spMade K) := by
  have GS : FnOk P w K mg base CX0 (k + 2) fS fdS ["script", "at", "elder"] (spSlack K) := ok_slack FS FC bC gC ml
  refine F.ok scMade (fun vs H Q E h => ?_) (fun cdv A outer s H vs Q E hr h => ?_)
  · obtain ⟨a, ae, ad, ap, ns, n, m, En, De, slip, turn, rfl, _⟩ := h
    rfl
  · obtain ⟨a, ae, ad, ap, ns, n, m, En, De, slip, turn, rfl, hS, hD, hP, q⟩ := h
    refine ⟨_, pss_cons (ps_set (i := 4) scMade.nd rfl (.inl rfl) (pe_lst pa_nil))
      (pss_cons (ps_for PassesOwn.never rfl (pi_range1 (by rfl) mr (pa_cons (pe_callB call_len_seq (by rfl) ml PySem.boot_len (pa_cons (pv 1) pa_nil)) pa_nil)) (pg_name (i := 5) scMade.nd rfl (.inl rfl))
        (pss_cons (ps_set (i := 6) scMade.nd rfl (.inl rfl) (pe_lst pa_nil))
        (pss_cons (ps_for PassesOwn.never rfl (pi_range1 (by rfl) mr (pa_cons (pe_callB call_len_seq (by rfl) ml PySem.boot_len (pa_cons (pv 2) pa_nil)) pa_nil)) (pg_name (i := 7) scMade.nd rfl (.inr rfl))
          (pss_cons (ps_set (i := 8) scMade.nd rfl (.inl rfl) (pe_op op_mul (pe_ix ix_list (pv 3) pe_int (fun _ _ => rfl)) (pe_callTy call_int1 (by rfl) mi (by decide +kernel) (pa_cons (pe_cmpR op_ne (pe_ix ix_tup (pv 1) (pv 5) (fun _ _ => rfl)) (pe_ix ix_tup (pe_ix ix_tup (pv 2) (pv 7) (fun _ _ => rfl)) (pv 5) (fun _ _ => rfl)) (nomark _)) pa_nil))))
          (pss_cons (ps_if (pt_cmpR op_gt (pv 5) pe_int (nomark _))
            (pss_cons (ps_set (i := 9) scMade.nd rfl (.inr rfl) (pe_ix ix_list (pv 4) (pe_op op_sub (pv 5) pe_int) (fun _ _ => rfl)))
            (pss_cons (ps_setLc (i := 10) (own := [("k", 11)]) (g := gName 11) (tt := tYes) (te := tOp (rI0 fun i j => .int (i + j)) (tOp (rIxT K) (tVar 9) (tVar 11)) (tOp (rI CMul fun i j => .int (i * j)) (tOp (rIxL K) (tVar 3) (tC (.int 1))) (tCB (fun xs H Q => (∃ i, xs = [.int i] ∧ Q (.int i) H) ∨ ∃ k, xs = [.bl k] ∧ Q (.int (if k then 1 else 0)) H) (tCons (tOp rNe (tVar 11) (tVar 7)) tNil))))
                rfl scMade.nd rfl rfl (sw_true rfl rfl rfl (by decide +kernel)) (pi_range1 (by rfl) mr (pa_cons (pe_callB call_len_seq (by rfl) ml PySem.boot_len (pa_cons (pv 2) pa_nil)) pa_nil))
                (blkOk_by (N := ["script", "entries", "elders", "prices", "table", "at", "row", "elder", "most", "ahead", "ways", "k"]) (sc := defScope sMade) (by decide +kernel))
                (fun _ _ _ _ _ => pg_name (i := 11) scMade.nd rfl (Or.inl rfl)) (fun _ _ _ _ _ => pts_nil)
                (fun _ _ _ _ _ => pe_op op_add (pe_ix ix_tup (pv 9) (pv 11) (fun _ _ => rfl)) (pe_op op_mul (pe_ix ix_list (pv 3) pe_int (fun _ _ => rfl)) (pe_callTy call_int1 (by rfl) mi (by decide +kernel) (pa_cons (pe_cmpR op_ne (pv 11) (pv 7) (nomark _)) pa_nil)))))
            (pss_one (ps_set (i := 8) scMade.nd rfl (.inl rfl) (pe_op op_add (pv 8) (pe_callB (cr_min rfl) (by rfl) mm (by decide +kernel) (pa_cons (pv 10) pa_nil))))))) pss_nil)
          (pss_one (ps_expr (pe_bm PySem.F.plainAttrs_list PySem.F.slot_list_append PySem.F.type_list_append mt_append (pv 6) (pa_cons (pe_op op_sub (pv 8) (pe_call GS hr (by rfl) gS FS.kp bS .nil pass0 (pa_cons (pv 0) (pa_cons (pv 5) (pa_cons (pv 7) pa_nil))))) pa_nil)))))))
        (pss_one (ps_expr (pe_bm PySem.F.plainAttrs_list PySem.F.slot_list_append PySem.F.type_list_append mt_append (pv 4) (pa_cons (pe_callTy call_tuple_of (by rfl) mt (by decide +kernel) (pa_cons (pv 6) pa_nil)) pa_nil)))))))
      (pss_one (ps_ret (pe_callTy call_tuple_of (by rfl) mt (by decide +kernel) (pa_cons (pv 4) pa_nil))))), ?_⟩
    obtain ⟨hes, ⟨as, h1, h2⟩, fe, fd', sn, sm, pm⟩ := id hD
    refine ⟨Nat.zero_le _, fun t nt => ?_⟩
    have s0 : Same H (upd H t (.lst [])) := same_new nt
    refine ⟨.ref ae, rfl, ae, _, rfl, .inr (SqT.of (s0 _ _ hes)), ((n : Nat) : Int), by rw [range_len], (small62 (by omega)).1, (small62 (by omega)).2, for_rng (n := n)
      (fun i σ H' => ∃ y5 y6 y7 y8 y9 y10, σ = [some (.ref a), some (.ref ae), some (.ref ad), some (.ref ap), some (.ref t), y5, y6, y7, y8, y9, y10, none] ∧ Same H H' ∧
        ∃ (ta : Nat → Addr) (T : Nat → Nat → Int), H' t = some (.lst ((List.range i).map fun k => V.ref (ta k))) ∧ ∀ k, k < i → H' (ta k) = some (.tup ((List.range m).map fun j => V.int (T k j))))
      ⟨none, none, none, none, none, none, rfl, s0, fun _ => 0, fun _ _ => 0, upd_same, fun k hk => absurd hk (Nat.not_lt_zero _)⟩ (fun i σ H' hi hI => ?_) (fun σ H' hI => ?_)⟩
    · obtain ⟨y5, y6, y7, y8, y9, y10, rfl, s1, ta, T, et, hta⟩ := hI
      refine ⟨Nat.zero_le _, fun r nr => ?_⟩
      have s2 : Same H' (upd H' r (.lst [])) := same_new nr
      refine ⟨.ref ad, rfl, ad, _, rfl, .inr (SqT.of (s2 _ _ (s1 _ _ h1))), ((m : Nat) : Int), by rw [range_len], (small62 (by omega)).1, (small62 (by omega)).2, for_rng (n := m)
        (fun j σ H2 => ∃ y7 y8 y9 y10, σ = [some (.ref a), some (.ref ae), some (.ref ad), some (.ref ap), some (.ref t), some (.int (i : Nat)), some (.ref r), y7, y8, y9, y10, none] ∧ Same H' H2 ∧
          ∃ ms : List Int, H2 r = some (.lst (ms.map V.int)) ∧ ms.length = j)
        ⟨y7, y8, y9, y10, rfl, s2, [], upd_same, rfl⟩ (fun j σ H2 hj hJ => ?_) (fun σ H2 hJ => ?_)⟩
      · obtain ⟨y7, y8, y9, y10, rfl, s3, ms, er, lm⟩ := hJ
        have s13 := s1.trans s3
        refine ⟨.ref ap, rfl, ap, _, _, .int slip, rfl, rfl, s13.seq hP, atI_nat (j := 0) rfl, .ref ae, rfl, .int (i : Nat), rfl, ae, _, _, _, rfl, rfl, SqT.of (s13 _ _ hes), range_at hi, .ref ad, rfl, .int (j : Nat), rfl, ad, _, _, _, rfl, rfl, SqT.of (s13 _ _ h1), range_at hj, .int (i : Nat), rfl, as j, _, _, _, rfl, rfl, SqT.of (s13 _ _ (h2 j hj)), range_at hi,
          Fl.scal (fe i hi) (fd' j i hj hi), .inr ⟨_, rfl, _, _, rfl, rfl, .inr (b01 _), ?_⟩⟩
        refine ⟨.int (i : Nat), rfl, _, _, rfl, rfl, _, rfl, ite2 (fun e => ?_) (fun e => ?_)⟩
        · have h0 : 0 < i := by
            have := of_decide_eq_true e
            omega
          refine ⟨.ref t, rfl, .int (i : Nat), rfl, _, _, rfl, rfl, t, _, _, _, rfl, rfl, SqL.of (s3 _ _ et), at_of (j := i - 1) (by omega) (range_get _ (by omega)), ?_⟩
          refine ⟨.ref ad, rfl, ad, _, rfl, .inr (SqT.of (s13 _ _ h1)), ((m : Nat) : Int), by rw [range_len], (small62 (by omega)).1, (small62 (by omega)).2, fun D nD => lc_rng (n := m)
            (fun u H3 => Same H2 H3 ∧ ∃ zs : List Int, H3 D = some (.lst (zs.map V.int)) ∧ zs.length = u)
            ⟨same_new nD, [], upd_same, rfl⟩ (fun u H3 hu hK => ?_) (fun H3 hK => ?_)⟩
          · obtain ⟨s4, zs, eD, lz⟩ := hK
            have s14 := s13.trans s4
            refine ⟨rfl, .ref (ta (i - 1)), rfl, .int (u : Nat), rfl, ta (i - 1), _, _, _, rfl, rfl, SqT.of (s4 _ _ (s3 _ _ (hta _ (by omega)))), range_at hu, .ref ap, rfl, ap, _, _, .int turn, rfl, rfl, s14.seq hP, atI_nat (j := 1) rfl, .int (u : Nat), rfl, .int (j : Nat), rfl, rfl, .inr ⟨_, rfl, _, _, rfl, rfl, .inr (b01 _), _, _, rfl, rfl, _, eD, ?_, same_put nD s4, row_snoc lz⟩⟩
            rw [List.length_map]
            exact small1000 (by omega)
          · obtain ⟨s4, zs, eD, lz⟩ := hK
            have er3 := s4 _ _ er
            refine ⟨_, rfl, .ref D, rfl, D, zs, rfl, SqL.of eD, by omega, fun M _ _ => ⟨_, _, rfl, rfl, ?_⟩⟩
            refine ⟨.ref r, rfl, .inl ⟨rfl, _, SqL.of er3⟩, _, rfl, .ref a, rfl, .int (i : Nat), rfl, .int (j : Nat), rfl, a, ns, i, j, rfl, (s13.trans s4).seq hS, fun H4 z s5 => ⟨_, _, rfl, rfl, ?_⟩⟩
            refine ⟨r, _, _, rfl, rfl, s5 _ _ er3, by rw [List.length_map]; exact small1000 (by omega), some (.int (j : Nat)), _, _, _, rfl, same_put nr (s3.trans (s4.trans s5)), row_snoc lm⟩
        · refine ⟨.ref r, rfl, .inl ⟨rfl, _, SqL.of er⟩, _, rfl, .ref a, rfl, .int (i : Nat), rfl, .int (j : Nat), rfl, a, ns, i, j, rfl, s13.seq hS, fun H4 z s5 => ⟨_, _, rfl, rfl, ?_⟩⟩
          refine ⟨r, _, _, rfl, rfl, s5 _ _ er, by rw [List.length_map]; exact small1000 (by omega), some (.int (j : Nat)), _, _, _, rfl, same_put nr (s3.trans s5), row_snoc lm⟩
      · obtain ⟨y7, y8, y9, y10, rfl, s3, ms, er, lm⟩ := hJ
        have et2 := s3 _ _ et
        refine ⟨.ref t, rfl, .inl ⟨rfl, _, SqL.of et2⟩, .ref r, rfl, r, _, rfl, .inl ⟨SqL.of er, fun u nu => ?_⟩⟩
        have s4 : Same H2 (upd H2 u (.tup (ms.map V.int))) := same_new nu
        have et3 := s4 _ _ et2
        refine ⟨t, _, _, rfl, rfl, et3, by rw [range_len]; exact small1000 (by omega), _, _, _, _, _, _, rfl, same_put nt (s1.trans (s3.trans s4)), fun k => if k = i then u else ta k, fun k j => if k = i then ms.getD j 0 else T k j, ?_, fun k hk => ?_⟩
        · rw [upd_same]
          refine congrArg (fun l => some (HO.lst l)) (range_snoc (fun k hk => ?_) ?_)
          · show V.ref (if k = i then u else ta k) = _
            rw [if_neg (by omega)]
          · show V.ref (if i = i then u else ta i) = _
            rw [if_pos rfl]
        · refine tm_put et3 _ _ ?_
          by_cases z : k = i
          · subst z
            show (upd H2 u (.tup (ms.map V.int))) (if k = k then u else ta k) = some (.tup ((List.range m).map fun j => V.int (if k = k then ms.getD j 0 else T k j)))
            rw [if_pos rfl, upd_same, map_range lm]
            simp only [if_true]
          · show (upd H2 u (.tup (ms.map V.int))) (if k = i then u else ta k) = some (.tup ((List.range m).map fun j => V.int (if k = i then ms.getD j 0 else T k j)))
            simp only [if_neg z]
            exact s4 _ _ (s3 _ _ (hta k (by omega)))
    · obtain ⟨y5, y6, y7, y8, y9, y10, rfl, s1, ta, T, et, hta⟩ := hI
      refine ⟨.ref t, rfl, t, _, rfl, .inl ⟨SqL.of et, fun p np => q _ p T (s1.trans (same_new np)) ⟨ta, upd_same, fun k hk => same_new np _ _ (hta k hk)⟩⟩⟩
end
end K51
namespace K51
open PySem PySem.Spec PyProof.Rows L2
theorem small_mul {x y : Int} (h0 : 0 ≤ x) (h1 : x ≤ 4) (h2 : 2 ≤ y) (h3 : y ≤ 4) : 0 ≤ x * y ∧ x * y ≤ 16 := by
  have e : x = 0 ∨ x = 1 ∨ x = 2 ∨ x = 3 ∨ x = 4 := by omega
  rcases e with rfl | rfl | rfl | rfl | rfl <;> omega
theorem small_ix {x y i r : Int} (hi : 0 ≤ i) (hx : i < x) (hr : 0 ≤ r) (hy : r < y) : 0 ≤ i * y + r ∧ i * y + r < x * y := by
  have h1 : 0 ≤ i * y := Int.mul_nonneg hi (by omega)
  have h2 : (i + 1) * y ≤ x * y := Int.mul_le_mul_of_nonneg_right (by omega) (by omega)
  have h3 : (i + 1) * y = i * y + y := by rw [Int.add_mul, Int.one_mul]
  omega
section
variable {P : Program} {w : World} {K : PySem.W.Frag} {mg : Str → Option Value} {base : Heap}
/-! ### _law_columns: entries and elders, of some shape -/
def spColumns (K : PySem.W.Frag) : Sp := fun vs H Q _ => ∃ (a : Addr) (ns : List Int), vs = [.ref a, .int 3, .int 4] ∧ SqL K H a (ns.map V.int) ∧ ns.length ≤ 1000 ∧
  ∀ H' p ae ad n m En De, Same H H' → H' p = some (.lst [.ref ae, .ref ad]) → n ≤ 4 → m ≤ 3 → Dat H' ae ad n m En De → Q (.ref p) H'
theorem ok_columns {f fC fW fE : Addr} {fd fdC fdW fdE : FuncData} {k : Nat} (F : Fun K "_law_columns" "_law_columns" sColumns f fd) (FC : Fun K "_law_cell_at" "_law_cell_at" sCell fC fdC) (FW : Fun K "_law_word" "_law_word" sWord fW fdW) (FE : Fun K "_law_entry" "_law_entry" sEntry fE fdE)
    (bC : Binds K fdC ["script", "k"] []) (gC : mg "_law_cell_at" = some (.ref fC)) (bW : Binds K fdW ["number"] []) (gW : mg "_law_word" = some (.ref fW)) (bE : Binds K fdE ["number", "menu"] []) (gE : mg "_law_entry" = some (.ref fE))
    (ml : mg "len" = none) (mr : mg "range" = none) (mi : mg "int" = none) (mt : mg "tuple" = none) :
    FnOk P w K mg base CX0 (k + 3) f fd ["script", "most", "wide"] (spColumns K) := by
  have GC : FnOk P w K mg base CX0 (k + 2) fC fdC ["script", "k"] (spCell K) := ok_cell FC ml
  have GE : FnOk P w K mg base CX0 (k + 2) fE fdE ["number", "menu"] spEntry := ok_entry FE FW bW gW mr mi
  refine F.ok scColumns (fun vs H Q E h => ?_) (fun cdv A outer s H vs Q E hr h => ?_)
  · obtain ⟨a, ns, rfl, _⟩ := h
    rfl
  · obtain ⟨a, ns, rfl, hS, hlen, q⟩ := h
    refine ⟨_, pss_cons (ps_set (i := 3) scColumns.nd rfl (.inr rfl) (pe_op op_add pe_int (pe_op op_mod (pe_call GC hr (by rfl) gC FC.kp bC .nil pass0 (pa_cons (pv 0) (pa_cons pe_int pa_nil))) (pv 1))))
      (pss_cons (ps_set (i := 4) scColumns.nd rfl (.inl rfl) (pe_op op_mod (pe_call GC hr (by rfl) gC FC.kp bC .nil pass0 (pa_cons (pv 0) (pa_cons pe_int pa_nil))) (pe_op op_add (pv 2) pe_int)))
      (pss_cons (ps_set (i := 5) scColumns.nd rfl (.inr rfl) (pe_op op_mod (pe_call GC hr (by rfl) gC FC.kp bC .nil pass0 (pa_cons (pv 0) (pa_cons pe_int pa_nil))) pe_int))
      (pss_cons (ps_set (i := 7) scColumns.nd rfl (.inr rfl) (pe_lc (own := [("k", 6)]) (g := gName 6) (tt := tYes) rfl scColumns.nd (pi_range1 (by rfl) mr (pa_cons (pe_op op_mul (pv 4) (pe_op op_add (pv 3) pe_int)) pa_nil))
          (blkOk_by (N := ["script", "most", "wide", "many", "long", "near", "k", "sums", "at", "menu", "rows", "row", "mine", "number"]) (sc := defScope sColumns) (by decide +kernel))
          (fun _ _ _ _ _ => pg_name (i := 6) scColumns.nd rfl (Or.inl rfl)) (fun _ _ _ _ _ => pts_nil)
          (fun _ _ _ _ _ => pe_op op_mod (pe_op op_mul (pe_op op_mul (pe_op op_add (pv 6) pe_int) (pe_op op_add (pv 6) pe_int)) (pv 5)) pe_int)))
      (pss_cons (ps_for PassesOwn.never rfl (pi_range2 (by rfl) mr (pa_cons pe_int (pa_cons (pe_callB call_len_seq (by rfl) ml PySem.boot_len (pa_cons (pv 0) pa_nil)) pa_nil))) (pg_name (i := 6) scColumns.nd rfl (.inl rfl))
        (pss_one (ps_if (pt_cmpR op_gt (pv 4) pe_int (nomark _))
          (pss_cons (ps_set (i := 8) scColumns.nd rfl (.inl rfl) (pe_op op_mod (pe_op op_sub (pv 6) pe_int) (pe_callB call_len_seq (by rfl) ml PySem.boot_len (pa_cons (pv 7) pa_nil))))
          (pss_one (ps_asg (pe_op op_mod (pe_op op_add (pe_ix ix_list (pv 7) (pv 8) (fun _ _ => rfl)) (pe_ix ix_list (pv 0) (pv 6) (fun _ _ => rfl))) (pe_op op_pow pe_int pe_int)) (pg_sub (pv 7) (pv 8) set_list)))) pss_nil)))
      (pss_cons (ps_set (i := 9) scColumns.nd rfl (.inr rfl) (pe_op op_add pe_int (pe_op op_mod (pe_op op_fdiv (pe_call GC hr (by rfl) gC FC.kp bC .nil pass0 (pa_cons (pv 0) (pa_cons pe_int pa_nil))) (pv 1)) pe_int)))
      (pss_cons (ps_set (i := 10) scColumns.nd rfl (.inl rfl) (pe_lst pa_nil))
      (pss_cons (ps_for PassesOwn.never rfl (pi_range1 (by rfl) mr (pa_cons (pe_op op_add (pv 3) pe_int) pa_nil)) (pg_name (i := 11) scColumns.nd rfl (.inr rfl))
        (pss_cons (ps_setLc (i := 12) (own := [("at", 8)]) (g := gName 8) (tt := tYes) (te := tOp (rIxL K) (tVar 7) (tOp (rI0 fun i j => .int (i + j)) (tOp (rI CMul fun i j => .int (i * j)) (tVar 8) (tOp (rI0 fun i j => .int (i + j)) (tVar 3) (tC (.int 1)))) (tVar 11)))
            rfl scColumns.nd rfl rfl (sw_true rfl rfl rfl (by decide +kernel)) (pi_range1 (by rfl) mr (pa_cons (pv 4) pa_nil))
            (blkOk_by (N := ["script", "most", "wide", "many", "long", "near", "k", "sums", "at", "menu", "rows", "row", "mine", "number"]) (sc := defScope sColumns) (by decide +kernel))
            (fun _ _ _ _ _ => pg_name (i := 8) scColumns.nd rfl (Or.inl rfl)) (fun _ _ _ _ _ => pts_nil)
            (fun _ _ _ _ _ => pe_ix ix_list (pv 7) (pe_op op_add (pe_op op_mul (pv 8) (pe_op op_add (pv 3) pe_int)) (pv 11)) (fun _ _ => rfl)))
        (pss_one (ps_expr (pe_bm PySem.F.plainAttrs_list PySem.F.slot_list_append PySem.F.type_list_append mt_append (pv 10) (pa_cons (pe_callTy call_tuple_of (by rfl) mt (by decide +kernel) (pa_cons
            (pe_lc (own := [("number", 13)]) (g := gName 13) (tt := tYes) rfl scColumns.nd (pi_list (pv 12))
              (blkOk_by (N := ["script", "most", "wide", "many", "long", "near", "k", "sums", "at", "menu", "rows", "row", "mine", "number"]) (sc := defScope sColumns) (by decide +kernel))
              (fun _ _ _ _ _ => pg_name (i := 13) scColumns.nd rfl (Or.inl rfl)) (fun _ _ _ _ _ => pts_nil)
              (fun _ _ _ _ _ => pe_call GE hr (by rfl) gE FE.kp bE .nil pass0 (pa_cons (pv 13) (pa_cons (pv 9) pa_nil)))) pa_nil)) pa_nil))))))
      (pss_one (ps_ret (pe_lst (pa_cons (pe_ix ix_list (pv 10) pe_int (fun _ _ => rfl)) (pa_cons (pe_callTy call_tuple_of (by rfl) mt (by decide +kernel) (pa_cons (pe_slice sl_list (pv 10) (po_some pe_int) po_none) pa_nil)) pa_nil)))))))))))), ?_⟩
    refine ⟨.ref a, rfl, a, ns, _, rfl, hS, by decide, fun z0 => ⟨.int 3, rfl, _, _, rfl, rfl, (by show (0 : Int) < 3; decide), _, _, rfl, rfl, ?_⟩⟩
    refine ⟨.ref a, rfl, a, ns, _, rfl, hS, by decide, fun z1 => ⟨.int 4, rfl, _, _, rfl, rfl, _, _, rfl, rfl, (by show (0 : Int) < 4 + 1; decide), ?_⟩⟩
    refine ⟨.ref a, rfl, a, ns, _, rfl, hS, by decide, fun z2 => ⟨_, _, rfl, rfl, (by show (0 : Int) < 997; decide), ?_⟩⟩
    have hL : 0 ≤ z1 % (4 + 1) ∧ z1 % (4 + 1) ≤ 4 := by omega
    have hM : 2 ≤ 1 + z0 % 3 + 1 ∧ 1 + z0 % 3 + 1 ≤ 4 := by omega
    have hLM := small_mul hL.1 hL.2 hM.1 hM.2
    -- sums
    refine ⟨.int (z1 % (4 + 1)), rfl, .int (1 + z0 % 3), rfl, _, _, rfl, rfl, _, _, rfl, rfl, .inl ⟨by omega, by omega⟩, _, rfl, by omega, by omega, fun S nS => lc_rng (n := (z1 % (4 + 1) * (1 + z0 % 3 + 1)).toNat)
      (fun i H1 => Same H H1 ∧ ∃ ms : List Int, H1 S = some (.lst (ms.map V.int)) ∧ ms.length = i)
      ⟨same_new nS, [], upd_same, rfl⟩ (fun i H1 hi hI => ?_) (fun H1 hI => ?_)⟩
    · obtain ⟨s1, ms, eS, lm⟩ := hI
      have hi2 : i < 17 := by omega
      refine ⟨rfl, .int (i : Nat), rfl, _, _, rfl, rfl, .int (i : Nat), rfl, _, _, rfl, rfl, _, _, rfl, rfl, .inl ⟨by omega, by omega⟩, .int (z2 % 997), rfl, _, _, rfl, rfl, .inr ⟨by omega, by omega⟩, _, _, rfl, rfl, (by show (0 : Int) < 10007; decide), _, eS, ?_, same_put nS s1, row_snoc lm⟩
      rw [List.length_map]
      exact small1000 (by omega)
    -- for k in range(4, len(script))
    obtain ⟨s1, ms1, eS1, lm1⟩ := hI
    refine ⟨.ref a, rfl, a, _, rfl, .inl (s1.seq hS), (4 : Int), ((ns.length : Nat) : Int), by rw [List.length_map], ⟨by decide, by decide, by omega, by omega⟩, for_range (lo := 4) (n := (((ns.length : Nat) : Int) - 4).toNat)
      (fun i σ H2 => ∃ y6 y8, σ = [some (.ref a), some (.int 3), some (.int 4), some (.int (1 + z0 % 3)), some (.int (z1 % (4 + 1))), some (.int (z2 % 997)), y6, some (.ref S), y8, none, none, none, none, none] ∧ Same H H2 ∧
        ∃ ms : List Int, H2 S = some (.lst (ms.map V.int)) ∧ ms.length = (z1 % (4 + 1) * (1 + z0 % 3 + 1)).toNat)
      ⟨none, none, rfl, s1, ms1, eS1, lm1⟩ (fun i σ H2 hi hI => ?_) (fun σ H2 hI => ?_)⟩
    · obtain ⟨y6, y8, rfl, s2, ms, eS, lm⟩ := hI
      refine ⟨.int (z1 % (4 + 1)), rfl, _, _, rfl, rfl, _, rfl, ite2 (fun e => ?_) (fun _ => ⟨_, _, rfl, s2, ms, eS, lm⟩)⟩
      have e1 : z1 % (4 + 1) > 0 := of_decide_eq_true e
      have hpos : 0 < z1 % (4 + 1) * (1 + z0 % 3 + 1) := Int.mul_pos e1 (by omega)
      have hl0 : 0 < (((ms.map V.int).length : Nat) : Int) := by
        rw [List.length_map]
        omega
      have hr0 : 0 ≤ (4 + (i : Nat) - 4 : Int) % (((ms.map V.int).length : Nat) : Int) := Int.emod_nonneg _ (by omega)
      have hr1 : (4 + (i : Nat) - 4 : Int) % (((ms.map V.int).length : Nat) : Int) < (((ms.map V.int).length : Nat) : Int) := Int.emod_lt_of_pos _ hl0
      obtain ⟨v, hv, ev⟩ := atI_some hr0 hr1
      obtain ⟨x, _, rfl⟩ := List.mem_map.mp hv
      obtain ⟨v2, hv2, ev2⟩ := atI_some (l := ns.map V.int) (r := 4 + (i : Nat)) (by omega) (by rw [List.length_map]; omega)
      obtain ⟨y, _, rfl⟩ := List.mem_map.mp hv2
      refine ⟨.int (4 + (i : Nat)), rfl, _, _, rfl, rfl, .ref S, rfl, S, _, rfl, .inl (SqL.of eS), _, _, rfl, rfl, hl0, ?_⟩
      refine ⟨.ref S, rfl, _, rfl, S, _, _, _, rfl, rfl, SqL.of eS, ev, .ref a, rfl, _, rfl, a, _, _, _, rfl, rfl, s2.seq hS, ev2, _, _, rfl, rfl, _, _, rfl, rfl, ⟨by decide, by decide, by decide⟩, _, _, rfl, rfl, (by show (0 : Int) < 10 ^ (40 : Int).toNat; decide), ?_⟩
      refine ⟨.ref S, rfl, _, rfl, S, _, _, _, rfl, rfl, eS, ixN_in hr0 hr1, _, _, rfl, same_put nS s2, ms.set ((4 + (i : Nat) - 4 : Int) % (((ms.map V.int).length : Nat) : Int)).toNat ((x + y) % 10 ^ (40 : Int).toNat), ?_, ?_⟩
      · rw [upd_same, List.map_set]
      · rw [List.length_set]
        exact lm
    -- menu, rows
    obtain ⟨y6, y8, rfl, s2, ms, eS, lm⟩ := hI
    refine ⟨.ref a, rfl, a, ns, _, rfl, s2.seq hS, by decide, fun z3 => ⟨.int 3, rfl, _, _, rfl, rfl, ⟨by decide, by decide⟩, _, _, rfl, rfl, (by show (0 : Int) < 3; decide), _, _, rfl, rfl, ?_⟩⟩
    refine ⟨Nat.zero_le _, fun R nR => ?_⟩
    obtain ⟨m, hm⟩ : ∃ m : Nat, (1 + z0 % 3 : Int) = (m : Nat) := ⟨(1 + z0 % 3).toNat, by omega⟩
    obtain ⟨n, hn⟩ : ∃ n : Nat, (z1 % (4 + 1) : Int) = (n : Nat) := ⟨(z1 % (4 + 1)).toNat, by omega⟩
    refine ⟨.int (1 + z0 % 3), rfl, _, _, rfl, rfl, ((m + 1 : Nat) : Int), congrArg (fun z => [V.int z]) (show (1 + z0 % 3 + 1 : Int) = ((m + 1 : Nat) : Int) by omega), (small62 (by omega)).1, (small62 (by omega)).2, for_rng (n := m + 1)
      (fun i σ H3 => ∃ y11 y12, σ = [some (.ref a), some (.int 3), some (.int 4), some (.int (1 + z0 % 3)), some (.int (z1 % (4 + 1))), some (.int (z2 % 997)), y6, some (.ref S), y8, some (.int (1 + z3 / 3 % 3)), some (.ref R), y11, y12, none] ∧ Same H2 H3 ∧
        ∃ (ra : Nat → Addr) (G : Nat → Nat → V), H3 R = some (.lst ((List.range i).map fun k => V.ref (ra k))) ∧ ∀ k, k < i → H3 (ra k) = some (.tup ((List.range n).map (G k))) ∧ ∀ l, l < n → Fl (G k l))
      ⟨none, none, rfl, same_new nR, fun _ => 0, fun _ _ => .non, upd_same, fun k hk => absurd hk (Nat.not_lt_zero _)⟩ (fun i σ H3 hi hI => ?_) (fun σ H3 hI => ?_)⟩
    · obtain ⟨y11, y12, rfl, s3, ra, G, eR, hG⟩ := hI
      refine ⟨.int (z1 % (4 + 1)), rfl, ((n : Nat) : Int), congrArg (fun z => [V.int z]) hn, (small62 (by omega)).1, (small62 (by omega)).2, fun D nD => lc_rng (n := n)
        (fun u H4 => Same H3 H4 ∧ ∃ zs : List Int, H4 D = some (.lst (zs.map V.int)) ∧ zs.length = u)
        ⟨same_new nD, [], upd_same, rfl⟩ (fun u H4 hu hJ => ?_) (fun H4 hJ => ?_)⟩
      · obtain ⟨s4, zs, eD, lz⟩ := hJ
        have hix := small_ix (x := z1 % (4 + 1)) (y := 1 + z0 % 3 + 1) (i := (u : Nat)) (r := (i : Nat)) (by omega) (by omega) (by omega) (by omega)
        obtain ⟨v, hv, ev⟩ := atI_some (l := ms.map V.int) (r := (u : Nat) * (1 + z0 % 3 + 1) + (i : Nat)) hix.1 (by
          rw [List.length_map, lm]
          omega)
        obtain ⟨x, _, rfl⟩ := List.mem_map.mp hv
        refine ⟨rfl, .ref S, rfl, .int (u : Nat), rfl, .int (1 + z0 % 3), rfl, _, _, rfl, rfl, _, _, rfl, rfl, .inl ⟨by omega, by omega⟩, .int (i : Nat), rfl, _, _, rfl, rfl, S, _, _, _, rfl, rfl, SqL.of ((s3.trans s4) _ _ eS), ev, _, eD, ?_, same_put nD s4, row_snoc lz⟩
        rw [List.length_map]
        exact small1000 (by omega)
      · obtain ⟨s4, zs, eD, lz⟩ := hJ
        refine ⟨.ref R, rfl, .inl ⟨rfl, _, SqL.of (s4 _ _ eR)⟩, .ref D, rfl, D, rfl, ⟨_, SqL.of eD⟩, fun D2 nD2 => lc_list (xs := zs.map V.int)
          (fun u H5 => Same H4 H5 ∧ ∃ vs, H5 D2 = some (.lst vs) ∧ vs.length = u ∧ ∀ v, v ∈ vs → Fl v)
          ⟨same_new nD2, [], upd_same, rfl, fun v hv => nomatch hv⟩ (fun u H5 _ hK => SqL.of (hK.1 _ _ eD)) (fun u x H5 hx hK => ?_) (fun H5 hK => ?_)⟩
        · obtain ⟨s5, vs, eD2, lv, hv⟩ := hK
          have hu : u < zs.length := by
            have := (List.getElem?_eq_some_iff.mp hx).1
            rw [List.length_map] at this
            exact this
          obtain ⟨z, _, rfl⟩ := List.mem_map.mp (List.mem_of_getElem? hx)
          refine ⟨rfl, .int z, rfl, .int (1 + z3 / 3 % 3), rfl, z, 1 + z3 / 3 % 3, rfl, by omega, by omega, fun H6 v s6 hvv => ⟨vs, s6 _ _ eD2, small1000 (by omega), same_put nD2 (s5.trans s6), vs ++ [v], upd_same, by rw [List.length_append, lv]; rfl, fun w' hw => ?_⟩⟩
          rcases List.mem_append.mp hw with h1 | h1
          · exact hv w' h1
          · have e : w' = v := by simpa using h1
            rw [e]
            exact hvv
        · obtain ⟨s5, vs, eD2, lv, hv⟩ := hK
          rw [List.length_map, lz] at lv
          have eR5 := s5 _ _ (s4 _ _ eR)
          refine ⟨D2, _, rfl, .inl ⟨SqL.of eD2, fun t nt => ?_⟩⟩
          have s6 : Same H5 (upd H5 t (.tup vs)) := same_new nt
          have eR6 := s6 _ _ eR5
          have s36 : Same H3 (upd H5 t (.tup vs)) := s4.trans (s5.trans s6)
          refine ⟨R, _, _, rfl, rfl, eR6, by rw [range_len]; exact small1000 (by omega), some (.int (i : Nat)), some (.ref D), rfl, same_put nR (s3.trans s36), fun k => if k = i then t else ra k, fun k l => if k = i then vs.getD l .non else G k l, ?_, fun k hk => ?_⟩
          · rw [upd_same]
            refine congrArg (fun l => some (HO.lst l)) (range_snoc (fun k hk => ?_) ?_)
            · show V.ref (if k = i then t else ra k) = _
              rw [if_neg (by omega)]
            · show V.ref (if i = i then t else ra i) = _
              rw [if_pos rfl]
          · by_cases z : k = i
            · subst z
              refine ⟨tm_put eR6 _ _ ?_, fun l hl => ?_⟩
              · show (upd H5 t (.tup vs)) (if k = k then t else ra k) = some (.tup ((List.range n).map fun l => if k = k then vs.getD l .non else G k l))
                simp only [if_true]
                rw [upd_same]
                exact congrArg (fun l => some (HO.tup l)) (list_range .non lv)
              · show Fl (if k = k then vs.getD l .non else G k l)
                simp only [if_true]
                rw [List.getD_eq_getElem?_getD, List.getElem?_eq_getElem (by omega)]
                exact hv _ (List.getElem_mem _)
            · refine ⟨tm_put eR6 _ _ ?_, fun l hl => ?_⟩
              · show (upd H5 t (.tup vs)) (if k = i then t else ra k) = some (.tup ((List.range n).map fun l => if k = i then vs.getD l .non else G k l))
                simp only [if_neg z]
                exact s36 _ _ (hG k (by omega)).1
              · show Fl (if k = i then vs.getD l .non else G k l)
                simp only [if_neg z]
                exact (hG k (by omega)).2 l hl
    · obtain ⟨y11, y12, rfl, s3, ra, G, eR, hG⟩ := hI
      refine ⟨.ref R, rfl, R, _, _, .ref (ra 0), rfl, rfl, SqL.of eR, atI_nat (j := 0) (range_get _ (Nat.succ_pos m)), .ref R, rfl, 1, rfl, R, _, rfl, SqL.of eR, fun c nc => ?_⟩
      rw [cut_from1, drop_range]
      refine ⟨c, _, rfl, .inl ⟨SqL.of upd_same, fun d nd => ⟨by show 2 ≤ sizeLine; decide, fun p np => ?_⟩⟩⟩
      have s4 : Same H3 (upd (upd (upd H3 c (.lst ((List.range m).map fun k => V.ref (ra (k + 1))))) d (.tup ((List.range m).map fun k => V.ref (ra (k + 1))))) p (.lst [.ref (ra 0), .ref d])) := (same_new nc).trans ((same_new nd).trans (same_new np))
      refine q _ p (ra 0) d n m (G 0) (fun j => G (j + 1)) (s2.trans (s3.trans s4)) upd_same (by omega) (by omega) ⟨s4 _ _ (hG 0 (Nat.succ_pos m)).1, ⟨fun j => ra (j + 1), same_new np _ _ upd_same, fun j hj => s4 _ _ (hG (j + 1) (by omega)).1⟩,
        fun i hi => (hG 0 (Nat.succ_pos m)).2 i hi, fun j i hj hi => (hG (j + 1) (by omega)).2 i hi, by omega, by omega, by omega⟩
end
end K51
namespace K51
open PySem PySem.Spec PyProof.Rows L2
section
variable {P : Program} {w : World} {K : PySem.W.Frag} {mg : Str → Option Value} {base : Heap}
/-- the defs as they stand behind the top -/
structure Defs (K : PySem.W.Frag) (mg : Str → Option Value) : Prop where
  own : ∃ f fd, Fun K "own_price" "own_price" sOwn f fd ∧ L2.Binds K fd ["entries", "elders", "slip", "at", "elder"] [] ∧ mg "own_price" = some (.ref f)
  choice : ∃ f fd, Fun K "choice_price" "choice_price" sChoice f fd ∧ L2.Binds K fd ["entries", "elders", "slip", "turn", "choice"] [] ∧ mg "choice_price" = some (.ref f)
  ahead : ∃ f fd, Fun K "least_ahead" "least_ahead" sAhead f fd ∧ L2.Binds K fd ["row", "elder", "turn"] [] ∧ mg "least_ahead" = some (.ref f)
  column : ∃ f fd, Fun K "column_bounds" "column_bounds" sColumn f fd ∧ L2.Binds K fd ["entries", "elders", "slip", "turn", "table", "at"] [] ∧ mg "column_bounds" = some (.ref f)
  stand : ∃ f fd, Fun K "turns_stand" "turns_stand" sStand f fd ∧ L2.Binds K fd ["entries", "elders", "slip", "turn", "price", "choice", "table"] [] ∧ mg "turns_stand" = some (.ref f)
  cell : ∃ f fd, Fun K "_law_cell_at" "_law_cell_at" sCell f fd ∧ L2.Binds K fd ["script", "k"] [] ∧ mg "_law_cell_at" = some (.ref f)
  word : ∃ f fd, Fun K "_law_word" "_law_word" sWord f fd ∧ L2.Binds K fd ["number"] [] ∧ mg "_law_word" = some (.ref f)
  entry : ∃ f fd, Fun K "_law_entry" "_law_entry" sEntry f fd ∧ L2.Binds K fd ["number", "menu"] [] ∧ mg "_law_entry" = some (.ref f)
  columns : ∃ f fd, Fun K "_law_columns" "_law_columns" sColumns f fd ∧ L2.Binds K fd ["script", "most", "wide"] [] ∧ mg "_law_columns" = some (.ref f)
  two : ∃ f fd, Fun K "_law_two_prices" "_law_two_prices" sTwo f fd ∧ L2.Binds K fd ["script"] [] ∧ mg "_law_two_prices" = some (.ref f)
  lchoice : ∃ f fd, Fun K "_law_choice_price" "_law_choice_price" sLChoice f fd ∧ L2.Binds K fd ["entries", "elders", "prices", "choice"] [] ∧ mg "_law_choice_price" = some (.ref f)
  choices : ∃ f fd, Fun K "_law_choices" "_law_choices" sChoices f fd ∧ L2.Binds K fd ["many", "long"] [] ∧ mg "_law_choices" = some (.ref f)
  bounds : ∃ f fd, Fun K "_law_bounds" "_law_bounds" sBounds f fd ∧ L2.Binds K fd ["entries", "elders", "prices", "table"] [] ∧ mg "_law_bounds" = some (.ref f)
  slack : ∃ f fd, Fun K "_law_slack" "_law_slack" sSlack f fd ∧ L2.Binds K fd ["script", "at", "elder"] [] ∧ mg "_law_slack" = some (.ref f)
  made : ∃ f fd, Fun K "_law_made_up" "_law_made_up" sMade f fd ∧ L2.Binds K fd ["script", "entries", "elders", "prices"] [] ∧ mg "_law_made_up" = some (.ref f)
  len : mg "len" = none
  range : mg "range" = none
  enumerate : mg "enumerate" = none
  min : mg "min" = none
  int : mg "int" = none
  tuple : mg "tuple" = none
  zip : mg "zip" = none
  isinstance : mg "isinstance" = none
  bool : mg "bool" = none
/-- an item of choices and its price -/
def CostOf (H : Hp) (n m : Nat) (o : Nat → Nat → Int) (turn : Int) (x : V) (z : Int) : Prop := ∃ a c, x = .ref a ∧ Cho H a n m c ∧ z = cost o turn c n
theorem CostOf.mono {H H' : Hp} {n m : Nat} {o : Nat → Nat → Int} {turn : Int} {x : V} {z : Int} (t : Tm H H') (h : CostOf H n m o turn x z) : CostOf H' n m o turn x z := by
  obtain ⟨a, c, e, hc, ez⟩ := h
  exact ⟨a, c, e, hc.mono t, ez⟩
def spLaw (K : PySem.W.Frag) : Sp := fun vs H Q _ => ∃ (a : Addr) (ns : List Int), vs = [.ref a] ∧ SqL K H a (ns.map V.int) ∧ ns.length ≤ 63 ∧ ∀ H', Q (.bl true) H'
theorem ok_law {f : Addr} {fd : FuncData} {k : Nat} (F : Fun K "law" "law" sLaw f fd) (D : Defs K mg) : FnOk P w K mg base CX0 (k + 4) f fd ["script"] (spLaw K) := by
  obtain ⟨fO, fdO, FO, bO, gO⟩ := D.own
  obtain ⟨fC, fdC, FC, bC, gC⟩ := D.choice
  obtain ⟨fA, fdA, FA, bA, gA⟩ := D.ahead
  obtain ⟨fB, fdB, FB, bB, gB⟩ := D.column
  obtain ⟨fS, fdS, FS, bS, gS⟩ := D.stand
  obtain ⟨fL, fdL, FL, bL, gL⟩ := D.cell
  obtain ⟨fW, fdW, FW, bW, gW⟩ := D.word
  obtain ⟨fE, fdE, FE, bE, gE⟩ := D.entry
  obtain ⟨fN, fdN, FN, bN, gN⟩ := D.columns
  obtain ⟨fT, fdT, FT, bT, gT⟩ := D.two
  obtain ⟨fP, fdP, FP, bP, gP⟩ := D.lchoice
  obtain ⟨fH, fdH, FH, bH, gH⟩ := D.choices
  obtain ⟨fU, fdU, FU, bU, gU⟩ := D.bounds
  obtain ⟨fK, fdK, FK, bK, gK⟩ := D.slack
  obtain ⟨fM, fdM, FM, bM, gM⟩ := D.made
  have GN : FnOk P w K mg base CX0 (k + 3) fN fdN ["script", "most", "wide"] (spColumns K) := ok_columns FN FL FW FE bL gL bW gW bE gE D.len D.range D.int D.tuple
  have GT : FnOk P w K mg base CX0 (k + 3) fT fdT ["script"] (spTwo K) := ok_two (k := k + 1) FT FL bL gL D.len
  have GM : FnOk P w K mg base CX0 (k + 3) fM fdM ["script", "entries", "elders", "prices"] (spMade K) := ok_made FM FL FK bL gL bK gK D.len D.range D.int D.min D.tuple
  have GU : FnOk P w K mg base CX0 (k + 3) fU fdU ["entries", "elders", "prices", "table"] (spBounds K) := ok_bounds (k := k + 2) FU D.len D.range D.int
  have GH : FnOk P w K mg base CX0 (k + 3) fH fdH ["many", "long"] spChoices := ok_choices (k := k + 2) FH D.range
  have GP : FnOk P w K mg base CX0 (k + 3) fP fdP ["entries", "elders", "prices", "choice"] (spLChoice K) := ok_lchoice (k := k + 2) FP D.len D.range D.int
  have GS : FnOk P w K mg base CX0 (k + 3) fS fdS ["entries", "elders", "slip", "turn", "price", "choice", "table"] spStand := ok_stand FS FO FA FC FB bO gO bA gA bC gC bB gB D.len D.range D.enumerate D.min D.int
  refine F.ok scLaw (fun vs H Q E h => ?_) (fun cdv A outer s H vs Q E hr h => ?_)
  · obtain ⟨a, ns, rfl, _⟩ := h
    rfl
  · obtain ⟨a, ns, rfl, hS, hlen, q⟩ := h
    refine ⟨_, pss_cons (ps_asg (pe_call GN hr (by rfl) gN FN.kp bN .nil pass0 (pa_cons (pv 0) (pa_cons pe_int (pa_cons pe_int pa_nil)))) (pg_unl rfl (pgs_cons (pg_name (i := 1) scLaw.nd rfl (.inr rfl)) (pgs_cons (pg_name (i := 2) scLaw.nd rfl (.inr rfl)) pgs_nil))))
      (pss_cons (ps_set (i := 3) scLaw.nd rfl (.inr rfl) (pe_call GT hr (by rfl) gT FT.kp bT .nil pass0 (pa_cons (pv 0) pa_nil)))
      (pss_cons (ps_set (i := 4) scLaw.nd rfl (.inl rfl) (pe_call GM hr (by rfl) gM FM.kp bM .nil pass0 (pa_cons (pv 0) (pa_cons (pv 1) (pa_cons (pv 2) (pa_cons (pv 3) pa_nil))))))
      (pss_cons (ps_set (i := 5) scLaw.nd rfl (.inl rfl) (pe_call GU hr (by rfl) gU FU.kp bU .nil pass0 (pa_cons (pv 1) (pa_cons (pv 2) (pa_cons (pv 3) (pa_cons (pv 4) pa_nil))))))
      (pss_cons (ps_set (i := 6) scLaw.nd rfl (.inl rfl) (pe_call GH hr (by rfl) gH FH.kp bH .nil pass0 (pa_cons (pe_callB call_len_seq (by rfl) D.len PySem.boot_len (pa_cons (pv 2) pa_nil)) (pa_cons (pe_callB call_len_seq (by rfl) D.len PySem.boot_len (pa_cons (pv 1) pa_nil)) pa_nil))))
      (pss_cons (ps_setLc (i := 7) (own := [("c", 13)]) (g := gName 13) (tt := tYes) rfl scLaw.nd rfl rfl (sw_true rfl rfl rfl (by decide +kernel)) (pi_list (pv 6))
          (blkOk_by (N := ["script", "entries", "elders", "prices", "table", "bounds", "choices", "costs", "total", "cost", "choice", "price", "found", "c"]) (sc := defScope sLaw) (by decide +kernel))
          (fun _ _ _ _ _ => pg_name (i := 13) scLaw.nd rfl (Or.inl rfl)) (fun _ _ _ _ _ => pts_nil)
          (fun _ _ _ _ _ => pe_call GP hr (by rfl) gP FP.kp bP .nil pass0 (pa_cons (pv 1) (pa_cons (pv 2) (pa_cons (pv 3) (pa_cons (pv 13) pa_nil))))))
      (pss_cons (ps_set (i := 8) scLaw.nd rfl (.inl rfl) pe_int)
      (C8.pss_cut (ps_if (pt_cmpR op_gt (pe_callB call_len_seq (by rfl) D.len PySem.boot_len (pa_cons (pv 4) pa_nil)) pe_int (nomark _)) (pss_one (ps_set (i := 8) scLaw.nd rfl (.inl rfl) (pe_callB (cr_minT rfl) (by rfl) D.min (by decide +kernel) (pa_cons (pe_ix ix_tup (pv 4) (pe_un un_neg pe_int) (fun _ _ => rfl)) pa_nil)))) pss_nil)
      (pss_cons (ps_for PassesOwn.never rfl (pi_zip (by rfl) D.zip (pa_cons (pv 7) (pa_cons (pv 6) pa_nil))) (pg_tup rfl (pgs_cons (pg_name (i := 9) scLaw.nd rfl (.inl rfl)) (pgs_cons (pg_name (i := 10) scLaw.nd rfl (.inl rfl)) pgs_nil)))
        (pss_one (ps_for PassesOwn.never rfl (pi_list (pe_lst (pa_cons (pv 9) (pa_cons (pv 8) pa_nil)))) (pg_name (i := 11) scLaw.nd rfl (.inl rfl))
          (pss_cons (ps_set (i := 12) scLaw.nd rfl (.inl rfl) (pe_call GS hr (by rfl) gS FS.kp bS .nil pass0 (pa_cons (pv 1) (pa_cons (pv 2) (pa_cons (pe_ix ix_list (pv 3) pe_int (fun _ _ => rfl)) (pa_cons (pe_ix ix_list (pv 3) pe_int (fun _ _ => rfl)) (pa_cons (pv 11) (pa_cons (pv 10) (pa_cons (pv 4) pa_nil)))))))))
          (C8.pss_cut (ps_if (PW.pt (pw_or (pt_not (pt_val (pe_callB call_isi (by rfl) D.isinstance (by decide +kernel) (pa_cons (pv 12) (pa_cons (pe_bltn (v := .ty "bool") (by rfl) D.bool (by decide +kernel) rfl) pa_nil)))))
              (pw_or1 (pt_cmpR op_ne (pv 12) (pe_and (pv 5) (pe_and (pe_cmpR op_eq (pv 11) (pv 9) (nomark _)) (pe_one (pe_cmpR op_le (pv 11) (pv 8) (nomark _))))) (nomark _))))) (pss_one (ps_ret pe_bl)) pss_nil)
          (pss_one (ps_if (PW.pt (pw_and (pt_val (pv 12)) (pw_and1 (pt_cmpR op_ne (pv 11) (pe_callB (cr_min rfl) (by rfl) D.min (by decide +kernel) (pa_cons (pv 7) pa_nil)) (nomark _))))) (pss_one (ps_ret pe_bl)) pss_nil)))))))
      (pss_one (ps_ret pe_bl)))))))))), ?_⟩
    -- entries, elders
    refine ⟨.ref a, rfl, a, ns, rfl, hS, by omega, fun H1 p1 ae ad n m En De s1 e1 hn hm hD1 => ⟨p1, _, rfl, SqL.of e1, rfl, .ref ae, [.ref ad], rfl, .ref ad, [], rfl, rfl, ?_⟩⟩
    -- prices
    refine ⟨.ref a, rfl, a, ns, rfl, s1.seq hS, fun H2 ap slip turn s2 e2 => ?_⟩
    have hD2 := hD1.mono (tm_of s2)
    -- table
    refine ⟨.ref a, rfl, .ref ae, rfl, .ref ad, rfl, .ref ap, rfl, a, ae, ad, ap, ns, n, m, En, De, slip, turn, rfl, (s1.trans s2).seq hS, hD2, SqL.of e2, fun H3 at_ T s3 hT3 => ?_⟩
    have hD3 := hD2.mono (tm_of s3)
    have e3 := s3 _ _ e2
    -- bounds
    refine ⟨.ref ae, rfl, .ref ad, rfl, .ref ap, rfl, .ref at_, rfl, ae, ad, ap, at_, n, m, En, De, slip, turn, T, rfl, hD3, SqL.of e3, hT3, fun bd hbd => ?_⟩
    -- choices
    obtain ⟨hes, ⟨as, h1, h2⟩, fe, fd', sn, sm, pm⟩ := id hD3
    refine ⟨.ref ad, rfl, ad, _, rfl, .inr (SqT.of h1), .ref ae, rfl, ae, _, rfl, .inr (SqT.of hes), m, n, by rw [range_len, range_len]; rfl, pm, hm, hn, fun H4 pc xs s4 e4 x0 x81 hx => ?_⟩
    have hD4 := hD3.mono (tm_of s4)
    have e34 := s4 _ _ e3
    -- costs
    refine ⟨.ref pc, rfl, pc, rfl, ⟨_, SqL.of e4⟩, fun cz ncz => lc_list (xs := xs)
      (fun u H5 => Same H4 H5 ∧ ∃ zs : List Int, H5 cz = some (.lst (zs.map V.int)) ∧ zs.length = u ∧ ∀ (q : Nat) x z, xs[q]? = some x → zs[q]? = some z → CostOf H4 n m (ow En De slip) turn x z)
      ⟨same_new ncz, [], upd_same, rfl, fun q x z _ hz => by simp at hz⟩ (fun u H5 _ hI => SqL.of (hI.1 _ _ e4)) (fun u x H5 hxu hI => ?_) (fun H5 hI => ?_)⟩
    · obtain ⟨s5, zs, ez, lz, hz⟩ := hI
      obtain ⟨ac, c, rfl, hC⟩ := hx x (List.mem_of_getElem? hxu)
      have hu : u < xs.length := (List.getElem?_eq_some_iff.mp hxu).1
      refine ⟨rfl, .ref ae, rfl, .ref ad, rfl, .ref ap, rfl, .ref ac, rfl, ae, ad, ap, ac, n, m, En, De, slip, turn, c, rfl, hD4.mono (tm_of s5), SqL.of (s5 _ _ e34), hC.mono (tm_of s5), _, ez, ?_, same_put ncz s5, zs ++ [cost (ow En De slip) turn c n], ?_, ?_, fun q x z hq1 hq2 => ?_⟩
      · rw [List.length_map]
        exact small1000 (by omega)
      · rw [upd_same, List.map_append]
        rfl
      · rw [List.length_append, lz]
        rfl
      · by_cases hqu : q < zs.length
        · rw [List.getElem?_append_left hqu] at hq2
          exact hz q x z hq1 hq2
        · have hq3 : q < zs.length + 1 := by
            have := (List.getElem?_eq_some_iff.mp hq2).1
            rw [List.length_append] at this
            exact this
          have hq4 : q = u := by omega
          subst hq4
          rw [hxu] at hq1
          have ex := Option.some.inj hq1
          rw [← lz, List.getElem?_concat_length] at hq2
          have ez2 := Option.some.inj hq2
          exact ⟨ac, c, ex.symm, hC, ez2.symm⟩
    obtain ⟨s5, zs, ez, lz, hz⟩ := hI
    have hD5 := hD4.mono (tm_of s5)
    have e45 := s5 _ _ e4
    have e35 := s5 _ _ e34
    have hT5 := hT3.mono (tm_of (s4.trans s5))
    obtain ⟨ta, t1, t2⟩ := id hT5
    -- total
    refine ⟨fun σ H6 => ∃ total, Tot n m T total ∧ σ = [some (.ref a), some (.ref ae), some (.ref ad), some (.ref ap), some (.ref at_), some (.bl bd), some (.ref pc), some (.ref cz), some (.int total), none, none, none, none, none] ∧ H6 = H5, ?_, ?_⟩
    · refine ⟨.ref at_, rfl, at_, _, rfl, .inr (SqT.of t1), _, _, rfl, rfl, _, rfl, ite2 (fun e => ?_) (fun e => ?_)⟩
      · have e6 := of_decide_eq_true e
        rw [range_len] at e6
        have h0 : 0 < n := by omega
        refine ⟨.ref at_, rfl, 1, rfl, at_, _, _, _, rfl, rfl, SqT.of t1, range_last h0, ta (n - 1), (List.range m).map (T (n - 1)), rfl, SqT.of ((t2 (n - 1) (by omega)).trans (by rw [range_ints])), by rw [range_len]; exact pm, fun M hM hle => ?_⟩
        refine ⟨M, ⟨fun z => absurd z (by omega), fun _ => ⟨?_, fun kk hk => hle _ (List.mem_map.mpr ⟨kk, List.mem_range.mpr hk, rfl⟩)⟩⟩, rfl, rfl⟩
        obtain ⟨kk, hk, eM⟩ := List.mem_map.mp hM
        exact ⟨kk, List.mem_range.mp hk, eM.symm⟩
      · have h0 : n = 0 := by
          rcases Nat.eq_zero_or_pos n with z | z
          · exact z
          · exact (e (decide_eq_true (by rw [range_len]; omega))).elim
        exact ⟨0, ⟨fun _ => rfl, fun z => absurd z (by omega)⟩, rfl, rfl⟩
    rintro σ H6 ⟨total, htot, rfl, rfl⟩
    -- for cost, choice in zip(costs, choices)
    have z0 : 0 < zs.length := by omega
    have hlz : (zs.map V.int).length = xs.length := (List.length_map V.int).trans lz
    refine ⟨.ref cz, rfl, .ref pc, rfl, cz, pc, zs.map V.int, xs, rfl, SqL.of ez, SqL.of e45, RZ.for_zipL (xs := zs.map V.int) (ys := xs) hlz
      (fun i σ H7 => ∃ y9 y10 y11 y12, σ = [some (.ref a), some (.ref ae), some (.ref ad), some (.ref ap), some (.ref at_), some (.bl bd), some (.ref pc), some (.ref cz), some (.int total), y9, y10, y11, y12, none] ∧ Same H6 H7)
      ⟨none, none, none, none, rfl, Same.refl H6⟩ (fun i σ H7 hI => ?_) (fun i x y Tp σ H7 hx1 hy1 hI nT => ?_) (fun σ H7 hI => ?_)⟩
    · obtain ⟨_, _, _, _, _, s7⟩ := hI
      exact ⟨SqL.of (s7 _ _ ez), SqL.of (s7 _ _ e45)⟩
    · obtain ⟨y9, y10, y11, y12, rfl, s7⟩ := hI
      rw [List.getElem?_map] at hx1
      obtain ⟨z, hz1, rfl⟩ := Option.map_eq_some_iff.mp hx1
      obtain ⟨ac, c, rfl, hC, ezc⟩ := (hz i y z hy1 hz1).mono (tm_of s5)
      have zin : z ∈ zs := List.mem_of_getElem? hz1
      have s8 : Same H6 (upd H7 Tp (.tup [.int z, .ref ac])) := s7.trans (same_new nT)
      refine ⟨Tp, [.int z, .ref ac], rfl, SqT.of upd_same, rfl, .int z, [.ref ac], rfl, .ref ac, [], rfl, rfl, ?_⟩
      -- for price in [cost, total]
      refine ⟨.int z, rfl, .int total, rfl, by show 2 ≤ sizeLine; decide, fun l nl => ⟨l, rfl, ⟨_, SqL.of upd_same⟩, for_list (xs := [.int z, .int total])
        (fun j σ H8 => ∃ y11 y12, σ = [some (.ref a), some (.ref ae), some (.ref ad), some (.ref ap), some (.ref at_), some (.bl bd), some (.ref pc), some (.ref cz), some (.int total), some (.int z), some (.ref ac), y11, y12, none] ∧ Same H6 H8 ∧ H8 l = some (.lst [.int z, .int total]))
        ⟨y11, y12, rfl, s8.trans (same_new nl), upd_same⟩ (fun j σ H8 _ hJ => ?_) (fun j x σ H8 hxj hJ => ?_) (fun σ H8 hJ => ?_)⟩⟩
      · obtain ⟨_, _, _, _, el⟩ := hJ
        exact SqL.of el
      · obtain ⟨y11, y12, rfl, s9, el⟩ := hJ
        obtain ⟨p, rfl⟩ : ∃ p, x = .int p := by
          have := List.mem_of_getElem? hxj
          rcases List.mem_cons.mp this with e | this
          · exact ⟨_, e⟩
          · rcases List.mem_cons.mp this with e | this
            · exact ⟨_, e⟩
            · cases this
        -- found = turns_stand(..)
        refine ⟨.ref ae, rfl, .ref ad, rfl, .ref ap, rfl, ap, _, _, .int slip, rfl, rfl, SqL.of (s9 _ _ e35), atI_nat (j := 0) rfl, .ref ap, rfl, ap, _, _, .int turn, rfl, rfl, SqL.of (s9 _ _ e35), atI_nat (j := 1) rfl, .int p, rfl, .ref ac, rfl, .ref at_, rfl,
          ae, ad, ac, at_, n, m, En, De, slip, turn, p, c, T, rfl, hD5.mono (tm_of s9), hC.mono (tm_of s9), hT5.mono (tm_of s9), fun H9 b s10 hb => ?_⟩
        have s11 := s9.trans s10
        have key : b = true ↔ (bd = true ∧ p = z ∧ p ≤ total) := by
          rw [hb, stands_iff htot, hbd, ezc]
        have vne : ∀ v : Bool, b = v → ¬ (!decide (V.bl b = V.bl v)) = true := fun v e => by
          subst e
          simp
        refine ⟨fun σ H' => σ = [some (.ref a), some (.ref ae), some (.ref ad), some (.ref ap), some (.ref at_), some (.bl bd), some (.ref pc), some (.ref cz), some (.int total), some (.int z), some (.ref ac), some (.int p), some (.bl b), none] ∧ H' = H9, ?_, ?_⟩
        · refine ⟨.bl b, rfl, .bl b, .ty "bool", .type "bool", .type "bool", true, rfl, .ty "bool", .base (.bl b), kit_ty (by decide +kernel), true, rfl, iteF ?_⟩
          refine ⟨.bl b, rfl, .bl bd, rfl, bd, rfl, ite2 (fun e => ?_) (fun e => ?_)⟩
          · refine ⟨.int p, rfl, .int z, rfl, rfl, _, rfl, ite2 (fun e2 => ?_) (fun e2 => ?_)⟩
            · have e3 : p = z := V.int.inj (of_decide_eq_true e2)
              refine ⟨.int p, rfl, .int total, rfl, _, _, rfl, rfl, rfl, _, rfl, ite2 (fun e4 => absurd e4 (vne _ ?_)) (fun _ => ⟨rfl, rfl⟩)⟩
              by_cases hp : p ≤ total
              · rw [decide_eq_true hp]
                exact key.mpr ⟨e, e3, hp⟩
              · rw [decide_eq_false hp]
                exact Bool.eq_false_iff.mpr fun hbt => hp (key.mp hbt).2.2
            · refine ⟨rfl, _, rfl, ite2 (fun e4 => absurd e4 (vne _ ?_)) (fun _ => ⟨rfl, rfl⟩)⟩
              exact Bool.eq_false_iff.mpr fun hbt => e2 (by rw [(key.mp hbt).2.1]; exact decide_eq_true rfl)
          · refine ⟨rfl, _, rfl, ite2 (fun e4 => absurd e4 (vne _ ?_)) (fun _ => ⟨rfl, rfl⟩)⟩
            exact Bool.eq_false_iff.mpr fun hbt => e (key.mp hbt).1
        · rintro σ H' ⟨rfl, rfl⟩
          refine ⟨.bl b, rfl, b, rfl, ite2 (fun e => ?_) (fun e => iteF ⟨_, _, rfl, s11, s10 _ _ el⟩)⟩
          refine ⟨.int p, rfl, .ref cz, rfl, cz, zs, rfl, SqL.of (s11 _ _ ez), z0, fun M hM hle => ⟨rfl, _, rfl, ite2 (fun e4 => ?_) (fun _ => ⟨_, _, rfl, s11, s10 _ _ el⟩)⟩⟩
          exfalso
          have k1 := (key.mp e).2.1
          have k2 := hle z zin
          obtain ⟨q', hq', eM⟩ := List.getElem_of_mem hM
          have hq2 : zs[q']? = some M := by rw [List.getElem?_eq_getElem hq', eM]
          have hq3 : q' < xs.length := by omega
          obtain ⟨ac', c', _, hC', eM'⟩ := hz q' _ M (List.getElem?_eq_getElem hq3) hq2
          have k3 := stands_least (hb.mp e) c' hC'.lt
          have k4 : p = M := by omega
          rw [k4] at e4
          simp at e4
      · obtain ⟨y11, y12, rfl, s9, el⟩ := hJ
        exact ⟨_, _, _, _, rfl, s9⟩
    · obtain ⟨y9, y10, y11, y12, rfl, s7⟩ := hI
      exact q H7
end
end K51
namespace K51
open PySem PySem.Spec PyProof.Rows L2
/-! ### what the top has written; the law's own head -/
theorem all_mk {l : PySem.W.OpenLaw} {w : World} {K : PySem.W.Frag} {h : Heap} {mg : Str → Option Value} {fa : Addr} (X : K.In h) (G : h.Ns mainGlobals mg) (hfa : mg "law" = some (.ref fa))
    {f1 : Addr} {od1 an1 : Option Addr} {sl1 : Array (Option Value)} {oc1 kV1 dc1 pm1 cd1 ct1 : Value}
    (a1 : PySem.W.nsIn K mainGlobals "own_price" = some (some (.ref f1))) (l1 : K.lookup f1 = some ⟨oc1, od1, .func (PySem.W.fnOf "own_price" "own_price" (defArgs sOwn) (defBody sOwn) (defScope sOwn) .none kV1 dc1 pm1 an1 cd1 ct1), sl1⟩) (c1 : PySem.W.codeIn K cd1 "own_price" = true) (k1 : PySem.W.keepIn K (.ref f1) = true)
    {f2 : Addr} {od2 an2 : Option Addr} {sl2 : Array (Option Value)} {oc2 kV2 dc2 pm2 cd2 ct2 : Value}
    (a2 : PySem.W.nsIn K mainGlobals "choice_price" = some (some (.ref f2))) (l2 : K.lookup f2 = some ⟨oc2, od2, .func (PySem.W.fnOf "choice_price" "choice_price" (defArgs sChoice) (defBody sChoice) (defScope sChoice) .none kV2 dc2 pm2 an2 cd2 ct2), sl2⟩) (c2 : PySem.W.codeIn K cd2 "choice_price" = true) (k2 : PySem.W.keepIn K (.ref f2) = true)
    {f3 : Addr} {od3 an3 : Option Addr} {sl3 : Array (Option Value)} {oc3 kV3 dc3 pm3 cd3 ct3 : Value}
    (a3 : PySem.W.nsIn K mainGlobals "least_ahead" = some (some (.ref f3))) (l3 : K.lookup f3 = some ⟨oc3, od3, .func (PySem.W.fnOf "least_ahead" "least_ahead" (defArgs sAhead) (defBody sAhead) (defScope sAhead) .none kV3 dc3 pm3 an3 cd3 ct3), sl3⟩) (c3 : PySem.W.codeIn K cd3 "least_ahead" = true) (k3 : PySem.W.keepIn K (.ref f3) = true)
    {f4 : Addr} {od4 an4 : Option Addr} {sl4 : Array (Option Value)} {oc4 kV4 dc4 pm4 cd4 ct4 : Value}
    (a4 : PySem.W.nsIn K mainGlobals "column_bounds" = some (some (.ref f4))) (l4 : K.lookup f4 = some ⟨oc4, od4, .func (PySem.W.fnOf "column_bounds" "column_bounds" (defArgs sColumn) (defBody sColumn) (defScope sColumn) .none kV4 dc4 pm4 an4 cd4 ct4), sl4⟩) (c4 : PySem.W.codeIn K cd4 "column_bounds" = true) (k4 : PySem.W.keepIn K (.ref f4) = true)
    {f5 : Addr} {od5 an5 : Option Addr} {sl5 : Array (Option Value)} {oc5 kV5 dc5 pm5 cd5 ct5 : Value}
    (a5 : PySem.W.nsIn K mainGlobals "turns_stand" = some (some (.ref f5))) (l5 : K.lookup f5 = some ⟨oc5, od5, .func (PySem.W.fnOf "turns_stand" "turns_stand" (defArgs sStand) (defBody sStand) (defScope sStand) .none kV5 dc5 pm5 an5 cd5 ct5), sl5⟩) (c5 : PySem.W.codeIn K cd5 "turns_stand" = true) (k5 : PySem.W.keepIn K (.ref f5) = true)
    {f6 : Addr} {od6 an6 : Option Addr} {sl6 : Array (Option Value)} {oc6 kV6 dc6 pm6 cd6 ct6 : Value}
    (a6 : PySem.W.nsIn K mainGlobals "_law_cell_at" = some (some (.ref f6))) (l6 : K.lookup f6 = some ⟨oc6, od6, .func (PySem.W.fnOf "_law_cell_at" "_law_cell_at" (defArgs sCell) (defBody sCell) (defScope sCell) .none kV6 dc6 pm6 an6 cd6 ct6), sl6⟩) (c6 : PySem.W.codeIn K cd6 "_law_cell_at" = true) (k6 : PySem.W.keepIn K (.ref f6) = true)
    {f7 : Addr} {od7 an7 : Option Addr} {sl7 : Array (Option Value)} {oc7 kV7 dc7 pm7 cd7 ct7 : Value}
    (a7 : PySem.W.nsIn K mainGlobals "_law_word" = some (some (.ref f7))) (l7 : K.lookup f7 = some ⟨oc7, od7, .func (PySem.W.fnOf "_law_word" "_law_word" (defArgs sWord) (defBody sWord) (defScope sWord) .none kV7 dc7 pm7 an7 cd7 ct7), sl7⟩) (c7 : PySem.W.codeIn K cd7 "_law_word" = true) (k7 : PySem.W.keepIn K (.ref f7) = true)
    {f8 : Addr} {od8 an8 : Option Addr} {sl8 : Array (Option Value)} {oc8 kV8 dc8 pm8 cd8 ct8 : Value}
    (a8 : PySem.W.nsIn K mainGlobals "_law_entry" = some (some (.ref f8))) (l8 : K.lookup f8 = some ⟨oc8, od8, .func (PySem.W.fnOf "_law_entry" "_law_entry" (defArgs sEntry) (defBody sEntry) (defScope sEntry) .none kV8 dc8 pm8 an8 cd8 ct8), sl8⟩) (c8 : PySem.W.codeIn K cd8 "_law_entry" = true) (k8 : PySem.W.keepIn K (.ref f8) = true)
    {f9 : Addr} {od9 an9 : Option Addr} {sl9 : Array (Option Value)} {oc9 kV9 dc9 pm9 cd9 ct9 : Value}
    (a9 : PySem.W.nsIn K mainGlobals "_law_columns" = some (some (.ref f9))) (l9 : K.lookup f9 = some ⟨oc9, od9, .func (PySem.W.fnOf "_law_columns" "_law_columns" (defArgs sColumns) (defBody sColumns) (defScope sColumns) .none kV9 dc9 pm9 an9 cd9 ct9), sl9⟩) (c9 : PySem.W.codeIn K cd9 "_law_columns" = true) (k9 : PySem.W.keepIn K (.ref f9) = true)
    {f10 : Addr} {od10 an10 : Option Addr} {sl10 : Array (Option Value)} {oc10 kV10 dc10 pm10 cd10 ct10 : Value}
    (a10 : PySem.W.nsIn K mainGlobals "_law_two_prices" = some (some (.ref f10))) (l10 : K.lookup f10 = some ⟨oc10, od10, .func (PySem.W.fnOf "_law_two_prices" "_law_two_prices" (defArgs sTwo) (defBody sTwo) (defScope sTwo) .none kV10 dc10 pm10 an10 cd10 ct10), sl10⟩) (c10 : PySem.W.codeIn K cd10 "_law_two_prices" = true) (k10 : PySem.W.keepIn K (.ref f10) = true)
    {f11 : Addr} {od11 an11 : Option Addr} {sl11 : Array (Option Value)} {oc11 kV11 dc11 pm11 cd11 ct11 : Value}
    (a11 : PySem.W.nsIn K mainGlobals "_law_choice_price" = some (some (.ref f11))) (l11 : K.lookup f11 = some ⟨oc11, od11, .func (PySem.W.fnOf "_law_choice_price" "_law_choice_price" (defArgs sLChoice) (defBody sLChoice) (defScope sLChoice) .none kV11 dc11 pm11 an11 cd11 ct11), sl11⟩) (c11 : PySem.W.codeIn K cd11 "_law_choice_price" = true) (k11 : PySem.W.keepIn K (.ref f11) = true)
    {f12 : Addr} {od12 an12 : Option Addr} {sl12 : Array (Option Value)} {oc12 kV12 dc12 pm12 cd12 ct12 : Value}
    (a12 : PySem.W.nsIn K mainGlobals "_law_choices" = some (some (.ref f12))) (l12 : K.lookup f12 = some ⟨oc12, od12, .func (PySem.W.fnOf "_law_choices" "_law_choices" (defArgs sChoices) (defBody sChoices) (defScope sChoices) .none kV12 dc12 pm12 an12 cd12 ct12), sl12⟩) (c12 : PySem.W.codeIn K cd12 "_law_choices" = true) (k12 : PySem.W.keepIn K (.ref f12) = true)
    {f13 : Addr} {od13 an13 : Option Addr} {sl13 : Array (Option Value)} {oc13 kV13 dc13 pm13 cd13 ct13 : Value}
    (a13 : PySem.W.nsIn K mainGlobals "_law_bounds" = some (some (.ref f13))) (l13 : K.lookup f13 = some ⟨oc13, od13, .func (PySem.W.fnOf "_law_bounds" "_law_bounds" (defArgs sBounds) (defBody sBounds) (defScope sBounds) .none kV13 dc13 pm13 an13 cd13 ct13), sl13⟩) (c13 : PySem.W.codeIn K cd13 "_law_bounds" = true) (k13 : PySem.W.keepIn K (.ref f13) = true)
    {f14 : Addr} {od14 an14 : Option Addr} {sl14 : Array (Option Value)} {oc14 kV14 dc14 pm14 cd14 ct14 : Value}
    (a14 : PySem.W.nsIn K mainGlobals "_law_slack" = some (some (.ref f14))) (l14 : K.lookup f14 = some ⟨oc14, od14, .func (PySem.W.fnOf "_law_slack" "_law_slack" (defArgs sSlack) (defBody sSlack) (defScope sSlack) .none kV14 dc14 pm14 an14 cd14 ct14), sl14⟩) (c14 : PySem.W.codeIn K cd14 "_law_slack" = true) (k14 : PySem.W.keepIn K (.ref f14) = true)
    {f15 : Addr} {od15 an15 : Option Addr} {sl15 : Array (Option Value)} {oc15 kV15 dc15 pm15 cd15 ct15 : Value}
    (a15 : PySem.W.nsIn K mainGlobals "_law_made_up" = some (some (.ref f15))) (l15 : K.lookup f15 = some ⟨oc15, od15, .func (PySem.W.fnOf "_law_made_up" "_law_made_up" (defArgs sMade) (defBody sMade) (defScope sMade) .none kV15 dc15 pm15 an15 cd15 ct15), sl15⟩) (c15 : PySem.W.codeIn K cd15 "_law_made_up" = true) (k15 : PySem.W.keepIn K (.ref f15) = true)
    {f16 : Addr} {od16 an16 : Option Addr} {sl16 : Array (Option Value)} {oc16 kV16 dc16 pm16 cd16 ct16 : Value}
    (a16 : PySem.W.nsIn K mainGlobals "law" = some (some (.ref f16))) (l16 : K.lookup f16 = some ⟨oc16, od16, .func (PySem.W.fnOf "law" "law" (defArgs sLaw) (defBody sLaw) (defScope sLaw) .none kV16 dc16 pm16 an16 cd16 ct16), sl16⟩) (c16 : PySem.W.codeIn K cd16 "law" = true) (k16 : PySem.W.keepIn K (.ref f16) = true)
    (z1 : PySem.W.nsIn K mainGlobals "len" = some none)
    (z2 : PySem.W.nsIn K mainGlobals "range" = some none)
    (z3 : PySem.W.nsIn K mainGlobals "enumerate" = some none)
    (z4 : PySem.W.nsIn K mainGlobals "min" = some none)
    (z5 : PySem.W.nsIn K mainGlobals "int" = some none)
    (z6 : PySem.W.nsIn K mainGlobals "tuple" = some none)
    (z7 : PySem.W.nsIn K mainGlobals "zip" = some none)
    (z8 : PySem.W.nsIn K mainGlobals "isinstance" = some none)
    (z9 : PySem.W.nsIn K mainGlobals "bool" = some none)
    : ∃ fd : FuncData, (∀ (s : Shared) (v : Value), BindsTo s fd ⟨[v], []⟩ [("script", v)]) ∧ ∀ base : Heap, K.In base → base.Ns mainGlobals mg → FnOk l.prog w K mg base CX0 4 fa fd ["script"] (spLaw K) := by
  have e := hfa.symm.trans (PySem.W.mg_of X G a16)
  cases e
  have F1 := fun_mk (st := sOwn) l1 c1 k1
  have F2 := fun_mk (st := sChoice) l2 c2 k2
  have F3 := fun_mk (st := sAhead) l3 c3 k3
  have F4 := fun_mk (st := sColumn) l4 c4 k4
  have F5 := fun_mk (st := sStand) l5 c5 k5
  have F6 := fun_mk (st := sCell) l6 c6 k6
  have F7 := fun_mk (st := sWord) l7 c7 k7
  have F8 := fun_mk (st := sEntry) l8 c8 k8
  have F9 := fun_mk (st := sColumns) l9 c9 k9
  have F10 := fun_mk (st := sTwo) l10 c10 k10
  have F11 := fun_mk (st := sLChoice) l11 c11 k11
  have F12 := fun_mk (st := sChoices) l12 c12 k12
  have F13 := fun_mk (st := sBounds) l13 c13 k13
  have F14 := fun_mk (st := sSlack) l14 c14 k14
  have F15 := fun_mk (st := sMade) l15 c15 k15
  have F16 := fun_mk (st := sLaw) l16 c16 k16
  have b1 := F1.binds (ps := ["entries", "elders", "slip", "at", "elder"]) fun _ _ _ _ _ _ us hl => match us, hl with | [_, _, _, _, _], _ => rfl
  have b2 := F2.binds (ps := ["entries", "elders", "slip", "turn", "choice"]) fun _ _ _ _ _ _ us hl => match us, hl with | [_, _, _, _, _], _ => rfl
  have b3 := F3.binds (ps := ["row", "elder", "turn"]) fun _ _ _ _ _ _ us hl => match us, hl with | [_, _, _], _ => rfl
  have b4 := F4.binds (ps := ["entries", "elders", "slip", "turn", "table", "at"]) fun _ _ _ _ _ _ us hl => match us, hl with | [_, _, _, _, _, _], _ => rfl
  have b5 := F5.binds (ps := ["entries", "elders", "slip", "turn", "price", "choice", "table"]) fun _ _ _ _ _ _ us hl => match us, hl with | [_, _, _, _, _, _, _], _ => rfl
  have b6 := F6.binds (ps := ["script", "k"]) fun _ _ _ _ _ _ us hl => match us, hl with | [_, _], _ => rfl
  have b7 := F7.binds (ps := ["number"]) fun _ _ _ _ _ _ us hl => match us, hl with | [_], _ => rfl
  have b8 := F8.binds (ps := ["number", "menu"]) fun _ _ _ _ _ _ us hl => match us, hl with | [_, _], _ => rfl
  have b9 := F9.binds (ps := ["script", "most", "wide"]) fun _ _ _ _ _ _ us hl => match us, hl with | [_, _, _], _ => rfl
  have b10 := F10.binds (ps := ["script"]) fun _ _ _ _ _ _ us hl => match us, hl with | [_], _ => rfl
  have b11 := F11.binds (ps := ["entries", "elders", "prices", "choice"]) fun _ _ _ _ _ _ us hl => match us, hl with | [_, _, _, _], _ => rfl
  have b12 := F12.binds (ps := ["many", "long"]) fun _ _ _ _ _ _ us hl => match us, hl with | [_, _], _ => rfl
  have b13 := F13.binds (ps := ["entries", "elders", "prices", "table"]) fun _ _ _ _ _ _ us hl => match us, hl with | [_, _, _, _], _ => rfl
  have b14 := F14.binds (ps := ["script", "at", "elder"]) fun _ _ _ _ _ _ us hl => match us, hl with | [_, _, _], _ => rfl
  have b15 := F15.binds (ps := ["script", "entries", "elders", "prices"]) fun _ _ _ _ _ _ us hl => match us, hl with | [_, _, _, _], _ => rfl
  have D : Defs K mg := ⟨⟨_, _, F1, b1, PySem.W.mg_of X G a1⟩, ⟨_, _, F2, b2, PySem.W.mg_of X G a2⟩, ⟨_, _, F3, b3, PySem.W.mg_of X G a3⟩, ⟨_, _, F4, b4, PySem.W.mg_of X G a4⟩, ⟨_, _, F5, b5, PySem.W.mg_of X G a5⟩, ⟨_, _, F6, b6, PySem.W.mg_of X G a6⟩, ⟨_, _, F7, b7, PySem.W.mg_of X G a7⟩, ⟨_, _, F8, b8, PySem.W.mg_of X G a8⟩, ⟨_, _, F9, b9, PySem.W.mg_of X G a9⟩, ⟨_, _, F10, b10, PySem.W.mg_of X G a10⟩, ⟨_, _, F11, b11, PySem.W.mg_of X G a11⟩, ⟨_, _, F12, b12, PySem.W.mg_of X G a12⟩, ⟨_, _, F13, b13, PySem.W.mg_of X G a13⟩, ⟨_, _, F14, b14, PySem.W.mg_of X G a14⟩, ⟨_, _, F15, b15, PySem.W.mg_of X G a15⟩, PySem.W.mg_none_of X G z1, PySem.W.mg_none_of X G z2, PySem.W.mg_none_of X G z3, PySem.W.mg_none_of X G z4, PySem.W.mg_none_of X G z5, PySem.W.mg_none_of X G z6, PySem.W.mg_none_of X G z7, PySem.W.mg_none_of X G z8, PySem.W.mg_none_of X G z9⟩
  exact ⟨PySem.W.fnOf "law" "law" (defArgs sLaw) (defBody sLaw) (defScope sLaw) .none kV16 dc16 pm16 an16 cd16 ct16, fun s v => .of_eq rfl, fun base _ _ => ok_law (k := 0) F16 D⟩
end K51
open PySem PySem.W PyProof.Rows
set_option maxHeartbeats 0 in
theorem PySem.Challenge.cw_vellum_k51_whole_no_wrong_price_taken_holds : PySem.Challenge.rw_vellum_k51_whole_no_wrong_price_taken.Holds := by
  w_on; o_law; k_head; (case hw => w_witness2)
  k_fill
  refine L2.walk_of (l := PySem.Challenge.rw_vellum_k51_whole_no_wrong_price_taken) (n := 63) (k := 4) (x := "script") (CX := fun _ => L2.CX0) (sp := fun w => K51.spLaw _) rfl (by decide) rfl ⟨rfl, by decide, by decide⟩ (fun w h Y => PySem.W.kIn_of Y) ?F (fun _ _ a ns hl _ hS => ⟨a, ns, rfl, hS, hl, fun _ => rfl⟩) (fun _ _ _ _ _ h => h)
  case F =>
    intro w mg fa h KX G hmg
    refine' K51.all_mk KX G hmg ?a1 ?l1 ?c1 ?k1 ?a2 ?l2 ?c2 ?k2 ?a3 ?l3 ?c3 ?k3 ?a4 ?l4 ?c4 ?k4 ?a5 ?l5 ?c5 ?k5 ?a6 ?l6 ?c6 ?k6 ?a7 ?l7 ?c7 ?k7 ?a8 ?l8 ?c8 ?k8 ?a9 ?l9 ?c9 ?k9 ?a10 ?l10 ?c10 ?k10 ?a11 ?l11 ?c11 ?k11 ?a12 ?l12 ?c12 ?k12 ?a13 ?l13 ?c13 ?k13 ?a14 ?l14 ?c14 ?k14 ?a15 ?l15 ?c15 ?k15 ?a16 ?l16 ?c16 ?k16 ?z1 ?z2 ?z3 ?z4 ?z5 ?z6 ?z7 ?z8 ?z9
    (case a1 => k_is); (case l1 => k_is); (case c1 => k_is); (case k1 => k_is); (case a2 => k_is); (case l2 => k_is); (case c2 => k_is); (case k2 => k_is)
    (case a3 => k_is); (case l3 => k_is); (case c3 => k_is); (case k3 => k_is); (case a4 => k_is); (case l4 => k_is); (case c4 => k_is); (case k4 => k_is)
    (case a5 => k_is); (case l5 => k_is); (case c5 => k_is); (case k5 => k_is); (case a6 => k_is); (case l6 => k_is); (case c6 => k_is); (case k6 => k_is)
    (case a7 => k_is); (case l7 => k_is); (case c7 => k_is); (case k7 => k_is); (case a8 => k_is); (case l8 => k_is); (case c8 => k_is); (case k8 => k_is)
    (case a9 => k_is); (case l9 => k_is); (case c9 => k_is); (case k9 => k_is); (case a10 => k_is); (case l10 => k_is); (case c10 => k_is); (case k10 => k_is)
    (case a11 => k_is); (case l11 => k_is); (case c11 => k_is); (case k11 => k_is); (case a12 => k_is); (case l12 => k_is); (case c12 => k_is); (case k12 => k_is)
    (case a13 => k_is); (case l13 => k_is); (case c13 => k_is); (case k13 => k_is); (case a14 => k_is); (case l14 => k_is); (case c14 => k_is); (case k14 => k_is)
    (case a15 => k_is); (case l15 => k_is); (case c15 => k_is); (case k15 => k_is); (case a16 => k_is); (case l16 => k_is); (case c16 => k_is); (case k16 => k_is)
    (case z1 => k_is); (case z2 => k_is); (case z3 => k_is); (case z4 => k_is); (case z5 => k_is); (case z6 => k_is); (case z7 => k_is); (case z8 => k_is)
    (case z9 => k_is)
