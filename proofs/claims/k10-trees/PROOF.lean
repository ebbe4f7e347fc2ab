import PyProof.Rows.All
import HandS.TupMul
import HandS.List
import HandS.ForMost
import PyProof.Rows.SumAny
import PyProof.WalkInts
import HandS.DictComp
import HandS.TupAny
import HandS.Deep
import HandS.Flow
import HandS.Defaults
import HandS.Zip
import HandS.NoneIn
import HandS.IsInst
import HandS.Conv
import HandS.Style
import HandS.StrMore
import HandS.Replace
import HandS.Wide
import HandS.WideBits
import HandS.RaiseMore
import HandS.Small
import HandS.SetFor
import PyProof.ListStr
import PyProof.CollectStr
import PyProof.Rows.SortShellAny
import PyProof.StrWalks
import PyProof.TupleIter
import PyProof.EvalArms
import HandS.Walk
import KE.GoesEnum
import HandS.Strs
import HandS.Head0
import HandS.Head1
import HandS.Head2
import HandS.HeadEnd
import HandS.HeadHook1
import HandS.HeadHook2
import PyProof.ReprRoads
import HandS.Ends
import PyProof.CallFns
import PyProof.ReprReads
import KE.SortData
import HandS.Dict
import HandS.More
import PyProof.ReprLen
import PySem.Challenge.RW_webcounts_k10_whole_trees_listed_and_cou
import KE.KStateDown
import Lean
import HandS.Words
import HandS.WordsExc
set_option Elab.async false
set_option linter.all false
set_option maxRecDepth 100000
/-! Own text: t * 1, the sum of a tuple. -/
namespace Ev
open PySem PySem.Spec PyProof.Rows L2
theorem tup_times1 (l : Addr) (items : Array Value) (n : Nat) (dd : Option Addr) (sl : Array (Option Value)) (u : Tok) :
    Meets (Builtin.«tuple.__mul__» ⟨[.ref l, .int 1 u], []⟩) (fun _ R s => s.heap.get? l = some { cls := .type "tuple", dict := dd, data := .seq items n, slots := sl } ∧ R (.ok (.ret (.ref l))) s) :=
  .of_wp fun prog w A R s h => by
    obtain ⟨hp, g, d, tk, os⟩ := s
    obtain ⟨hl, h⟩ := h
    have f1 := AutoSeq1.idx_int
    wp_walk using wpAny_loadPart' hl
    have c1 : (items.isEmpty || (1 : Int) == 1) = true := by simp
    repeat (first
      | (refine wpAny_ite_true (by rw [c1]) ?_; wp_walk using wpAny_loadPart' hl)
      | (refine wpAny_ite_true (decide_eq_true (by rw [c1])) ?_; wp_walk using wpAny_loadPart' hl)
      | (refine wpAny_ite_true (by decide) ?_; wp_walk using wpAny_loadPart' hl)
      | (refine wpAny_ite_false (by decide) ?_; wp_walk using wpAny_loadPart' hl))
    exact ⟨_, rfl, h⟩
section
variable {X : Cx}
def rTup1 (K : PySem.W.Frag) : R2 := fun x y H Q => ∃ l xs, x = .ref l ∧ y = .int 1 ∧ SqT K H l xs ∧ Q (.ref l) H
theorem op_times1 : OpR X (binaryOp .Mult) (rTup1 X.K) := by
  intro pins s σ H x y v u Q I rx ry h
  obtain ⟨l, xs, rfl, rfl, hT, q⟩ := h
  cases rx
  obtain ⟨t, rfl⟩ := ry
  obtain ⟨its, r, ⟨⟨cls, dd, data, sl⟩, ho, hc, n, hd⟩, hs⟩ := I.tuple hT
  simp only at hc hd
  subst hc hd
  refine wpAny_binaryOp_repeat_ref (T := "tuple") (U := "int") (by decide) ⟨_, ho, rfl⟩ (fun s' => typeIs_int s' 1 t) noFill_tuple_mul F.fills_int_mul F.slot_int_rmul repeat_tuple F.slot_int_index.lookup
    (call_meets F.slot_int_rmul (typeIs_int s 1 t) F.entry_int_rmul (F.args_int_rmul_2 _ _) (int_rmul_tuple 1 t l its.toArray n dd sl)
      ⟨ho, rfl, ⟨_, ho, rfl⟩, call_meets F.slot_tuple_mul ⟨_, ho, rfl⟩ F.entry_tuple_mul (F.args_tuple_mul_2 _ _) (tup_times1 l its.toArray n dd sl t) ⟨ho, ?_⟩⟩)
  exact ⟨.ref l, H, I, rfl, q⟩
end
section
variable {prog : Program} {w : World} {A : Around} {E : Value → Shared → Prop} {s : Shared} {l : Addr} {xs : Array (Int × Tok)}
theorem sum_tupG {Q : Value → Shared → Prop} (hh : A.handled = none) (hT : s.heap.IsTuple l (intItems xs))
    (h : ∀ h' tk t', (∀ b o, s.heap.get? b = some o → h'.get? b = some o) → Q (.int (preSum (numAt xs) xs.size) t') { s with heap := h', toks := tk }) : wpAny (model prog w) A (call (.builtin "sum") [.ref l]) Q E s := by
  have lt : l < s.heap.objs.size := by obtain ⟨_, e, _⟩ := hT; exact Heap.lt_size e
  refine call_sum_walkG (wpAny_pyIter_tuple hT ?_)
  refine ⟨_, [_, l], [_], _, _, _, numAt xs, rfl, Walks.tuple (A := A.in1) hh _ l (Nat.ne_of_lt lt) (intItems xs), ⟨⟨_, Heap.get?_push_size _ rfl, rfl, rfl⟩, hT.push _⟩, ?_, (fun _ _ => intItems_at), fun h' tk t' hk => ?_⟩
  · intro c hc
    show c < (s.heap.push _).objs.size
    rw [Heap.size_push]
    rcases List.mem_cons.mp hc with rfl | hc
    · exact Nat.lt_succ_self _
    · rcases List.mem_cons.mp hc with rfl | hc
      · exact Nat.lt_succ_of_lt lt
      · cases hc
  · have z := h h' tk t' fun b o e => by
      refine hk b o (fun hm => ?_) (Heap.get?_push_of_some _ e)
      rcases List.mem_cons.mp hm with e1 | hm
      · exact absurd (e1 ▸ Heap.lt_size e) (Nat.lt_irrefl _)
      · cases hm
    simpa [intItems] using z
end
section
variable {X : Cx}
def rSumT (K : PySem.W.Frag) : List V → Hp → VK → Prop := fun vs H Q => ∃ (a : Addr) (ns : List Int), vs = [V.ref a] ∧ SqT K H a (ns.map V.int) ∧ Q (.int ns.sum) H
theorem cr_sumT (hc : X.calm = true) : CallR X (.builtin "sum") (rSumT X.K) := by
  intro pins s σ H vs us Q I r h
  obtain ⟨a, ns, rfl, hs, q⟩ := h
  obtain ⟨u, rfl, ru⟩ := vals1 r
  cases ru
  obtain ⟨its, rv, pl, hz⟩ := I.tuple hs
  have hi := rv.ints
  obtain ⟨xs, e⟩ := hi.allInts.items
  have hn : numsOf (intItems xs).toList = ns := by rw [← e]; exact hi.numsOf
  rw [nums_intItems] at hn
  obtain ⟨ob, ho, hcl, n, hd⟩ := pl
  refine sum_tupG (xs := xs) (show X.A.handled = none from I.ok.hd hc) ⟨ob, ho, hcl, n, by rw [hd, e]⟩ fun h' tk t' hk => ?_
  refine ⟨.int ns.sum, H, I.kept hk, ⟨t', ?_⟩, q⟩
  rw [preSum_eq, List.take_of_length_le (by simp), hn]
end
section
variable {prog : Program} {w : World} {A : Around} {E : Value → Shared → Prop} {s : Shared} {l : Addr} {xs : Array (Int × Tok)}
theorem tup_old (hT : s.heap.IsTuple l (intItems xs)) {h' : Heap} (hk : ∀ b o, b ∉ [s.heap.objs.size] → (s.heap.push { cls := .type "tuple_iterator", data := .fields #[.ref l, .int 0 0] }).get? b = some o → h'.get? b = some o) :
    ∀ b o, s.heap.get? b = some o → h'.get? b = some o := fun b o e => by
  refine hk b o (fun hm => ?_) (Heap.get?_push_of_some _ e)
  rcases List.mem_cons.mp hm with e1 | hm
  · exact absurd (e1 ▸ Heap.lt_size e) (Nat.lt_irrefl _)
  · cases hm
theorem tup_fp (lt : l < s.heap.objs.size) {o : Obj} : ∀ c ∈ [s.heap.objs.size, l], c < (s.heap.push o).objs.size := by
  intro c hc
  rw [Heap.size_push]
  rcases List.mem_cons.mp hc with rfl | hc
  · exact Nat.lt_succ_self _
  · rcases List.mem_cons.mp hc with rfl | hc
    · exact Nat.lt_succ_of_lt lt
    · cases hc
theorem min_tupG {Q : Value → Shared → Prop} (hh : A.handled = none) (hT : s.heap.IsTuple l (intItems xs)) (hne : 0 < xs.size)
    (h : ∀ v h' tk, (intItems xs)[argBest (fun i j => decide (numAt xs i < numAt xs j)) (xs.size - 1)]? = some v → (∀ b o, s.heap.get? b = some o → h'.get? b = some o) → Q v { s with heap := h', toks := tk }) : wpAny (model prog w) A (call (.builtin "min") [.ref l]) Q E s := by
  have lt : l < s.heap.objs.size := by obtain ⟨_, e, _⟩ := hT; exact Heap.lt_size e
  refine call_min_walk (wpAny_pyIter_tuple hT ?_)
  refine ⟨_, [_, l], [_], _, _, _, _, rfl, Walks.tuple (A := A.in1) hh _ l (Nat.ne_of_lt lt) (intItems xs), ⟨⟨_, Heap.get?_push_size _ rfl, rfl, rfl⟩, hT.push _⟩, tup_fp lt, by simpa [intItems] using hne, CmpOf.ints_lt (numAt xs) (fun _ _ => intItems_at), fun v h' tk hP hk => ?_⟩
  exact h v h' tk (by simpa [intItems] using hP) (tup_old hT hk)
theorem max_tupG {Q : Value → Shared → Prop} (hh : A.handled = none) (hT : s.heap.IsTuple l (intItems xs)) (hne : 0 < xs.size)
    (h : ∀ v h' tk, (intItems xs)[argBest (fun i j => decide (numAt xs i > numAt xs j)) (xs.size - 1)]? = some v → (∀ b o, s.heap.get? b = some o → h'.get? b = some o) → Q v { s with heap := h', toks := tk }) : wpAny (model prog w) A (call (.builtin "max") [.ref l]) Q E s := by
  have lt : l < s.heap.objs.size := by obtain ⟨_, e, _⟩ := hT; exact Heap.lt_size e
  refine call_max_walk (wpAny_pyIter_tuple hT ?_)
  refine ⟨_, [_, l], [_], _, _, _, _, rfl, Walks.tuple (A := A.in1) hh _ l (Nat.ne_of_lt lt) (intItems xs), ⟨⟨_, Heap.get?_push_size _ rfl, rfl, rfl⟩, hT.push _⟩, tup_fp lt, by simpa [intItems] using hne, CmpOf.ints_gt (numAt xs) (fun _ _ => intItems_at), fun v h' tk hP hk => ?_⟩
  exact h v h' tk (by simpa [intItems] using hP) (tup_old hT hk)
end
section
variable {X : Cx}
def rMinT (K : PySem.W.Frag) : List V → Hp → VK → Prop := fun vs H Q => ∃ (a : Addr) (ns : List Int), vs = [V.ref a] ∧ SqT K H a (ns.map V.int) ∧ 0 < ns.length ∧ ∀ m, m ∈ ns → (∀ y, y ∈ ns → m ≤ y) → Q (.int m) H
def rMaxT (K : PySem.W.Frag) : List V → Hp → VK → Prop := fun vs H Q => ∃ (a : Addr) (ns : List Int), vs = [V.ref a] ∧ SqT K H a (ns.map V.int) ∧ 0 < ns.length ∧ ∀ m, m ∈ ns → (∀ y, y ∈ ns → y ≤ m) → Q (.int m) H
theorem cr_minT (hc : X.calm = true) : CallR X (.builtin "min") (rMinT X.K) := by
  intro pins s σ H vs us Q I r h
  obtain ⟨a, ns, rfl, hs, hne, q⟩ := h
  obtain ⟨u, rfl, ru⟩ := vals1 r
  cases ru
  obtain ⟨its, rv, pl, hz⟩ := I.tuple hs
  have hi := rv.ints
  obtain ⟨xs, e⟩ := hi.allInts.items
  have hn : numsOf (intItems xs).toList = ns := by rw [← e]; exact hi.numsOf
  rw [nums_intItems] at hn
  obtain ⟨ob, ho, hcl, n, hd⟩ := pl
  subst hn
  refine min_tupG (xs := xs) (show X.A.handled = none from I.ok.hd hc) ⟨ob, ho, hcl, n, by rw [hd, e]⟩ (by simpa using hne) fun v h' tk hv hk => ?_
  obtain ⟨t, rfl⟩ := intItems_at hv
  obtain ⟨h1, h2⟩ := argBest_lt (numAt xs) (xs.size - 1)
  have hsz : 0 < xs.size := by simpa using hne
  refine ⟨.int _, H, I.kept hk, ⟨_, rfl⟩, q _ ?_ fun a ha => ?_⟩
  · rw [numAt_eq]; exact PySem.getD_mem (by rw [List.length_map, Array.length_toList]; omega)
  · obtain ⟨j, hj, rfl⟩ := mem_getD ha
    rw [List.length_map, Array.length_toList] at hj
    rw [← numAt_eq]; exact h2 j (by omega)
theorem cr_maxT (hc : X.calm = true) : CallR X (.builtin "max") (rMaxT X.K) := by
  intro pins s σ H vs us Q I r h
  obtain ⟨a, ns, rfl, hs, hne, q⟩ := h
  obtain ⟨u, rfl, ru⟩ := vals1 r
  cases ru
  obtain ⟨its, rv, pl, hz⟩ := I.tuple hs
  have hi := rv.ints
  obtain ⟨xs, e⟩ := hi.allInts.items
  have hn : numsOf (intItems xs).toList = ns := by rw [← e]; exact hi.numsOf
  rw [nums_intItems] at hn
  obtain ⟨ob, ho, hcl, n, hd⟩ := pl
  subst hn
  refine max_tupG (xs := xs) (show X.A.handled = none from I.ok.hd hc) ⟨ob, ho, hcl, n, by rw [hd, e]⟩ (by simpa using hne) fun v h' tk hv hk => ?_
  obtain ⟨t, rfl⟩ := intItems_at hv
  obtain ⟨h1, h2⟩ := argBest_gt (numAt xs) (xs.size - 1)
  have hsz : 0 < xs.size := by simpa using hne
  refine ⟨.int _, H, I.kept hk, ⟨_, rfl⟩, q _ ?_ fun a ha => ?_⟩
  · rw [numAt_eq]; exact PySem.getD_mem (by rw [List.length_map, Array.length_toList]; omega)
  · obtain ⟨j, hj, rfl⟩ := mem_getD ha
    rw [List.length_map, Array.length_toList] at hj
    rw [← numAt_eq]; exact h2 j (by omega)
end
end Ev
set_option Elab.async false
set_option linter.all false
/-! Own text: data, cells, and what each piece of syntax computes, as plain functions (no program in sight). -/
namespace Ev
open PySem L2

/-- data: what never changes (scr: the script, a list that is only read) -/
inductive D where
  | non | bl (b : Bool) | int (i : Int) | str (x : Str)
  | lst (xs : List D) | scr (xs : List D) | tup (xs : List D)
  | dct (kvs : List (Key × D)) | dcT (kvs : List (List Key × D)) | dcl (kvs : List (Key × D))
  | ins (c : Str) (fs : List (Str × D))
deriving Inhabited
/-- an object that may change; frz: one that will not any more -/
inductive Cell where
  | lst (xs : List D) | dct (kvs : List (Key × D)) | ins (c : Str) (fs : List (Str × D)) | frz (d : D)
deriving Inhabited
abbrev Sto := List Cell
inductive Val where
  | d (x : D) | cell (k : Nat) | grd (ks : List Nat)
inductive Res where
  | val (v : Val) | new (c : Cell)
abbrev Rho := List (Option Val)
abbrev EvF := Rho → Sto → Option (Res × Sto)
/-- what a def computes -/
abbrev FnF := List Val → Sto → Option (Res × Sto)

@[reducible] def Cell.toD : Cell → D
  | .lst xs => .lst xs
  | .dct kvs => .dct kvs
  | .ins c fs => .ins c fs
  | .frz d => d
def Cell.live : Cell → Bool
  | .frz _ => false
  | _ => true
/-- a result put where it stays -/
@[reducible] def settle : Res → Val
  | .val v => v
  | .new c => .d c.toD
/-- cells frozen, one after the other -/
def frzs : List Nat → Sto → Option (List D × Sto)
  | [], S => some ([], S)
  | k :: ks, S => (match S[k]? with
    | some c => some (c.toD, S.set k (.frz c.toD))
    | none => none : Option (D × Sto)).bind fun (d, S) => (frzs ks S).map fun (ds, S) => (d :: ds, S)
/-- as data; a cell is frozen by it (grd: a list of lists that change, itself never changed) -/
def toD : Val → Sto → Option (D × Sto)
  | .d d, S => some (d, S)
  | .cell k, S => match S[k]? with
    | some c => some (c.toD, S.set k (.frz c.toD))
    | none => none
  | .grd ks, S => (frzs ks S).map fun (ds, S) => (.lst ds, S)
/-- looked at, without freezing -/
def pk : Val → Sto → Option D
  | .d d, _ => some d
  | .cell k, S => S[k]?.map Cell.toD
  | .grd _, _ => none
/-- as an argument: data or a cell -/
@[reducible] def place (cell : Bool) : Res → Sto → Val × Sto
  | .val v, S => (v, S)
  | .new c, S => if cell then (.cell S.length, S ++ [c]) else (.d c.toD, S)

/-- evaluated and settled -/
def eV (f : EvF) (ρ : Rho) (S : Sto) : Option (Val × Sto) := (f ρ S).map fun (r, S) => (settle r, S)
/-- .. as data -/
def eD (f : EvF) (ρ : Rho) (S : Sto) : Option (D × Sto) := (eV f ρ S).bind fun (v, S) => toD v S
/-- .. as an argument -/
def eA (c : Bool) (f : EvF) (ρ : Rho) (S : Sto) : Option (Val × Sto) := (f ρ S).map fun (r, S) => place c r S

/-- a new object, or data -/
inductive O1 where
  | d (x : D) | new (c : Cell)
@[reducible] def O1.res : O1 → Res
  | .d x => .val (.d x)
  | .new c => .new c

/-! ### operators -/
inductive Bop where | add | sub | mul | fdiv | mod | pow
deriving DecidableEq
def bopD : Bop → D → D → Option O1
  | .add, .int i, .int j => some (.d (.int (i + j)))
  | .add, .str i, .str j => if i.length + j.length ≤ sizeLine then some (.d (.str (i ++ j))) else none
  | .add, .lst xs, .lst ys => if xs.length + ys.length ≤ sizeLine then some (.new (.lst (xs ++ ys))) else none
  | .add, .tup xs, .tup ys => if xs.length + ys.length ≤ sizeLine then some (.d (.tup (xs ++ ys))) else none
  | .sub, .int i, .int j => some (.d (.int (i - j)))
  | .mul, .int i, .int j => if ((-(2 ^ 64) < i ∧ i < 2 ^ 64) ∨ (-(2 ^ 64) < j ∧ j < 2 ^ 64)) ∨ i.natAbs.log2 + j.natAbs.log2 < 1000000 then some (.d (.int (i * j))) else none
  | .mul, .lst xs, .int k => if -(2 ^ 63) ≤ k ∧ k < 2 ^ 63 ∧ xs.length * k.toNat ≤ sizeLine then some (.new (.lst (List.replicate k.toNat xs).flatten)) else none
  | .mul, .tup xs, .int k => if xs ≠ [] ∧ 2 ≤ k ∧ k ≤ 1000 ∧ xs.length ≤ 1000 then some (.d (.tup (List.replicate k.toNat xs).flatten)) else if k = 1 then some (.d (.tup xs)) else none
  | .fdiv, .int i, .int j => if (j ≠ 0 ∧ j.natAbs < 1073741824) ∨ (0 < j ∧ j.natAbs.log2 < 9000) then some (.d (.int (i.fdiv j))) else none
  | .mod, .int i, .int j => if j ≠ 0 then some (.d (.int (i.fmod j))) else none
  | .pow, .int i, .int j => if 0 ≤ j ∧ j ≤ 1000000 ∧ i.natAbs < 2 ^ 64 then some (.d (.int (i ^ j.toNat))) else none
  | _, _, _ => none

mutual
/-- as the library's data -/
def toP : D → Option PyData
  | .non => some .none
  | .bl b => some (.bool b)
  | .int i => some (.int i)
  | .str x => some (.str x)
  | .lst xs => (toPs xs).map .list
  | .scr xs => (toPs xs).map .list
  | .tup xs => (toPs xs).map .tuple
  | .dct _ => none
  | .dcT _ => none
  | .dcl _ => none
  | .ins _ _ => none
def toPs : List D → Option (List PyData)
  | [] => some []
  | d :: ds => match toP d, toPs ds with
    | some p, some ps => some (p :: ps)
    | _, _ => none
end

inductive Cop where | eq | ne | lt | le | gt | ge | inn | nin
deriving DecidableEq
/-- equal data (none: not asked of such data) -/
def eqD : D → D → Option Bool
  | .int i, .int j => some (decide (i = j))
  | .str i, .str j => some (decide (i = j))
  | .bl i, .bl j => some (decide (i = j))
  | .non, .non => some true
  | a, b => match toP a, toP b with
    | some p, some q => if SeqAt.shaped p = true ∧ SeqAt.shaped q = true then some (PyData.eqv p q) else none
    | _, _ => none
def flatD : D → Bool
  | .int _ => true
  | .str _ => true
  | _ => false
def eqF : D → D → Bool
  | .int i, .int j => decide (i = j)
  | .str i, .str j => decide (i = j)
  | _, _ => false
def seqOf : D → Option (List D)
  | .lst xs => some xs
  | .scr xs => some xs
  | .tup xs => some xs
  | _ => none
/-- x in a list or a tuple -/
def inL (deep : Bool) (a : D) (xs : List D) : Option Bool := if flatD a = true ∧ xs.all flatD = true then some (xs.any fun y => eqF y a)
  else if deep then match toP a, toPs xs with
    | some p, some qs => if SeqAt.shaped p = true ∧ SeqAt.shaped (.list qs) = true then some (qs.any fun z => PyData.eqv z p) else none
    | _, _ => none
  else none
/-- x in y, data -/
def inD : D → D → Option Bool
  | .str y, .str z => some (!(Builtin.Str.occurrences z y 0 z.length 1).isEmpty)
  | a, .lst xs => inL true a xs
  | a, .tup xs => inL false a xs
  | _, _ => none
def copD : Cop → D → D → Option Bool
  | .eq, a, b => eqD a b
  | .ne, a, b => (eqD a b).map (!·)
  | .lt, .int i, .int j => some (decide (i < j))
  | .le, .int i, .int j => some (decide (i ≤ j))
  | .gt, .int i, .int j => some (decide (j < i))
  | .ge, .int i, .int j => some (decide (j ≤ i))
  | .lt, .str i, .str j => some (decide (i.cps.toList < j.cps.toList))
  | .le, .str i, .str j => some (!decide (j.cps.toList < i.cps.toList))
  | .gt, .str i, .str j => some (decide (j.cps.toList < i.cps.toList))
  | .ge, .str i, .str j => some (!decide (i.cps.toList < j.cps.toList))
  | .inn, a, b => inD a b
  | .nin, a, b => (inD a b).map (!·)
  | _, _, _ => none
def truD : D → Option Bool
  | .non => some false
  | .bl b => some b
  | .int i => some (i != 0)
  | .str y => if y.length ≤ sizeLine then some ((y.length : Int) != 0) else none
  | .lst xs => some (!xs.isEmpty)
  | .scr xs => some (!xs.isEmpty)
  | .tup xs => some (!xs.isEmpty)
  | .dct kvs => some (!kvs.isEmpty)
  | _ => none

/-! ### expressions -/
def fCst (d : D) : EvF := fun _ S => some (.val (.d d), S)
def fVar (i : Nat) : EvF := fun ρ S => match ρ[i]? with
  | some (some v) => some (.val v, S)
  | _ => none
/-- two values, looked at behind both -/
def two (a b : EvF) (ρ : Rho) (S : Sto) : Option ((D × D) × Sto) :=
  (eV a ρ S).bind fun (x, S) => (eV b ρ S).bind fun (y, S) => (pk x S).bind fun dx => (pk y S).map fun dy => ((dx, dy), S)
def one (a : EvF) (ρ : Rho) (S : Sto) : Option (D × Sto) := (eV a ρ S).bind fun (x, S) => (pk x S).map fun dx => (dx, S)
def fBop (o : Bop) (a b : EvF) : EvF := fun ρ S => (two a b ρ S).bind fun (p, S) => (bopD o p.1 p.2).map fun r => (r.res, S)
def fCmp (o : Cop) (a b : EvF) : EvF := fun ρ S => (two a b ρ S).bind fun (p, S) => (copD o p.1 p.2).map fun k => (.val (.d (.bl k)), S)
/-- a test: the truth of a value -/
def tst (a : EvF) (ρ : Rho) (S : Sto) : Option (Bool × Sto) := (one a ρ S).bind fun (x, S) => (truD x).map fun k => (k, S)
def fAnd (a b : EvF) : EvF := fun ρ S => (eV a ρ S).bind fun (x, S) => match x with
  | .d (.bl true) => b ρ S
  | .d (.bl false) => some (.val (.d (.bl false)), S)
  | _ => none
def fOr (a b : EvF) : EvF := fun ρ S => (eV a ρ S).bind fun (x, S) => match x with
  | .d (.bl true) => some (.val (.d (.bl true)), S)
  | .d (.bl false) => b ρ S
  | _ => none
def fNot (a : EvF) : EvF := fun ρ S => (tst a ρ S).map fun (k, S) => (.val (.d (.bl (!k))), S)
def fIte (c a b : EvF) : EvF := fun ρ S => (tst c ρ S).bind fun (k, S) => if k then a ρ S else b ρ S
def isNon : Val → Bool
  | .d .non => true
  | _ => false
def fIsN (neg : Bool) (a : EvF) : EvF := fun ρ S => (eV a ρ S).map fun (x, S) => (.val (.d (.bl (if neg then !isNon x else isNon x))), S)
def fNeg (a : EvF) : EvF := fun ρ S => (eV a ρ S).bind fun (x, S) => match x with
  | .d (.int i) => some (.val (.d (.int (-i))), S)
  | _ => none
def fChain (o o' : Cop) (a b c : EvF) : EvF := fun ρ S =>
  (eV a ρ S).bind fun (x, S) => (eV b ρ S).bind fun (y, S) => (pk x S).bind fun dx => (pk y S).bind fun dy => (copD o dx dy).bind fun k =>
    if k then (eV c ρ S).bind fun (z, S) => (pk y S).bind fun dy => (pk z S).bind fun dz => (copD o' dy dz).map fun k => (.val (.d (.bl k)), S)
    else some (.val (.d (.bl false)), S)
/-- items one after the other, as data -/
def evs : List EvF → Rho → Sto → Option (List D × Sto)
  | [], _, S => some ([], S)
  | e :: es, ρ, S => (eD e ρ S).bind fun (d, S) => (evs es ρ S).map fun (ds, S) => (d :: ds, S)
def fTup (es : List EvF) : EvF := fun ρ S => (evs es ρ S).bind fun (ds, S) => if ds.length ≤ sizeLine then some (.val (.d (.tup ds)), S) else none
def fLst (es : List EvF) : EvF := fun ρ S => (evs es ρ S).bind fun (ds, S) => if ds.length ≤ sizeLine then some (.new (.lst ds), S) else none
/-- arguments -/
def evas : List (Bool × EvF) → Rho → Sto → Option (List Val × Sto)
  | [], _, S => some ([], S)
  | (c, e) :: es, ρ, S => (eA c e ρ S).bind fun (v, S) => (evas es ρ S).map fun (vs, S) => (v :: vs, S)
def idxD : D → D → Option D
  | .str z, .int i => if z.length ≤ sizeLine then (atI z.cps.toList i).map fun c => .str ⟨#[c]⟩ else none
  | .lst xs, .int i => atI xs i
  | .scr xs, .int i => atI xs i
  | .tup xs, .int i => atI xs i
  | _, _ => none
def fIdx (a b : EvF) : EvF := fun ρ S => (two a b ρ S).bind fun (p, S) => (idxD p.1 p.2).map fun d => (.val (.d d), S)
def cutD (xs : List D) (lo hi : Option Int) : List D := (xs.drop (HT.sIx xs.length 0 lo)).take (HT.sIx xs.length xs.length hi - HT.sIx xs.length 0 lo)
def slcD : D → Option Int → Option Int → Option O1
  | .str z, lo, hi => if z.length ≤ sizeLine then some (.d (.str (cutS z lo hi))) else none
  | .lst xs, lo, hi => some (.new (.lst (cutD xs lo hi)))
  | .scr xs, lo, hi => some (.new (.lst (cutD xs lo hi)))
  | .tup xs, lo, hi => some (.d (.tup (cutD xs lo hi)))
  | _, _, _ => none
def part : Option EvF → Rho → Sto → Option (Option Int × Sto)
  | none, _, S => some (none, S)
  | some e, ρ, S => (eV e ρ S).bind fun (x, S) => match x with
    | .d (.int i) => some (some i, S)
    | _ => none
def fSlc (a : EvF) (lo hi : Option EvF) : EvF := fun ρ S => (eV a ρ S).bind fun (x, S) => (part lo ρ S).bind fun (l, S) => (part hi ρ S).bind fun (h, S) =>
  (pk x S).bind fun dx => (slcD dx l h).map fun r => (r.res, S)
def fldD : D → Str → Option D
  | .ins _ fs, f => fs.lookup f
  | _, _ => none
def fFld (a : EvF) (f : Str) : EvF := fun ρ S => (one a ρ S).bind fun (x, S) => (fldD x f).map fun d => (.val (.d d), S)

/-- a call of a def -/
def fCall (fn : FnF) (es : List (Bool × EvF)) : EvF := fun ρ S => (evas es ρ S).bind fun (vs, S) => fn vs S
end Ev
namespace Ev
open PySem L2
/-! ### sorting -/
def ins {α : Type} (le : α → α → Bool) (x : α) : List α → List α
  | [] => [x]
  | y :: ys => if le x y then x :: y :: ys else y :: ins le x ys
def isort {α : Type} (le : α → α → Bool) : List α → List α
  | [] => []
  | x :: xs => ins le x (isort le xs)
def leI (a b : Int) : Bool := decide (a ≤ b)
def leS (a b : Str) : Bool := !decide (b.cps.toList < a.cps.toList)
def intOf : D → Option Int
  | .int i => some i
  | _ => none
def strOf : D → Option Str
  | .str x => some x
  | _ => none
def intsOf : List D → Option (List Int)
  | [] => some []
  | d :: ds => (intOf d).bind fun i => (intsOf ds).map fun is => i :: is
def strsOf : List D → Option (List Str)
  | [] => some []
  | d :: ds => (strOf d).bind fun i => (strsOf ds).map fun is => i :: is
def sortL (ds : List D) : Option (List D) := match intsOf ds with
  | some ns => some ((isort leI ns).map .int)
  | none => (strsOf ds).map fun ss => (isort leS ss).map .str
/-- the signs of a text -/
def signs (z : Str) : List D := z.cps.toList.map fun c => .str ⟨#[c]⟩
def itemsOf : D → Option (List D)
  | .lst xs => some xs
  | .scr xs => some xs
  | .tup xs => some xs
  | .str z => if z.cps.size ≤ sizeLine then some (signs z) else none
  | _ => none
def boolsOf : List D → Option (List Bool)
  | [] => some []
  | .bl b :: ds => (boolsOf ds).map fun bs => b :: bs
  | _ :: _ => none

/-- the least, the greatest of some numbers -/
def leastI : List Int → Option Int
  | [] => none
  | a :: l => some (l.foldl (fun x y => if y < x then y else x) a)
def mostI : List Int → Option Int
  | [] => none
  | a :: l => some (l.foldl (fun x y => if x < y then y else x) a)
inductive Bi where
  | len | abs | int | list | tuple | sorted | sum | any | all | min | max | divmod
deriving DecidableEq
def lenD : D → Option Nat
  | .str z => if z.length ≤ sizeLine then some z.length else none
  | .lst xs => some xs.length
  | .scr xs => some xs.length
  | .tup xs => some xs.length
  | .dct kvs => some kvs.length
  | _ => none
def biD : Bi → List D → Option O1
  | .len, [d] => (lenD d).map fun (n : Nat) => O1.d (.int (n : Int))
  | .abs, [.int i] => some (.d (.int (if i < 0 then -i else i)))
  | .int, [.int i] => some (.d (.int i))
  | .int, [.bl k] => some (.d (.int (if k then 1 else 0)))
  | .list, [.str z] => if z.cps.size ≤ sizeLine then some (.new (.lst (signs z))) else none
  | .list, [d] => (seqOf d).map fun ds => .new (.lst ds)
  | .tuple, [d] => (seqOf d).map fun ds => .d (.tup ds)
  | .sorted, [d] => (itemsOf d).bind fun ds => if ds.length ≤ sizeLine then (sortL ds).map fun r => .new (.lst r) else none
  | .sum, [.lst xs] => (intsOf xs).map fun ns => .d (.int ns.sum)
  | .sum, [.tup xs] => (intsOf xs).map fun ns => .d (.int ns.sum)
  | .any, [.lst xs] => (boolsOf xs).map fun bs => .d (.bl (bs.any id))
  | .all, [.lst xs] => (boolsOf xs).map fun bs => .d (.bl (bs.all id))
  | .min, [.int i, .int j] => some (.d (.int (if j < i then j else i)))
  | .max, [.int i, .int j] => some (.d (.int (if j > i then j else i)))
  | .min, [.str i, .str j] => some (.d (.str (if j.cps.toList < i.cps.toList then j else i)))
  | .max, [.str i, .str j] => some (.d (.str (if i.cps.toList < j.cps.toList then j else i)))
  | .min, [.lst xs] => (intsOf xs).bind fun ns => (leastI ns).map fun m => .d (.int m)
  | .max, [.lst xs] => (intsOf xs).bind fun ns => (mostI ns).map fun m => .d (.int m)
  | .min, [.tup xs] => (intsOf xs).bind fun ns => (leastI ns).map fun m => .d (.int m)
  | .max, [.tup xs] => (intsOf xs).bind fun ns => (mostI ns).map fun m => .d (.int m)
  | .divmod, [.int i, .int j] => if 0 < j ∧ j < 1073741824 then some (.d (.tup [.int (i / j), .int (i % j)])) else none
  | _, _ => none
def pks : List Val → Sto → Option (List D)
  | [], _ => some []
  | v :: vs, S => (pk v S).bind fun d => (pks vs S).map fun ds => d :: ds
def fBi (b : Bi) (es : List EvF) : EvF := fun ρ S => (evas (es.map fun e => (false, e)) ρ S).bind fun (vs, S) => (pks vs S).bind fun ds => (biD b ds).map fun r => (r.res, S)
end Ev
set_option Elab.async false
set_option linter.all false
set_option maxRecDepth 100000
/-! Own text: how data and cells lie in the abstract heap; what an evaluation may change. -/
namespace Ev
open PySem L2

mutual
/-- the value v is the data d, by the part F of the heap that stays -/
inductive RepD (K : PySem.W.Frag) (CL : Str → Option Addr) (F : Hp) : V → D → Prop
  | non : RepD K CL F .non .non
  | bl (b : Bool) : RepD K CL F (.bl b) (.bl b)
  | int (i : Int) : RepD K CL F (.int i) (.int i)
  | str (x : Str) : RepD K CL F (.str x) (.str x)
  | lst {a : Addr} {vs : List V} {ds : List D} : F a = some (.lst vs) → RepL K CL F vs ds → RepD K CL F (.ref a) (.lst ds)
  | scr {a : Addr} {vs : List V} {ds : List D} : SqL K F a vs → RepL K CL F vs ds → RepD K CL F (.ref a) (.scr ds)
  | tup {a : Addr} {vs : List V} {ds : List D} : SqT K F a vs → RepL K CL F vs ds → RepD K CL F (.ref a) (.tup ds)
  | dct {a : Addr} {kvs : List (Key × V)} {ds : List (Key × D)} : F a = some (.dK kvs) → kvs.map (·.1) = ds.map (·.1) → RepL K CL F (kvs.map (·.2)) (ds.map (·.2)) → RepD K CL F (.ref a) (.dct ds)
  | dcT {a : Addr} {kvs : List (List Key × V)} {ds : List (List Key × D)} : F a = some (.dT kvs) → kvs.map (·.1) = ds.map (·.1) → RepL K CL F (kvs.map (·.2)) (ds.map (·.2)) → RepD K CL F (.ref a) (.dcT ds)
  | dcl {a : Addr} {o : Obj} {kvs : List (Key × V)} {ds : List (Key × D)} : F a = some (.frz o (.dK kvs)) → kvs.map (·.1) = ds.map (·.1) → RepL K CL F (kvs.map (·.2)) (ds.map (·.2)) → RepD K CL F (.ref a) (.dcl ds)
  | ins {a C dx : Addr} {c : Str} {fs : List (Str × V)} {ds : List (Str × D)} : F a = some (.ins C dx fs) → CL c = some C → fs.map (·.1) = ds.map (·.1) → RepL K CL F (fs.map (·.2)) (ds.map (·.2)) → RepD K CL F (.ref a) (.ins c ds)
inductive RepL (K : PySem.W.Frag) (CL : Str → Option Addr) (F : Hp) : List V → List D → Prop
  | nil : RepL K CL F [] []
  | cons {v : V} {vs : List V} {d : D} {ds : List D} : RepD K CL F v d → RepL K CL F vs ds → RepL K CL F (v :: vs) (d :: ds)
end

section
variable {K : PySem.W.Frag} {CL : Str → Option Addr} {F F' : Hp}
mutual
theorem RepD.mono (s : Same F F') : ∀ {v : V} {d : D}, RepD K CL F v d → RepD K CL F' v d
  | _, _, .non => .non
  | _, _, .bl b => .bl b
  | _, _, .int i => .int i
  | _, _, .str x => .str x
  | _, _, .lst h r => .lst (s _ _ h) (RepL.mono s r)
  | _, _, .scr h r => .scr (s.seq h) (RepL.mono s r)
  | _, _, .tup h r => .tup (by
      rcases h with (h | ⟨o, h⟩) | h
      · exact .inl (.inl (s _ _ h))
      · exact .inl (.inr ⟨o, s _ _ h⟩)
      · exact .inr h) (RepL.mono s r)
  | _, _, .dct h e r => .dct (s _ _ h) e (RepL.mono s r)
  | _, _, .dcT h e r => .dcT (s _ _ h) e (RepL.mono s r)
  | _, _, .dcl h e r => .dcl (s _ _ h) e (RepL.mono s r)
  | _, _, .ins h c e r => .ins (s _ _ h) c e (RepL.mono s r)
theorem RepL.mono (s : Same F F') : ∀ {vs : List V} {ds : List D}, RepL K CL F vs ds → RepL K CL F' vs ds
  | _, _, .nil => .nil
  | _, _, .cons a b => .cons (RepD.mono s a) (RepL.mono s b)
end
theorem sqT_mono {a : Addr} {xs : List V} (s : Same F F') (h : SqT K F a xs) : SqT K F' a xs := by
  rcases h with (h | ⟨o, h⟩) | h
  · exact .inl (.inl (s _ _ h))
  · exact .inl (.inr ⟨o, s _ _ h⟩)
  · exact .inr h
theorem RepL.length : ∀ {vs : List V} {ds : List D}, RepL K CL F vs ds → vs.length = ds.length
  | _, _, .nil => rfl
  | _, _, .cons _ b => by simp [RepL.length b]
theorem RepL.get : ∀ {vs : List V} {ds : List D} {i : Nat} {d : D}, RepL K CL F vs ds → ds[i]? = some d → ∃ v, vs[i]? = some v ∧ RepD K CL F v d
  | _, _, _, _, .nil, e => by simp at e
  | _, _, 0, _, .cons a _, e => by simp at e; subst e; exact ⟨_, rfl, a⟩
  | _, _, i + 1, d, .cons _ b, e => by
    obtain ⟨v, h1, h2⟩ := RepL.get (i := i) b (by simpa using e)
    exact ⟨v, by simpa using h1, h2⟩
theorem RepL.getV : ∀ {vs : List V} {ds : List D} {i : Nat} {v : V}, RepL K CL F vs ds → vs[i]? = some v → ∃ d, ds[i]? = some d ∧ RepD K CL F v d
  | _, _, _, _, .nil, e => by simp at e
  | _, _, 0, _, .cons a _, e => by simp at e; subst e; exact ⟨_, rfl, a⟩
  | _, _, i + 1, d, .cons _ b, e => by
    obtain ⟨v, h1, h2⟩ := RepL.getV (i := i) b (by simpa using e)
    exact ⟨v, by simpa using h1, h2⟩
theorem RepL.append : ∀ {vs ws : List V} {ds es : List D}, RepL K CL F vs ds → RepL K CL F ws es → RepL K CL F (vs ++ ws) (ds ++ es)
  | _, _, _, _, .nil, r => r
  | _, _, _, _, .cons a b, r => .cons a (RepL.append b r)
theorem RepL.take : ∀ {vs : List V} {ds : List D} (n : Nat), RepL K CL F vs ds → RepL K CL F (vs.take n) (ds.take n)
  | _, _, 0, _ => .nil
  | _, _, _ + 1, .nil => .nil
  | _, _, n + 1, .cons a b => .cons a (RepL.take n b)
theorem RepL.drop : ∀ {vs : List V} {ds : List D} (n : Nat), RepL K CL F vs ds → RepL K CL F (vs.drop n) (ds.drop n)
  | _, _, 0, r => r
  | _, _, _ + 1, .nil => .nil
  | _, _, n + 1, .cons _ b => RepL.drop n b
theorem RepL.set {v : V} {d : D} (r : RepD K CL F v d) : ∀ {vs : List V} {ds : List D} (i : Nat), RepL K CL F vs ds → RepL K CL F (vs.set i v) (ds.set i d)
  | _, _, _, .nil => .nil
  | _, _, 0, .cons _ b => .cons r b
  | _, _, i + 1, .cons a b => .cons a (RepL.set r i b)
theorem RepL.eraseIdx : ∀ {vs : List V} {ds : List D} (i : Nat), RepL K CL F vs ds → RepL K CL F (vs.eraseIdx i) (ds.eraseIdx i)
  | _, _, _, .nil => .nil
  | _, _, 0, .cons _ b => b
  | _, _, i + 1, .cons a b => .cons a (RepL.eraseIdx i b)
theorem RepL.rep {vs : List V} {ds : List D} (r : RepL K CL F vs ds) : ∀ n : Nat, RepL K CL F (List.replicate n vs).flatten (List.replicate n ds).flatten
  | 0 => .nil
  | n + 1 => by rw [List.replicate_succ, List.replicate_succ, List.flatten_cons, List.flatten_cons]; exact r.append (r.rep n)
theorem RepL.reverse {vs : List V} {ds : List D} (r : RepL K CL F vs ds) : RepL K CL F vs.reverse ds.reverse := by
  induction vs generalizing ds with
  | nil => cases r; exact .nil
  | cons v vs ih =>
    cases r with
    | cons a b =>
      rw [List.reverse_cons, List.reverse_cons]
      exact (ih b).append (.cons a .nil)
theorem RepL.emp {vs : List V} {ds : List D} (r : RepL K CL F vs ds) : vs.isEmpty = ds.isEmpty := by cases r <;> rfl
theorem RepL.nilV {vs : List V} (r : RepL K CL F vs []) : vs = [] := by cases r; rfl
theorem RepL.nilD {ds : List D} (r : RepL K CL F [] ds) : ds = [] := by cases r; rfl
theorem RepD.lookup : ∀ {fs : List (Str × V)} {ds : List (Str × D)} {f : Str} {d : D}, fs.map (·.1) = ds.map (·.1) → RepL K CL F (fs.map (·.2)) (ds.map (·.2)) → ds.lookup f = some d → ∃ v, fs.lookup f = some v ∧ RepD K CL F v d
  | [], [], _, _, _, _, e => by simp at e
  | [], _ :: _, _, _, h, _, _ => by simp at h
  | _ :: _, [], _, _, h, _, _ => by simp at h
  | (x, v) :: fs, (y, d0) :: ds, f, d, h, r, e => by
    rw [List.map_cons, List.map_cons] at h r
    obtain ⟨h1, h2⟩ := List.cons.inj h
    cases r with
    | cons a b =>
      have h1 : x = y := h1
      subst h1
      rw [List.lookup_cons] at e ⊢
      cases q : f == x with
      | true => rw [q] at e; cases e; exact ⟨v, rfl, a⟩
      | false => rw [q] at e; exact RepD.lookup h2 b e
theorem RepD.lookupN : ∀ {fs : List (Str × V)} {ds : List (Str × D)} {f : Str}, fs.map (·.1) = ds.map (·.1) → ds.lookup f = none → fs.lookup f = none
  | [], _, _, _, _ => rfl
  | _ :: _, [], _, h, _ => by simp at h
  | (x, v) :: fs, (y, d0) :: ds, f, h, e => by
    rw [List.map_cons, List.map_cons] at h
    obtain ⟨h1, h2⟩ := List.cons.inj h
    have h1 : x = y := h1
    subst h1
    rw [List.lookup_cons] at e ⊢
    cases q : f == x with
    | true => rw [q] at e; cases e
    | false => rw [q] at e; exact RepD.lookupN h2 e
end

/-- the cell's content stands at a, not in the part that stays (frz: in it) -/
def CellOk (K : PySem.W.Frag) (CL : Str → Option Addr) (F H : Hp) (a : Addr) : Cell → Prop
  | .lst ds => F a = none ∧ ∃ vs, H a = some (.lst vs) ∧ RepL K CL F vs ds
  | .dct ds => F a = none ∧ ∃ kvs, H a = some (.dK kvs) ∧ kvs.map (·.1) = ds.map (·.1) ∧ RepL K CL F (kvs.map (·.2)) (ds.map (·.2))
  | .ins c ds => F a = none ∧ ∃ C dx fs, H a = some (.ins C dx fs) ∧ CL c = some C ∧ fs.map (·.1) = ds.map (·.1) ∧ RepL K CL F (fs.map (·.2)) (ds.map (·.2))
  | .frz d => RepD K CL F (.ref a) d

structure Rel (K : PySem.W.Frag) (CL : Str → Option Addr) (F : Hp) (m : List Addr) (S : Sto) (H : Hp) : Prop where
  sub : Same F H
  len : m.length = S.length
  cell : ∀ (k : Nat) (c : Cell) (a : Addr), S[k]? = some c → m[k]? = some a → CellOk K CL F H a c
  trk : ∀ a ∈ m, H a ≠ none
  nd : m.Nodup

/-- what an evaluation may have done -/
structure Ext (F : Hp) (m : List Addr) (H : Hp) (F' : Hp) (m' : List Addr) (H' : Hp) : Prop where
  f : Same F F'
  fn : ∀ a, F a = none → F' a ≠ none → H a = none ∨ a ∈ m
  mm : ∃ l, m' = m ++ l ∧ ∀ a ∈ l, H a = none
  h : ∀ a o, H a = some o → a ∉ m → H' a = some o
  t : ∀ a, H a ≠ none → H' a ≠ none

theorem Ext.refl (F : Hp) (m : List Addr) (H : Hp) : Ext F m H F m H :=
  ⟨fun _ _ h => h, fun _ h h' => absurd h h', ⟨[], by simp, by simp⟩, fun _ _ h _ => h, fun _ h => h⟩
theorem Ext.trans {F F1 F2 H H1 H2 : Hp} {m m1 m2 : List Addr} (a : Ext F m H F1 m1 H1) (b : Ext F1 m1 H1 F2 m2 H2) : Ext F m H F2 m2 H2 := by
  obtain ⟨l1, e1, n1⟩ := a.mm
  obtain ⟨l2, e2, n2⟩ := b.mm
  refine ⟨fun x o h => b.f x o (a.f x o h), fun x h h' => ?_, ⟨l1 ++ l2, by rw [e2, e1, List.append_assoc], fun x hx => ?_⟩, fun x o h hx => ?_, fun x h => b.t x (a.t x h)⟩
  · by_cases q : F1 x = none
    · rcases b.fn x q h' with z | z
      · exact .inl (Classical.byContradiction fun w => a.t x w z)
      · rw [e1] at z
        rcases List.mem_append.mp z with z | z
        · exact .inr z
        · exact .inl (n1 x z)
    · exact a.fn x h q
  · rcases List.mem_append.mp hx with z | z
    · exact n1 x z
    · exact Classical.byContradiction fun w => a.t x w (n2 x z)
  · refine b.h x o (a.h x o h hx) fun z => ?_
    rw [e1] at z
    rcases List.mem_append.mp z with z | z
    · exact hx z
    · rw [n1 x z] at h; cases h

/-- a value's place -/
def RepV (K : PySem.W.Frag) (CL : Str → Option Addr) (F : Hp) (m : List Addr) (v : V) : Val → Prop
  | .d d => RepD K CL F v d
  | .cell k => ∃ a, m[k]? = some a ∧ v = .ref a
  | .grd ks => ∃ (a : Addr) (as : List Addr), v = .ref a ∧ F a = some (.lst (as.map V.ref)) ∧ ks.map (fun k => m[k]?) = as.map some
/-- a result's; H₀: the heap ahead of the evaluation -/
def RepR (K : PySem.W.Frag) (CL : Str → Option Addr) (F : Hp) (m : List Addr) (H₀ H : Hp) (v : V) : Res → Prop
  | .val x => RepV K CL F m v x
  | .new c => ∃ a, v = .ref a ∧ H₀ a = none ∧ a ∉ m ∧ c.live = true ∧ CellOk K CL F H a c
structure RepE (K : PySem.W.Frag) (CL : Str → Option Addr) (F : Hp) (m : List Addr) (σ : St) (ρ : Rho) : Prop where
  len : σ.length = ρ.length
  at_ : ∀ (i : Nat) (x : Val), ρ[i]? = some (some x) → ∃ v, σ[i]? = some (some v) ∧ RepV K CL F m v x

section
variable {K : PySem.W.Frag} {CL : Str → Option Addr} {F F' H H' H₀ : Hp} {m m' : List Addr} {S S' : Sto}
theorem Ext.at_ (e : Ext F m H F' m' H') {k : Nat} {a : Addr} (h : m[k]? = some a) : m'[k]? = some a := by
  obtain ⟨l, rfl, _⟩ := e.mm
  rw [List.getElem?_append_left (List.getElem?_eq_some_iff.mp h).1]
  exact h
theorem RepV.mono (e : Ext F m H F' m' H') {v : V} {x : Val} (r : RepV K CL F m v x) : RepV K CL F' m' v x := by
  cases x with
  | d d => exact RepD.mono e.f r
  | cell k => obtain ⟨a, h, q⟩ := r; exact ⟨a, e.at_ h, q⟩
  | grd ks =>
    obtain ⟨a, as, h, q, z⟩ := r
    refine ⟨a, as, h, e.f _ _ q, ?_⟩
    rw [← z]
    refine List.map_congr_left fun k hk => ?_
    obtain ⟨b, _, hb⟩ := List.mem_map.mp (show m[k]? ∈ as.map some from z ▸ List.mem_map_of_mem hk)
    rw [← hb]
    exact e.at_ hb.symm
theorem RepE.mono (e : Ext F m H F' m' H') {σ : St} {ρ : Rho} (r : RepE K CL F m σ ρ) : RepE K CL F' m' σ ρ :=
  ⟨r.len, fun i x h => let ⟨v, h1, h2⟩ := r.at_ i x h; ⟨v, h1, h2.mono e⟩⟩
theorem RepE.set {σ : St} {ρ : Rho} {v : V} {x : Val} (r : RepE K CL F m σ ρ) (q : RepV K CL F m v x) (i : Nat) : RepE K CL F m (σ.set i (some v)) (ρ.set i (some x)) := by
  refine ⟨by simp [r.len], fun j y h => ?_⟩
  rw [List.getElem?_set] at h
  by_cases e : i = j
  · subst e
    rw [if_pos rfl] at h
    split at h
    · rename_i hl
      cases h
      exact ⟨v, List.getElem?_set_self (by rw [r.len]; exact hl), q⟩
    · cases h
  · rw [if_neg e] at h
    obtain ⟨w, h1, h2⟩ := r.at_ j y h
    exact ⟨w, by rw [List.getElem?_set_ne e]; exact h1, h2⟩
theorem RepE.wipe {σ : St} {ρ : Rho} (r : RepE K CL F m σ ρ) (vs : List Nat) : RepE K CL F m (L2.wipe σ vs) (vs.foldr (fun v ρ => ρ.set v none) ρ) := by
  induction vs with
  | nil => exact r
  | cons i vs ih =>
    show RepE K CL F m ((L2.wipe σ vs).set i none) ((vs.foldr (fun v ρ => ρ.set v none) ρ).set i none)
    refine ⟨by simp [ih.len], fun j y h => ?_⟩
    rw [List.getElem?_set] at h
    by_cases e : i = j
    · subst e
      rw [if_pos rfl] at h
      split at h <;> cases h
    · rw [if_neg e] at h
      obtain ⟨w, h1, h2⟩ := ih.at_ j y h
      exact ⟨w, by rw [List.getElem?_set_ne e]; exact h1, h2⟩
/-- the state grows by a new thing that stays -/
theorem Rel.same (r : Rel K CL F m S H) (s : Same H H') : Rel K CL F m S H' :=
  ⟨fun b o e => s b o (r.sub b o e), r.len, fun k c a h1 h2 => by
    have q := r.cell k c a h1 h2
    cases c with
    | lst ds => obtain ⟨n, vs, e, z⟩ := q; exact ⟨n, vs, s _ _ e, z⟩
    | dct ds => obtain ⟨n, vs, e, z⟩ := q; exact ⟨n, vs, s _ _ e, z⟩
    | ins x ds => obtain ⟨n, C, dx, fs, e, z⟩ := q; exact ⟨n, C, dx, fs, s _ _ e, z⟩
    | frz d => exact q,
   fun a ha z => r.trk a ha (s.free z), r.nd⟩
theorem upd_sameN {p : Addr} {o : HO} (h : H p = none) : Same H (upd H p o) := fun b u e => by rw [upd_ne (ne_of_none e h)]; exact e
theorem upd_ne_none {p a : Addr} {o : HO} (h : H a ≠ none) : upd H p o a ≠ none := by
  by_cases e : a = p
  · subst e; rw [upd_same]; simp
  · rw [upd_ne e]; exact h
theorem CellOk.grow {p : Addr} {o : HO} (hp : H p = none) {a : Addr} {c : Cell} (ha : H a ≠ none) (hF : F p = none) (q : CellOk K CL F H a c) : CellOk K CL (upd F p o) (upd H p o) a c := by
  have ne : a ≠ p := fun e => ha (e ▸ hp)
  have s : Same F (upd F p o) := upd_sameN hF
  cases c with
  | lst ds => obtain ⟨n, vs, e, z⟩ := q; exact ⟨by rw [upd_ne ne]; exact n, vs, by rw [upd_ne ne]; exact e, z.mono s⟩
  | dct ds => obtain ⟨n, vs, e, k, z⟩ := q; exact ⟨by rw [upd_ne ne]; exact n, vs, by rw [upd_ne ne]; exact e, k, z.mono s⟩
  | ins x ds => obtain ⟨n, C, dx, fs, e, k, k2, z⟩ := q; exact ⟨by rw [upd_ne ne]; exact n, C, dx, fs, by rw [upd_ne ne]; exact e, k, k2, z.mono s⟩
  | frz d => exact RepD.mono s q
theorem Rel.out (r : Rel K CL F m S H) {p : Addr} (hp : H p = none) : F p = none := r.sub.free hp
/-- a new object laid, frozen at once -/
theorem Rel.frz (r : Rel K CL F m S H) {p : Addr} {o : HO} (hp : H p = none) : Rel K CL (upd F p o) m S (upd H p o) := by
  refine ⟨fun a u e => ?_, r.len, fun k c a h1 h2 => (r.cell k c a h1 h2).grow hp (r.trk a (List.mem_of_getElem? h2)) (r.out hp), fun a ha => upd_ne_none (r.trk a ha), r.nd⟩
  by_cases q : a = p
  · subst q; rw [upd_same] at e ⊢; exact e
  · rw [upd_ne q] at e ⊢; exact r.sub a u e
theorem Ext.frz {p : Addr} {o : HO} (hp : H p = none) (hF : F p = none) : Ext F m H (upd F p o) m (upd H p o) := by
  refine ⟨upd_sameN hF, fun a h h' => ?_, ⟨[], by simp, by simp⟩, fun a u h _ => upd_sameN hp a u h, fun a h => upd_ne_none h⟩
  by_cases q : a = p
  · subst q; exact .inl hp
  · rw [upd_ne q] at h'; exact absurd h h'
/-- a new object laid, neither frozen nor a cell yet -/
theorem Ext.lay {p : Addr} {o : HO} (hp : H p = none) : Ext F m H F m (upd H p o) :=
  ⟨fun _ _ h => h, fun _ h h' => absurd h h', ⟨[], by simp, by simp⟩, fun a u h _ => upd_sameN hp a u h, fun a h => upd_ne_none h⟩
def objOf (H : Hp) (a : Addr) : HO := (H a).getD (.lst [])
theorem CellOk.tracked {a : Addr} {c : Cell} (hl : c.live = true) (q : CellOk K CL F H a c) : F a = Option.none ∧ ∃ o, H a = some o ∧ RepD K CL (upd F a o) (.ref a) c.toD := by
  cases c with
  | lst ds => obtain ⟨n, vs, e, z⟩ := q; exact ⟨n, _, e, .lst upd_same (z.mono (upd_sameN n))⟩
  | dct ds => obtain ⟨n, vs, e, k, z⟩ := q; exact ⟨n, _, e, .dct upd_same k (z.mono (upd_sameN n))⟩
  | ins x ds => obtain ⟨n, C, dx, fs, e, k, k2, z⟩ := q; exact ⟨n, _, e, .ins upd_same k k2 (z.mono (upd_sameN n))⟩
  | frz d => cases hl
theorem CellOk.monoF {p a : Addr} {o : HO} {c : Cell} (hF : F p = Option.none) (ne : a ≠ p) (q : CellOk K CL F H a c) : CellOk K CL (upd F p o) H a c := by
  have s : Same F (upd F p o) := upd_sameN hF
  cases c with
  | lst ds => obtain ⟨n, vs, e, z⟩ := q; exact ⟨by rw [upd_ne ne]; exact n, vs, e, z.mono s⟩
  | dct ds => obtain ⟨n, vs, e, k, z⟩ := q; exact ⟨by rw [upd_ne ne]; exact n, vs, e, k, z.mono s⟩
  | ins x ds => obtain ⟨n, C, dx, fs, e, k, k2, z⟩ := q; exact ⟨by rw [upd_ne ne]; exact n, C, dx, fs, e, k, k2, z.mono s⟩
  | frz d => exact RepD.mono s q
/-- an object outside the cells is frozen -/
theorem Rel.frzAt (r : Rel K CL F m S H) {a : Addr} {o : HO} (hF : F a = Option.none) (hH : H a = some o) (hm : a ∉ m) : Rel K CL (upd F a o) m S H := by
  refine ⟨fun b u e => ?_, r.len, fun k c b h1 h2 => (r.cell k c b h1 h2).monoF hF fun z => hm (z ▸ List.mem_of_getElem? h2), r.trk, r.nd⟩
  by_cases q : b = a
  · subst q; rw [upd_same] at e; rw [hH]; exact e
  · rw [upd_ne q] at e; exact r.sub b u e
/-- a cell is frozen -/
theorem Rel.frzC (r : Rel K CL F m S H) {k : Nat} {a : Addr} {c : Cell} (hk : S[k]? = some c) (hm : m[k]? = some a) (hl : c.live = true) :
    ∃ o, H a = some o ∧ F a = Option.none ∧ RepD K CL (upd F a o) (.ref a) c.toD ∧ Rel K CL (upd F a o) m (S.set k (.frz c.toD)) H := by
  obtain ⟨n, o, e, q⟩ := (r.cell k c a hk hm).tracked hl
  refine ⟨o, e, n, q, fun b u z => ?_, by simp [r.len], fun j c' b h1 h2 => ?_, r.trk, r.nd⟩
  · by_cases w : b = a
    · subst w; rw [upd_same] at z; rw [e]; exact z
    · rw [upd_ne w] at z; exact r.sub b u z
  · rw [List.getElem?_set] at h1
    by_cases w : k = j
    · subst w
      rw [if_pos rfl] at h1
      split at h1
      · cases h1
        rw [hm] at h2; cases h2
        exact q
      · cases h1
    · rw [if_neg w] at h1
      refine (r.cell j c' b h1 h2).monoF n fun z => w ?_
      subst z
      exact (List.getElem?_inj (List.getElem?_eq_some_iff.mp hm).1 r.nd).mp (hm.trans h2.symm)
theorem Ext.frzC {a : Addr} {o : HO} (hF : F a = Option.none) (hm : a ∈ m) : Ext F m H (upd F a o) m H := by
  refine ⟨upd_sameN hF, fun b h h' => ?_, ⟨[], by simp, by simp⟩, fun b u h _ => h, fun b h => h⟩
  by_cases q : b = a
  · subst q; exact .inr hm
  · rw [upd_ne q] at h'; exact absurd h h'
theorem Ext.frzN {a : Addr} {o : HO} (_ : F' a = Option.none) (h0 : H₀ a = Option.none) (e : Ext F m H₀ F' m' H') (hF' : F' a = Option.none) : Ext F m H₀ (upd F' a o) m' H' := by
  refine ⟨e.f.trans (upd_sameN hF'), fun b h h' => ?_, e.mm, e.h, e.t⟩
  by_cases q : b = a
  · subst q; exact .inl h0
  · rw [upd_ne q] at h'; exact e.fn b h h'
/-- a new object becomes a cell -/
theorem Rel.push (r : Rel K CL F m S H) {a : Addr} {c : Cell} (q : CellOk K CL F H a c) (ha : H a ≠ Option.none) (hm : a ∉ m) : Rel K CL F (m ++ [a]) (S ++ [c]) H := by
  refine ⟨r.sub, by simp [r.len], fun k c' b h1 h2 => ?_, fun b hb => ?_, ?_⟩
  · by_cases w : k < S.length
    · rw [List.getElem?_append_left w] at h1
      rw [List.getElem?_append_left (by rw [r.len]; exact w)] at h2
      exact r.cell k c' b h1 h2
    · rw [List.getElem?_append_right (by omega)] at h1
      rw [List.getElem?_append_right (by rw [r.len]; omega)] at h2
      rw [r.len] at h2
      cases e : k - S.length with
      | zero => rw [e] at h1 h2; cases h1; cases h2; exact q
      | succ n => rw [e] at h1; cases h1
  · rcases List.mem_append.mp hb with z | z
    · exact r.trk b z
    · rw [List.mem_singleton.mp z]; exact ha
  · rw [List.nodup_append]
    exact ⟨r.nd, by simp, fun b hb c hc e => hm (by rw [List.mem_singleton.mp hc] at e; exact e ▸ hb)⟩
theorem Ext.push {a : Addr} (h0 : H₀ a = Option.none) (e : Ext F m H₀ F' m' H') : Ext F m H₀ F' (m' ++ [a]) H' := by
  obtain ⟨l, e1, n⟩ := e.mm
  exact ⟨e.f, e.fn, ⟨l ++ [a], by rw [e1, List.append_assoc], fun b hb => (List.mem_append.mp hb).elim (n b) fun z => by rw [List.mem_singleton.mp z]; exact h0⟩, e.h, e.t⟩
theorem CellOk.ne_none {a : Addr} {c : Cell} (hl : c.live = true) (q : CellOk K CL F H a c) : H a ≠ Option.none := by
  obtain ⟨_, o, e, _⟩ := q.tracked hl
  rw [e]; simp
end
end Ev
set_option Elab.async false
set_option linter.all false
set_option maxRecDepth 100000
/-! Own text: the rules of expressions. -/
namespace Ev
open PySem PySem.Spec PyProof.Rows L2

/-- like RepD, the object itself by the whole heap -/
def RepT (K : PySem.W.Frag) (CL : Str → Option Addr) (F H : Hp) (v : V) : D → Prop
  | .lst ds => ∃ a vs, v = .ref a ∧ H a = some (.lst vs) ∧ RepL K CL F vs ds
  | .dct ds => ∃ a kvs, v = .ref a ∧ H a = some (.dK kvs) ∧ kvs.map (·.1) = ds.map (·.1) ∧ RepL K CL F (kvs.map (·.2)) (ds.map (·.2))
  | .ins c ds => ∃ a C dx fs, v = .ref a ∧ H a = some (.ins C dx fs) ∧ CL c = some C ∧ fs.map (·.1) = ds.map (·.1) ∧ RepL K CL F (fs.map (·.2)) (ds.map (·.2))
  | d => RepD K CL F v d
section
variable {K : PySem.W.Frag} {CL : Str → Option Addr} {F F' H H' H₀ : Hp} {m m' : List Addr} {S S' : Sto}
theorem RepD.top {v : V} {d : D} (s : Same F H) (r : RepD K CL F v d) : RepT K CL F H v d := by
  cases r with
  | lst h q => exact ⟨_, _, rfl, s _ _ h, q⟩
  | dct h e q => exact ⟨_, _, rfl, s _ _ h, e, q⟩
  | ins h c e q => exact ⟨_, _, _, _, rfl, s _ _ h, c, e, q⟩
  | non => exact .non
  | bl b => exact .bl b
  | int i => exact .int i
  | str x => exact .str x
  | scr h q => exact .scr h q
  | tup h q => exact .tup h q
  | dcT h e q => exact .dcT h e q
  | dcl h e q => exact .dcl h e q
theorem pk_ok (r : Rel K CL F m S H) {v : V} {x : Val} {d : D} (q : RepV K CL F m v x) (h : pk x S = some d) : RepT K CL F H v d := by
  cases x with
  | d d' =>
    cases h
    exact RepD.top r.sub q
  | cell k =>
    obtain ⟨a, e, rfl⟩ := q
    have h : S[k]?.map Cell.toD = some d := h
    cases hk : S[k]? with
    | none => rw [hk] at h; cases h
    | some c =>
      rw [hk] at h
      cases h
      have z := r.cell k c a hk e
      cases c with
      | lst ds => obtain ⟨_, vs, h1, h2⟩ := z; exact ⟨a, vs, rfl, h1, h2⟩
      | dct ds => obtain ⟨_, vs, h1, h2, h3⟩ := z; exact ⟨a, vs, rfl, h1, h2, h3⟩
      | ins c ds => obtain ⟨_, C, dx, fs, h1, h2, h3, h4⟩ := z; exact ⟨a, C, dx, fs, rfl, h1, h2, h3, h4⟩
      | frz d => exact RepD.top r.sub z
  | grd ks => cases h
theorem map_some' {α β : Type} {o : Option α} {g : α → β} {b : β} (h : o.map g = some b) : ∃ a, o = some a ∧ g a = b := by
  cases o with
  | none => cases h
  | some a => exact ⟨a, rfl, by cases h; rfl⟩
theorem bind_some' {α β : Type} {o : Option α} {g : α → Option β} {b : β} (h : o.bind g = some b) : ∃ a, o = some a ∧ g a = some b := by
  cases o with
  | none => cases h
  | some a => exact ⟨a, rfl, h⟩
/-- a cell is frozen -/
theorem toC_ok (r : Rel K CL F m S H) {v : V} {k : Nat} {d : D} (q : RepV K CL F m v (.cell k)) (h : toD (.cell k) S = some (d, S')) :
    ∃ F', Ext F m H F' m H ∧ Rel K CL F' m S' H ∧ RepD K CL F' v d := by
  obtain ⟨a, e, rfl⟩ := q
  have h : (match S[k]? with
    | some c => some (c.toD, S.set k (.frz c.toD))
    | none => none) = some (d, S') := h
  cases hk : S[k]? with
  | none => rw [hk] at h; cases h
  | some c =>
    rw [hk] at h
    cases h
    by_cases hl : c.live = true
    · obtain ⟨o, h1, h2, h3, h4⟩ := r.frzC hk e hl
      exact ⟨_, Ext.frzC h2 (List.mem_of_getElem? e), h4, h3⟩
    · cases c with
      | frz d =>
        have : S.set k (.frz (Cell.toD (.frz d))) = S := by
          show S.set k (.frz d) = S
          obtain ⟨hlt, e2⟩ := List.getElem?_eq_some_iff.mp hk
          rw [← e2]
          exact List.set_getElem_self hlt
        rw [this]
        exact ⟨F, Ext.refl .., r, r.cell k _ a hk e⟩
      | lst _ => exact absurd rfl hl
      | dct _ => exact absurd rfl hl
      | ins _ _ => exact absurd rfl hl
theorem frzs_ok {K : PySem.W.Frag} {CL : Str → Option Addr} {H : Hp} {m : List Addr} : ∀ {ks : List Nat} {as : List Addr} {F : Hp} {S S' : Sto} {ds : List D}, Rel K CL F m S H → ks.map (fun k => m[k]?) = as.map some → frzs ks S = some (ds, S') →
    ∃ F', Ext F m H F' m H ∧ Rel K CL F' m S' H ∧ RepL K CL F' (as.map V.ref) ds
  | [], [], F, S, S', ds, r, _, e => by cases e; exact ⟨F, Ext.refl .., r, .nil⟩
  | [], _ :: _, _, _, _, _, _, z, _ => by cases z
  | _ :: _, [], _, _, _, _, _, z, _ => by cases z
  | k :: ks, a :: as, F, S, S', ds, r, z, e => by
    rw [List.map_cons, List.map_cons] at z
    obtain ⟨z1, z2⟩ := List.cons.inj z
    obtain ⟨⟨d, S1⟩, e1, e⟩ := bind_some' e
    obtain ⟨⟨ds', S2⟩, e2, e⟩ := map_some' e
    cases e
    obtain ⟨F1, x1, r1, q1⟩ := toC_ok (k := k) r ⟨a, z1, rfl⟩ e1
    obtain ⟨F2, x2, r2, q2⟩ := frzs_ok r1 z2 e2
    exact ⟨F2, x1.trans x2, r2, .cons (RepD.mono x2.f q1) q2⟩
/-- toD: a cell is frozen by it -/
theorem toD_ok {K : PySem.W.Frag} {CL : Str → Option Addr} {F H : Hp} {m : List Addr} {S S' : Sto} (r : Rel K CL F m S H) {v : V} {x : Val} {d : D} (q : RepV K CL F m v x) (h : toD x S = some (d, S')) :
    ∃ F', Ext F m H F' m H ∧ Rel K CL F' m S' H ∧ RepD K CL F' v d := by
  cases x with
  | d d' =>
    cases h
    exact ⟨F, Ext.refl .., r, q⟩
  | cell k => exact toC_ok r q h
  | grd ks =>
    obtain ⟨a, as, rfl, ha, z⟩ := q
    obtain ⟨⟨ds, S1⟩, e1, e⟩ := map_some' h
    cases e
    obtain ⟨F1, x1, r1, q1⟩ := frzs_ok r z e1
    exact ⟨F1, x1, r1, .lst (x1.f _ _ ha) q1⟩
/-- a result is settled -/
theorem settle_ok (e : Ext F m H₀ F' m' H') (r : Rel K CL F' m' S' H') {v : V} {x : Res} (q : RepR K CL F' m' H₀ H' v x) :
    ∃ F2, Ext F m H₀ F2 m' H' ∧ Rel K CL F2 m' S' H' ∧ RepV K CL F2 m' v (settle x) := by
  cases x with
  | val v => exact ⟨F', e, r, q⟩
  | new c =>
    obtain ⟨a, rfl, h0, hm, hl, z⟩ := q
    obtain ⟨n, o, h1, h2⟩ := z.tracked hl
    exact ⟨upd F' a o, Ext.frzN n h0 e n, r.frzAt n h1 hm, h2⟩
theorem place_ok {c : Bool} (e : Ext F m H₀ F' m' H') (r : Rel K CL F' m' S' H') {v : V} {x : Res} (q : RepR K CL F' m' H₀ H' v x) :
    ∃ F2 m2, Ext F m H₀ F2 m2 H' ∧ Rel K CL F2 m2 (place c x S').2 H' ∧ RepV K CL F2 m2 v (place c x S').1 := by
  cases x with
  | val v => exact ⟨F', m', e, r, q⟩
  | new c' =>
    cases c with
    | false =>
      obtain ⟨F2, h1, h2, h3⟩ := settle_ok e r q
      exact ⟨F2, m', h1, h2, h3⟩
    | true =>
      obtain ⟨a, rfl, h0, hm, hl, z⟩ := q
      refine ⟨F', m' ++ [a], e.push h0, r.push z (z.ne_none hl) hm, a, ?_, rfl⟩
      rw [← r.len, List.getElem?_append_right (Nat.le_refl _), Nat.sub_self]
      rfl
end

section
variable (K : PySem.W.Frag) (CL : Str → Option Addr)
/-- an expression computes f -/
def tF (f : EvF) : TE := fun σ H Q => ∃ F m S ρ r S', Rel K CL F m S H ∧ RepE K CL F m σ ρ ∧ f ρ S = some (r, S') ∧
  ∀ v F' m' H', Ext F m H F' m' H' → Rel K CL F' m' S' H' → RepR K CL F' m' H H' v r → Q v H'
/-- .. settled -/
def tV (f : EvF) : TE := fun σ H Q => ∃ F m S ρ x S', Rel K CL F m S H ∧ RepE K CL F m σ ρ ∧ eV f ρ S = some (x, S') ∧
  ∀ v F' m' H', Ext F m H F' m' H' → Rel K CL F' m' S' H' → RepV K CL F' m' v x → Q v H'
def tD (f : EvF) : TE := fun σ H Q => ∃ F m S ρ d S', Rel K CL F m S H ∧ RepE K CL F m σ ρ ∧ eD f ρ S = some (d, S') ∧
  ∀ v F' m' H', Ext F m H F' m' H' → Rel K CL F' m' S' H' → RepD K CL F' v d → Q v H'
def tAr (c : Bool) (f : EvF) : TE := fun σ H Q => ∃ F m S ρ x S', Rel K CL F m S H ∧ RepE K CL F m σ ρ ∧ eA c f ρ S = some (x, S') ∧
  ∀ v F' m' H', Ext F m H F' m' H' → Rel K CL F' m' S' H' → RepV K CL F' m' v x → Q v H'
/-- a test -/
def tT (f : EvF) : TT := fun σ H Q => ∃ F m S ρ k S', Rel K CL F m S H ∧ RepE K CL F m σ ρ ∧ tst f ρ S = some (k, S') ∧
  ∀ F' m' H', Ext F m H F' m' H' → Rel K CL F' m' S' H' → Q k H'
end
section
variable {X : Cx} {CL : Str → Option Addr} {e : Expr} {f : EvF}
theorem PEwk {t t' : TE} (h : PE X e t) (w : ∀ σ H Q, t' σ H Q → t σ H Q) : PE X e t' := ⟨fun pins s σ H Q I q => h.run pins s σ H Q I (w σ H Q q)⟩
theorem PTwk {t t' : TT} (h : PT X e t) (w : ∀ σ H Q, t' σ H Q → t σ H Q) : PT X e t' := ⟨fun pins s σ H Q I q => h.run pins s σ H Q I (w σ H Q q)⟩
theorem map_some {α β : Type} {o : Option α} {g : α → β} {b : β} (h : o.map g = some b) : ∃ a, o = some a ∧ g a = b := by
  cases o with
  | none => cases h
  | some a => exact ⟨a, rfl, by cases h; rfl⟩
theorem bind_some {α β : Type} {o : Option α} {g : α → Option β} {b : β} (h : o.bind g = some b) : ∃ a, o = some a ∧ g a = some b := by
  cases o with
  | none => cases h
  | some a => exact ⟨a, rfl, h⟩
theorem tV_tF {σ : L2.St} {H : Hp} {Q : VK} (h : tV X.K CL f σ H Q) : tF X.K CL f σ H Q := by
  obtain ⟨F, m, S, ρ, x, S', r, q, e, k⟩ := h
  obtain ⟨⟨y, S1⟩, e1, e2⟩ := map_some e
  cases e2
  exact ⟨F, m, S, ρ, y, _, r, q, e1, fun v F' m' H' x1 x2 x3 => let ⟨F2, y1, y2, y3⟩ := settle_ok x1 x2 x3; k v F2 m' H' y1 y2 y3⟩
theorem tAr_tF {c : Bool} {σ : L2.St} {H : Hp} {Q : VK} (h : tAr X.K CL c f σ H Q) : tF X.K CL f σ H Q := by
  obtain ⟨F, m, S, ρ, x, S', r, q, e, k⟩ := h
  obtain ⟨⟨y, S1⟩, e1, e2⟩ := map_some e
  have e2 : place c y S1 = (x, S') := e2
  refine ⟨F, m, S, ρ, y, S1, r, q, e1, fun v F' m' H' x1 x2 x3 => ?_⟩
  obtain ⟨F2, m2, y1, y2, y3⟩ := place_ok (c := c) x1 x2 x3
  rw [e2] at y2 y3
  exact k v F2 m2 H' y1 y2 y3
theorem tD_tV {σ : L2.St} {H : Hp} {Q : VK} (h : tD X.K CL f σ H Q) : tV X.K CL f σ H Q := by
  obtain ⟨F, m, S, ρ, d, S', r, q, e, k⟩ := h
  obtain ⟨⟨x, S1⟩, e1, e2⟩ := bind_some e
  refine ⟨F, m, S, ρ, x, S1, r, q, e1, fun v F' m' H' x1 x2 x3 => ?_⟩
  obtain ⟨F2, y1, y2, y3⟩ := toD_ok x2 x3 e2
  exact k v F2 m' H' (x1.trans y1) y2 y3
theorem _root_.L2.PE.v (h : PE X e (tF X.K CL f)) : PE X e (tV X.K CL f) := PEwk h fun _ _ _ => tV_tF
theorem _root_.L2.PE.a (h : PE X e (tF X.K CL f)) (c : Bool) : PE X e (tAr X.K CL c f) := PEwk h fun _ _ _ => tAr_tF
theorem _root_.L2.PE.dd (h : PE X e (tF X.K CL f)) : PE X e (tD X.K CL f) := PEwk h fun _ _ _ q => tV_tF (tD_tV q)
end
end Ev
set_option Elab.async false
set_option linter.all false
set_option maxRecDepth 100000
/-! Own text: operators, comparisons, truth, subscripts by the data. -/
namespace Ev
open PySem PySem.Spec PyProof.Rows L2

section
variable (K : PySem.W.Frag) (CL : Str → Option Addr)
/-- what follows a step whose result is r -/
def Then (F : Hp) (m : List Addr) (S : Sto) (H : Hp) (r : Res) (Q : VK) : Prop :=
  ∀ v F' m' H', Ext F m H F' m' H' → Rel K CL F' m' S H' → RepR K CL F' m' H H' v r → Q v H'
def rB (o : Bop) : R2 := fun x y H Q => ∃ F m S a b r, Rel K CL F m S H ∧ RepT K CL F H x a ∧ RepT K CL F H y b ∧ bopD o a b = some r ∧ Then K CL F m S H r.res Q
def rC (o : Cop) : R2 := fun x y H Q => ∃ F m S a b k, Rel K CL F m S H ∧ RepT K CL F H x a ∧ RepT K CL F H y b ∧ copD o a b = some k ∧ Q (.bl k) H
end
def bopOf : Bop → Operator
  | .add => .Add
  | .sub => .Sub
  | .mul => .Mult
  | .fdiv => .FloorDiv
  | .mod => .Mod
  | .pow => .Pow
def copOf : Cop → CmpOp
  | .eq => .Eq
  | .ne => .NotEq
  | .lt => .Lt
  | .le => .LtE
  | .gt => .Gt
  | .ge => .GtE
  | .inn => .In
  | .nin => .NotIn
section
variable {K : PySem.W.Frag} {CL : Str → Option Addr} {F F' H H' H₀ : Hp} {m m' : List Addr} {S S' : Sto} {Q : VK}
theorem Then.d {d : D} {v : V} (h : Then K CL F m S H (.val (.d d)) Q) (r : Rel K CL F m S H) (q : RepD K CL F v d) : Q v H := h v F m H (Ext.refl ..) r q
theorem Then.mono {F1 : Hp} {m1 : List Addr} {H1 : Hp} {r : Res} (e : Ext F m H F1 m1 H1) (h : Then K CL F m S H r Q) : Then K CL F1 m1 S H1 r Q := fun v F' m' H' e' r' q => by
  refine h v F' m' H' (e.trans e') r' ?_
  cases r with
  | val x => exact q
  | new c =>
    obtain ⟨a, e1, h0, rest⟩ := q
    exact ⟨a, e1, Classical.byContradiction fun z => e.t a z h0, rest⟩
/-- a new list, tuple, dict -/
theorem Then.lst {vs : List V} {ds : List D} (h : Then K CL F m S H (.new (.lst ds)) Q) (r : Rel K CL F m S H) (q : RepL K CL F vs ds) {p : Addr} (hp : H p = none) : Q (.ref p) (upd H p (.lst vs)) :=
  h _ F m _ (Ext.lay hp) (r.same (upd_sameN hp)) ⟨p, rfl, hp, fun z => r.trk p z hp, rfl, r.out hp, vs, upd_same, q⟩
theorem Then.tup {vs : List V} {ds : List D} (h : Then K CL F m S H (.val (.d (.tup ds))) Q) (r : Rel K CL F m S H) (q : RepL K CL F vs ds) {p : Addr} (hp : H p = none) : Q (.ref p) (upd H p (.tup vs)) :=
  h _ _ m _ (Ext.frz hp (r.out hp)) (r.frz hp) (.tup (.inl (.inl upd_same)) (q.mono (upd_sameN (r.out hp))))
theorem Then.dct {kvs : List (Key × V)} {ds : List (Key × D)} (h : Then K CL F m S H (.new (.dct ds)) Q) (r : Rel K CL F m S H) (e : kvs.map (·.1) = ds.map (·.1)) (q : RepL K CL F (kvs.map (·.2)) (ds.map (·.2))) {p : Addr} (hp : H p = none) :
    Q (.ref p) (upd H p (.dK kvs)) :=
  h _ F m _ (Ext.lay hp) (r.same (upd_sameN hp)) ⟨p, rfl, hp, fun z => r.trk p z hp, rfl, r.out hp, kvs, upd_same, e, q⟩

theorem RepT.int {v : V} {i : Int} (h : RepT K CL F H v (.int i)) : v = .int i := by cases h; rfl
theorem RepT.str {v : V} {i : Str} (h : RepT K CL F H v (.str i)) : v = .str i := by cases h; rfl
theorem RepT.bl {v : V} {i : Bool} (h : RepT K CL F H v (.bl i)) : v = .bl i := by cases h; rfl
theorem RepT.non {v : V} (h : RepT K CL F H v .non) : v = .non := by cases h; rfl
theorem RepT.tup {v : V} {ds : List D} (s : Same F H) (h : RepT K CL F H v (.tup ds)) : ∃ a vs, v = .ref a ∧ SqT K H a vs ∧ RepL K CL F vs ds := by
  cases h with
  | tup a b => exact ⟨_, _, rfl, sqT_mono s a, b⟩
theorem RepT.scr {v : V} {ds : List D} (s : Same F H) (h : RepT K CL F H v (.scr ds)) : ∃ a vs, v = .ref a ∧ SqL K H a vs ∧ RepL K CL F vs ds := by
  cases h with
  | scr a b => exact ⟨_, _, rfl, s.seq a, b⟩
/-- a sequence of data, read -/
theorem RepT.seq {v : V} {d : D} {ds : List D} (s : Same F H) (h : RepT K CL F H v d) (e : seqOf d = some ds) : ∃ a vs, v = .ref a ∧ (SqL K H a vs ∨ SqT K H a vs) ∧ RepL K CL F vs ds := by
  cases d with
  | lst xs => cases e; obtain ⟨a, vs, rfl, h1, h2⟩ := h; exact ⟨a, vs, rfl, .inl (SqL.of h1), h2⟩
  | scr xs => cases e; obtain ⟨a, vs, rfl, h1, h2⟩ := RepT.scr s h; exact ⟨a, vs, rfl, .inl h1, h2⟩
  | tup xs => cases e; obtain ⟨a, vs, rfl, h1, h2⟩ := RepT.tup s h; exact ⟨a, vs, rfl, .inr h1, h2⟩
  | _ => cases e
mutual
theorem RepD.dp (s : Same F H) : ∀ {d : D} {v : V} {p : PyData}, RepD K CL F v d → toP d = some p → Dp K H v p
  | .non, _, _, .non, e => by cases e; exact .non
  | .bl _, _, _, .bl b, e => by cases e; exact .bl b
  | .int _, _, _, .int i, e => by cases e; exact .int i
  | .str _, _, _, .str x, e => by cases e; exact .str x
  | .lst ds, _, p, .lst h r, e => by
    obtain ⟨ps, e1, rfl⟩ := map_some (show (toPs ds).map PyData.list = some p by simpa [toP] using e)
    exact .lst (SqL.of (s _ _ h)) (RepL.dp s r e1)
  | .scr ds, _, p, .scr h r, e => by
    obtain ⟨ps, e1, rfl⟩ := map_some (show (toPs ds).map PyData.list = some p by simpa [toP] using e)
    exact .lst (s.seq h) (RepL.dp s r e1)
  | .tup ds, _, p, .tup h r, e => by
    obtain ⟨ps, e1, rfl⟩ := map_some (show (toPs ds).map PyData.tuple = some p by simpa [toP] using e)
    exact .tup (sqT_mono s h) (RepL.dp s r e1)
  | .dct _, _, _, _, e => by simp [toP] at e
  | .dcT _, _, _, _, e => by simp [toP] at e
  | .dcl _, _, _, _, e => by simp [toP] at e
  | .ins _ _, _, _, _, e => by simp [toP] at e
theorem RepL.dp (s : Same F H) : ∀ {ds : List D} {vs : List V} {ps : List PyData}, RepL K CL F vs ds → toPs ds = some ps → DpAll K H vs ps
  | [], _, _, .nil, e => by simp [toPs] at e; subst e; exact .nil
  | d :: ds, _, ps, .cons a b, e => by
    unfold toPs at e
    cases h1 : toP d with
    | none => rw [h1] at e; cases e
    | some p =>
      cases h2 : toPs ds with
      | none => rw [h1, h2] at e; cases e
      | some qs =>
        rw [h1, h2] at e
        cases e
        exact .cons (RepD.dp s a h1) (RepL.dp s b h2)
end
theorem RepT.dp (s : Same F H) {d : D} {v : V} {p : PyData} (h : RepT K CL F H v d) (e : toP d = some p) : Dp K H v p := by
  cases d with
  | lst ds =>
    obtain ⟨a, vs, rfl, h1, h2⟩ := h
    obtain ⟨ps, e1, rfl⟩ := map_some (show (toPs ds).map PyData.list = some p by simpa [toP] using e)
    exact .lst (SqL.of h1) (RepL.dp s h2 e1)
  | dct _ => simp [toP] at e
  | ins _ _ => simp [toP] at e
  | non => exact RepD.dp s h e
  | bl _ => exact RepD.dp s h e
  | int _ => exact RepD.dp s h e
  | str _ => exact RepD.dp s h e
  | scr _ => exact RepD.dp s h e
  | tup _ => exact RepD.dp s h e
  | dcT _ => exact RepD.dp s h e
  | dcl _ => exact RepD.dp s h e
theorem if_some {α : Type} {c : Prop} [Decidable c] {a b : α} (h : (if c then some a else none) = some b) : c ∧ a = b := by
  by_cases q : c
  · rw [if_pos q] at h; cases h; exact ⟨q, rfl⟩
  · rw [if_neg q] at h; cases h
end

section
variable {X : Cx} {CL : Str → Option Addr}
theorem op_b (o : Bop) : OpR X (binaryOp (bopOf o)) (rB X.K CL o) := by
  intro pins s σ H x y v u Q I rx ry h
  obtain ⟨F, m, S, a, b, r, rel, ra, rb, e, k⟩ := h
  have hs := rel.sub
  cases o with
  | add =>
    cases a with
    | int i =>
      cases b with
      | int j => cases e; cases ra; cases rb; exact op_add pins s σ H _ _ v u Q I rx ry ⟨i, j, rfl, rfl, k.d rel (.int _)⟩
      | _ => cases e
    | str i =>
      cases b with
      | str j => obtain ⟨c, e⟩ := if_some e; cases e; cases ra; cases rb; exact op_add_str pins s σ H _ _ v u Q I rx ry ⟨i, j, rfl, rfl, c, k.d rel (.str _)⟩
      | _ => cases e
    | lst i =>
      cases b with
      | lst j =>
        obtain ⟨c, e⟩ := if_some e; cases e
        obtain ⟨p, xs, rfl, h1, h2⟩ := ra
        obtain ⟨p', ys, rfl, h3, h4⟩ := rb
        exact op_cat pins s σ H _ _ v u Q I rx ry ⟨p, p', xs, ys, rfl, rfl, h1, h3, by rw [h2.length, h4.length]; exact c, fun q hq => k.lst rel (h2.append h4) hq⟩
      | _ => cases e
    | tup i =>
      cases b with
      | tup j =>
        obtain ⟨c, e⟩ := if_some e; cases e
        obtain ⟨p, xs, rfl, h1, h2⟩ := ra.tup hs
        obtain ⟨p', ys, rfl, h3, h4⟩ := rb.tup hs
        refine op_catA pins s σ H _ _ v u Q I rx ry ⟨p, p', xs, ys, rfl, rfl, h1, h3, by rw [h2.length, h4.length]; exact c, fun hx => ?_, fun hx hy => ?_, fun _ _ q hq => k.tup rel (h2.append h4) hq⟩
        · subst hx
          have := h2.nilD
          subst this
          rw [List.nil_append] at k
          exact k.d rel rb
        · subst hy
          have := h4.nilD
          subst this
          rw [List.append_nil] at k
          exact k.d rel ra
      | _ => cases e
    | _ => cases e
  | sub =>
    cases a with
    | int i =>
      cases b with
      | int j => cases e; cases ra; cases rb; exact op_sub pins s σ H _ _ v u Q I rx ry ⟨i, j, rfl, rfl, k.d rel (.int _)⟩
      | _ => cases e
    | _ => cases e
  | mul =>
    cases a with
    | int i =>
      cases b with
      | int j =>
        obtain ⟨c, e⟩ := if_some e; cases e; cases ra; cases rb
        rcases c with c | c
        · exact op_mul pins s σ H _ _ v u Q I rx ry ⟨i, j, rfl, rfl, c, k.d rel (.int _)⟩
        · exact op_mulW pins s σ H _ _ v u Q I rx ry ⟨i, j, rfl, rfl, c, k.d rel (.int _)⟩
      | _ => cases e
    | lst i =>
      cases b with
      | int j =>
        obtain ⟨⟨c1, c2, c3⟩, e⟩ := if_some e; cases e; cases rb
        obtain ⟨p, xs, rfl, h1, h2⟩ := ra
        exact op_rep pins s σ H _ _ v u Q I rx ry ⟨p, j, xs, rfl, rfl, h1, c1, c2, by rw [h2.length]; exact c3, fun q hq => k.lst rel (h2.rep _) hq⟩
      | _ => cases e
    | tup i =>
      cases b with
      | int j =>
        have e : (if i ≠ [] ∧ 2 ≤ j ∧ j ≤ 1000 ∧ i.length ≤ 1000 then some (O1.d (.tup (List.replicate j.toNat i).flatten)) else if j = 1 then some (.d (.tup i)) else none) = some r := e
        cases rb
        obtain ⟨p, xs, rfl, h1, h2⟩ := ra.tup hs
        by_cases c : i ≠ [] ∧ 2 ≤ j ∧ j ≤ 1000 ∧ i.length ≤ 1000
        case neg =>
          rw [if_neg c] at e
          obtain ⟨rfl, e⟩ := if_some e
          cases e
          exact op_times1 pins s σ H _ _ v u Q I rx ry ⟨p, xs, rfl, rfl, h1, k.d rel ra⟩
        rw [if_pos c] at e
        obtain ⟨c1, c2, c3, c4⟩ := c
        cases e
        exact op_repT pins s σ H _ _ v u Q I rx ry ⟨p, j, xs, rfl, rfl, h1, fun z => c1 (by subst z; exact h2.nilD), c2, c3, by rw [h2.length]; exact c4, fun q hq => k.tup rel (h2.rep _) hq⟩
      | _ => cases e
    | _ => cases e
  | fdiv =>
    cases a with
    | int i =>
      cases b with
      | int j =>
        obtain ⟨c, e⟩ := if_some e; cases e; cases ra; cases rb
        rcases c with c | c
        · exact op_fdivN pins s σ H _ _ v u Q I rx ry ⟨i, j, rfl, rfl, c, k.d rel (.int _)⟩
        · refine op_fdivW pins s σ H _ _ v u Q I rx ry ⟨i, j, rfl, rfl, c, ?_⟩
          show Q (.int (i / j)) H
          rw [← Int.fdiv_eq_ediv_of_nonneg i (Int.le_of_lt c.1)]
          exact k.d rel (.int _)
      | _ => cases e
    | _ => cases e
  | mod =>
    cases a with
    | int i =>
      cases b with
      | int j => obtain ⟨c, e⟩ := if_some e; cases e; cases ra; cases rb; exact op_modN pins s σ H _ _ v u Q I rx ry ⟨i, j, rfl, rfl, c, k.d rel (.int _)⟩
      | _ => cases e
    | _ => cases e
  | pow =>
    cases a with
    | int i =>
      cases b with
      | int j => obtain ⟨c, e⟩ := if_some e; cases e; cases ra; cases rb; exact op_pow pins s σ H _ _ v u Q I rx ry ⟨i, j, rfl, rfl, c, k.d rel (.int _)⟩
      | _ => cases e
    | _ => cases e

theorem eqF_V {K : PySem.W.Frag} {F : Hp} {x y : V} {a b : D} (ha : RepD K CL F x a) (hb : RepD K CL F y b) (fa : flatD a = true) (fb : flatD b = true) : flatV x = true ∧ eqV y x = eqF b a := by
  cases ha with
  | int i =>
    cases hb with
    | int j => exact ⟨rfl, by simp [eqV, eqF, Bool.beq_eq_decide_eq]⟩
    | str j => exact ⟨rfl, rfl⟩
    | _ => cases fb
  | str i =>
    cases hb with
    | int j => exact ⟨rfl, rfl⟩
    | str j => exact ⟨rfl, by simp [eqV, eqF]; by_cases e : j = i <;> simp [e]⟩
    | _ => cases fb
  | _ => cases fa
theorem flat_V {K : PySem.W.Frag} {F : Hp} {x : V} {a : D} (ha : RepD K CL F x a) (fa : flatD a = true) : flatV x = true := (eqF_V ha ha fa fa).1
theorem inV_eq {K : PySem.W.Frag} {F : Hp} {x : V} {a : D} (ha : RepD K CL F x a) (fa : flatD a = true) : ∀ {vs : List V} {ds : List D}, RepL K CL F vs ds → ds.all flatD = true → vs.all flatV = true ∧ inV x vs = ds.any fun y => eqF y a
  | _, _, .nil, _ => ⟨rfl, rfl⟩
  | _, _, .cons p q, h => by
    rw [List.all_cons, Bool.and_eq_true] at h
    obtain ⟨h1, h2⟩ := inV_eq ha fa q h.2
    refine ⟨by rw [List.all_cons, flat_V p h.1, h1]; rfl, ?_⟩
    unfold inV at h2 ⊢
    rw [List.any_cons, List.any_cons, (eqF_V ha p fa h.1).2, h2]
theorem RepT.flat {K : PySem.W.Frag} {F H : Hp} {v : V} {d : D} (h : RepT K CL F H v d) (f : flatD d = true) : RepD K CL F v d := by
  cases d with
  | int i => exact h
  | str i => exact h
  | _ => cases f
theorem inL_ok {deep neg : Bool} (hu : X.A.units + 65 < cLine) {F H : Hp} {m : List Addr} {S : Sto} {x y : V} {a b : D} {ds : List D} {k : Bool} {pins : List (Addr × Obj)} {s : Shared} {σ : L2.St} {v u : Value} {Q : VK} (I : Inv X pins σ H s) (rx : RelV x v) (ry : RelV y u)
    (rel : Rel X.K CL F m S H) (ra : RepT X.K CL F H x a) (rb : RepT X.K CL F H y b) (hb : (deep = true ∧ b = .lst ds) ∨ (deep = false ∧ b = .tup ds)) (e : inL deep a ds = some k) (q : Q (.bl (if neg then !k else k)) H) :
    wpAny (model X.prog X.w) X.A (compareOp (if neg then .NotIn else .In) v u) (EP X pins σ Q) X.xe s := by
  have hs := rel.sub
  unfold inL at e
  by_cases c : flatD a = true ∧ ds.all flatD = true
  · rw [if_pos c] at e
    cases e
    obtain ⟨p, vs, rfl, h1, h2⟩ : ∃ p vs, y = .ref p ∧ (SqL X.K H p vs ∨ SqT X.K H p vs) ∧ RepL X.K CL F vs ds := by
      rcases hb with ⟨_, rfl⟩ | ⟨_, rfl⟩
      · exact rb.seq hs rfl
      · exact rb.seq hs rfl
    have ha := ra.flat c.1
    obtain ⟨f1, f2⟩ := inV_eq ha c.1 h2 c.2
    cases neg with
    | true => exact op_notIn_seq pins s σ H x _ v u Q I rx ry ⟨p, vs, rfl, h1, flat_V ha c.1, f1, by rw [f2]; exact q⟩
    | false => exact op_in_seq pins s σ H x _ v u Q I rx ry ⟨p, vs, rfl, h1, flat_V ha c.1, f1, by rw [f2]; exact q⟩
  · rw [if_neg c] at e
    rcases hb with ⟨rfl, rfl⟩ | ⟨rfl, rfl⟩
    · simp only [if_true] at e
      cases h1 : toP a with
      | none => rw [h1] at e; cases e
      | some p =>
        cases h2 : toPs ds with
        | none => rw [h1, h2] at e; cases e
        | some qs =>
          rw [h1, h2] at e
          obtain ⟨⟨c1, c2⟩, e⟩ := if_some e
          subst e
          have d1 := ra.dp hs h1
          have d2 : Dp X.K H y (.list qs) := rb.dp hs (by simp [toP, h2])
          cases neg with
          | true => exact op_notInD hu pins s σ H x y v u Q I rx ry ⟨p, qs, d1, d2, c1, c2, q⟩
          | false => exact op_inD hu pins s σ H x y v u Q I rx ry ⟨p, qs, d1, d2, c1, c2, q⟩
    · simp at e
theorem eqD_ok {neg : Bool} (hu : X.A.units + 64 < cLine) {F H : Hp} {m : List Addr} {S : Sto} {x y : V} {a b : D} {k : Bool} {pins : List (Addr × Obj)} {s : Shared} {σ : L2.St} {v u : Value} {Q : VK} (I : Inv X pins σ H s) (rx : RelV x v) (ry : RelV y u)
    (rel : Rel X.K CL F m S H) (ra : RepT X.K CL F H x a) (rb : RepT X.K CL F H y b) (e : eqD a b = some k) (q : Q (.bl (if neg then !k else k)) H) :
    wpAny (model X.prog X.w) X.A (compareOp (if neg then .NotEq else .Eq) v u) (EP X pins σ Q) X.xe s := by
  have hs := rel.sub
  have fin : ∀ x y : V, RelV x v → RelV y u → scal x y = true → decide (x = y) = k → wpAny (model X.prog X.w) X.A (compareOp (if neg then .NotEq else .Eq) v u) (EP X pins σ Q) X.xe s := fun x y rx ry sc ek => by
    cases neg with
    | true => exact op_ne pins s σ H x y v u Q I rx ry ⟨sc, by rw [ek]; exact q⟩
    | false => exact op_eq pins s σ H x y v u Q I rx ry ⟨sc, by rw [ek]; exact q⟩
  have deep : (match toP a, toP b with
      | some p, some q => if SeqAt.shaped p = true ∧ SeqAt.shaped q = true then some (PyData.eqv p q) else none
      | _, _ => none) = some k → wpAny (model X.prog X.w) X.A (compareOp (if neg then .NotEq else .Eq) v u) (EP X pins σ Q) X.xe s := fun e => by
    cases h1 : toP a with
    | none => rw [h1] at e; cases e
    | some p =>
      cases h2 : toP b with
      | none => rw [h1, h2] at e; cases e
      | some p' =>
        rw [h1, h2] at e
        obtain ⟨⟨c1, c2⟩, e⟩ := if_some e
        subst e
        cases neg with
        | true => exact op_neD hu pins s σ H x y v u Q I rx ry ⟨p, p', ra.dp hs h1, rb.dp hs h2, c1, c2, q⟩
        | false => exact op_eqD hu pins s σ H x y v u Q I rx ry ⟨p, p', ra.dp hs h1, rb.dp hs h2, c1, c2, q⟩
  cases a with
  | int i =>
    cases b with
    | int j => cases e; cases ra; cases rb; exact fin _ _ rx ry rfl (by simp)
    | _ => exact deep e
  | str i =>
    cases b with
    | str j => cases e; cases ra; cases rb; exact fin _ _ rx ry rfl (by simp)
    | _ => exact deep e
  | bl i =>
    cases b with
    | bl j => cases e; cases ra; cases rb; exact fin _ _ rx ry rfl (by simp)
    | _ => exact deep e
  | non =>
    cases b with
    | non => cases e; cases ra; cases rb; exact fin _ _ rx ry rfl (by simp)
    | _ => exact deep e
  | lst _ => exact deep e
  | scr _ => exact deep e
  | tup _ => exact deep e
  | dct _ => exact deep e
  | dcT _ => exact deep e
  | dcl _ => exact deep e
  | ins _ _ => exact deep e
theorem op_c (hu : X.A.units + 65 < cLine) (o : Cop) : OpR X (compareOp (copOf o)) (rC X.K CL o) := by
  intro pins s σ H x y v u Q I rx ry h
  obtain ⟨F, m, S, a, b, k, rel, ra, rb, e, q⟩ := h
  have hs := rel.sub
  have hu' : X.A.units + 64 < cLine := by omega
  cases o with
  | eq => exact eqD_ok (neg := false) hu' I rx ry rel ra rb e q
  | ne =>
    obtain ⟨k', e', rfl⟩ := map_some e
    exact eqD_ok (neg := true) hu' I rx ry rel ra rb e' q
  | inn =>
    cases b with
    | lst ds =>
      have e : inL true a ds = some k := by cases a <;> exact e
      exact inL_ok (neg := false) hu I rx ry rel ra rb (.inl ⟨rfl, rfl⟩) e q
    | tup ds =>
      have e : inL false a ds = some k := by cases a <;> exact e
      exact inL_ok (neg := false) hu I rx ry rel ra rb (.inr ⟨rfl, rfl⟩) e q
    | str z =>
      cases a with
      | str y => cases e; cases ra; cases rb; exact op_in_str pins s σ H _ _ v u Q I rx ry ⟨y, z, rfl, rfl, q⟩
      | _ => cases e
    | _ => cases a <;> cases e
  | nin =>
    obtain ⟨k', e', rfl⟩ := map_some e
    cases b with
    | lst ds =>
      have e : inL true a ds = some k' := by cases a <;> exact e'
      exact inL_ok (neg := true) hu I rx ry rel ra rb (.inl ⟨rfl, rfl⟩) e q
    | tup ds =>
      have e : inL false a ds = some k' := by cases a <;> exact e'
      exact inL_ok (neg := true) hu I rx ry rel ra rb (.inr ⟨rfl, rfl⟩) e q
    | str z =>
      cases a with
      | str y => cases e'; cases ra; cases rb; exact op_notin_str pins s σ H _ _ v u Q I rx ry ⟨y, z, rfl, rfl, q⟩
      | _ => cases e'
    | _ => cases a <;> cases e'
  | lt =>
    cases a with
    | int i =>
      cases b with
      | int j => cases e; cases ra; cases rb; exact op_lt pins s σ H _ _ v u Q I rx ry ⟨i, j, rfl, rfl, q⟩
      | _ => cases e
    | str i =>
      cases b with
      | str j => cases e; cases ra; cases rb; exact op_lt_str pins s σ H _ _ v u Q I rx ry ⟨i, j, rfl, rfl, q⟩
      | _ => cases e
    | _ => cases e
  | le =>
    cases a with
    | int i =>
      cases b with
      | int j => cases e; cases ra; cases rb; exact op_le pins s σ H _ _ v u Q I rx ry ⟨i, j, rfl, rfl, q⟩
      | _ => cases e
    | str i =>
      cases b with
      | str j => cases e; cases ra; cases rb; exact op_le_str pins s σ H _ _ v u Q I rx ry ⟨i, j, rfl, rfl, q⟩
      | _ => cases e
    | _ => cases e
  | gt =>
    cases a with
    | int i =>
      cases b with
      | int j => cases e; cases ra; cases rb; exact op_gt pins s σ H _ _ v u Q I rx ry ⟨i, j, rfl, rfl, q⟩
      | _ => cases e
    | str i =>
      cases b with
      | str j => cases e; cases ra; cases rb; exact op_gt_str pins s σ H _ _ v u Q I rx ry ⟨i, j, rfl, rfl, q⟩
      | _ => cases e
    | _ => cases e
  | ge =>
    cases a with
    | int i =>
      cases b with
      | int j => cases e; cases ra; cases rb; exact op_ge pins s σ H _ _ v u Q I rx ry ⟨i, j, rfl, rfl, q⟩
      | _ => cases e
    | str i =>
      cases b with
      | str j => cases e; cases ra; cases rb; exact op_ge_str pins s σ H _ _ v u Q I rx ry ⟨i, j, rfl, rfl, q⟩
      | _ => cases e
    | _ => cases e
end
end Ev
set_option Elab.async false
set_option linter.all false
set_option maxRecDepth 100000
/-! Own text: expressions of the program compute the plain functions. -/
namespace Ev
open PySem PySem.Spec PyProof.Rows L2

section
variable {X : Cx} {CL : Str → Option Addr} {a b c e : Expr} {fa fb fc f : EvF} {pos : Pos}

theorem _root_.L2.PE.or {t t' : TE} (h : PE X e t) (h' : PE X e t') : PE X e (fun σ H Q => t σ H Q ∨ t' σ H Q) :=
  ⟨fun pins s σ H Q I q => q.elim (h.run pins s σ H Q I) (h'.run pins s σ H Q I)⟩
theorem de_cst {d : D} {v : V} (h : PE X e (tC v)) (r : ∀ F, RepD X.K CL F v d) : PE X e (tF X.K CL (fCst d)) :=
  PEwk h fun σ H Q ⟨F, m, S, ρ, x, S', rel, env, e, k⟩ => by
    cases e
    exact k v F m H (Ext.refl ..) rel (r F)
theorem de_var {i : Nat} (h : PE X e (tVar i)) : PE X e (tF X.K CL (fVar i)) :=
  PEwk h fun σ H Q ⟨F, m, S, ρ, x, S', rel, env, e, k⟩ => by
    unfold fVar at e
    cases q : ρ[i]? with
    | none => rw [q] at e; cases e
    | some o =>
      rw [q] at e
      cases o with
      | none => cases e
      | some y =>
        cases e
        obtain ⟨v, h1, h2⟩ := env.at_ i y q
        exact ⟨v, h1, k v F m H (Ext.refl ..) rel h2⟩

theorem two_inv {ρ : Rho} {S S2 : Sto} {p : D × D} (h : two fa fb ρ S = some (p, S2)) : ∃ x S1 y, eV fa ρ S = some (x, S1) ∧ eV fb ρ S1 = some (y, S2) ∧ pk x S2 = some p.1 ∧ pk y S2 = some p.2 := by
  obtain ⟨⟨x, S1⟩, e1, h⟩ := bind_some h
  obtain ⟨⟨y, S3⟩, e2, h⟩ := bind_some h
  obtain ⟨dx, e3, h⟩ := bind_some h
  obtain ⟨dy, e4, h⟩ := map_some h
  cases h
  exact ⟨x, S1, y, e1, e2, e3, e4⟩
theorem two_t {K : PySem.W.Frag} {R : V → V → Hp → VK → Prop} {σ : L2.St} {H : Hp} {Q : VK} {F : Hp} {m : List Addr} {S S2 : Sto} {ρ : Rho} {p : D × D} (rel : Rel K CL F m S H) (env : RepE K CL F m σ ρ) (h : two fa fb ρ S = some (p, S2))
    (k : ∀ v w F' m' H', Ext F m H F' m' H' → Rel K CL F' m' S2 H' → RepT K CL F' H' v p.1 → RepT K CL F' H' w p.2 → R v w H' Q) : tOp R (tV K CL fa) (tV K CL fb) σ H Q := by
  obtain ⟨x, S1, y, e1, e2, e3, e4⟩ := two_inv h
  refine ⟨F, m, S, ρ, x, S1, rel, env, e1, fun v F1 m1 H1 x1 r1 q1 => ⟨F1, m1, S1, ρ, y, S2, r1, env.mono x1, e2, fun w F2 m2 H2 x2 r2 q2 => ?_⟩⟩
  exact k v w F2 m2 H2 (x1.trans x2) r2 (pk_ok r2 (q1.mono x2) e3) (pk_ok r2 q2 e4)
theorem one_inv {ρ : Rho} {S S1 : Sto} {d : D} (h : one fa ρ S = some (d, S1)) : ∃ x, eV fa ρ S = some (x, S1) ∧ pk x S1 = some d := by
  obtain ⟨⟨x, S2⟩, e1, h⟩ := bind_some h
  obtain ⟨dx, e3, h⟩ := map_some h
  cases h
  exact ⟨x, e1, e3⟩
theorem one_t {K : PySem.W.Frag} {R : V → Hp → Prop} {σ : L2.St} {H : Hp} {F : Hp} {m : List Addr} {S S2 : Sto} {ρ : Rho} {d : D} (rel : Rel K CL F m S H) (env : RepE K CL F m σ ρ) (h : one fa ρ S = some (d, S2))
    (k : ∀ v F' m' H', Ext F m H F' m' H' → Rel K CL F' m' S2 H' → RepT K CL F' H' v d → R v H') : tV K CL fa σ H R := by
  obtain ⟨x, e1, e3⟩ := one_inv h
  exact ⟨F, m, S, ρ, x, S2, rel, env, e1, fun v F1 m1 H1 x1 r1 q1 => k v F1 m1 H1 x1 r1 (pk_ok r1 q1 e3)⟩

theorem RepR.back {K : PySem.W.Frag} {F F1 F2 H H1 H2 : Hp} {m m1 m2 : List Addr} {v : V} {r : Res} (e : Ext F m H F1 m1 H1) (q : RepR K CL F2 m2 H1 H2 v r) : RepR K CL F2 m2 H H2 v r := by
  cases r with
  | val x => exact q
  | new c =>
    obtain ⟨a, e1, h0, rest⟩ := q
    exact ⟨a, e1, Classical.byContradiction fun z => e.t a z h0, rest⟩
theorem then_of {K : PySem.W.Frag} {F F1 H H1 : Hp} {m m1 : List Addr} {S' : Sto} {r : Res} {Q : VK} (x : Ext F m H F1 m1 H1)
    (k : ∀ v F' m' H', Ext F m H F' m' H' → Rel K CL F' m' S' H' → RepR K CL F' m' H H' v r → Q v H') : Then K CL F1 m1 S' H1 r Q :=
  fun v F2 m2 H2 x2 r2 q2 => k v F2 m2 H2 (x.trans x2) r2 (q2.back x)

theorem de_bop (o : Bop) (ha : PE X a (tF X.K CL fa)) (hb : PE X b (tF X.K CL fb)) : PE X (.BinOp a (bopOf o) b pos) (tF X.K CL (fBop o fa fb)) :=
  PEwk (pe_op (op_b o) ha.v hb.v) fun σ H Q ⟨F, m, S, ρ, x, S', rel, env, e, k⟩ => by
    obtain ⟨⟨p, S2⟩, e1, e⟩ := bind_some e
    obtain ⟨r, e2, e⟩ := map_some e
    cases e
    exact two_t rel env e1 fun v w F' m' H' x1 r1 q1 q2 => ⟨F', m', S', p.1, p.2, r, r1, q1, q2, e2, then_of x1 k⟩
theorem de_cmp (hu : X.A.units + 65 < cLine) (o : Cop) (ha : PE X a (tF X.K CL fa)) (hb : PE X b (tF X.K CL fb)) (hm : behindInMarks (copOf o) b = false) : PE X (.Compare a [copOf o] [b] pos) (tF X.K CL (fCmp o fa fb)) :=
  PEwk (pe_cmpR (op_c hu o) ha.v hb.v hm) fun σ H Q ⟨F, m, S, ρ, x, S', rel, env, e, k⟩ => by
    obtain ⟨⟨p, S2⟩, e1, e⟩ := bind_some e
    obtain ⟨r, e2, e⟩ := map_some e
    cases e
    exact two_t rel env e1 fun v w F' m' H' x1 r1 q1 q2 => ⟨F', m', S', p.1, p.2, r, r1, q1, q2, e2, (then_of x1 k).d r1 (.bl _)⟩

/-! ### tests -/
theorem tst_inv {ρ : Rho} {S S1 : Sto} {k : Bool} (h : tst f ρ S = some (k, S1)) : ∃ d, one f ρ S = some (d, S1) ∧ truD d = some k := by
  obtain ⟨⟨x, S2⟩, e1, h⟩ := bind_some h
  obtain ⟨dx, e3, h⟩ := map_some h
  cases h
  exact ⟨x, e1, e3⟩
theorem truD_ok {K : PySem.W.Frag} {F H : Hp} {v : V} {d : D} {k : Bool} (s : Same F H) (r : RepT K CL F H v d) (e : truD d = some k) : TruV K v H k := by
  cases d with
  | non => cases e; cases r; rfl
  | bl b => cases e; cases r; rfl
  | int i => cases e; cases r; rfl
  | str y => obtain ⟨c, e⟩ := if_some e; cases e; cases r; exact ⟨c, rfl⟩
  | lst xs => cases e; obtain ⟨p, vs, rfl, h1, h2⟩ := r; exact .inl ⟨vs, SqL.of h1, by rw [h2.emp]⟩
  | scr xs => cases e; obtain ⟨p, vs, rfl, h1, h2⟩ := RepT.scr s r; exact .inl ⟨vs, h1, by rw [h2.emp]⟩
  | tup xs => cases e; obtain ⟨p, vs, rfl, h1, h2⟩ := RepT.tup s r; exact .inr (.inl ⟨vs, h1, by rw [h2.emp]⟩)
  | dct kvs =>
    cases e
    obtain ⟨p, vs, rfl, h1, h2, h3⟩ := r
    refine .inr (.inr ⟨vs, h1, ?_⟩)
    have := congrArg List.length h2
    rw [List.length_map, List.length_map] at this
    cases vs <;> cases kvs <;> first | rfl | simp at this
  | dcT _ => cases e
  | dcl _ => cases e
  | ins _ _ => cases e
theorem dt_val (ha : PE X a (tF X.K CL fa)) (he : ∀ whole, isTrue a X.env whole = (do let v ← whole; standAt a.pos; holding [v] (truthy v))) : PT X a (tT X.K CL fa) :=
  PTwk (pt_truth ha.v he) fun σ H Q ⟨F, m, S, ρ, k, S', rel, env, e, q⟩ => by
    obtain ⟨d, e1, e2⟩ := tst_inv e
    exact one_t rel env e1 fun v F' m' H' x1 r1 q1 => ⟨k, truD_ok r1.sub q1 e2, q F' m' H' x1 r1⟩
/-- the test of something that gives a bool -/
theorem tst_bl {ρ : Rho} {S S1 S2 : Sto} {k k' : Bool} (h : tst f ρ S = some (k, S1)) (e : f ρ S = some (.val (.d (.bl k')), S2)) : k' = k ∧ S2 = S1 := by
  obtain ⟨d, e1, e2⟩ := tst_inv h
  obtain ⟨x, e3, e4⟩ := one_inv e1
  unfold eV at e3
  rw [e] at e3
  cases e3
  cases e4
  cases e2
  exact ⟨rfl, rfl⟩
theorem dt_cmp (hu : X.A.units + 65 < cLine) (o : Cop) (ha : PE X a (tF X.K CL fa)) (hb : PE X b (tF X.K CL fb)) (hm : behindInMarks (copOf o) b = false) : PT X (.Compare a [copOf o] [b] pos) (tT X.K CL (fCmp o fa fb)) :=
  PTwk (pt_cmpR (op_c hu o) ha.v hb.v hm) fun σ H Q ⟨F, m, S, ρ, k, S', rel, env, e, q⟩ => by
    obtain ⟨d, e1, e2⟩ := tst_inv e
    obtain ⟨x, e3, e4⟩ := one_inv e1
    obtain ⟨⟨y, S1⟩, e5, e6⟩ := map_some e3
    obtain ⟨⟨p, S2⟩, e7, e8⟩ := bind_some e5
    obtain ⟨k', e9, e10⟩ := map_some e8
    cases e10
    cases e6
    cases e4
    cases e2
    exact two_t rel env e7 fun v w F' m' H' x1 r1 q1 q2 => ⟨F', m', S', p.1, p.2, k, r1, q1, q2, e9, k, rfl, q F' m' H' x1 r1⟩

/-! ### is None -/
theorem isNon_ok {K : PySem.W.Frag} {x : Val} {v : V} {F : Hp} {m : List Addr} (r : RepV K CL F m v x) : isNon x = decide (v = .non) := by
  cases x with
  | d d => cases r <;> rfl
  | cell k => obtain ⟨a, _, rfl⟩ := r; rfl
  | grd k => obtain ⟨a, as, rfl, _, _⟩ := r; rfl
theorem de_isN {j pos'} (neg : Bool) (ha : PE X a (tF X.K CL fa)) : PE X (.Compare a [if neg then .IsNot else .Is] [.Constant .none j pos'] pos) (tF X.K CL (fIsN neg fa)) := by
  have key : ∀ σ H Q, tF X.K CL (fIsN neg fa) σ H Q → tV X.K CL fa σ H fun x H1 => Q (.bl (if neg then !decide (x = .non) else decide (x = .non))) H1 := fun σ H Q ⟨F, m, S, ρ, x, S', rel, env, e, k⟩ => by
    obtain ⟨⟨y, S1⟩, e1, e⟩ := map_some e
    cases e
    refine ⟨F, m, S, ρ, y, S', rel, env, e1, fun v F1 m1 H1 x1 r1 q1 => ?_⟩
    show Q (.bl (if neg = true then !decide (v = .non) else decide (v = .non))) H1
    rw [← isNon_ok q1]
    exact (then_of x1 k).d r1 (.bl _)
  cases neg with
  | true =>
    exact PEwk (pe_cmpR op_notN ha.v pe_non (nobehind _ (by decide) (by decide))) fun σ H Q h => by
      obtain ⟨F, m, S, ρ, y, S', rel, env, e1, k⟩ := key σ H Q h
      exact ⟨F, m, S, ρ, y, S', rel, env, e1, fun v F1 m1 H1 x1 r1 q1 => ⟨rfl, k v F1 m1 H1 x1 r1 q1⟩⟩
  | false =>
    exact PEwk (pe_cmpR op_isN ha.v pe_non (nobehind _ (by decide) (by decide))) fun σ H Q h => by
      obtain ⟨F, m, S, ρ, y, S', rel, env, e1, k⟩ := key σ H Q h
      exact ⟨F, m, S, ρ, y, S', rel, env, e1, fun v F1 m1 H1 x1 r1 q1 => ⟨rfl, k v F1 m1 H1 x1 r1 q1⟩⟩
theorem dt_isN {j pos'} (neg : Bool) (ha : PE X a (tF X.K CL fa)) : PT X (.Compare a [if neg then .IsNot else .Is] [.Constant .none j pos'] pos) (tT X.K CL (fIsN neg fa)) := by
  have key : ∀ σ H Q, tT X.K CL (fIsN neg fa) σ H Q → tV X.K CL fa σ H fun x H1 => Q (if neg then !decide (x = .non) else decide (x = .non)) H1 := fun σ H Q ⟨F, m, S, ρ, k, S', rel, env, e, q⟩ => by
    obtain ⟨d, e1, e2⟩ := tst_inv e
    obtain ⟨x, e3, e4⟩ := one_inv e1
    obtain ⟨⟨y, S1⟩, e5, e6⟩ := map_some e3
    obtain ⟨⟨z, S2⟩, e7, e8⟩ := map_some e5
    cases e8
    cases e6
    cases e4
    cases e2
    refine ⟨F, m, S, ρ, z, S', rel, env, e7, fun v F1 m1 H1 x1 r1 q1 => ?_⟩
    show Q (if neg = true then !decide (v = .non) else decide (v = .non)) H1
    rw [← isNon_ok q1]
    exact q F1 m1 H1 x1 r1
  cases neg with
  | true =>
    exact PTwk (pt_cmpR op_notN ha.v pe_non (nobehind _ (by decide) (by decide))) fun σ H Q h => by
      obtain ⟨F, m, S, ρ, y, S', rel, env, e1, k⟩ := key σ H Q h
      exact ⟨F, m, S, ρ, y, S', rel, env, e1, fun v F1 m1 H1 x1 r1 q1 => ⟨rfl, _, rfl, k v F1 m1 H1 x1 r1 q1⟩⟩
  | false =>
    exact PTwk (pt_cmpR op_isN ha.v pe_non (nobehind _ (by decide) (by decide))) fun σ H Q h => by
      obtain ⟨F, m, S, ρ, y, S', rel, env, e1, k⟩ := key σ H Q h
      exact ⟨F, m, S, ρ, y, S', rel, env, e1, fun v F1 m1 H1 x1 r1 q1 => ⟨rfl, _, rfl, k v F1 m1 H1 x1 r1 q1⟩⟩

/-! ### and, or, not, if -/
variable {rest : List Expr}
theorem de_one {op} (h : PE X a (tF X.K CL fa)) : PE X (.BoolOp op [a] pos) (tF X.K CL fa) := pe_one h
theorem de_and (ha : PE X a (tF X.K CL fa)) (hb : PE X (.BoolOp .And (b :: rest) pos) (tF X.K CL fb)) : PE X (.BoolOp .And (a :: b :: rest) pos) (tF X.K CL (fAnd fa fb)) :=
  PEwk (pe_and ha.v hb) fun σ H Q ⟨F, m, S, ρ, x, S', rel, env, e, k⟩ => by
    obtain ⟨⟨y, S1⟩, e1, e⟩ := bind_some e
    refine ⟨F, m, S, ρ, y, S1, rel, env, e1, fun v F1 m1 H1 x1 r1 q1 => ?_⟩
    cases y with
    | cell _ => cases e
    | grd _ => cases e
    | d d =>
      cases d with
      | bl t =>
        cases q1
        cases t with
        | true => exact ⟨true, rfl, by rw [if_pos rfl]; exact ⟨F1, m1, S1, ρ, x, S', r1, env.mono x1, e, then_of x1 k⟩⟩
        | false =>
          cases e
          exact ⟨false, rfl, by rw [if_neg Bool.false_ne_true]; exact (then_of x1 k).d r1 (.bl _)⟩
      | _ => cases e
theorem de_or (ha : PE X a (tF X.K CL fa)) (hb : PE X (.BoolOp .Or (b :: rest) pos) (tF X.K CL fb)) : PE X (.BoolOp .Or (a :: b :: rest) pos) (tF X.K CL (fOr fa fb)) :=
  PEwk (pe_or ha.v hb) fun σ H Q ⟨F, m, S, ρ, x, S', rel, env, e, k⟩ => by
    obtain ⟨⟨y, S1⟩, e1, e⟩ := bind_some e
    refine ⟨F, m, S, ρ, y, S1, rel, env, e1, fun v F1 m1 H1 x1 r1 q1 => ?_⟩
    cases y with
    | cell _ => cases e
    | grd _ => cases e
    | d d =>
      cases d with
      | bl t =>
        cases q1
        cases t with
        | false => exact ⟨false, rfl, by rw [if_neg Bool.false_ne_true]; exact ⟨F1, m1, S1, ρ, x, S', r1, env.mono x1, e, then_of x1 k⟩⟩
        | true =>
          cases e
          exact ⟨true, rfl, by rw [if_pos rfl]; exact (then_of x1 k).d r1 (.bl _)⟩
      | _ => cases e
theorem de_not (ha : PT X a (tT X.K CL fa)) (hv : PE X a (tF X.K CL fa)) : PE X (.UnaryOp .Not a pos) (tF X.K CL (fNot fa)) :=
  PEwk (pe_notT hv.v) fun σ H Q ⟨F, m, S, ρ, x, S', rel, env, e, k⟩ => by
    obtain ⟨⟨t, S1⟩, e1, e⟩ := map_some e
    cases e
    obtain ⟨d, e2, e3⟩ := tst_inv e1
    exact one_t rel env e2 fun v F' m' H' x1 r1 q1 => ⟨t, truD_ok r1.sub q1 e3, (then_of x1 k).d r1 (.bl _)⟩
theorem dt_not (ha : PT X a (tT X.K CL fa)) : PT X (.UnaryOp .Not a pos) (tT X.K CL (fNot fa)) :=
  PTwk (pt_not ha) fun σ H Q ⟨F, m, S, ρ, k, S', rel, env, e, q⟩ => by
    obtain ⟨d, e1, e2⟩ := tst_inv e
    obtain ⟨x, e3, e4⟩ := one_inv e1
    obtain ⟨⟨y, S1⟩, e5, e6⟩ := map_some e3
    obtain ⟨⟨t, S2⟩, e7, e8⟩ := map_some e5
    cases e8
    cases e6
    cases e4
    cases e2
    exact ⟨F, m, S, ρ, t, S', rel, env, e7, q⟩
/-- what a test of `a and b` is -/
theorem tst_and {ρ : Rho} {S S' : Sto} {k : Bool} (h : tst (fAnd fa fb) ρ S = some (k, S')) : ∃ t S1, tst fa ρ S = some (t, S1) ∧ if t = true then tst fb ρ S1 = some (k, S') else k = false ∧ S' = S1 := by
  obtain ⟨d, e1, e2⟩ := tst_inv h
  obtain ⟨x, e3, e4⟩ := one_inv e1
  obtain ⟨⟨y, S1⟩, e5, e6⟩ := map_some e3
  obtain ⟨⟨z, S2⟩, e7, e8⟩ := bind_some e5
  have back : ∀ t, z = .d (.bl t) → tst fa ρ S = some (t, S2) := fun t ht => by
    subst ht
    unfold tst one
    rw [e7]
    rfl
  cases z with
  | cell _ => cases e8
  | grd _ => cases e8
  | d d' =>
    cases d' with
    | bl t =>
      refine ⟨t, S2, back t rfl, ?_⟩
      cases t with
      | true =>
        rw [if_pos rfl]
        have e8 : fb ρ S2 = some (y, S1) := e8
        unfold tst one eV
        rw [e8]
        cases e6
        show ((pk (settle y) S').map fun dx => (dx, S')).bind _ = _
        rw [e4]
        show (truD d).map _ = _
        rw [e2]
        rfl
      | false =>
        rw [if_neg Bool.false_ne_true]
        cases e8
        cases e6
        cases e4
        cases e2
        exact ⟨rfl, rfl⟩
    | _ => cases e8
theorem tst_or {ρ : Rho} {S S' : Sto} {k : Bool} (h : tst (fOr fa fb) ρ S = some (k, S')) : ∃ t S1, tst fa ρ S = some (t, S1) ∧ if t = true then k = true ∧ S' = S1 else tst fb ρ S1 = some (k, S') := by
  obtain ⟨d, e1, e2⟩ := tst_inv h
  obtain ⟨x, e3, e4⟩ := one_inv e1
  obtain ⟨⟨y, S1⟩, e5, e6⟩ := map_some e3
  obtain ⟨⟨z, S2⟩, e7, e8⟩ := bind_some e5
  have back : ∀ t, z = .d (.bl t) → tst fa ρ S = some (t, S2) := fun t ht => by
    subst ht
    unfold tst one
    rw [e7]
    rfl
  cases z with
  | cell _ => cases e8
  | grd _ => cases e8
  | d d' =>
    cases d' with
    | bl t =>
      refine ⟨t, S2, back t rfl, ?_⟩
      cases t with
      | false =>
        rw [if_neg Bool.false_ne_true]
        have e8 : fb ρ S2 = some (y, S1) := e8
        unfold tst one eV
        rw [e8]
        cases e6
        show ((pk (settle y) S').map fun dx => (dx, S')).bind _ = _
        rw [e4]
        show (truD d).map _ = _
        rw [e2]
        rfl
      | true =>
        rw [if_pos rfl]
        cases e8
        cases e6
        cases e4
        cases e2
        exact ⟨rfl, rfl⟩
    | _ => cases e8
theorem PWwk {t t' : TT} (h : PW X e t) (w : ∀ σ H Q, t' σ H Q → t σ H Q) : PW X e t' := ⟨fun wh pins s σ H Q I q => h.run wh pins s σ H Q I (w σ H Q q)⟩
theorem dw_and1 (ha : PT X a (tT X.K CL fa)) : PW X (.BoolOp .And [a] pos) (tT X.K CL fa) := pw_and1 ha
theorem dw_or1 (ha : PT X a (tT X.K CL fa)) : PW X (.BoolOp .Or [a] pos) (tT X.K CL fa) := pw_or1 ha
theorem dw_and (ha : PT X a (tT X.K CL fa)) (hb : PW X (.BoolOp .And (b :: rest) pos) (tT X.K CL fb)) : PW X (.BoolOp .And (a :: b :: rest) pos) (tT X.K CL (fAnd fa fb)) :=
  PWwk (pw_and ha hb) fun σ H Q ⟨F, m, S, ρ, k, S', rel, env, e, q⟩ => by
    obtain ⟨t, S1, e1, e2⟩ := tst_and e
    refine ⟨F, m, S, ρ, t, S1, rel, env, e1, fun F' m' H' x1 r1 => ?_⟩
    cases t with
    | true =>
      rw [if_pos rfl] at e2 ⊢
      exact ⟨F', m', S1, ρ, k, S', r1, env.mono x1, e2, fun F2 m2 H2 x2 r2 => q F2 m2 H2 (x1.trans x2) r2⟩
    | false =>
      rw [if_neg Bool.false_ne_true] at e2 ⊢
      obtain ⟨rfl, rfl⟩ := e2
      exact q F' m' H' x1 r1
theorem dw_or (ha : PT X a (tT X.K CL fa)) (hb : PW X (.BoolOp .Or (b :: rest) pos) (tT X.K CL fb)) : PW X (.BoolOp .Or (a :: b :: rest) pos) (tT X.K CL (fOr fa fb)) :=
  PWwk (pw_or ha hb) fun σ H Q ⟨F, m, S, ρ, k, S', rel, env, e, q⟩ => by
    obtain ⟨t, S1, e1, e2⟩ := tst_or e
    refine ⟨F, m, S, ρ, t, S1, rel, env, e1, fun F' m' H' x1 r1 => ?_⟩
    cases t with
    | false =>
      rw [if_neg Bool.false_ne_true] at e2 ⊢
      exact ⟨F', m', S1, ρ, k, S', r1, env.mono x1, e2, fun F2 m2 H2 x2 r2 => q F2 m2 H2 (x1.trans x2) r2⟩
    | true =>
      rw [if_pos rfl] at e2 ⊢
      obtain ⟨rfl, rfl⟩ := e2
      exact q F' m' H' x1 r1
theorem de_ite (hc : PT X c (tT X.K CL fc)) (ha : PE X a (tF X.K CL fa)) (hb : PE X b (tF X.K CL fb)) : PE X (.IfExp c a b pos) (tF X.K CL (fIte fc fa fb)) :=
  PEwk (pe_ifExp hc ha hb) fun σ H Q ⟨F, m, S, ρ, x, S', rel, env, e, k⟩ => by
    obtain ⟨⟨t, S1⟩, e1, e⟩ := bind_some e
    refine ⟨F, m, S, ρ, t, S1, rel, env, e1, fun F1 m1 H1 x1 r1 => ?_⟩
    cases t with
    | true => rw [if_pos rfl]; exact ⟨F1, m1, S1, ρ, x, S', r1, env.mono x1, e, then_of x1 k⟩
    | false => rw [if_neg Bool.false_ne_true]; exact ⟨F1, m1, S1, ρ, x, S', r1, env.mono x1, e, then_of x1 k⟩
theorem de_neg (ha : PE X a (tF X.K CL fa)) : PE X (.UnaryOp .USub a pos) (tF X.K CL (fNeg fa)) :=
  PEwk (pe_un un_neg ha.v) fun σ H Q ⟨F, m, S, ρ, x, S', rel, env, e, k⟩ => by
    obtain ⟨⟨y, S1⟩, e1, e⟩ := bind_some e
    refine ⟨F, m, S, ρ, y, S1, rel, env, e1, fun v F1 m1 H1 x1 r1 q1 => ?_⟩
    cases y with
    | cell _ => cases e
    | grd _ => cases e
    | d d =>
      cases d with
      | int i => cases e; cases q1; exact ⟨i, rfl, (then_of x1 k).d r1 (.int _)⟩
      | _ => cases e
theorem chain_inv {o o' : Cop} {ρ : Rho} {S S' : Sto} {r : Res} (e : fChain o o' fa fb fc ρ S = some (r, S')) : ∃ x S1 y S2 dx dy k, eV fa ρ S = some (x, S1) ∧ eV fb ρ S1 = some (y, S2) ∧ pk x S2 = some dx ∧ pk y S2 = some dy ∧ copD o dx dy = some k ∧
    if k = true then ∃ z dy' dz k', eV fc ρ S2 = some (z, S') ∧ pk y S' = some dy' ∧ pk z S' = some dz ∧ copD o' dy' dz = some k' ∧ r = .val (.d (.bl k')) else r = .val (.d (.bl false)) ∧ S' = S2 := by
  obtain ⟨⟨x, S1⟩, e1, e⟩ := bind_some e
  obtain ⟨⟨y, S2⟩, e2, e⟩ := bind_some e
  obtain ⟨dx, e3, e⟩ := bind_some e
  obtain ⟨dy, e4, e⟩ := bind_some e
  obtain ⟨t, e5, e⟩ := bind_some e
  refine ⟨x, S1, y, S2, dx, dy, t, e1, e2, e3, e4, e5, ?_⟩
  cases t with
  | true =>
    rw [if_pos rfl] at e ⊢
    obtain ⟨⟨z, S3⟩, e6, e⟩ := bind_some e
    obtain ⟨dy', e7, e⟩ := bind_some e
    obtain ⟨dz, e8, e⟩ := bind_some e
    obtain ⟨t', e9, e⟩ := map_some e
    cases e
    exact ⟨z, dy', dz, t', e6, e7, e8, e9, rfl⟩
  | false =>
    rw [if_neg Bool.false_ne_true] at e ⊢
    cases e
    exact ⟨rfl, rfl⟩
theorem chain_t {o o' : Cop} {σ : L2.St} {H : Hp} {Q : VK} {F : Hp} {m : List Addr} {S S' : Sto} {ρ : Rho} {r : Res} (rel : Rel X.K CL F m S H) (env : RepE X.K CL F m σ ρ) (e : fChain o o' fa fb fc ρ S = some (r, S'))
    (k : ∀ t F' m' H', Ext F m H F' m' H' → Rel X.K CL F' m' S' H' → r = .val (.d (.bl t)) → Q (.bl t) H') : tChain (rC X.K CL o) (rC X.K CL o') (tV X.K CL fa) (tV X.K CL fb) (tV X.K CL fc) σ H Q := by
  obtain ⟨x, S1, y, S2, dx, dy, t, e1, e2, e3, e4, e5, e6⟩ := chain_inv e
  refine ⟨F, m, S, ρ, x, S1, rel, env, e1, fun v F1 m1 H1 x1 r1 q1 => ⟨F1, m1, S1, ρ, y, S2, r1, env.mono x1, e2, fun w F2 m2 H2 x2 r2 q2 => ?_⟩⟩
  refine ⟨F2, m2, S2, dx, dy, t, r2, pk_ok r2 (q1.mono x2) e3, pk_ok r2 q2 e4, e5, t, rfl, ?_⟩
  cases t with
  | true =>
    rw [if_pos rfl] at e6 ⊢
    obtain ⟨z, dy', dz, t', e7, e8, e9, e10, rfl⟩ := e6
    refine ⟨F2, m2, S2, ρ, z, S', r2, (env.mono x1).mono x2, e7, fun u F3 m3 H3 x3 r3 q3 => ?_⟩
    exact ⟨F3, m3, S', dy', dz, t', r3, pk_ok r3 (q2.mono x3) e8, pk_ok r3 q3 e9, e10, k t' F3 m3 H3 ((x1.trans x2).trans x3) r3 rfl⟩
  | false =>
    rw [if_neg Bool.false_ne_true] at e6 ⊢
    obtain ⟨rfl, rfl⟩ := e6
    exact k false F2 m2 H2 (x1.trans x2) r2 rfl
theorem de_chain (hu : X.A.units + 65 < cLine) (o o' : Cop) (ha : PE X a (tF X.K CL fa)) (hb : PE X b (tF X.K CL fb)) (hc : PE X c (tF X.K CL fc)) (hm : lastMarks [copOf o, copOf o'] [b, c] = false) :
    PE X (.Compare a [copOf o, copOf o'] [b, c] pos) (tF X.K CL (fChain o o' fa fb fc)) :=
  PEwk (pe_chain (op_c hu o) (op_c hu o') ha.v hb.v hc.v hm) fun σ H Q ⟨F, m, S, ρ, r, S', rel, env, e, k⟩ =>
    chain_t rel env e fun t F' m' H' x1 r1 er => by subst er; exact k _ F' m' H' x1 r1 (.bl t)
theorem dt_chain (hu : X.A.units + 65 < cLine) (o o' : Cop) (ha : PE X a (tF X.K CL fa)) (hb : PE X b (tF X.K CL fb)) (hc : PE X c (tF X.K CL fc)) (hm : lastMarks [copOf o, copOf o'] [b, c] = false) :
    PT X (.Compare a [copOf o, copOf o'] [b, c] pos) (tT X.K CL (fChain o o' fa fb fc)) :=
  PTwk (pt_chain (op_c hu o) (op_c hu o') ha.v hb.v hc.v hm) fun σ H Q ⟨F, m, S, ρ, k, S', rel, env, e, q⟩ => by
    obtain ⟨d, e1, e2⟩ := tst_inv e
    obtain ⟨x, e3, e4⟩ := one_inv e1
    obtain ⟨⟨y, S1⟩, e5, e6⟩ := map_some e3
    cases e6
    refine chain_t rel env e5 fun t F' m' H' x1 r1 er => ⟨t, rfl, ?_⟩
    subst er
    cases e4
    cases e2
    exact q F' m' H' x1 r1

/-! ### displays, subscripts, slices, fields -/
/-- items -/
def tDs (K : PySem.W.Frag) (CL : Str → Option Addr) (fs : List EvF) : TA := fun σ H Q => ∃ F m S ρ ds S', Rel K CL F m S H ∧ RepE K CL F m σ ρ ∧ evs fs ρ S = some (ds, S') ∧
  ∀ vs F' m' H', Ext F m H F' m' H' → Rel K CL F' m' S' H' → RepL K CL F' vs ds → Q vs H'
theorem PAwk {es : List Expr} {t t' : TA} (h : PA X es t) (w : ∀ σ H Q, t' σ H Q → t σ H Q) : PA X es t' := ⟨fun p pins s σ H Q I q => h.run p pins s σ H Q I (w σ H Q q)⟩
theorem da_nil : PA X [] (tDs X.K CL []) := PAwk pa_nil fun σ H Q ⟨F, m, S, ρ, ds, S', rel, env, e, k⟩ => by
  cases e
  exact k [] F m H (Ext.refl ..) rel .nil
theorem da_cons {es : List Expr} {fs : List EvF} (ha : PE X a (tF X.K CL fa)) (hr : PA X es (tDs X.K CL fs)) (hs : starEach (a :: es) X.env = (false, eval a X.env) :: starEach es X.env) : PA X (a :: es) (tDs X.K CL (fa :: fs)) :=
  PAwk (pa_cons ha.dd hr hs) fun σ H Q ⟨F, m, S, ρ, ds, S', rel, env, e, k⟩ => by
    obtain ⟨⟨d, S1⟩, e1, e⟩ := bind_some e
    obtain ⟨⟨ds', S2⟩, e2, e⟩ := map_some e
    cases e
    exact ⟨F, m, S, ρ, d, S1, rel, env, e1, fun v F1 m1 H1 x1 r1 q1 => ⟨F1, m1, S1, ρ, ds', S', r1, env.mono x1, e2, fun vs F2 m2 H2 x2 r2 q2 => k (v :: vs) F2 m2 H2 (x1.trans x2) r2 (.cons (q1.mono x2.f) q2)⟩⟩
theorem de_tup {es : List Expr} {fs : List EvF} {x1} (h : PA X es (tDs X.K CL fs)) : PE X (.Tuple es x1 pos) (tF X.K CL (fTup fs)) :=
  PEwk (pe_tup h) fun σ H Q ⟨F, m, S, ρ, r, S', rel, env, e, k⟩ => by
    obtain ⟨⟨ds, S1⟩, e1, e⟩ := bind_some e
    obtain ⟨c, e⟩ := if_some e
    cases e
    exact ⟨F, m, S, ρ, ds, S', rel, env, e1, fun vs F' m' H' x1 r1 q1 => ⟨by rw [q1.length]; exact c, fun p hp => (then_of x1 k).tup r1 q1 hp⟩⟩
theorem de_lst {es : List Expr} {fs : List EvF} (h : PA X es (tDs X.K CL fs)) : PE X (.List es pos) (tF X.K CL (fLst fs)) :=
  PEwk (pe_lst h) fun σ H Q ⟨F, m, S, ρ, r, S', rel, env, e, k⟩ => by
    obtain ⟨⟨ds, S1⟩, e1, e⟩ := bind_some e
    obtain ⟨c, e⟩ := if_some e
    cases e
    exact ⟨F, m, S, ρ, ds, S', rel, env, e1, fun vs F' m' H' x1 r1 q1 => ⟨by rw [q1.length]; exact c, fun p hp => (then_of x1 k).lst r1 q1 hp⟩⟩
theorem atI_rep {K : PySem.W.Frag} {F : Hp} {vs : List V} {ds : List D} {i : Int} {d : D} (r : RepL K CL F vs ds) (h : atI ds i = some d) : ∃ v, atI vs i = some v ∧ RepD K CL F v d := by
  unfold atI at h ⊢
  rw [r.length]
  obtain ⟨j, e1, e2⟩ := bind_some h
  obtain ⟨v, e3, q⟩ := r.get e2
  exact ⟨v, by rw [e1]; exact e3, q⟩
theorem de_idx (ha : PE X a (tF X.K CL fa)) (hb : PE X b (tF X.K CL fb)) (hs : PlainIx b) : PE X (.Subscript a b pos) (tF X.K CL (fIdx fa fb)) :=
  PEwk (pe_ix ix_seq ha.v hb.v hs) fun σ H Q ⟨F, m, S, ρ, r, S', rel, env, e, k⟩ => by
    obtain ⟨⟨p, S1⟩, e1, e⟩ := bind_some e
    obtain ⟨d, e2, e⟩ := map_some e
    cases e
    refine two_t rel env e1 fun v w F' m' H' x1 r1 q1 q2 => ?_
    obtain ⟨da, db⟩ := p
    have k' := then_of x1 k
    have hs := r1.sub
    cases db with
    | int i =>
      cases q2
      cases da with
      | str z =>
        cases q1
        obtain ⟨c, e2⟩ := Option.ite_none_right_eq_some.mp e2
        obtain ⟨ch, e3, rfl⟩ := map_some e2
        exact .inr (.inr ⟨z, i, ch, rfl, rfl, c, e3, k'.d r1 (.str _)⟩)
      | lst xs =>
        obtain ⟨q, vs, rfl, h1, h2⟩ := q1
        obtain ⟨x, h3, h4⟩ := atI_rep h2 e2
        exact .inl ⟨q, vs, i, x, rfl, rfl, SqL.of h1, h3, k'.d r1 h4⟩
      | scr xs =>
        obtain ⟨q, vs, rfl, h1, h2⟩ := RepT.scr hs q1
        obtain ⟨x, h3, h4⟩ := atI_rep h2 e2
        exact .inl ⟨q, vs, i, x, rfl, rfl, h1, h3, k'.d r1 h4⟩
      | tup xs =>
        obtain ⟨q, vs, rfl, h1, h2⟩ := RepT.tup hs q1
        obtain ⟨x, h3, h4⟩ := atI_rep h2 e2
        exact .inr (.inl ⟨q, vs, i, x, rfl, rfl, h1, h3, k'.d r1 h4⟩)
      | _ => cases e2
    | _ => cases da <;> cases e2
theorem dt_idx (ha : PE X a (tF X.K CL fa)) (hb : PE X b (tF X.K CL fb)) (hs : PlainIx b) (he : ∀ whole, isTrue (.Subscript a b pos) X.env whole = (do let v ← whole; standAt pos; holding [v] (truthy v))) : PT X (.Subscript a b pos) (tT X.K CL (fIdx fa fb)) := dt_val (de_idx ha hb hs) he

/-- a slice's part -/
def tPo (K : PySem.W.Frag) (CL : Str → Option Addr) (f : Option EvF) : TO := fun σ H Q => ∃ F m S ρ i S', Rel K CL F m S H ∧ RepE K CL F m σ ρ ∧ part f ρ S = some (i, S') ∧
  ∀ F' m' H', Ext F m H F' m' H' → Rel K CL F' m' S' H' → Q i H'
theorem POwk {o : Option Expr} {t t' : TO} (h : PO X o t) (w : ∀ σ H Q, t' σ H Q → t σ H Q) : PO X o t' := ⟨fun pins s σ H Q I q => h.run pins s σ H Q I (w σ H Q q)⟩
theorem dp_none : PO X none (tPo X.K CL none) := POwk po_none fun σ H Q ⟨F, m, S, ρ, i, S', rel, env, e, k⟩ => by
  cases e
  exact k F m H (Ext.refl ..) rel
theorem dp_some (h : PE X a (tF X.K CL fa)) : PO X (some a) (tPo X.K CL (some fa)) := POwk (po_some h.v) fun σ H Q ⟨F, m, S, ρ, i, S', rel, env, e, k⟩ => by
  obtain ⟨⟨y, S1⟩, e1, e⟩ := bind_some e
  refine ⟨F, m, S, ρ, y, S1, rel, env, e1, fun v F1 m1 H1 x1 r1 q1 => ?_⟩
  cases y with
  | cell _ => cases e
  | grd _ => cases e
  | d d =>
    cases d with
    | int j => cases e; cases q1; exact ⟨j, rfl, k F1 m1 H1 x1 r1⟩
    | _ => cases e
theorem cut_rep {K : PySem.W.Frag} {F : Hp} {vs : List V} {ds : List D} (r : RepL K CL F vs ds) (lo hi : Option Int) : RepL K CL F (cutV vs lo hi) (cutD ds lo hi) := by
  unfold cutV cutD
  rw [r.length]
  exact (r.drop _).take _
theorem de_slc {lo hi : Option Expr} {fl fh : Option EvF} {p2 : Pos} (ha : PE X a (tF X.K CL fa)) (hl : PO X lo (tPo X.K CL fl)) (hh : PO X hi (tPo X.K CL fh)) : PE X (.Subscript a (.Slice lo hi none p2) pos) (tF X.K CL (fSlc fa fl fh)) :=
  PEwk (pe_slice (SlR.or sl_list (SlR.or sl_tupA sl_str)) ha.v hl hh) fun σ H Q ⟨F, m, S, ρ, r, S', rel, env, e, k⟩ => by
    obtain ⟨⟨x, S1⟩, e1, e⟩ := bind_some e
    obtain ⟨⟨l, S2⟩, e2, e⟩ := bind_some e
    obtain ⟨⟨h, S3⟩, e3, e⟩ := bind_some e
    obtain ⟨dx, e4, e⟩ := bind_some e
    obtain ⟨o, e5, e⟩ := map_some e
    cases e
    refine ⟨F, m, S, ρ, x, S1, rel, env, e1, fun v F1 m1 H1 x1 r1 q1 => ⟨F1, m1, S1, ρ, l, S2, r1, env.mono x1, e2, fun F2 m2 H2 x2 r2 => ⟨F2, m2, S2, ρ, h, S', r2, (env.mono x1).mono x2, e3, fun F3 m3 H3 x3 r3 => ?_⟩⟩⟩
    have t := pk_ok r3 ((q1.mono x2).mono x3) e4
    have k' := then_of ((x1.trans x2).trans x3) k
    have hs := r3.sub
    cases dx with
    | str z =>
      obtain ⟨c, e5⟩ := if_some e5
      cases e5
      cases t
      exact .inr (.inr ⟨z, rfl, c, k'.d r3 (.str _)⟩)
    | lst xs =>
      cases e5
      obtain ⟨q, vs, rfl, h1, h2⟩ := t
      exact .inl ⟨q, vs, rfl, SqL.of h1, fun p hp => k'.lst r3 (cut_rep h2 l h) hp⟩
    | scr xs =>
      cases e5
      obtain ⟨q, vs, rfl, h1, h2⟩ := RepT.scr hs t
      exact .inl ⟨q, vs, rfl, h1, fun p hp => k'.lst r3 (cut_rep h2 l h) hp⟩
    | tup xs =>
      cases e5
      obtain ⟨q, vs, rfl, h1, h2⟩ := RepT.tup hs t
      refine .inr (.inl ⟨q, vs, rfl, h1, fun w => ?_, fun _ p hp => k'.tup r3 (cut_rep h2 l h) hp⟩)
      have : cutD xs l h = xs := by
        unfold cutD
        rw [← h2.length, w.1, w.2, List.drop_zero, Nat.sub_zero, h2.length, List.take_length]
      rw [this] at k'
      exact k'.d r3 t
    | _ => cases e5
end
end Ev
set_option Elab.async false
set_option linter.all false
set_option maxRecDepth 100000
/-! Own text: built-in functions by the data. -/
namespace Ev
open PySem PySem.Spec PyProof.Rows L2

/-! ### sorting, plain -/
section
variable {α : Type} {le : α → α → Bool}
theorem ins_perm (x : α) : ∀ xs : List α, (ins le x xs).Perm (x :: xs)
  | [] => .refl _
  | y :: ys => by
    unfold ins
    split
    · exact .refl _
    · exact ((ins_perm x ys).cons y).trans (.swap x y ys)
theorem isort_perm : ∀ xs : List α, (isort le xs).Perm xs
  | [] => .refl _
  | x :: xs => (ins_perm x _).trans ((isort_perm xs).cons x)
theorem ins_mem {x z : α} {xs : List α} (h : z ∈ ins le x xs) : z = x ∨ z ∈ xs := by
  have := (ins_perm (le := le) x xs).mem_iff.mp h
  simpa using this
theorem ins_pair (tot : ∀ a b, le a b = true ∨ le b a = true) (tr : ∀ a b c, le a b = true → le b c = true → le a c = true) (x : α) : ∀ xs : List α, xs.Pairwise (fun a b => le a b = true) → (ins le x xs).Pairwise (fun a b => le a b = true)
  | [], _ => by simp [ins]
  | y :: ys, h => by
    rw [List.pairwise_cons] at h
    unfold ins
    split
    · rename_i q
      rw [List.pairwise_cons, List.pairwise_cons]
      refine ⟨fun z hz => ?_, h⟩
      rcases List.mem_cons.mp hz with rfl | hz
      · exact q
      · exact tr _ _ _ q (h.1 z hz)
    · rename_i q
      rw [List.pairwise_cons]
      refine ⟨fun z hz => ?_, ins_pair tot tr x ys h.2⟩
      rcases ins_mem hz with rfl | hz
      · exact (tot y z).resolve_right q
      · exact h.1 z hz
theorem isort_pair (tot : ∀ a b, le a b = true ∨ le b a = true) (tr : ∀ a b c, le a b = true → le b c = true → le a c = true) : ∀ xs : List α, (isort le xs).Pairwise (fun a b => le a b = true)
  | [] => .nil
  | x :: xs => ins_pair tot tr x _ (isort_pair tot tr xs)
theorem isort_uniq (tot : ∀ a b, le a b = true ∨ le b a = true) (tr : ∀ a b c, le a b = true → le b c = true → le a c = true) (anti : ∀ a b, le a b = true → le b a = true → a = b) {xs ys : List α} (hp : ys.Perm xs) (hs : ys.Pairwise (fun a b => le a b = true)) : ys = isort le xs :=
  List.Perm.eq_of_pairwise (fun a b _ _ h1 h2 => anti a b h1 h2) hs (isort_pair tot tr xs) (hp.trans (isort_perm xs).symm)
end
theorem leI_tot (a b : Int) : leI a b = true ∨ leI b a = true := by simp only [leI, decide_eq_true_eq]; omega
theorem leI_tr (a b c : Int) (h : leI a b = true) (h' : leI b c = true) : leI a c = true := by simp only [leI, decide_eq_true_eq] at *; omega
theorem leI_anti (a b : Int) (h : leI a b = true) (h' : leI b a = true) : a = b := by simp only [leI, decide_eq_true_eq] at *; omega
theorem isortI {ns ns' : List Int} (hp : ns'.Perm ns) (hs : ns'.Pairwise (· ≤ ·)) : ns' = isort leI ns :=
  isort_uniq leI_tot leI_tr leI_anti hp (hs.imp fun h => by simpa [leI] using h)
theorem leS_iff (a b : Str) : leS a b = true ↔ a.cps.toList ≤ b.cps.toList := by
  unfold leS
  rw [Bool.not_eq_true', decide_eq_false_iff_not]
  exact List.not_lt
theorem leS_tot (a b : Str) : leS a b = true ∨ leS b a = true := by
  rw [leS_iff, leS_iff]
  exact List.le_total _ _
theorem leS_tr (a b c : Str) (h : leS a b = true) (h' : leS b c = true) : leS a c = true := by
  rw [leS_iff] at *
  exact List.le_trans h h'
theorem leS_anti (a b : Str) (h : leS a b = true) (h' : leS b a = true) : a = b := by
  rw [leS_iff] at *
  have := List.le_antisymm h h'
  cases a; cases b
  simp only at this
  have e := congrArg List.toArray this
  simp only [Array.toArray_toList] at e
  rw [e]
theorem risingS_pair : ∀ (p : Str) (l : List Str), risingS p l = true → (p :: l).Pairwise fun a b => leS a b = true
  | p, [], _ => by simp
  | p, x :: r, h => by
    unfold risingS at h
    rw [Bool.and_eq_true] at h
    have ih := risingS_pair x r h.2
    have hpx : leS p x = true := by
      unfold leS
      rw [← ltCps_eq]
      exact h.1
    rw [List.pairwise_cons]
    refine ⟨fun z hz => ?_, ih⟩
    rcases List.mem_cons.mp hz with rfl | hz
    · exact hpx
    · exact leS_tr _ _ _ hpx ((List.pairwise_cons.mp ih).1 z hz)
theorem isortS {ss ss' : List Str} (hp : ss'.Perm ss) (hs : sortedS ss' = true) : ss' = isort leS ss := by
  refine isort_uniq leS_tot leS_tr leS_anti hp ?_
  cases ss' with
  | nil => exact .nil
  | cons x r => exact risingS_pair x r hs

/-! ### sorted, of anything that is gathered into a list first -/
section
variable {prog : Program} {w : World} {A : Around} {E : Value → Shared → Prop} {s : Shared}
theorem sorted_any {κ : KeyKind} (hO : κ.OneLt) {v : Value} {Q : Value → Shared → Prop}
    (gather : ∀ {R : List Value → Shared → Prop}, (∀ s1 vs, KeysOf κ (pairsOf vs) → (∀ v₁ v₂ rest, vs = v₁ :: v₂ :: rest → keyKind' (v₁ :: v₂ :: rest).toArray = pure oneType') → vs.length ≤ sizeLine →
      (∀ st' : SortSt, (arrOf st').Perm (pairsOf vs) → SortedToK κ (arrOf st') (pairsOf vs).size → ∀ (h2 : Heap) (ep : Nat), (∀ b o, s1.heap.get? b = some o → h2.get? b = some o) →
        h2.get? s1.heap.objs.size = some (seqObj "list" ((arrOf st').map (·.2)) ep) → Q (.ref s1.heap.objs.size) { s1 with heap := h2 }) → R vs s1) → wpAny (model prog w) A.in1 (collect v) R E s) :
    wpAny (model prog w) A (call (.builtin "sorted") [v]) Q E s := by
  refine Calls.call_function_entry kind_sorted plain_sorted entry_sorted (args_sorted1 _) ?_
  unfold Builtin.«sorted»
  refine wpAny_bind (m := checkCount "sorted" 1 1 _) (wpAny_pure ?_)
  refine wpAny_bind (gather fun s1 vs h0 hkk hL fin => ?_)
  refine wpAny_bind (wpAny_newList ?_ hL)
  have new : (s1.heap.push (seqObj "list" vs.toArray 0)).get? s1.heap.objs.size = some (seqObj "list" vs.toArray 0) := Heap.get?_push_size _ rfl
  refine wpAny_bind (wpAny_holding (wpAny_call_entry slot_list_sort ⟨_, new, rfl⟩ entry_list_sort (list_sort_treeKAny hO new h0 hkk hL fun st' a1 a2 => ⟨_, rfl, ?_⟩) (args_list_sort _)))
  obtain ⟨ep, at_⟩ := sortedHeap_at (vs := vs) (out := (arrOf st').map (·.2)) new
  exact wpAny_pure ⟨_, rfl, fin st' a1 a2 _ ep (fun b o e => by
    have lt := Heap.lt_size e
    rw [sortedHeap_old (Nat.ne_of_lt lt) (Nat.lt_of_lt_of_le lt (by rw [size_push']; omega))]
    exact Heap.get?_push_of_some _ e) at_⟩
end
section
variable {X : Cx} {CL : Str → Option Addr}
theorem vals_of_signs (z : Str) {acc : Array Value} (h : ItemsOf (SignAt z) acc z.cps.size) : Vals (z.cps.toList.map fun c => V.str ⟨#[c]⟩) acc.toList := by
  refine vals_of_at (by simp [h.1]) fun j x u h1 h2 => ?_
  obtain ⟨c, t, hc, rfl⟩ := h.2 j u (by simpa using h2)
  rw [List.getElem?_map] at h1
  have : z.cps.toList[j]? = some c := by simpa using hc
  rw [this] at h1
  cases h1
  exact ⟨t, rfl⟩
theorem signs_rep {K : PySem.W.Frag} {F : Hp} (z : Str) : RepL K CL F (z.cps.toList.map fun c => V.str ⟨#[c]⟩) (signs z) := by
  unfold signs
  induction z.cps.toList with
  | nil => exact .nil
  | cons c cs ih => exact .cons (.str _) ih
theorem ints_rep {K : PySem.W.Frag} {F : Hp} : ∀ ns : List Int, RepL K CL F (ns.map V.int) (ns.map D.int)
  | [] => .nil
  | n :: ns => .cons (.int n) (ints_rep ns)
theorem strs_rep {K : PySem.W.Frag} {F : Hp} : ∀ ns : List Str, RepL K CL F (ns.map V.str) (ns.map D.str)
  | [] => .nil
  | n :: ns => .cons (.str n) (strs_rep ns)
theorem ints_of {K : PySem.W.Frag} {F : Hp} : ∀ {ds : List D} {ns : List Int} {vs : List V}, intsOf ds = some ns → RepL K CL F vs ds → vs = ns.map V.int
  | [], _, _, e, .nil => by cases e; rfl
  | d :: ds, ns, _, e, .cons a b => by
    obtain ⟨i, e1, e⟩ := bind_some e
    obtain ⟨is, e2, rfl⟩ := map_some e
    cases d with
    | int j => cases e1; cases a; rw [List.map_cons, ints_of e2 b]
    | _ => cases e1
theorem strs_of {K : PySem.W.Frag} {F : Hp} : ∀ {ds : List D} {ns : List Str} {vs : List V}, strsOf ds = some ns → RepL K CL F vs ds → vs = ns.map V.str
  | [], _, _, e, .nil => by cases e; rfl
  | d :: ds, ns, _, e, .cons a b => by
    obtain ⟨i, e1, e⟩ := bind_some e
    obtain ⟨is, e2, rfl⟩ := map_some e
    cases d with
    | str j => cases e1; cases a; rw [List.map_cons, strs_of e2 b]
    | _ => cases e1
theorem bools_of {K : PySem.W.Frag} {F : Hp} : ∀ {ds : List D} {bs : List Bool} {vs : List V}, boolsOf ds = some bs → RepL K CL F vs ds → vs = bs.map V.bl
  | [], _, _, e, .nil => by cases e; rfl
  | d :: ds, bs, _, e, .cons a b => by
    cases d with
    | bl k =>
      obtain ⟨is, e2, rfl⟩ := map_some e
      cases a
      rw [List.map_cons, bools_of e2 b]
    | _ => cases e

/-- values, each the data -/
inductive RepTs (K : PySem.W.Frag) (CL : Str → Option Addr) (F H : Hp) : List V → List D → Prop
  | nil : RepTs K CL F H [] []
  | cons {v : V} {vs : List V} {d : D} {ds : List D} : RepT K CL F H v d → RepTs K CL F H vs ds → RepTs K CL F H (v :: vs) (d :: ds)
def rBi (K : PySem.W.Frag) (CL : Str → Option Addr) (b : Bi) : List V → Hp → VK → Prop := fun xs H Q => ∃ F m S ds r, Rel K CL F m S H ∧ RepTs K CL F H xs ds ∧ biD b ds = some r ∧ Then K CL F m S H r.res Q
def biV : Bi → Value
  | .len => .builtin "len"
  | .abs => .builtin "abs"
  | .int => .type "int"
  | .list => .type "list"
  | .tuple => .type "tuple"
  | .sorted => .builtin "sorted"
  | .sum => .builtin "sum"
  | .any => .builtin "any"
  | .all => .builtin "all"
  | .min => .builtin "min"
  | .max => .builtin "max"
  | .divmod => .builtin "divmod"
theorem Inv.list_new {pins : List (Addr × Obj)} {s s1 : Shared} {σ : L2.St} {H : Hp} {Q : VK} {vs : List V} {its : Array Value} {h2 : Heap} {ep : Nat} (I : Inv X pins σ H s) (keep : ∀ b o, s.heap.get? b = some o → s1.heap.get? b = some o)
    (g1 : s1.gens = s.gens) (g2 : s1.drawn = s.drawn) (g3 : s1.os = s.os) (k2 : ∀ b o, s1.heap.get? b = some o → h2.get? b = some o) (at_ : h2.get? s1.heap.objs.size = some (seqObj "list" its ep)) (r : Vals vs its.toList) (hz : vs.length ≤ sizeLine)
    (q : ∀ p, H p = none → Q (.ref p) (upd H p (.lst vs))) : EP X pins σ Q (.ref s1.heap.objs.size) { s1 with heap := h2 } := by
  obtain ⟨h1, gs, dr, tk, os⟩ := s1
  simp only at g1 g2 g3
  subst g1 g2 g3
  have I1 : Inv X pins σ H { s with heap := h1, toks := tk } := I.kept keep
  exact ⟨.ref h1.objs.size, upd H h1.objs.size (.lst vs), I1.laid (t' := tk) k2 (Nat.le_refl _) ⟨hz, its.toList, ep, r, by rw [Array.toArray_toList]; exact at_⟩, rfl, q _ I1.fresh⟩
theorem vals_ints {vs : List Value} {ns : List Int} (h : IntsAre vs ns) : Vals (ns.map V.int) vs := vals_of_ints h
theorem cr_sorted_any (hc : X.calm = true) : CallR X (biV .sorted) (rBi X.K CL .sorted) := by
  intro pins s σ H xs us Q I r h
  obtain ⟨F, m, S, ds, o, rel, reps, e, k⟩ := h
  cases reps with
  | nil => cases e
  | @cons v vs d ds' t rest =>
    cases rest with
    | cons _ _ => cases e
    | nil =>
      obtain ⟨items, e1, e⟩ := bind_some e
      obtain ⟨hlen, e⟩ := Option.ite_none_right_eq_some.mp e
      obtain ⟨out, e2, rfl⟩ := map_some e
      obtain ⟨u, rfl, rv⟩ := vals1 r
      -- the items as values, whatever they stand in
      obtain ⟨ws, hw, hg⟩ : ∃ ws : List V, RepL X.K CL F ws items ∧ ∀ {R : List Value → Shared → Prop}, (∀ s1 us, (∀ b o, s.heap.get? b = some o → s1.heap.get? b = some o) → s1.gens = s.gens → s1.drawn = s.drawn → s1.os = s.os → Vals ws us → R us s1) → wpAny (model X.prog X.w) X.A.in1 (collect u) R X.xe s := by
        have hseq : ∀ {ds}, seqOf d = some ds → items = ds → ∃ ws : List V, RepL X.K CL F ws items ∧ ∀ {R : List Value → Shared → Prop}, (∀ s1 us, (∀ b o, s.heap.get? b = some o → s1.heap.get? b = some o) → s1.gens = s.gens → s1.drawn = s.drawn → s1.os = s.os → Vals ws us → R us s1) → wpAny (model X.prog X.w) X.A.in1 (collect u) R X.xe s := by
          intro ds es ei
          subst ei
          obtain ⟨p, ws, rfl, h1, h2⟩ := t.seq rel.sub es
          cases rv
          refine ⟨ws, h2, fun {R} hR => ?_⟩
          rcases h1 with h1 | h1
          · obtain ⟨its, r', pl, hz⟩ := I.list h1
            obtain ⟨ob, ho, hc, n, hd⟩ := pl.isList
            exact wpAny_collect_seq p (.inl rfl) ho hc hd (fun h' a1 => hR _ _ a1 rfl rfl rfl (by simpa using r')) (by have := r'.length; simp only [List.size_toArray]; omega)
          · obtain ⟨its, r', pl, hz⟩ := I.tuple h1
            obtain ⟨ob, ho, hc, n, hd⟩ := pl
            exact wpAny_collect_seq p (.inr rfl) ho hc hd (fun h' a1 => hR _ _ a1 rfl rfl rfl (by simpa using r')) (by have := r'.length; simp only [List.size_toArray]; omega)
        cases d with
        | str z =>
          obtain ⟨c, e1⟩ := if_some e1
          subst e1
          cases t
          obtain ⟨tk, rfl⟩ := rv
          exact ⟨_, signs_rep z, fun {R} hR => wpAny_collect_str (A := X.A.in1) (show X.A.handled = none from I.ok.hd hc) z tk (fun s' acc a1 a2 a3 a4 a5 => hR s' acc.toList a1 a2 a3 a4 (vals_of_signs z a5)) c⟩
        | lst xs => exact hseq rfl (by cases e1; rfl)
        | scr xs => exact hseq rfl (by cases e1; rfl)
        | tup xs => exact hseq rfl (by cases e1; rfl)
        | _ => cases e1
      have hlw : ws.length ≤ sizeLine := by rw [hw.length]; exact hlen
      unfold sortL at e2
      cases hi : intsOf items with
      | some ns =>
        rw [hi] at e2
        cases e2
        have ew := ints_of hi hw
        subst ew
        refine sorted_any intKind_oneLt fun {R} hR => hg fun s1 us a1 a2 a3 a4 rv' => ?_
        have hI := rv'.ints
        refine hR s1 us hI.keysOfInt (fun v₁ v₂ rest e => keyKind_ints (by rw [← e]; exact hI)) (by rw [← rv'.length]; exact hlw) fun st' hp hs h2 ep k2 at_ => ?_
        obtain ⟨ns', b1, b2, b3⟩ := sorted_out hI hp (sortedTo_of_int hs)
        rw [isortI b2 b3] at b1
        refine Inv.list_new I a1 a2 a3 a4 k2 at_ (vals_of_ints b1) ?_ fun p hp => k.lst rel (ints_rep _) hp
        rw [List.length_map, (isort_perm ns).length_eq]
        simpa using hlw
      | none =>
        rw [hi] at e2
        obtain ⟨ss, e3, e2⟩ := map_some e2
        subst e2
        have ew := strs_of e3 hw
        subst ew
        refine sorted_any strKind_oneLt fun {R} hR => hg fun s1 us a1 a2 a3 a4 rv' => ?_
        have hI := rv'.strs
        refine hR s1 us hI.keysOf (fun v₁ v₂ rest e => keyKind_strs (by rw [← e]; exact hI)) (by rw [← rv'.length]; exact hlw) fun st' hp hs h2 ep k2 at_ => ?_
        obtain ⟨ns', b1, b2, b3⟩ := sorted_out_str hI hp hs
        rw [isortS b2 b3] at b1
        refine Inv.list_new I a1 a2 a3 a4 k2 at_ (vals_of_strs b1) ?_ fun p hp => k.lst rel (strs_rep _) hp
        rw [List.length_map, (isort_perm ss).length_eq]
        simpa using hlw
end
end Ev
set_option Elab.async false
set_option linter.all false
set_option maxRecDepth 100000
/-! Own text: built-in functions by the data, the rest. -/
namespace Ev
open PySem PySem.Spec PyProof.Rows L2

/-! ### the lesser, the greater one of two texts -/
section
variable {prog : Program} {w : World} {A : Around} {E : Value → Shared → Prop} {s : Shared}
/-- the pair that min and max walk -/
theorem pair_walk (hh : A.handled = none) (a b : Value) {R : Value → Shared → Prop}
    (h : ∀ s2 : Shared, s2.heap = (s.heap.push { cls := .type "tuple", data := .seq #[a, b] }).push { cls := .type "tuple_iterator", data := .fields #[.ref s.heap.objs.size, .int 0 0] } → s2.gens = s.gens → s2.drawn = s.drawn → s2.toks = s.toks → s2.os = s.os →
      ∀ (W : Walks prog w A.in1 (s.heap.objs.size + 1) [s.heap.objs.size + 1, s.heap.objs.size] [s.heap.objs.size + 1] 2 (fun i v => (#[a, b] : Array Value)[i]? = some v) (fun i h => h.IsTupleIter (s.heap.objs.size + 1) s.heap.objs.size i ∧ h.IsTuple s.heap.objs.size #[a, b])),
      (s2.heap.IsTupleIter (s.heap.objs.size + 1) s.heap.objs.size 0 ∧ s2.heap.IsTuple s.heap.objs.size #[a, b]) → (∀ c ∈ [s.heap.objs.size + 1, s.heap.objs.size], c < s2.heap.objs.size) →
      (∀ h' : Heap, (∀ c o, c ∉ [s.heap.objs.size + 1] → s2.heap.get? c = some o → h'.get? c = some o) → ∀ c o, s.heap.get? c = some o → h'.get? c = some o) → R (.ref (s.heap.objs.size + 1)) s2) :
    wpAny (model prog w) A.in1 (pyIter (.ref s.heap.objs.size)) R E { s with heap := s.heap.push { cls := .type "tuple", data := .seq #[a, b] } } := by
  have isT : (s.heap.push { cls := .type "tuple", data := .seq #[a, b] }).IsTuple s.heap.objs.size #[a, b] := ⟨_, Heap.get?_push_size _ rfl, rfl, 0, rfl⟩
  have sz1 : (s.heap.push { cls := .type "tuple", data := .seq #[a, b] }).objs.size = s.heap.objs.size + 1 := Heap.size_push ..
  refine wpAny_pyIter_tuple isT ?_
  rw [show ({ s with heap := s.heap.push { cls := .type "tuple", data := .seq #[a, b] } } : Shared).heap.objs.size = s.heap.objs.size + 1 from sz1]
  have sz2 : ((s.heap.push { cls := .type "tuple", data := .seq #[a, b] }).push { cls := .type "tuple_iterator", data := .fields #[.ref s.heap.objs.size, .int 0 0] }).objs.size = s.heap.objs.size + 2 := by
    rw [Heap.size_push, sz1]
  have iter0 : ((s.heap.push { cls := .type "tuple", data := .seq #[a, b] }).push { cls := .type "tuple_iterator", data := .fields #[.ref s.heap.objs.size, .int 0 0] }).IsTupleIter (s.heap.objs.size + 1) s.heap.objs.size 0 := by
    have q := Heap.get?_push_size (s.heap.push { cls := .type "tuple", data := .seq #[a, b] }) (o := { cls := .type "tuple_iterator", data := .fields #[.ref s.heap.objs.size, .int 0 0] }) rfl
    rw [sz1] at q
    exact ⟨_, q, rfl, rfl⟩
  refine h _ rfl rfl rfl rfl rfl (Walks.tuple (A := A.in1) hh (s.heap.objs.size + 1) s.heap.objs.size (Nat.ne_of_lt (Nat.lt_succ_self _)) #[a, b]) ⟨iter0, isT.push _⟩ (fun c hc => ?_) fun h' keep c o e => ?_
  · refine Nat.lt_of_lt_of_eq ?_ sz2.symm
    rcases List.mem_cons.mp hc with z | z
    · omega
    · have z := List.mem_singleton.mp z
      omega
  · refine keep c o (fun z => ?_) (Heap.get?_push_of_some _ (Heap.get?_push_of_some _ e))
    have lt : c < s.heap.objs.size := Heap.lt_size e
    have z' : c = s.heap.objs.size + 1 := List.mem_singleton.mp z
    rw [z'] at lt
    exact absurd lt (Nat.not_lt.mpr (Nat.le_succ _))
def txt2 (a b : Str) (i : Nat) : List Nat := if i = 0 then a.cps.toList else b.cps.toList
theorem txt2_at {a b : Str} {t u : Tok} {i : Nat} {v : Value} (h : (#[.str a t, .str b u] : Array Value)[i]? = some v) : ∃ z tk, v = .str z tk ∧ z.cps.toList = txt2 a b i := by
  match i, h with
  | 0, h => cases h; exact ⟨a, t, rfl, rfl⟩
  | 1, h => cases h; exact ⟨b, u, rfl, rfl⟩
  | n + 2, h => simp at h
theorem min_strs {a b : Str} {t u : Tok} {Q : Value → Shared → Prop} (hh : A.handled = none)
    (h : ∀ h' tk, (∀ c o, s.heap.get? c = some o → h'.get? c = some o) → Q (if b.cps.toList < a.cps.toList then .str b u else .str a t) { s with heap := h', toks := tk }) : wpAny (model prog w) A (call (.builtin "min") [.str a t, .str b u]) Q E s := by
  refine call_min_two (pair_walk hh _ _ fun s2 e1 e2 e3 e4 e5 W st fp keep => ?_)
  refine ⟨_, _, _, _, _, _, fun i j => decide (txt2 a b i < txt2 a b j), rfl, W, st, fp, by decide, fun i j vi vj s3 R E' hi hj hR => ?_, fun v h' tk hP hk => ?_⟩
  · obtain ⟨z, tz, rfl, ez⟩ := txt2_at hi
    obtain ⟨y, ty, rfl, ey⟩ := txt2_at hj
    have hR' : R (.bool (decide (z.cps.toList < y.cps.toList))) s3 := by rw [ez, ey]; exact hR
    exact richCompare_gives (op := .Lt) (typeIs_str s3 z tz) (typeIs_str s3 y ty) F.slot_str_lt F.entry_str_lt (F.args_str_lt_2 _ _) (gives_str_lt z y tz ty) (fun x => nomatch x) hR'
  · obtain ⟨h2, gs, dr, tk2, os⟩ := s2
    simp only at e1 e2 e3 e4 e5
    subst e2 e3 e5
    have q := h h' tk (keep h' hk)
    have ev : v = if b.cps.toList < a.cps.toList then Value.str b u else Value.str a t := by
      by_cases hba : b.cps.toList < a.cps.toList
      · rw [if_pos hba]
        simpa [argBest, txt2, hba] using hP.symm
      · rw [if_neg hba]
        simpa [argBest, txt2, hba] using hP.symm
    rw [ev]
    exact q
theorem max_strs {a b : Str} {t u : Tok} {Q : Value → Shared → Prop} (hh : A.handled = none)
    (h : ∀ h' tk, (∀ c o, s.heap.get? c = some o → h'.get? c = some o) → Q (if a.cps.toList < b.cps.toList then .str b u else .str a t) { s with heap := h', toks := tk }) : wpAny (model prog w) A (call (.builtin "max") [.str a t, .str b u]) Q E s := by
  refine call_max_two (pair_walk hh _ _ fun s2 e1 e2 e3 e4 e5 W st fp keep => ?_)
  refine ⟨_, _, _, _, _, _, fun i j => decide (txt2 a b j < txt2 a b i), rfl, W, st, fp, by decide, fun i j vi vj s3 R E' hi hj hR => ?_, fun v h' tk hP hk => ?_⟩
  · obtain ⟨z, tz, rfl, ez⟩ := txt2_at hi
    obtain ⟨y, ty, rfl, ey⟩ := txt2_at hj
    have hR' : R (.bool (decide (y.cps.toList < z.cps.toList))) s3 := by rw [ez, ey]; exact hR
    exact richCompare_gives (op := .Gt) (typeIs_str s3 z tz) (typeIs_str s3 y ty) F.slot_str_gt F.entry_str_gt (F.args_str_gt_2 _ _) (gives_str_gt z y tz ty) (fun x => nomatch x) hR'
  · obtain ⟨h2, gs, dr, tk2, os⟩ := s2
    simp only at e1 e2 e3 e4 e5
    subst e2 e3 e5
    have q := h h' tk (keep h' hk)
    have ev : v = if a.cps.toList < b.cps.toList then Value.str b u else Value.str a t := by
      by_cases hba : a.cps.toList < b.cps.toList
      · rw [if_pos hba]
        simpa [argBest, txt2, hba] using hP.symm
      · rw [if_neg hba]
        simpa [argBest, txt2, hba] using hP.symm
    rw [ev]
    exact q
end

section
variable {X : Cx} {CL : Str → Option Addr}
theorem reps1 {K : PySem.W.Frag} {F H : Hp} {xs : List V} {d : D} (h : RepTs K CL F H xs [d]) : ∃ x, xs = [x] ∧ RepT K CL F H x d := by
  cases h with
  | cons a b => cases b; exact ⟨_, rfl, a⟩
theorem reps2 {K : PySem.W.Frag} {F H : Hp} {xs : List V} {d e : D} (h : RepTs K CL F H xs [d, e]) : ∃ x y, xs = [x, y] ∧ RepT K CL F H x d ∧ RepT K CL F H y e := by
  cases h with
  | cons a b =>
    cases b with
    | cons a' b' => cases b'; exact ⟨_, _, rfl, a, a'⟩
theorem cr_len : CallR X (biV .len) (rBi X.K CL .len) := by
  intro pins s σ H xs us Q I r h
  obtain ⟨F, m, S, ds, o, rel, reps, e, k⟩ := h
  match ds, e with
  | [d], e =>
    obtain ⟨n, e1, rfl⟩ := map_some e
    obtain ⟨x, rfl, t⟩ := reps1 reps
    have kk := k.d rel (.int n)
    cases d with
    | str z => obtain ⟨c, e1⟩ := if_some e1; subst e1; cases t; exact call_len pins s σ H _ us Q I r ⟨_, _, rfl, ⟨c, rfl⟩, kk⟩
    | lst xs => cases e1; obtain ⟨p, vs, rfl, h1, h2⟩ := t; exact call_len pins s σ H _ us Q I r ⟨_, _, rfl, .inl ⟨vs, SqL.of h1, h2.length.symm⟩, kk⟩
    | scr xs => cases e1; obtain ⟨p, vs, rfl, h1, h2⟩ := RepT.scr rel.sub t; exact call_len pins s σ H _ us Q I r ⟨_, _, rfl, .inl ⟨vs, h1, h2.length.symm⟩, kk⟩
    | tup xs => cases e1; obtain ⟨p, vs, rfl, h1, h2⟩ := RepT.tup rel.sub t; exact call_len pins s σ H _ us Q I r ⟨_, _, rfl, .inr ⟨vs, h1, h2.length.symm⟩, kk⟩
    | dct kvs =>
      cases e1
      obtain ⟨p, vs, rfl, h1, h2, h3⟩ := t
      have hl := congrArg List.length h2
      rw [List.length_map, List.length_map] at hl
      exact call_lenD pins s σ H _ us Q I r ⟨p, vs, rfl, h1, by rw [hl]; exact kk⟩
    | _ => cases e1
theorem cr_abs : CallR X (biV .abs) (rBi X.K CL .abs) := by
  intro pins s σ H xs us Q I r h
  obtain ⟨F, m, S, ds, o, rel, reps, e, k⟩ := h
  match ds, e with
  | [.int i], e =>
    cases e
    obtain ⟨x, rfl, t⟩ := reps1 reps
    cases t
    exact call_abs pins s σ H _ us Q I r ⟨i, rfl, k.d rel (.int _)⟩
theorem cr_int : CallR X (biV .int) (rBi X.K CL .int) := by
  intro pins s σ H xs us Q I r h
  obtain ⟨F, m, S, ds, o, rel, reps, e, k⟩ := h
  match ds, e with
  | [.int i], e =>
    cases e
    obtain ⟨x, rfl, t⟩ := reps1 reps
    cases t
    exact call_int1 pins s σ H _ us Q I r (.inl ⟨i, rfl, k.d rel (.int _)⟩)
  | [.bl i], e =>
    cases e
    obtain ⟨x, rfl, t⟩ := reps1 reps
    cases t
    exact call_int1 pins s σ H _ us Q I r (.inr ⟨i, rfl, k.d rel (.int _)⟩)
theorem cr_list (hc : X.calm = true) : CallR X (biV .list) (rBi X.K CL .list) := by
  intro pins s σ H xs us Q I r h
  obtain ⟨F, m, S, ds, o, rel, reps, e, k⟩ := h
  have seq : ∀ {d ds x}, seqOf d = some ds → o = .new (.lst ds) → xs = [x] → RepT X.K CL F H x d → wpAny (model X.prog X.w) X.A (call (biV .list) us) (EP X pins σ Q) X.xe s := fun {d ds x} e1 eo ex t => by
    subst eo ex
    obtain ⟨p, vs, rfl, h1, h2⟩ := t.seq rel.sub e1
    exact call_list_of pins s σ H _ us Q I r ⟨p, vs, rfl, h1, fun l hl => k.lst rel h2 hl⟩
  match ds, e with
  | [d], e =>
    obtain ⟨x, rfl, t⟩ := reps1 reps
    cases d with
    | str z =>
      obtain ⟨c, e⟩ := if_some e
      subst e
      cases t
      obtain ⟨u, rfl, tk, rfl⟩ := vals1 r
      refine call_list_str (I.ok.hd hc) z tk (fun h' tk' acc c' keep at_ hi => ?_) c
      exact ⟨.ref s.heap.objs.size, upd H s.heap.objs.size (.lst (z.cps.toList.map fun c => V.str ⟨#[c]⟩)), I.laid keep (Nat.le_refl _) ⟨by simpa using c, acc.toList, c', vals_of_signs z hi, by rw [Array.toArray_toList]; exact at_⟩, rfl, k.lst rel (signs_rep z) I.fresh⟩
    | lst xs => obtain ⟨ys, e1, e2⟩ := map_some (show (seqOf (.lst xs)).map (fun ds => O1.new (.lst ds)) = some o from e); exact seq e1 e2.symm rfl t
    | scr xs => obtain ⟨ys, e1, e2⟩ := map_some (show (seqOf (.scr xs)).map (fun ds => O1.new (.lst ds)) = some o from e); exact seq e1 e2.symm rfl t
    | tup xs => obtain ⟨ys, e1, e2⟩ := map_some (show (seqOf (.tup xs)).map (fun ds => O1.new (.lst ds)) = some o from e); exact seq e1 e2.symm rfl t
    | _ => cases e
  | [], e => cases e
  | a :: b :: c, e => cases a <;> cases e
theorem cr_tuple : CallR X (biV .tuple) (rBi X.K CL .tuple) := by
  intro pins s σ H xs us Q I r h
  obtain ⟨F, m, S, ds, o, rel, reps, e, k⟩ := h
  match ds, e with
  | [d], e =>
    obtain ⟨ys, e1, rfl⟩ := map_some e
    obtain ⟨x, rfl, t⟩ := reps1 reps
    cases d with
    | lst xs => cases e1; obtain ⟨p, vs, rfl, h1, h2⟩ := t; exact call_tuple_of pins s σ H _ us Q I r ⟨p, vs, rfl, .inl ⟨SqL.of h1, fun l hl => k.tup rel h2 hl⟩⟩
    | scr xs => cases e1; obtain ⟨p, vs, rfl, h1, h2⟩ := RepT.scr rel.sub t; exact call_tuple_of pins s σ H _ us Q I r ⟨p, vs, rfl, .inl ⟨h1, fun l hl => k.tup rel h2 hl⟩⟩
    | tup xs => cases e1; obtain ⟨p, vs, ex, h1, h2⟩ := RepT.tup rel.sub t; subst ex; exact call_tuple_of pins s σ H _ us Q I r ⟨p, vs, rfl, .inr ⟨h1, k.d rel t⟩⟩
    | _ => cases e1
theorem cr_sum1 (hc : X.calm = true) : CallR X (biV .sum) (rBi X.K CL .sum) := by
  intro pins s σ H xs us Q I r h
  obtain ⟨F, m, S, ds, o, rel, reps, e, k⟩ := h
  match ds, e with
  | [.lst ys], e =>
    obtain ⟨ns, e1, rfl⟩ := map_some e
    obtain ⟨x, rfl, p, vs, rfl, h1, h2⟩ := reps1 reps
    have ev := ints_of e1 h2
    subst ev
    exact cr_sum hc pins s σ H _ us Q I r ⟨p, ns, rfl, SqL.of h1, k.d rel (.int _)⟩
  | [.tup ys], e =>
    obtain ⟨ns, e1, rfl⟩ := map_some e
    obtain ⟨x, rfl, t⟩ := reps1 reps
    obtain ⟨p, vs, rfl, h1, h2⟩ := RepT.tup rel.sub t
    have ev := ints_of e1 h2
    subst ev
    exact cr_sumT hc pins s σ H _ us Q I r ⟨p, ns, rfl, h1, k.d rel (.int _)⟩
theorem cr_any1 (hc : X.calm = true) : CallR X (biV .any) (rBi X.K CL .any) := by
  intro pins s σ H xs us Q I r h
  obtain ⟨F, m, S, ds, o, rel, reps, e, k⟩ := h
  match ds, e with
  | [.lst ys], e =>
    obtain ⟨ns, e1, rfl⟩ := map_some e
    obtain ⟨x, rfl, p, vs, rfl, h1, h2⟩ := reps1 reps
    have ev := bools_of e1 h2
    subst ev
    exact cr_any hc pins s σ H _ us Q I r ⟨p, ns, rfl, SqL.of h1, k.d rel (.bl _)⟩
theorem cr_all1 (hc : X.calm = true) : CallR X (biV .all) (rBi X.K CL .all) := by
  intro pins s σ H xs us Q I r h
  obtain ⟨F, m, S, ds, o, rel, reps, e, k⟩ := h
  match ds, e with
  | [.lst ys], e =>
    obtain ⟨ns, e1, rfl⟩ := map_some e
    obtain ⟨x, rfl, p, vs, rfl, h1, h2⟩ := reps1 reps
    have ev := bools_of e1 h2
    subst ev
    exact cr_all hc pins s σ H _ us Q I r ⟨p, ns, rfl, SqL.of h1, k.d rel (.bl _)⟩
theorem fold_lt : ∀ (l : List Int) (a : Int), ((l.foldl (fun x y => if y < x then y else x) a) = a ∨ (l.foldl (fun x y => if y < x then y else x) a) ∈ l) ∧ (l.foldl (fun x y => if y < x then y else x) a) ≤ a ∧ ∀ y ∈ l, (l.foldl (fun x y => if y < x then y else x) a) ≤ y
  | [], a => ⟨.inl rfl, Int.le_refl _, fun y hy => nomatch hy⟩
  | b :: l, a => by
    obtain ⟨h1, h2, h3⟩ := fold_lt l (if b < a then b else a)
    rw [List.foldl_cons]
    generalize l.foldl (fun x y => if y < x then y else x) (if b < a then b else a) = m at h1 h2 h3
    split at h1 <;> split at h2 <;> first
      | (refine ⟨?_, by omega, fun y hy => ?_⟩
         · rcases h1 with h1 | h1
           · first | exact .inr (by rw [h1]; exact List.mem_cons_self) | exact .inl h1
           · exact .inr (List.mem_cons_of_mem _ h1)
         · rcases List.mem_cons.mp hy with rfl | hy
           · omega
           · exact h3 y hy)
      | omega
theorem fold_gt : ∀ (l : List Int) (a : Int), ((l.foldl (fun x y => if x < y then y else x) a) = a ∨ (l.foldl (fun x y => if x < y then y else x) a) ∈ l) ∧ a ≤ (l.foldl (fun x y => if x < y then y else x) a) ∧ ∀ y ∈ l, y ≤ (l.foldl (fun x y => if x < y then y else x) a)
  | [], a => ⟨.inl rfl, Int.le_refl _, fun y hy => nomatch hy⟩
  | b :: l, a => by
    obtain ⟨h1, h2, h3⟩ := fold_gt l (if a < b then b else a)
    rw [List.foldl_cons]
    generalize l.foldl (fun x y => if x < y then y else x) (if a < b then b else a) = m at h1 h2 h3
    split at h1 <;> split at h2 <;> first
      | (refine ⟨?_, by omega, fun y hy => ?_⟩
         · rcases h1 with h1 | h1
           · first | exact .inr (by rw [h1]; exact List.mem_cons_self) | exact .inl h1
           · exact .inr (List.mem_cons_of_mem _ h1)
         · rcases List.mem_cons.mp hy with rfl | hy
           · omega
           · exact h3 y hy)
      | omega
theorem leastI_ok {ns : List Int} {m : Int} (h : leastI ns = some m) : 0 < ns.length ∧ m ∈ ns ∧ ∀ y ∈ ns, m ≤ y := by
  cases ns with
  | nil => cases h
  | cons a l =>
    cases h
    obtain ⟨h1, h2, h3⟩ := fold_lt l a
    refine ⟨Nat.succ_pos _, h1.elim (fun e => by rw [e]; exact List.mem_cons_self) (List.mem_cons_of_mem _), fun y hy => ?_⟩
    rcases List.mem_cons.mp hy with rfl | hy
    · exact h2
    · exact h3 y hy
theorem mostI_ok {ns : List Int} {m : Int} (h : mostI ns = some m) : 0 < ns.length ∧ m ∈ ns ∧ ∀ y ∈ ns, y ≤ m := by
  cases ns with
  | nil => cases h
  | cons a l =>
    cases h
    obtain ⟨h1, h2, h3⟩ := fold_gt l a
    refine ⟨Nat.succ_pos _, h1.elim (fun e => by rw [e]; exact List.mem_cons_self) (List.mem_cons_of_mem _), fun y hy => ?_⟩
    rcases List.mem_cons.mp hy with rfl | hy
    · exact h2
    · exact h3 y hy
theorem cr_min1 (hc : X.calm = true) : CallR X (biV .min) (rBi X.K CL .min) := by
  intro pins s σ H xs us Q I r h
  obtain ⟨F, m, S, ds, o, rel, reps, e, k⟩ := h
  match ds, e with
  | [.int i, .int j], e =>
    cases e
    obtain ⟨x, y, rfl, t1, t2⟩ := reps2 reps
    cases t1; cases t2
    exact call_min2 hc pins s σ H _ us Q I r ⟨i, j, rfl, k.d rel (.int _)⟩
  | [.str i, .str j], e =>
    cases e
    obtain ⟨x, y, rfl, t1, t2⟩ := reps2 reps
    cases t1; cases t2
    obtain ⟨u, w', rfl, ⟨t, rfl⟩, ⟨t', rfl⟩⟩ := vals2 r
    refine min_strs (I.ok.hd hc) fun h' tk keep => ⟨_, H, I.kept keep, ?_, k.d rel (.str _)⟩
    by_cases hj : j.cps.toList < i.cps.toList
    · rw [if_pos hj, if_pos hj]; exact ⟨_, rfl⟩
    · rw [if_neg hj, if_neg hj]; exact ⟨_, rfl⟩
  | [.lst ys], e =>
    obtain ⟨ns, e1, e⟩ := bind_some e
    obtain ⟨b, e2, rfl⟩ := map_some e
    obtain ⟨n0, n1, n2⟩ := leastI_ok e2
    obtain ⟨x, rfl, p, vs, rfl, h1, h2⟩ := reps1 reps
    have ev := ints_of e1 h2
    subst ev
    refine cr_min hc pins s σ H _ us Q I r ⟨p, ns, rfl, SqL.of h1, n0, fun m' m1 m2 => ?_⟩
    have em : m' = b := Int.le_antisymm (m2 _ n1) (n2 _ m1)
    exact em ▸ k.d rel (.int _)
  | [.tup ys], e =>
    obtain ⟨ns, e1, e⟩ := bind_some e
    obtain ⟨b, e2, rfl⟩ := map_some e
    obtain ⟨n0, n1, n2⟩ := leastI_ok e2
    obtain ⟨x, rfl, tt⟩ := reps1 reps
    obtain ⟨p, vs, rfl, h1, h2⟩ := RepT.tup rel.sub tt
    have ev := ints_of e1 h2
    subst ev
    refine cr_minT hc pins s σ H _ us Q I r ⟨p, ns, rfl, h1, n0, fun m' m1 m2 => ?_⟩
    have em : m' = b := Int.le_antisymm (m2 _ n1) (n2 _ m1)
    exact em ▸ k.d rel (.int _)
theorem cr_max1 (hc : X.calm = true) : CallR X (biV .max) (rBi X.K CL .max) := by
  intro pins s σ H xs us Q I r h
  obtain ⟨F, m, S, ds, o, rel, reps, e, k⟩ := h
  match ds, e with
  | [.int i, .int j], e =>
    cases e
    obtain ⟨x, y, rfl, t1, t2⟩ := reps2 reps
    cases t1; cases t2
    exact call_max2 hc pins s σ H _ us Q I r ⟨i, j, rfl, k.d rel (.int _)⟩
  | [.str i, .str j], e =>
    cases e
    obtain ⟨x, y, rfl, t1, t2⟩ := reps2 reps
    cases t1; cases t2
    obtain ⟨u, w', rfl, ⟨t, rfl⟩, ⟨t', rfl⟩⟩ := vals2 r
    refine max_strs (I.ok.hd hc) fun h' tk keep => ⟨_, H, I.kept keep, ?_, k.d rel (.str _)⟩
    by_cases hj : i.cps.toList < j.cps.toList
    · rw [if_pos hj, if_pos hj]; exact ⟨_, rfl⟩
    · rw [if_neg hj, if_neg hj]; exact ⟨_, rfl⟩
  | [.lst ys], e =>
    obtain ⟨ns, e1, e⟩ := bind_some e
    obtain ⟨b, e2, rfl⟩ := map_some e
    obtain ⟨n0, n1, n2⟩ := mostI_ok e2
    obtain ⟨x, rfl, p, vs, rfl, h1, h2⟩ := reps1 reps
    have ev := ints_of e1 h2
    subst ev
    refine cr_max hc pins s σ H _ us Q I r ⟨p, ns, rfl, SqL.of h1, n0, fun m' m1 m2 => ?_⟩
    have em : m' = b := Int.le_antisymm (n2 _ m1) (m2 _ n1)
    exact em ▸ k.d rel (.int _)
  | [.tup ys], e =>
    obtain ⟨ns, e1, e⟩ := bind_some e
    obtain ⟨b, e2, rfl⟩ := map_some e
    obtain ⟨n0, n1, n2⟩ := mostI_ok e2
    obtain ⟨x, rfl, tt⟩ := reps1 reps
    obtain ⟨p, vs, rfl, h1, h2⟩ := RepT.tup rel.sub tt
    have ev := ints_of e1 h2
    subst ev
    refine cr_maxT hc pins s σ H _ us Q I r ⟨p, ns, rfl, h1, n0, fun m' m1 m2 => ?_⟩
    have em : m' = b := Int.le_antisymm (n2 _ m1) (m2 _ n1)
    exact em ▸ k.d rel (.int _)
theorem cr_divmod : CallR X (biV .divmod) (rBi X.K CL .divmod) := by
  intro pins s σ H xs us Q I r h
  obtain ⟨F, m, S, ds, o, rel, reps, e, k⟩ := h
  match ds, e with
  | [.int i, .int j], e =>
    obtain ⟨c, e⟩ := if_some e
    subst e
    obtain ⟨x, y, rfl, t1, t2⟩ := reps2 reps
    cases t1; cases t2
    exact call_divmod pins s σ H _ us Q I r ⟨i, j, rfl, c, fun p hp => k.tup rel (.cons (.int _) (.cons (.int _) .nil)) hp⟩
theorem cr_bi (hc : X.calm = true) (b : Bi) : CallR X (biV b) (rBi X.K CL b) := by
  cases b with
  | len => exact cr_len
  | abs => exact cr_abs
  | int => exact cr_int
  | list => exact cr_list hc
  | tuple => exact cr_tuple
  | sorted => exact cr_sorted_any hc
  | sum => exact cr_sum1 hc
  | any => exact cr_any1 hc
  | all => exact cr_all1 hc
  | min => exact cr_min1 hc
  | max => exact cr_max1 hc
  | divmod => exact cr_divmod
end
end Ev
set_option Elab.async false
set_option linter.all false
set_option maxRecDepth 100000
/-! Own text: a text unpacked. -/
namespace Ev
open PySem PySem.Spec PyProof.Rows L2
section
variable {prog : Program} {w : World} {A : Around} {E : Value → Shared → Prop} {I : Addr} {N : Nat} {P : Nat → Value → Prop} {St : Nat → Heap → Prop}
theorem draw_walks (W : Walks prog w A I [I] [I] N P St) : ∀ (n i : Nat) (s : Shared) (Q : List Value → Shared → Prop), St i s.heap → i + n ≤ N →
    (∀ vs h' tk, vs.length = n → (∀ j v, vs[j]? = some v → P (i + j) v) → St (i + n) h' → (∀ b o, b ≠ I → s.heap.get? b = some o → h'.get? b = some o) → Q vs { s with heap := h', toks := tk }) → wpAny (model prog w) A (draw (.ref I) n) Q E s
  | 0, i, s, Q, st, _, hQ => by
    show wpAny _ _ (pure []) Q E s
    exact wpAny_pure (hQ [] s.heap s.toks rfl (fun j v e => by simp at e) st fun _ _ _ e => e)
  | n + 1, i, s, Q, st, le, hQ => by
    show wpAny _ _ (pyNext (.ref I) >>= _) Q E s
    refine wpAny_bind (W.item i s _ E (by omega) st fun v h1 tk p1 st1 k1 => ?_)
    refine wpAny_bind (wpAny_holding (draw_walks W n (i + 1) _ _ st1 (by omega) fun vs h2 tk2 l2 p2 st2 k2 => wpAny_pure ?_))
    refine hQ (v :: vs) h2 tk2 (by simp [l2]) (fun j u e => ?_) (by rw [show i + (n + 1) = i + 1 + n by omega]; exact st2) fun b o hb e => k2 b o hb (k1 b o (by simp [hb]) e)
    cases j with
    | zero => cases e; exact p1
    | succ j =>
      have := p2 j u e
      rwa [show i + (j + 1) = i + 1 + j by omega]
theorem unpack_text {s : Shared} {x : Str} {t : Tok} {Q : List Value → Shared → Prop} (hh : A.handled = none)
    (hQ : ∀ vs h' tk, vs.length = x.cps.size → (∀ j v, vs[j]? = some v → SignAt x j v) → (∀ b o, s.heap.get? b = some o → h'.get? b = some o) → Q vs { s with heap := h', toks := tk }) : wpAny (model prog w) A (unpackItems (.str x t) x.cps.size none) Q E s := by
  unfold unpackItems
  refine wpAny_bind ?_
  unfold notIterableAtAll
  refine wpAny_bind (wpAny_specialOf (typeIs_str s x t) F.slot_str_iter.lookup ?_)
  refine wpAny_pure ?_
  simp only [Bool.false_eq_true, if_false]
  refine wpAny_bind (wpAny_holding (wpAny_pyIter_str fun o St hW st => ?_))
  have W := hW A hh
  refine wpAny_bind (wpAny_holding (draw_walks W x.cps.size 0 _ _ st (by omega) fun vs h1 tk1 l1 p1 st1 k1 => ?_))
  rw [if_neg (by omega)]
  rw [Nat.zero_add] at st1
  refine wpAny_bind (wpAny_holding (W.done _ _ _ st1 fun h2 tk2 k2 => ?_))
  simp only [Option.isSome_none, Bool.false_eq_true, if_false]
  refine wpAny_pure (hQ vs h2 tk2 l1 (fun j v e => by have := p1 j v e; rwa [Nat.zero_add] at this) fun b o e => ?_)
  have hb : b ≠ s.heap.objs.size := Nat.ne_of_lt (Heap.lt_size e)
  exact k2 b o (by simp [hb]) (k1 b o hb (Heap.get?_push_of_some _ e))
end
section
variable {X : Cx}
def gTupS (n : Nat) (t : TGs) : TG := fun v σ H Q => ∃ z, v = .str z ∧ z.cps.size = n ∧ t (z.cps.toList.map fun c => V.str ⟨#[c]⟩) σ H Q
theorem pg_tupS {es : List Expr} {k : Nat} {t : TGs} {n : Nat} {pos : Pos} (hc : X.calm = true) (h : PGs X es t) (hn : (assignEach es X.env).length = n) (hst : (assignEach es X.env).findIdx? (·.1) = none) : PG X (.Tuple es k pos) (gTupS n t) := by
  refine ⟨fun pins s σ H v u Q I r hw => ?_⟩
  obtain ⟨z, rfl, hl, hw⟩ := hw
  obtain ⟨tk, rfl⟩ := r
  rw [arm_assign_Tuple]
  refine wpAny_bind (wpAny_standAt ?_)
  unfold unpack
  rw [hn, hst]
  subst hl
  refine wpAny_bind (wpAny_holding (unpack_text (I.ok.hd hc) fun vs h' tk' l1 p1 k1 => ?_))
  refine h.run pins _ σ H _ _ Q (I.kept k1) (vals_of_at (by simp [l1]) fun j x u h1 h2 => ?_) hw
  obtain ⟨c, tk2, hc2, rfl⟩ := p1 j u h2
  rw [List.getElem?_map] at h1
  have e : z.cps.toList[j]? = some c := by simpa using hc2
  rw [e] at h1
  cases h1
  exact ⟨tk2, rfl⟩
theorem pg_or {tg : Expr} {t1 t2 : TG} (h1 : PG X tg t1) (h2 : PG X tg t2) : PG X tg (fun v σ H Q => t1 v σ H Q ∨ t2 v σ H Q) := by
  refine ⟨fun pins s σ H v u Q I r hw => ?_⟩
  rcases hw with hw | hw
  · exact h1.run pins s σ H v u Q I r hw
  · exact h2.run pins s σ H v u Q I r hw
end
end Ev
set_option Elab.async false
set_option linter.all false
set_option maxRecDepth 100000
/-! Own text: statements, targets, what loops walk: as plain functions, and that the program's statements compute them. -/
namespace Ev
open PySem PySem.Spec PyProof.Rows L2

inductive Flw where
  | nx | bk | ct | rt (r : Res)
/-- a statement; a target; the things that a loop walks -/
abbrev StF := Rho → Sto → Option (Flw × Rho × Sto)
abbrev TgF := Val → Rho → Sto → Option (Rho × Sto)
abbrev ItF := Rho → Sto → Option (List D × Sto)

def sNx : StF := fun ρ S => some (.nx, ρ, S)
def sBk : StF := fun ρ S => some (.bk, ρ, S)
def sCt : StF := fun ρ S => some (.ct, ρ, S)
def sNo : StF := fun _ _ => none
def sSeq (a b : StF) : StF := fun ρ S => (a ρ S).bind fun (o, ρ, S) => match o with
  | .nx => b ρ S
  | o => some (o, ρ, S)
def sIf (c : EvF) (a b : StF) : StF := fun ρ S => (tst c ρ S).bind fun (k, S) => if k then a ρ S else b ρ S
def sRet (f : EvF) : StF := fun ρ S => (f ρ S).map fun (r, S) => (.rt r, ρ, S)
def sRetN : StF := fun ρ S => some (.rt (.val (.d .non)), ρ, S)
def sExp (f : EvF) : StF := fun ρ S => (f ρ S).map fun (_, S) => (.nx, ρ, S)
def sAsg (c : Bool) (f : EvF) (g : TgF) : StF := fun ρ S => (eA c f ρ S).bind fun (v, S) => (g v ρ S).map fun (ρ, S) => (.nx, ρ, S)
def gNm (i : Nat) : TgF := fun v ρ S => some (ρ.set i (some v), S)
def gEach : List TgF → List D → Rho → Sto → Option (Rho × Sto)
  | [], [], ρ, S => some (ρ, S)
  | g :: gs, d :: ds, ρ, S => (g (.d d) ρ S).bind fun (ρ, S) => gEach gs ds ρ S
  | _, _, _, _ => none
/-- (a, b, ..) = a tuple -/
def gTp (gs : List TgF) : TgF := fun v ρ S => (pk v S).bind fun d => match d with
  | .tup ds => if ds.length = gs.length then gEach gs ds ρ S else none
  | .str z => if z.cps.size = gs.length then gEach gs (signs z) ρ S else none
  | .lst ds => if ds.length = gs.length then gEach gs ds ρ S else none
  | _ => none
def loopF (g : TgF) (b : StF) : List D → StF
  | [], ρ, S => some (.nx, ρ, S)
  | d :: ds, ρ, S => (g (.d d) ρ S).bind fun (ρ, S) => (b ρ S).bind fun (o, ρ, S) => match o with
    | .nx => loopF g b ds ρ S
    | .ct => loopF g b ds ρ S
    | .bk => some (.nx, ρ, S)
    | .rt r => some (.rt r, ρ, S)
def sFor (ι : ItF) (g : TgF) (b : StF) : StF := fun ρ S => (ι ρ S).bind fun (ds, S) => loopF g b ds ρ S
def whileF (c : EvF) (b : StF) : Nat → StF
  | 0, _, _ => none
  | n + 1, ρ, S => (tst c ρ S).bind fun (k, S) => if k then (b ρ S).bind fun (o, ρ, S) => match o with
      | .nx => whileF c b n ρ S
      | .ct => whileF c b n ρ S
      | .bk => some (.nx, ρ, S)
      | .rt r => some (.rt r, ρ, S)
    else some (.nx, ρ, S)
/-- the turns are fewer than n -/
def sWhl (c : EvF) (b : StF) (n : Nat) : StF := whileF c b n
/-- the slots forgotten -/
def wipeR (ρ : Rho) (vs : List Nat) : Rho := vs.foldr (fun v ρ => ρ.set v none) ρ
def compF (g : TgF) (t : Option EvF) (e : EvF) : List D → List D → Rho → Sto → Option (List D × Sto)
  | [], acc, _, S => some (acc, S)
  | d :: ds, acc, ρ, S => (g (.d d) ρ S).bind fun (ρ2, S) => (match t with
      | none => some (true, S)
      | some t => tst t ρ2 S).bind fun (k, S) =>
      if k then (eD e ρ2 S).bind fun (x, S) => if acc.length < sizeLine then compF g t e ds (acc ++ [x]) ρ S else none
      else compF g t e ds acc ρ S
/-- [e for g in ι if t] -/
def fLc (ι : ItF) (g : TgF) (t : Option EvF) (e : EvF) (vs : List Nat) : EvF := fun ρ S => (ι ρ S).bind fun (ds, S) => (compF g t e ds [] (wipeR ρ vs) S).map fun (xs, S) => (.new (.lst xs), S)

section
variable (K : PySem.W.Frag) (CL : Str → Option Addr)
def FinS (F : Hp) (m : List Addr) (H : Hp) (S' : Sto) (D : Ends) (o : Flw) (ρ' : Rho) : Prop :=
  ∀ F' m' H', Ext F m H F' m' H' → Rel K CL F' m' S' H' → match o with
    | .nx => ∀ σ', RepE K CL F' m' σ' ρ' → D.nx σ' H'
    | .bk => ∀ σ', RepE K CL F' m' σ' ρ' → D.bk σ' H'
    | .ct => ∀ σ', RepE K CL F' m' σ' ρ' → D.ct σ' H'
    | .rt r => ∀ v, RepR K CL F' m' H H' v r → D.rt v H'
def tS (g : StF) : TS := fun D σ H => ∃ F m S ρ o ρ' S', Rel K CL F m S H ∧ RepE K CL F m σ ρ ∧ g ρ S = some (o, ρ', S') ∧ FinS K CL F m H S' D o ρ'
/-- only the slots is are changed -/
def Agr (is : List Nat) (σ σ' : L2.St) : Prop := σ'.length = σ.length ∧ ∀ i, i ∉ is → σ'[i]? = σ[i]?
/-- a target; is: the slots that it may set -/
def tG (g : TgF) (is : List Nat) : TG := fun v σ H Q => ∃ F m S ρ x ρ' S', Rel K CL F m S H ∧ RepE K CL F m σ ρ ∧ RepV K CL F m v x ∧ g x ρ S = some (ρ', S') ∧
  ∀ σ' F' m' H', Ext F m H F' m' H' → Rel K CL F' m' S' H' → RepE K CL F' m' σ' ρ' → Agr is σ σ' → Q σ' H'
def tGs (gs : List TgF) (is : List Nat) : TGs := fun vs σ H Q => ∃ F m S ρ ds ρ' S', Rel K CL F m S H ∧ RepE K CL F m σ ρ ∧ RepL K CL F vs ds ∧ gEach gs ds ρ S = some (ρ', S') ∧
  ∀ σ' F' m' H', Ext F m H F' m' H' → Rel K CL F' m' S' H' → RepE K CL F' m' σ' ρ' → Agr is σ σ' → Q σ' H'
/-- J yields ds while F stands -/
def WalkD (J : It) (F : Hp) (ds : List D) : Prop := Walk J ds.length (fun H => Same F H) fun i H x H' => ∃ d, ds[i]? = some d ∧
  ((H' = H ∧ RepD K CL F x d) ∨ ∃ T xs es, x = .ref T ∧ H T = none ∧ H' = upd H T (.tup xs) ∧ d = .tup es ∧ RepL K CL F xs es)
def tI (ι : ItF) : TI := fun σ H R => ∃ F m S ρ ds S', Rel K CL F m S H ∧ RepE K CL F m σ ρ ∧ ι ρ S = some (ds, S') ∧
  ∀ J F' m' H', Ext F m H F' m' H' → Rel K CL F' m' S' H' → WalkD K CL J F' ds → R J H'
end

section
variable {X : Cx} {CL : Str → Option Addr} {f g b : StF} {st : Stmt} {sts : List Stmt} {e : Expr} {fe : EvF} {pos : Pos}
theorem PSwk {t t' : TS} (h : PS X st t) (w : ∀ D σ H, t' D σ H → t D σ H) : PS X st t' := ⟨fun pins s σ H D I q => h.run pins s σ H D I (w D σ H q)⟩
theorem PSswk {t t' : TS} (h : PSs X sts t) (w : ∀ D σ H, t' D σ H → t D σ H) : PSs X sts t' := ⟨fun pins s σ H D I q => h.run pins s σ H D I (w D σ H q)⟩
theorem PGwk {tg : Expr} {t t' : TG} (h : PG X tg t) (w : ∀ v σ H Q, t' v σ H Q → t v σ H Q) : PG X tg t' := ⟨fun pins s σ H v u Q I r q => h.run pins s σ H v u Q I r (w v σ H Q q)⟩
theorem PGswk {tg : List Expr} {t t' : TGs} (h : PGs X tg t) (w : ∀ v σ H Q, t' v σ H Q → t v σ H Q) : PGs X tg t' := ⟨fun pins s σ H v u Q I r q => h.run pins s σ H v u Q I r (w v σ H Q q)⟩
theorem PIwk {tg it : Expr} {t t' : TI} (h : PI X tg it t) (w : ∀ σ H Q, t' σ H Q → t σ H Q) : PI X tg it t' := ⟨fun pins s σ H R I q => h.run pins s σ H R I (w σ H R q)⟩
theorem FinS.back {K : PySem.W.Frag} {F F1 H H1 : Hp} {m m1 : List Addr} {S' : Sto} {D : Ends} {o : Flw} {ρ' : Rho} (x : Ext F m H F1 m1 H1) (q : FinS K CL F m H S' D o ρ') : FinS K CL F1 m1 H1 S' D o ρ' := fun F2 m2 H2 x2 r2 => by
  have z := q F2 m2 H2 (x.trans x2) r2
  cases o with
  | rt r => exact fun v w => z v (w.back x)
  | nx => exact z
  | bk => exact z
  | ct => exact z
theorem ss_nil : PSs X [] (tS X.K CL sNx) := PSswk pss_nil fun D σ H ⟨F, m, S, ρ, o, ρ', S', rel, env, e, q⟩ => by
  cases e
  exact q F m H (Ext.refl ..) rel σ env
theorem seq_t {D : Ends} {σ : L2.St} {H : Hp} (h : tS X.K CL (sSeq f g) D σ H) : tSeq (tS X.K CL f) (tS X.K CL g) D σ H := by
  obtain ⟨F, m, S, ρ, o, ρ', S', rel, env, e, q⟩ := h
  obtain ⟨⟨o1, ρ1, S1⟩, e1, e2⟩ := bind_some e
  refine ⟨F, m, S, ρ, o1, ρ1, S1, rel, env, e1, fun F1 m1 H1 x1 r1 => ?_⟩
  cases o1 with
  | nx => exact fun σ1 env1 => ⟨F1, m1, S1, ρ1, o, ρ', S', r1, env1, e2, q.back x1⟩
  | bk => cases e2; exact q F1 m1 H1 x1 r1
  | ct => cases e2; exact q F1 m1 H1 x1 r1
  | rt r => cases e2; exact q F1 m1 H1 x1 r1
theorem ss_cons (h1 : PS X st (tS X.K CL f)) (h2 : PSs X sts (tS X.K CL g)) : PSs X (st :: sts) (tS X.K CL (sSeq f g)) := PSswk (pss_cons h1 h2) fun D σ H => seq_t
theorem ss_one (h1 : PS X st (tS X.K CL f)) : PSs X [st] (tS X.K CL f) := pss_one h1
theorem ds_doc {x j pos'} : PS X (.Expr (.Constant (.str x) j pos) pos') (tS X.K CL sNx) := PSwk ps_doc fun D σ H ⟨F, m, S, ρ, o, ρ', S', rel, env, e, q⟩ => by
  cases e
  exact q F m H (Ext.refl ..) rel σ env
theorem ds_pass : PS X (.Pass pos) (tS X.K CL sNx) := PSwk ps_pass fun D σ H ⟨F, m, S, ρ, o, ρ', S', rel, env, e, q⟩ => by
  cases e
  exact q F m H (Ext.refl ..) rel σ env
theorem ds_break : PS X (.Break pos) (tS X.K CL sBk) := PSwk ps_break fun D σ H ⟨F, m, S, ρ, o, ρ', S', rel, env, e, q⟩ => by
  cases e
  exact q F m H (Ext.refl ..) rel σ env
theorem ds_continue : PS X (.Continue pos) (tS X.K CL sCt) := PSwk ps_continue fun D σ H ⟨F, m, S, ρ, o, ρ', S', rel, env, e, q⟩ => by
  cases e
  exact q F m H (Ext.refl ..) rel σ env
theorem ds_no : PS X st (tS X.K CL sNo) := PSwk ps_never fun D σ H ⟨F, m, S, ρ, o, ρ', S', rel, env, e, q⟩ => by cases e
theorem ss_no : PSs X sts (tS X.K CL sNo) := PSswk pss_never fun D σ H ⟨F, m, S, ρ, o, ρ', S', rel, env, e, q⟩ => by cases e
theorem ds_ret (he : PE X e (tF X.K CL fe)) : PS X (.Return (some e) pos) (tS X.K CL (sRet fe)) := PSwk (ps_ret he) fun D σ H ⟨F, m, S, ρ, o, ρ', S', rel, env, e, q⟩ => by
  obtain ⟨⟨r, S1⟩, e1, e2⟩ := map_some e
  cases e2
  exact ⟨F, m, S, ρ, r, S', rel, env, e1, fun v F' m' H' x1 r1 q1 => q F' m' H' x1 r1 v q1⟩
theorem ds_retN : PS X (.Return none pos) (tS X.K CL sRetN) := PSwk ps_retN fun D σ H ⟨F, m, S, ρ, o, ρ', S', rel, env, e, q⟩ => by
  cases e
  exact q F m H (Ext.refl ..) rel .non .non
theorem ds_exp (he : PE X e (tF X.K CL fe)) (hs : swapsWith e none pos.line X.env = pure false) : PS X (.Expr e pos) (tS X.K CL (sExp fe)) := PSwk (ps_expr he hs) fun D σ H ⟨F, m, S, ρ, o, ρ', S', rel, env, e, q⟩ => by
  obtain ⟨⟨r, S1⟩, e1, e2⟩ := map_some e
  cases e2
  exact ⟨F, m, S, ρ, r, S', rel, env, e1, fun v F' m' H' x1 r1 q1 => q F' m' H' x1 r1 σ (env.mono x1)⟩
theorem ds_if {c : Expr} {a b : List Stmt} {fc : EvF} (hc : PT X c (tT X.K CL fc)) (ha : PSs X a (tS X.K CL f)) (hb : PSs X b (tS X.K CL g)) : PS X (.If c a b pos) (tS X.K CL (sIf fc f g)) :=
  PSwk (ps_if hc ha hb) fun D σ H ⟨F, m, S, ρ, o, ρ', S', rel, env, e, q⟩ => by
    obtain ⟨⟨k, S1⟩, e1, e⟩ := bind_some e
    refine ⟨F, m, S, ρ, k, S1, rel, env, e1, fun F1 m1 H1 x1 r1 => ?_⟩
    cases k with
    | true => rw [if_pos rfl]; exact ⟨F1, m1, S1, ρ, o, ρ', S', r1, env.mono x1, e, q.back x1⟩
    | false => rw [if_neg Bool.false_ne_true]; exact ⟨F1, m1, S1, ρ, o, ρ', S', r1, env.mono x1, e, q.back x1⟩

/-! ### targets -/
theorem dg_nm {i : Nat} {x : Str} (h : PG X (.Name x pos) (gName i)) : PG X (.Name x pos) (tG X.K CL (gNm i) [i]) := PGwk h fun v σ H Q ⟨F, m, S, ρ, y, ρ', S', rel, env, rv, e, q⟩ => by
  cases e
  refine q _ F m H (Ext.refl ..) rel (env.set rv i) ⟨by simp, fun j hj => ?_⟩
  rw [List.getElem?_set_ne]
  rintro rfl
  exact hj (by simp)
theorem dgs_nil : PGs X [] (tGs X.K CL [] []) := PGswk pgs_nil fun vs σ H Q ⟨F, m, S, ρ, ds, ρ', S', rel, env, rv, e, q⟩ => by
  cases rv with
  | nil => cases e; exact ⟨rfl, q σ F m H (Ext.refl ..) rel env ⟨rfl, fun _ _ => rfl⟩⟩
  | cons _ _ => cases e
theorem dgs_cons {e : Expr} {es : List Expr} {t : TgF} {ts : List TgF} {is js : List Nat} (h1 : PG X e (tG X.K CL t is)) (h2 : PGs X es (tGs X.K CL ts js))
    (hs : (assignEach (e :: es) X.env).map (·.2) = assign e X.env :: (assignEach es X.env).map (·.2)) : PGs X (e :: es) (tGs X.K CL (t :: ts) (is ++ js)) := PGswk (pgs_cons h1 h2 hs) fun vs σ H Q ⟨F, m, S, ρ, ds, ρ', S', rel, env, rv, e, q⟩ => by
  cases rv with
  | nil => cases e
  | cons a rest =>
    obtain ⟨⟨ρ1, S1⟩, e1, e2⟩ := bind_some e
    refine ⟨_, _, rfl, F, m, S, ρ, .d _, ρ1, S1, rel, env, a, e1, fun σ1 F1 m1 H1 x1 r1 env1 t1 => ⟨F1, m1, S1, ρ1, _, ρ', S', r1, env1, rest.mono x1.f, e2, fun σ2 F2 m2 H2 x2 r2 env2 t2 => ?_⟩⟩
    refine q σ2 F2 m2 H2 (x1.trans x2) r2 env2 ⟨t2.1.trans t1.1, fun i hi => ?_⟩
    rw [t2.2 i fun z => hi (List.mem_append_right _ z), t1.2 i fun z => hi (List.mem_append_left _ z)]
theorem dg_tp {es : List Expr} {k : Nat} {ts : List TgF} {is : List Nat} (hc : X.calm = true) (h : PGs X es (tGs X.K CL ts is)) (hn : (assignEach es X.env).length = ts.length) (hst : (assignEach es X.env).findIdx? (·.1) = none) :
    PG X (.Tuple es k pos) (tG X.K CL (gTp ts) is) := PGwk (pg_or (pg_or (pg_tup hc h hn hst) (pg_tupS hc h hn hst)) (pg_unl hc h hn hst)) fun v σ H Q ⟨F, m, S, ρ, y, ρ', S', rel, env, rv, e, q⟩ => by
  obtain ⟨d, e1, e⟩ := bind_some e
  have t := pk_ok rel rv e1
  cases d with
  | tup ds =>
    by_cases c : ds.length = ts.length
    · have e : (if ds.length = ts.length then gEach ts ds ρ S else none) = some (ρ', S') := e
      rw [if_pos c] at e
      obtain ⟨a, vs, rfl, h1, h2⟩ := RepT.tup rel.sub t
      exact .inl (.inl ⟨a, vs, rfl, h1, h2.length.trans c, F, m, S, ρ, ds, ρ', S', rel, env, h2, e, q⟩)
    · have e : (if ds.length = ts.length then gEach ts ds ρ S else none) = some (ρ', S') := e
      rw [if_neg c] at e; cases e
  | str z =>
    obtain ⟨c, e⟩ := Option.ite_none_right_eq_some.mp (show (if z.cps.size = ts.length then gEach ts (signs z) ρ S else none) = some (ρ', S') from e)
    cases t
    exact .inl (.inr ⟨z, rfl, c, F, m, S, ρ, signs z, ρ', S', rel, env, signs_rep z, e, q⟩)
  | lst ds =>
    obtain ⟨c, e⟩ := Option.ite_none_right_eq_some.mp (show (if ds.length = ts.length then gEach ts ds ρ S else none) = some (ρ', S') from e)
    obtain ⟨a, vs, rfl, h1, h2⟩ := t
    exact .inr ⟨a, vs, rfl, SqL.of h1, h2.length.trans c, F, m, S, ρ, ds, ρ', S', rel, env, h2, e, q⟩
  | _ => cases e
theorem ds_asg {tg : Expr} {c : Bool} {gg : TgF} {is : List Nat} (he : PE X e (tF X.K CL fe)) (hg : PG X tg (tG X.K CL gg is)) (hs : swapsWithSole [tg] e pos.line X.env = pure false) (hw : swappedStores [tg] e X.env = pure none)
    (h1 : (assignEach [tg] X.env).map (·.2) = [assign tg X.env]) : PS X (.Assign [tg] e pos) (tS X.K CL (sAsg c fe gg)) := PSwk (ps_asg (he.a c) hg hs hw h1) fun D σ H ⟨F, m, S, ρ, o, ρ', S', rel, env, e, q⟩ => by
  obtain ⟨⟨v, S1⟩, e1, e⟩ := bind_some e
  obtain ⟨⟨ρ2, S2⟩, e2, e⟩ := map_some e
  cases e
  exact ⟨F, m, S, ρ, v, S1, rel, env, e1, fun w F1 m1 H1 x1 r1 q1 => ⟨F1, m1, S1, ρ, v, ρ', S', r1, env.mono x1, q1, e2, fun σ2 F2 m2 H2 x2 r2 env2 _ => q F2 m2 H2 (x1.trans x2) r2 σ2 env2⟩⟩
/-- name = value -/
theorem ds_set {x : Str} {i : Nat} {c : Bool} {pos' : Pos} (hN : X.N.Nodup) (hi : X.N[i]? = some x) (hx : Loc X.env.scope x) (hf : X.fn x = true ∨ X.env.scope.names.lookup x = some .local) (he : PE X e (tF X.K CL fe)) (hs : swapsWith e (some (.Name x pos')) pos.line X.env = pure false) :
    PS X (.Assign [.Name x pos'] e pos) (tS X.K CL (sAsg c fe (gNm i))) := PSwk (ps_set hN hi hx (he.a c) hs hf) fun D σ H ⟨F, m, S, ρ, o, ρ', S', rel, env, e, q⟩ => by
  obtain ⟨⟨v, S1⟩, e1, e⟩ := bind_some e
  obtain ⟨⟨ρ2, S2⟩, e2, e⟩ := map_some e
  cases e
  cases e2
  exact ⟨F, m, S, ρ, v, S', rel, env, e1, fun w F1 m1 H1 x1 r1 q1 => q F1 m1 H1 x1 r1 _ ((env.mono x1).set q1 i)⟩
end

/-! ### loops -/
section
variable {X : Cx} {CL : Str → Option Addr}
theorem drop_cons {α : Type} {xs : List α} {i : Nat} {x : α} (h : xs[i]? = some x) : xs.drop i = x :: xs.drop (i + 1) := by
  obtain ⟨hi, rfl⟩ := List.getElem?_eq_some_iff.mp h
  exact List.drop_eq_getElem_cons hi
/-- what a turn yields, laid into the state -/
theorem walk_step {K : PySem.W.Frag} {J : It} {F F1 H H' : Hp} {m1 : List Addr} {S1 : Sto} {ds : List D} {x : V} {d : D} (s : Same F F1) (r1 : Rel K CL F1 m1 S1 H)
    (y : (H' = H ∧ RepD K CL F x d) ∨ ∃ T xs es, x = .ref T ∧ H T = none ∧ H' = upd H T (.tup xs) ∧ d = .tup es ∧ RepL K CL F xs es) :
    ∃ F2, Ext F1 m1 H F2 m1 H' ∧ Rel K CL F2 m1 S1 H' ∧ RepD K CL F2 x d := by
  rcases y with ⟨rfl, q⟩ | ⟨T, xs, es, rfl, hT, rfl, rfl, q⟩
  · exact ⟨F1, Ext.refl .., r1, q.mono s⟩
  · exact ⟨_, Ext.frz hT (r1.out hT), r1.frz hT, .tup (.inl (.inl upd_same)) ((q.mono s).mono (upd_sameN (r1.out hT)))⟩
theorem for_t {ι : ItF} {g : TgF} {b : StF} {is : List Nat} {D : Ends} {σ : L2.St} {H : Hp} (h : tS X.K CL (sFor ι g b) D σ H) : tFor (tI X.K CL ι) (tG X.K CL g is) (tS X.K CL b) D σ H := by
  obtain ⟨F, m, S, ρ, o, ρ', S', rel, env, e, q⟩ := h
  obtain ⟨⟨ds, S1⟩, e1, e⟩ := bind_some e
  refine ⟨F, m, S, ρ, ds, S1, rel, env, e1, fun J F1 m1 H1 x1 r1 w => ?_⟩
  refine for_it w (fun i σ' H' => ∃ F2 m2 S2 ρ2, Ext F1 m1 H1 F2 m2 H' ∧ Rel X.K CL F2 m2 S2 H' ∧ RepE X.K CL F2 m2 σ' ρ2 ∧ loopF g b (ds.drop i) ρ2 S2 = some (o, ρ', S')) ?_ ?_ ?_ ?_
  · exact ⟨F1, m1, S1, ρ, Ext.refl .., r1, env.mono x1, by rw [List.drop_zero]; exact e⟩
  · rintro i σ' H' _ ⟨F2, m2, S2, ρ2, x2, r2, _, _⟩
    exact fun a u z => r2.sub a u (x2.f a u z)
  · rintro i x σ' H' H'' hi ⟨F2, m2, S2, ρ2, x2, r2, env2, e2⟩ ⟨d, ed, y⟩
    rw [drop_cons ed] at e2
    obtain ⟨⟨ρ3, S3⟩, e3, e2⟩ := bind_some e2
    obtain ⟨⟨o4, ρ4, S4⟩, e4, e2⟩ := bind_some e2
    obtain ⟨F3, x3, r3, q3⟩ := walk_step (J := J) (ds := ds) x2.f r2 y
    refine ⟨F3, m2, S2, ρ2, .d d, ρ3, S3, r3, env2.mono x3, q3, e3, fun σ4 F4 m4 H4 x4 r4 env4 _ => ?_⟩
    refine ⟨F4, m4, S3, ρ3, o4, ρ4, S4, r4, env4, e4, fun F5 m5 H5 x5 r5 => ?_⟩
    have xx : Ext F1 m1 H1 F5 m5 H5 := ((x2.trans x3).trans x4).trans x5
    cases o4 with
    | nx => exact fun σ5 env5 => ⟨F5, m5, S4, ρ4, xx, r5, env5, e2⟩
    | ct => exact fun σ5 env5 => ⟨F5, m5, S4, ρ4, xx, r5, env5, e2⟩
    | bk => cases e2; exact fun σ5 env5 => q F5 m5 H5 (x1.trans xx) r5 σ5 env5
    | rt r =>
      cases e2
      exact fun v rv => q F5 m5 H5 (x1.trans xx) r5 v ((rv.back ((x2.trans x3).trans x4)).back x1)
  · rintro σ' H' ⟨F2, m2, S2, ρ2, x2, r2, env2, e2⟩
    rw [List.drop_length] at e2
    cases e2
    exact q F2 m2 H' (x1.trans x2) r2 σ' env2
theorem ds_for {tg iter : Expr} {body : List Stmt} {ι : ItF} {g : TgF} {b : StF} {is : List Nat} {pos : Pos} (hp : PassesOwn (model X.prog X.w) X.A X.env X.xe) (hc : X.calm = true) (hi : PI X tg iter (tI X.K CL ι)) (hg : PG X tg (tG X.K CL g is)) (hb : PSs X body (tS X.K CL b))
    (hs : ∀ x, foldedSetIterable iter X.env x = pure x) : PS X (.For tg iter body [] pos) (tS X.K CL (sFor ι g b)) := PSwk (ps_for hp hc hi hg hb hs) fun D σ H h => for_t h
theorem while_t {c : EvF} {b : StF} {n : Nat} {D : Ends} {σ : L2.St} {H : Hp} (h : tS X.K CL (sWhl c b n) D σ H) : tWhile (tT X.K CL c) (tS X.K CL b) D σ H := by
  obtain ⟨F, m, S, ρ, o, ρ', S', rel, env, e, q⟩ := h
  refine ⟨fun k σ' H' => ∃ F2 m2 S2 ρ2, Ext F m H F2 m2 H' ∧ Rel X.K CL F2 m2 S2 H' ∧ RepE X.K CL F2 m2 σ' ρ2 ∧ whileF c b k ρ2 S2 = some (o, ρ', S'), ⟨n, F, m, S, ρ, Ext.refl .., rel, env, e⟩, ?_⟩
  rintro k σ' H' ⟨F2, m2, S2, ρ2, x2, r2, env2, e2⟩
  cases k with
  | zero => cases e2
  | succ k =>
    obtain ⟨⟨t, S3⟩, e3, e2⟩ := bind_some e2
    refine ⟨F2, m2, S2, ρ2, t, S3, r2, env2, e3, fun F3 m3 H3 x3 r3 => ?_⟩
    cases t with
    | true =>
      rw [if_pos rfl]
      obtain ⟨⟨o4, ρ4, S4⟩, e4, e2⟩ := bind_some e2
      refine ⟨fun σ5 H5 => ∃ F5 m5 S5 ρ5, Ext F m H F5 m5 H5 ∧ Rel X.K CL F5 m5 S5 H5 ∧ RepE X.K CL F5 m5 σ5 ρ5 ∧ whileF c b k ρ5 S5 = some (o, ρ', S'), fun σ5 H5 z => ⟨k, Nat.lt_succ_self _, z⟩, ?_⟩
      refine ⟨F3, m3, S3, ρ2, o4, ρ4, S4, r3, env2.mono x3, e4, fun F5 m5 H5 x5 r5 => ?_⟩
      have xx : Ext F m H F5 m5 H5 := (x2.trans x3).trans x5
      cases o4 with
      | nx => exact fun σ5 env5 => ⟨F5, m5, S4, ρ4, xx, r5, env5, e2⟩
      | ct => exact fun σ5 env5 => ⟨F5, m5, S4, ρ4, xx, r5, env5, e2⟩
      | bk => cases e2; exact fun σ5 env5 => q F5 m5 H5 xx r5 σ5 env5
      | rt r => cases e2; exact fun v rv => q F5 m5 H5 xx r5 v (rv.back (x2.trans x3))
    | false =>
      rw [if_neg Bool.false_ne_true]
      have e2 : some (Flw.nx, ρ2, S3) = some (o, ρ', S') := e2
      cases e2
      exact q F3 m3 H3 (x2.trans x3) r3 σ' (env2.mono x3)
theorem ds_while {c : Expr} {body : List Stmt} {fc : EvF} {b : StF} (n : Nat) {pos : Pos} (hp : PassesOwn (model X.prog X.w) X.A X.env X.xe) (hc : PT X c (tT X.K CL fc)) (hb : PSs X body (tS X.K CL b)) : PS X (.While c body [] pos) (tS X.K CL (sWhl fc b n)) :=
  PSwk (ps_while hp hc hb) fun D σ H h => while_t h
end
end Ev
set_option Elab.async false
set_option linter.all false
set_option maxRecDepth 100000
/-! Own text: list comprehensions; what is walked. -/
namespace Ev
open PySem PySem.Spec PyProof.Rows L2

section
variable {X : Cx} {CL : Str → Option Addr}
theorem wipe_at {σ : L2.St} {j : Nat} : ∀ {vs : List Nat}, (L2.wipe σ vs)[j]? = if j ∈ vs then (if j < σ.length then some none else none) else σ[j]?
  | [] => by simp [L2.wipe]
  | v :: vs => by
    show ((L2.wipe σ vs).set v none)[j]? = _
    rw [List.getElem?_set, wipe_length]
    by_cases e : v = j
    · subst e
      simp
    · rw [if_neg e, wipe_at]
      have e' : ¬ j = v := fun z => e z.symm
      simp [List.mem_cons, e']
theorem wipe_eq {σ σ' : L2.St} {vs is : List Nat} (hl : σ'.length = σ.length) (h : ∀ i, i ∉ is → σ'[i]? = (L2.wipe σ vs)[i]?) (hs : ∀ i ∈ is, i ∈ vs) : L2.wipe σ' vs = L2.wipe σ vs := by
  apply List.ext_getElem?
  intro j
  rw [wipe_at, wipe_at, hl]
  by_cases e : j ∈ vs
  · rw [if_pos e, if_pos e]
  · rw [if_neg e, if_neg e, h j fun z => e (hs j z), wipe_at, if_neg e]
theorem wipe_wipe {σ : L2.St} {vs : List Nat} : L2.wipe (L2.wipe σ vs) vs = L2.wipe σ vs := wipe_eq (is := []) (wipe_length ..) (fun i _ => rfl) (by simp)
theorem RepE.wipeR {K : PySem.W.Frag} {F : Hp} {m : List Addr} {σ : L2.St} {ρ : Rho} (r : RepE K CL F m σ ρ) (vs : List Nat) : RepE K CL F m (L2.wipe σ vs) (wipeR ρ vs) := r.wipe vs

/-- the tests of a clause -/
def tTs (K : PySem.W.Frag) (CL : Str → Option Addr) (t : Option EvF) : TT := match t with
  | none => tYes
  | some t => tT K CL t
/-- the list that is being made stands at D, out of the state -/
theorem new_item {K : PySem.W.Frag} {F H : Hp} {m : List Addr} {S : Sto} {D : Addr} {vs : List V} {o : HO} (r : Rel K CL F m S H) (hD : H D ≠ none) (hm : D ∉ m) (hF : F D = none) : Rel K CL F m S (upd H D o) := by
  have ne : ∀ b, F b ≠ none → b ≠ D := fun b h e => h (e ▸ hF)
  refine ⟨fun b u e => by rw [upd_ne (ne b (by rw [e]; simp))]; exact r.sub b u e, r.len, fun k c a h1 h2 => ?_, fun a ha => upd_ne_none (r.trk a ha), r.nd⟩
  have na : a ≠ D := fun e => hm (e ▸ List.mem_of_getElem? h2)
  have q := r.cell k c a h1 h2
  cases c with
  | lst ds => obtain ⟨n, vs, e, z⟩ := q; exact ⟨n, vs, by rw [upd_ne na]; exact e, z⟩
  | dct ds => obtain ⟨n, vs, e, z⟩ := q; exact ⟨n, vs, by rw [upd_ne na]; exact e, z⟩
  | ins x ds => obtain ⟨n, C, dx, fs, e, z⟩ := q; exact ⟨n, C, dx, fs, by rw [upd_ne na]; exact e, z⟩
  | frz d => exact q
/-- an evaluation leaves it -/
theorem keep_item {F F' H H' : Hp} {m m' : List Addr} {D : Addr} {o : HO} (x : Ext F m H F' m' H') (hD : H D = some o) (hm : D ∉ m) (hF : F D = none) : H' D = some o ∧ D ∉ m' ∧ (F' D = none) := by
  obtain ⟨l, e, n⟩ := x.mm
  refine ⟨x.h D o hD hm, fun z => ?_, Classical.byContradiction fun z => ?_⟩
  · rw [e] at z
    rcases List.mem_append.mp z with z | z
    · exact hm z
    · rw [n D z] at hD; cases hD
  · rcases x.fn D hF z with z | z
    · rw [hD] at z; cases z
    · exact hm z
/-- the state without the new list -/
theorem ext_new {F F' H H' : Hp} {m m' : List Addr} {D : Addr} {o o' : HO} (hD : H D = none) (x : Ext F m (upd H D o) F' m' H') : Ext F m H F' m' (upd H' D o') := by
  obtain ⟨l, e, n⟩ := x.mm
  refine ⟨x.f, fun a h h' => ?_, ⟨l, e, fun a ha => ?_⟩, fun a u h hm => ?_, fun a h => ?_⟩
  · rcases x.fn a h h' with z | z
    · by_cases q : a = D
      · subst q; exact .inl hD
      · rw [upd_ne q] at z; exact .inl z
    · exact .inr z
  · have z := n a ha
    by_cases q : a = D
    · subst q; exact hD
    · rw [upd_ne q] at z; exact z
  · have q : a ≠ D := ne_of_none h hD
    rw [upd_ne q]
    exact x.h a u (by rw [upd_ne q]; exact h) hm
  · have q : a ≠ D := fun e => h (e ▸ hD)
    rw [upd_ne q]
    exact x.t a (by rw [upd_ne q]; exact h)

theorem lc_t {ι : ItF} {g : TgF} {t : Option EvF} {fe : EvF} {vs is : List Nat} (hs : ∀ i ∈ is, i ∈ vs) {σ : L2.St} {H : Hp} {Q : VK} (h : tF X.K CL (fLc ι g t fe vs) σ H Q) :
    tLc (tI X.K CL ι) (tG X.K CL g is) (tTs X.K CL t) (tD X.K CL fe) vs σ H Q := by
  obtain ⟨F, m, S, ρ, r, S', rel, env, e, q⟩ := h
  obtain ⟨⟨ds, S1⟩, e1, e⟩ := bind_some e
  obtain ⟨⟨xs, S2⟩, e2, e⟩ := map_some e
  cases e
  refine ⟨F, m, S, ρ, ds, S1, rel, env, e1, fun J F1 m1 H1 x1 r1 w D hD => ?_⟩
  have hm1 : D ∉ m1 := fun z => r1.trk D z hD
  have hF1 : F1 D = none := r1.out hD
  have env1 := (env.mono x1).wipeR vs
  refine lc_it w (fun i H' => ∃ F2 m2 S3 acc ws, Ext F1 m1 H1 F2 m2 H' ∧ Rel X.K CL F2 m2 S3 H' ∧ H' D = some (.lst ws) ∧ D ∉ m2 ∧ F2 D = none ∧ RepL X.K CL F2 ws acc ∧ compF g t fe (ds.drop i) acc (wipeR ρ vs) S3 = some (xs, S')) ?_ ?_ ?_ ?_
  · exact ⟨F1, m1, S1, [], [], Ext.lay hD, r1.same (upd_sameN hD), upd_same, hm1, hF1, .nil, by rw [List.drop_zero]; exact e2⟩
  · rintro i H' _ ⟨F2, m2, S3, acc, ws, x2, r2, _⟩
    exact fun a u z => r2.sub a u (x2.f a u z)
  · rintro i x H' H'' hi ⟨F2, m2, S3, acc, ws, x2, r2, hD2, hm2, hF2, ra, e3⟩ ⟨d, ed, y⟩
    rw [drop_cons ed] at e3
    obtain ⟨⟨ρ4, S4⟩, e4, e3⟩ := bind_some e3
    obtain ⟨⟨k, S5⟩, e5, e3⟩ := bind_some e3
    obtain ⟨F3, x3, r3, q3⟩ := walk_step (J := J) (ds := ds) x2.f r2 y
    have x23 := x2.trans x3
    refine ⟨F3, m2, S3, wipeR ρ vs, .d d, ρ4, S4, r3, env1.mono x23, q3, e4, fun σ4 F4 m4 H4 x4 r4 env4 t4 => ?_⟩
    refine ⟨wipe_eq (t4.1.trans (wipe_length ..)) t4.2 hs, ?_⟩
    have x24 := x23.trans x4
    -- the test
    have go : ∀ F5 m5 H5, Ext F1 m1 H1 F5 m5 H5 → Ext F3 m2 H'' F5 m5 H5 → Rel X.K CL F5 m5 S5 H5 → RepE X.K CL F5 m5 σ4 ρ4 → if k = true then tD X.K CL fe σ4 H5 fun y H6 => ∃ acc', H6 D = some (.lst acc') ∧ acc'.length < sizeLine ∧ ∃ F2 m2 S3 acc ws, Ext F1 m1 H1 F2 m2 (upd H6 D (.lst (acc' ++ [y]))) ∧ Rel X.K CL F2 m2 S3 (upd H6 D (.lst (acc' ++ [y]))) ∧ (upd H6 D (.lst (acc' ++ [y]))) D = some (.lst ws) ∧ D ∉ m2 ∧ F2 D = none ∧ RepL X.K CL F2 ws acc ∧ compF g t fe (ds.drop (i + 1)) acc (wipeR ρ vs) S3 = some (xs, S')
        else ∃ F2 m2 S3 acc ws, Ext F1 m1 H1 F2 m2 H5 ∧ Rel X.K CL F2 m2 S3 H5 ∧ H5 D = some (.lst ws) ∧ D ∉ m2 ∧ F2 D = none ∧ RepL X.K CL F2 ws acc ∧ compF g t fe (ds.drop (i + 1)) acc (wipeR ρ vs) S3 = some (xs, S') := fun F5 m5 H5 x15 x35 r5 env5 => by
      have hD3 : H'' D = some (.lst ws) := by
        rcases y with ⟨rfl, _⟩ | ⟨T, _, _, _, hT, rfl, _⟩
        · exact hD2
        · rw [upd_ne (ne_of_none hD2 hT)]; exact hD2
      have hF3 : F3 D = none := (keep_item x3 hD2 hm2 hF2).2.2
      obtain ⟨hD5, hm5, hF5⟩ := keep_item x35 hD3 hm2 hF3
      have ra5 := (ra.mono x3.f).mono x35.f
      cases k with
      | true =>
        rw [if_pos rfl]
        change (if true = true then _ else _) = _ at e3
        rw [if_pos rfl] at e3
        obtain ⟨⟨z, S6⟩, e6, e3⟩ := bind_some e3
        refine ⟨F5, m5, S5, ρ4, z, S6, r5, env5, e6, fun v F6 m6 H6 x6 r6 q6 => ?_⟩
        obtain ⟨hD6, hm6, hF6⟩ := keep_item x6 hD5 hm5 hF5
        have e3 : (if acc.length < sizeLine then compF g t fe (ds.drop (i + 1)) (acc ++ [z]) (wipeR ρ vs) S6 else none) = some (xs, S') := e3
        by_cases c : acc.length < sizeLine
        · rw [if_pos c] at e3
          refine ⟨ws, hD6, by rw [ra.length]; exact c, F6, m6, S6, acc ++ [z], ws ++ [v], ?_, new_item (vs := ws) r6 (by rw [hD6]; simp) hm6 hF6, upd_same, hm6, hF6, (ra5.mono x6.f).append (.cons q6 .nil), e3⟩
          have xx := x15.trans x6
          refine ⟨xx.f, xx.fn, xx.mm, fun a u h hm => ?_, fun a h => upd_ne_none (xx.t a h)⟩
          rw [upd_ne (ne_of_none h hD)]
          exact xx.h a u h hm
        · rw [if_neg c] at e3; cases e3
      | false =>
        rw [if_neg Bool.false_ne_true]
        change (if false = true then _ else _) = _ at e3
        rw [if_neg Bool.false_ne_true] at e3
        exact ⟨F5, m5, S5, acc, ws, x15, r5, hD5, hm5, hF5, ra5, e3⟩
    cases t with
    | none =>
      cases e5
      exact go F4 m4 H4 x24 x4 r4 env4
    | some t =>
      exact ⟨F4, m4, S4, ρ4, k, S5, r4, env4, e5, fun F5 m5 H5 x5 r5 => go F5 m5 H5 (x24.trans x5) (x4.trans x5) r5 (env4.mono x5)⟩
  · rintro H' ⟨F2, m2, S3, acc, ws, x2, r2, hD2, hm2, hF2, ra, e3⟩
    rw [List.drop_length] at e3
    cases e3
    exact q (.ref D) F2 m2 H' (x1.trans x2) r2 ⟨D, rfl, Classical.byContradiction fun z => x1.t D z hD, hm2, rfl, hF2, ws, hD2, ra⟩
end
end Ev
set_option Elab.async false
set_option linter.all false
set_option maxRecDepth 100000
/-! Own text: enumerate and zip over lists, tuples and texts. -/
namespace Ev
open PySem PySem.Spec PyProof.Rows L2

section
variable (P : Program) (w : World) (K : PySem.W.Frag) (CL : Str → Option Addr)
/-- pairs -/
def ItP (F : Hp) (ds : List D) : It := ⟨fun i H => i < ds.length ∧ Same F H, fun i H x H' => ∃ d, ds[i]? = some d ∧ ∃ T xs es, x = .ref T ∧ H T = none ∧ H' = upd H T (.tup xs) ∧ d = .tup es ∧ RepL K CL F xs es,
  fun i H => i = ds.length ∧ Same F H⟩
theorem walk_ItP {F : Hp} {ds : List D} : WalkD K CL (ItP K CL F ds) F ds :=
  ⟨fun i H hi s => ⟨hi, s⟩, fun H s => ⟨rfl, s⟩, fun i H x H' hi s ⟨d, e, r⟩ => ⟨d, e, .inr r⟩⟩
/-- an iterator over data: SI what stands at it -/
structure SrcD (F : Hp) (ds : List D) (it : Addr) (SI : Nat → Heap → Prop) : Prop where
  obj : ∀ i h, SI i h → ∃ o, h.get? it = some o ∧ ∀ v, o.data ≠ .cell v
  keep : ∀ i h h', SI i h → (∀ o, h.get? it = some o → h'.get? it = some o) → SI i h'
  draws : ∀ (X : Cx) pins σ H s, X.prog = P → X.w = w → X.K = K → X.calm = true → Inv X pins σ H s → Same F H → (∃ i, SI i s.heap) → H it = none → ∃ fp Pv St, Draws P w X.A.in1 it fp ds.length Pv St ∧ it ∈ fp ∧ (∀ b ∈ fp, b = it ∨ (H b ≠ none ∨ ∃ o, X.base.get? b = some o)) ∧
    (∀ i, SI i s.heap → St i s.heap) ∧ (∀ i h, St i h → SI i h) ∧ ∀ i v, Pv i v → ∃ x d, ds[i]? = some d ∧ RelV x v ∧ RepD K CL F x d
end
section
variable {P : Program} {w : World} {K : PySem.W.Frag} {CL : Str → Option Addr} {F : Hp} {ds : List D}
theorem fp_apart {X : Cx} {pins : List (Addr × Obj)} {σ : L2.St} {H : Hp} {s : Shared} {e b : Addr} (I : Inv X pins σ H s) (f : FpOk X pins H e) (h : H b ≠ none ∨ ∃ o, X.base.get? b = some o) : e ≠ b := by
  rintro rfl
  rcases h with h | ⟨o, h⟩
  · exact h f.1
  · rcases f.2.2.2.1 with z | z
    · exact I.ok.noex _ o h z
    · exact absurd (Nat.lt_of_lt_of_le (Nat.lt_of_lt_of_le (Heap.lt_size h) I.ok.bsz) z) (Nat.lt_irrefl _)
theorem RepL.at_ {vs : List V} {u : Value} {us : List Value} {i : Nat} (r : RepL K CL F vs ds) (q : Vals vs us) (h : us[i]? = some u) : ∃ x d, ds[i]? = some d ∧ RelV x u ∧ RepD K CL F x d := by
  have hi : i < us.length := (List.getElem?_eq_some_iff.mp h).1
  have l1 := q.length
  have l2 := r.length
  have e1 : vs[i]? = some vs[i] := List.getElem?_eq_getElem (by omega)
  obtain ⟨u', h1, h2⟩ := q.get e1
  rw [h] at h1; cases h1
  obtain ⟨v, h3, h4⟩ := r.get (List.getElem?_eq_getElem (show i < ds.length by omega))
  rw [e1] at h3; cases h3
  exact ⟨_, _, List.getElem?_eq_getElem (by omega), h2, h4⟩
theorem sq_place {X : Cx} {pins : List (Addr × Obj)} {σ : L2.St} {H : Hp} {s : Shared} {a : Addr} (I : Inv X pins σ H s) {u : HO} (h : Rd H a u ∨ ∃ o, X.K.lookup a = some o) : H a ≠ none ∨ ∃ o, X.base.get? a = some o := by
  rcases h with (h | ⟨o, h⟩) | ⟨o, h⟩
  · exact .inl (by rw [h]; simp)
  · exact .inl (by rw [h]; simp)
  · exact .inr ⟨o, I.mod.kin a o h⟩
theorem src_list {a it : Addr} {vs : List V} (hS : SqL K F a vs) (r : RepL K CL F vs ds) (hne : a ≠ it) : SrcD P w K CL F ds it (fun i h => h.IsListIter it a i) where
  obj := fun i h st => by
    obtain ⟨o, ho, hc, hd⟩ := st
    exact ⟨o, ho, fun v q => by rw [hd] at q; cases q⟩
  keep := fun i h h' st k => st.at k
  draws := fun X pins σ H s e1 e2 e3 hc I sm _ hit => by
    subst e1 e2 e3
    have hq := sm.seq hS
    obtain ⟨its, rv, p, hz⟩ := I.list hq
    have hn : its.toArray.size = ds.length := by rw [← r.length, rv.length]; simp
    have D1 := Draws.list (prog := X.prog) (w := X.w) (A := X.A.in1) (I.ok.hd hc) it a hne its.toArray
    rw [hn] at D1
    refine ⟨_, _, _, D1, by simp, fun b hb => ?_, fun i st => ⟨st, p.isList⟩, fun i h st => st.1, fun i v hv => r.at_ rv (by simpa using hv)⟩
    have hb : b = it ∨ b = a := by simpa using hb
    rcases hb with hb | rfl
    · exact .inl hb
    · exact .inr (sq_place I (hq.elim .inl fun ⟨o, _, _, h, _⟩ => .inr ⟨o, h⟩))
theorem src_tup {a it : Addr} {vs : List V} (hS : SqT K F a vs) (r : RepL K CL F vs ds) (hne : a ≠ it) : SrcD P w K CL F ds it (fun i h => h.IsTupleIter it a i) where
  obj := fun i h st => by
    obtain ⟨o, ho, hc, hd⟩ := st
    exact ⟨o, ho, fun v q => by rw [hd] at q; cases q⟩
  keep := fun i h h' st k => st.at k
  draws := fun X pins σ H s e1 e2 e3 hc I sm _ hit => by
    subst e1 e2 e3
    have hq := sqT_mono sm hS
    obtain ⟨its, rv, p, hz⟩ := I.tuple hq
    have hn : its.toArray.size = ds.length := by rw [← r.length, rv.length]; simp
    have D1 := Draws.tuple (prog := X.prog) (w := X.w) (A := X.A.in1) (I.ok.hd hc) it a hne its.toArray
    rw [hn] at D1
    refine ⟨_, _, _, D1, by simp, fun b hb => ?_, fun i st => ⟨st, p⟩, fun i h st => st.1, fun i v hv => r.at_ rv (by simpa using hv)⟩
    have hb : b = it ∨ b = a := by simpa using hb
    rcases hb with hb | rfl
    · exact .inl hb
    · exact .inr (sq_place I (hq.elim .inl fun ⟨o, _, _, h, _⟩ => .inr ⟨o, h⟩))
theorem signs_at {z : Str} {i : Nat} {c : Nat} (h : z.cps[i]? = some c) : (signs z)[i]? = some (.str ⟨#[c]⟩) := by
  unfold signs
  rw [List.getElem?_map, Array.getElem?_toList, h]
  rfl
theorem src_str {it : Addr} {z : Str} {t : Tok} : SrcD P w K CL F (signs z) it (fun i h => h.IsStrIter it (strIterType z) z t i) where
  obj := fun i h st => by
    obtain ⟨o, ho, hc, hd⟩ := st
    exact ⟨o, ho, fun v q => by rw [hd] at q; cases q⟩
  keep := fun i h h' st k => by
    obtain ⟨o, ho, hc, hd⟩ := st
    exact ⟨o, k o ho, hc, hd⟩
  draws := fun X pins σ H s e1 e2 e3 hc I sm _ hit => by
    subst e1 e2 e3
    have hn : z.cps.size = (signs z).length := by unfold signs; simp
    have D1 := Draws.text (prog := X.prog) (w := X.w) (A := X.A.in1) (I.ok.hd hc) it z t
    rw [hn] at D1
    refine ⟨_, _, _, D1, by simp, fun b hb => .inl (by simpa using hb), fun i st => st, fun i h st => st, fun i v hv => ?_⟩
    obtain ⟨c, u, h1, rfl⟩ := hv
    exact ⟨.str ⟨#[c]⟩, _, signs_at h1, ⟨u, rfl⟩, .str _⟩

/-- pairs, by a walk of the library -/
theorem turn_wt {elts : List Expr} {kk : Nat} {tpos : Pos} {I₀ : Addr} {own : List Addr} {SI : Nat → Heap → Prop} (hI : I₀ ∈ own)
    (obj : ∀ i h, SI i h → ∀ b ∈ own, ∃ o, h.get? b = some o ∧ ∀ v, o.data ≠ .cell v)
    (keep : ∀ i h h', SI i h → (∀ b ∈ own, ∀ o, h.get? b = some o → h'.get? b = some o) → SI i h')
    (self : ∀ (A : Around) (i : Nat) (s : Shared) (Q : Value → Shared → Prop) (E : Value → Shared → Prop), SI i s.heap → Q (.ref I₀) s → wpAny (model P w) A (pyIter (.ref I₀)) Q E s)
    (W : ∀ (X : Cx) pins σ H s, X.prog = P → X.w = w → X.K = K → X.calm = true → Inv X pins σ H s → Same F H → (∀ b ∈ own, FpOk X pins H b) → (∃ i, SI i s.heap) → ∃ fp wr Pt St Mid, WalksT P w X.A I₀ fp wr ds.length Pt St Mid ∧ (∀ b ∈ wr, b ∈ own) ∧
      (∀ i, SI i s.heap → St i s.heap) ∧ (∀ i h, St i h → SI i h) ∧ ∀ i vals, Pt i vals → vals.size ≤ sizeLine ∧ ∃ xs es, ds[i]? = some (.tup es) ∧ Vals xs vals.toList ∧ RepL K CL F xs es) :
    Turn P w K (.Tuple elts kk tpos) (ItP K CL F ds) own I₀ SI where
  mem := hI
  obj := obj
  keep := keep
  self := self
  item := by
    intro X hP hw hK hc i pins s σ H E I hf st hg
    obtain ⟨fp, wr, Pt, St, Mid, WT, hwr, to, fro, hv⟩ := W X pins σ H s hP hw hK hc I hg.2 hf ⟨i, st⟩
    subst hP hw hK
    refine WT.item i s _ E hg.1 (to i st) fun T vals h' tk pt hT isT mid hk => ⟨_, rfl, ?_⟩
    obtain ⟨hz, xs, es, e1, rv, re⟩ := hv i vals pt
    have hlive : ∀ b ∈ own, ∃ o, s.heap.get? b = some o := fun b hb => let ⟨o, e, _⟩ := obj i _ st b hb; ⟨o, e⟩
    refine WT.go elts kk tpos i T { s with heap := h', toks := tk } _ E mid fun h'' st' hk' => ?_
    have isT2 : h''.IsTuple T vals := by
      obtain ⟨o, ho, r⟩ := isT
      exact ⟨o, hk' T o (WT.apart i T h' mid) ho, r⟩
    have hn : H T = none := I.hok.fresh hT
    have lenx : xs.length ≤ sizeLine := by rw [rv.length]; simpa using hz
    have new : ObjOk X.prog X.w (upd H T (.tup xs)) h'' T (.tup xs) := ⟨lenx, vals.toList, rv, by rw [Array.toArray_toList]; exact isT2⟩
    have I1 : Inv X pins σ (upd H T (.tup xs)) { s with heap := h'', toks := tk } :=
      I.turnedNew (ch := own) (fun b ob hb q => hk' b ob (fun z => hb (hwr b z)) (hk b ob (fun z => hb (hwr b z)) q)) hf hT new
    refine ⟨.ref T, _, I1, rfl, ⟨_, e1, T, xs, es, rfl, hn, rfl, rfl, re⟩, fro _ _ st', fun b hb => ?_⟩
    obtain ⟨o, eo⟩ := hlive b hb
    have hbl := Heap.lt_size eo
    rw [upd_ne (Nat.ne_of_lt (Nat.lt_of_lt_of_le hbl hT))]
    exact (hf b hb).1
  done := by
    intro X hP hw hK hc i pins s σ H E I hf st hg
    obtain ⟨fp, wr, Pt, St, Mid, WT, hwr, to, fro, hv⟩ := W X pins σ H s hP hw hK hc I hg.2 hf ⟨i, st⟩
    subst hP hw hK
    obtain ⟨rfl, _⟩ := hg
    refine WT.done s _ E (to _ st) fun h' tk hk => ⟨rfl, ?_⟩
    exact I.turnedL (fun b ob hb q => hk b ob (fun z => hb (hwr b z)) q) hf
end

/-! ### enumerate, zip begin -/
/-- pairs of index and item -/
def enumL : Nat → List D → List D
  | _, [] => []
  | i, d :: ds => .tup [.int (i : Nat), d] :: enumL (i + 1) ds
def zipL : List D → List D → List D
  | a :: as, b :: bs => .tup [a, b] :: zipL as bs
  | _, _ => []
theorem enumL_length (i : Nat) (ds : List D) : (enumL i ds).length = ds.length := by
  induction ds generalizing i with
  | nil => rfl
  | cons d ds ih => rw [enumL, List.length_cons, ih, List.length_cons]
theorem enumL_at {ds : List D} {d : D} : ∀ {i j : Nat}, ds[j]? = some d → (enumL i ds)[j]? = some (.tup [.int ((i + j : Nat) : Int), d]) := by
  induction ds with
  | nil => intro i j h; simp at h
  | cons a ds ih =>
    intro i j h
    cases j with
    | zero => cases h; rfl
    | succ j =>
      show (enumL (i + 1) ds)[j]? = _
      rw [ih (i := i + 1) (show ds[j]? = some d from h), show i + 1 + j = i + (j + 1) by omega]
theorem zipL_length : ∀ (as bs : List D), (zipL as bs).length = min as.length bs.length
  | [], _ => by simp [zipL]
  | _ :: _, [] => by simp [zipL]
  | a :: as, b :: bs => by rw [zipL, List.length_cons, zipL_length as bs, List.length_cons, List.length_cons]; omega
theorem zipL_at {a b : D} : ∀ {as bs : List D} {j : Nat}, as[j]? = some a → bs[j]? = some b → (zipL as bs)[j]? = some (.tup [a, b])
  | [], _, _, h, _ => by simp at h
  | _ :: _, [], _, _, h => by simp at h
  | _ :: _, _ :: _, 0, h, h' => by cases h; cases h'; rfl
  | _ :: as, _ :: bs, j + 1, h, h' => zipL_at (as := as) (bs := bs) (j := j) h h'

set_option maxHeartbeats 2000000 in
theorem enum_new1 {v : Value} {ob : Obj} {Hd : Heap → Prop} (Bg : Begins v ob Hd) :
    Meets (Builtin.«enumerate.__new__» ⟨[.type "enumerate", v], []⟩) (fun _ Rs s₁ => Hd s₁.heap ∧ Rs (.ok (.ret (.ref (s₁.heap.push ob).objs.size)))
      { s₁ with heap := (s₁.heap.push ob).push { cls := .type "enumerate", data := .fields #[.none, .bool false, .ref s₁.heap.objs.size, rawInt 0, .none, .none] } }) :=
  .of_wp fun prog w A Rs s₁ hh => by
    obtain ⟨h0, gg, dd, tt, oo⟩ := s₁; obtain ⟨hb, hh⟩ := hh
    have subE := sub_enumerate
    have st : ∀ {A₁ : Around} {E₁ : Value → Shared → Prop} {Q₁ : Value → Shared → Prop}, Q₁ (.ref h0.objs.size) ⟨h0.push ob, gg, dd, tt, oo⟩ → wpAny (model prog w) A₁ (pyIter v) Q₁ E₁ ⟨h0, gg, dd, tt, oo⟩ :=
      fun z => Bg.iter prog w _ _ ⟨h0, gg, dd, tt, oo⟩ _ hb z
    wp_walk using st
    refine wpAny_stack_any fun stk => wpAny_pure ?_
    split
    · rename_i cl _ _ _ _ _
      cases (cl == Value.type "enumerate") <;> (wp_walk using st; exact ⟨_, rfl, hh⟩)
    · wp_walk using st
      exact ⟨_, rfl, hh⟩
theorem call_enum1 {prog : Program} {w : World} {A : Around} {E : Value → Shared → Prop} {s : Shared} {v : Value} {ob : Obj} {Hd : Heap → Prop} {Q : Value → Shared → Prop} (Bg : Begins v ob Hd) (hb : Hd s.heap)
    (hQ : ∀ h₂, IsEnum h₂ (s.heap.objs.size + 1) s.heap.objs.size 0 .none → h₂.get? s.heap.objs.size = some ob → (∀ b u, s.heap.get? b = some u → h₂.get? b = some u) → Q (.ref (s.heap.objs.size + 1)) { s with heap := h₂ }) :
    wpAny (model prog w) A (call (.type "enumerate") [v]) Q E s := by
  refine callType_new F.called_enumerate (by decide) (F.typeCall_enumerate_1 _) (F.newCall_enumerate_1 _) (fun obj => F.args_object_init_2 obj _) F.entry_enumerate_new (enum_new1 Bg) ⟨hb, ?_⟩
  have zz : (s.heap.push ob).objs.size = s.heap.objs.size + 1 := Heap.size_push ..
  have atE := Heap.get?_push_size (s.heap.push ob) (o := { cls := .type "enumerate", data := .fields #[.none, .bool false, .ref s.heap.objs.size, rawInt 0, .none, .none] }) rfl
  show _ ∧ _
  rw [zz] at atE ⊢
  exact ⟨⟨_, atE, rfl⟩, hQ _ atE (Heap.get?_push_of_some _ (Heap.get?_push_size _ Bg.free)) fun b u q => Heap.get?_push_of_some _ (Heap.get?_push_of_some _ q)⟩

section
variable {K : PySem.W.Frag} {CL : Str → Option Addr} {F : Hp}
/-- data begun -/
theorem src_of {X : Cx} {pins : List (Addr × Obj)} {σ : L2.St} {H : Hp} {s : Shared} {d : D} {ds : List D} {v : V} {u : Value} (I : Inv X pins σ H s) (sm : Same F H) (r : RepD X.K CL F v d) (rv : RelV v u) (e : itemsOf d = some ds) :
    ∃ ob Hd, Begins u ob Hd ∧ Hd s.heap ∧ ∀ it, s.heap.objs.size ≤ it → ∃ SI, SrcD X.prog X.w X.K CL F ds it SI ∧ ∀ h', h'.get? it = some ob → SI 0 h' := by
  have seqL : ∀ {a vs xs}, v = .ref a → SqL X.K F a vs → RepL X.K CL F vs xs → xs = ds → ∃ ob Hd, Begins u ob Hd ∧ Hd s.heap ∧ ∀ it, s.heap.objs.size ≤ it → ∃ SI, SrcD X.prog X.w X.K CL F ds it SI ∧ ∀ h', h'.get? it = some ob → SI 0 h' := fun {a vs xs} ev hS hr ex => by
    subst ex ev
    cases rv
    obtain ⟨its, rv', p, hz⟩ := I.list (sm.seq hS)
    have la : a < s.heap.objs.size := by obtain ⟨o, ho, _⟩ := p.isList; exact Heap.lt_size ho
    exact ⟨_, _, begins_list a its.toArray, p.isList, fun it hit => ⟨_, src_list hS hr (Nat.ne_of_lt (Nat.lt_of_lt_of_le la hit)), fun h' q => ⟨_, q, rfl, rfl⟩⟩⟩
  cases r with
  | lst h q => cases e; exact seqL rfl (SqL.of h) q rfl
  | scr h q => cases e; exact seqL rfl h q rfl
  | @tup a vs xs h q =>
    cases e
    cases rv
    obtain ⟨its, rv', p, hz⟩ := I.tuple (sqT_mono sm h)
    have la : a < s.heap.objs.size := by obtain ⟨o, ho, _⟩ := p; exact Heap.lt_size ho
    exact ⟨_, _, begins_tuple a its.toArray, p, fun it hit => ⟨_, src_tup h q (Nat.ne_of_lt (Nat.lt_of_lt_of_le la hit)), fun h' q => ⟨_, q, rfl, rfl⟩⟩⟩
  | str z =>
    obtain ⟨c, e⟩ := if_some e
    subst e
    obtain ⟨t, rfl⟩ := rv
    exact ⟨_, _, begins_text z t, trivial, fun it hit => ⟨_, src_str, fun h' q => ⟨_, q, rfl, rfl⟩⟩⟩
  | _ => cases e
theorem turn_enumD {P : Program} {w : World} {ds : List D} {elts : List Expr} {kk : Nat} {tpos : Pos} {e it : Addr} {SI : Nat → Heap → Prop} (Sr : SrcD P w K CL F ds it SI) (hne : e ≠ it) :
    Turn P w K (.Tuple elts kk tpos) (ItP K CL F (enumL 0 ds)) [e, it] e (fun i h => (∃ old, IsEnum h e it (0 + (i : Nat) : Int) old) ∧ SI i h) := by
  refine turn_wt (by simp) (fun i h st b hb => ?_) (fun i h h' st k => ⟨?_, Sr.keep i h h' st.2 fun o q => k it (by simp) o q⟩) (fun A i s Q E st q => let ⟨⟨_, he⟩, _⟩ := st; wpAny_pyIter_enum he q) ?_
  · obtain ⟨⟨old, he⟩, hs⟩ := st
    have hb : b = e ∨ b = it := by simpa using hb
    rcases hb with rfl | rfl
    · exact ⟨_, he, fun v q => nomatch q⟩
    · exact Sr.obj i h hs
  · obtain ⟨⟨old, he⟩, _⟩ := st
    exact ⟨old, k e (by simp) _ he⟩
  · intro X pins σ H s e1 e2 e3 hc I sm hf hex
    subst e1 e2 e3
    obtain ⟨i0, st0⟩ := hex
    obtain ⟨fp, Pv, St, D1, m1, m2, to, fro, hv⟩ := Sr.draws X pins σ H s rfl rfl rfl hc I sm ⟨i0, st0.2⟩ (hf it (by simp)).1
    have hef : e ∉ fp := fun z => by
      rcases m2 e z with q | q
      · exact hne q
      · exact fp_apart I (hf e (by simp)) q rfl
    have W := WalksT.enumFrom (A := X.A) 0 D1 e hne hef m1
    rw [← enumL_length 0 ds] at W
    refine ⟨_, _, _, _, _, W, fun b hb => hb, fun i st => ⟨st.1, to i st.2⟩, fun i h st => ⟨st.1, fro i h st.2⟩, fun i vals pt => ?_⟩
    obtain ⟨t, x, px, rfl⟩ := pt
    obtain ⟨y, d, e1, e2, e3⟩ := hv i x px
    refine ⟨by show 2 ≤ sizeLine; decide, [.int (i : Nat), y], [.int (i : Nat), d], ?_, .cons ⟨t, by rw [Int.zero_add]⟩ (.cons e2 .nil), .cons (.int _) (.cons e3 .nil)⟩
    rw [enumL_at e1, Nat.zero_add]
theorem turn_zipD {P : Program} {w : World} {as bs : List D} {elts : List Expr} {kk : Nat} {tpos : Pos} {z TI TO i1 i2 : Addr} {S1 S2 : Nat → Heap → Prop} (Sa : SrcD P w K CL F as i1 S1) (Sb : SrcD P w K CL F bs i2 S2)
    (hnd : [z, TI, TO, i1, i2].Nodup) :
    Turn P w K (.Tuple elts kk tpos) (ItP K CL F (zipL as bs)) [z, TI, TO, i1, i2] z (fun i h => IsZip h z TI TO .none ∧ IsTupOf2 h TI (.ref i1) (.ref i2) ∧ (∃ a1 a2, IsTupOf2 h TO a1 a2) ∧ S1 i h ∧ S2 i h) := by
  simp only [List.nodup_cons, List.mem_cons, List.not_mem_nil, or_false, not_or] at hnd
  obtain ⟨⟨n1, n2, n3, n4⟩, ⟨n5, n6, n7⟩, ⟨n8, n9⟩, n10, _⟩ := hnd
  refine turn_wt (by simp) (fun i h st b hb => ?_) (fun i h h' st k => ⟨k z (by simp) _ st.1, k TI (by simp) _ st.2.1, ?_, Sa.keep i h h' st.2.2.2.1 fun o q => k i1 (by simp) o q, Sb.keep i h h' st.2.2.2.2 fun o q => k i2 (by simp) o q⟩)
    (fun A i s Q E st q => wpAny_pyIter_zip st.1 q) ?_
  · obtain ⟨h1, h2, ⟨a1, a2, h3⟩, h4, h5⟩ := st
    have hb : b = z ∨ b = TI ∨ b = TO ∨ b = i1 ∨ b = i2 := by simpa using hb
    rcases hb with rfl | rfl | rfl | rfl | rfl
    · exact ⟨_, h1, fun v q => nomatch q⟩
    · exact ⟨_, h2, fun v q => nomatch q⟩
    · exact ⟨_, h3, fun v q => nomatch q⟩
    · exact Sa.obj i h h4
    · exact Sb.obj i h h5
  · obtain ⟨_, _, ⟨a1, a2, h3⟩, _⟩ := st
    exact ⟨a1, a2, k TO (by simp) _ h3⟩
  · intro X pins σ H s e1 e2 e3 hc I sm hf hex
    subst e1 e2 e3
    obtain ⟨i0, st0⟩ := hex
    obtain ⟨fp1, P1, St1, D1, m1, a1, to1, fro1, hv1⟩ := Sa.draws X pins σ H s rfl rfl rfl hc I sm ⟨i0, st0.2.2.2.1⟩ (hf i1 (by simp)).1
    obtain ⟨fp2, P2, St2, D2, m2, a2, to2, fro2, hv2⟩ := Sb.draws X pins σ H s rfl rfl rfl hc I sm ⟨i0, st0.2.2.2.2⟩ (hf i2 (by simp)).1
    have o1 : ∀ b, b ∈ [z, TI, TO, i1, i2] → b ≠ i1 → b ∉ fp1 := fun b hb hn z => by
      rcases a1 b z with q | q
      · exact hn q
      · exact fp_apart I (hf b hb) q rfl
    have o2 : ∀ b, b ∈ [z, TI, TO, i1, i2] → b ≠ i2 → b ∉ fp2 := fun b hb hn z => by
      rcases a2 b z with q | q
      · exact hn q
      · exact fp_apart I (hf b hb) q rfl
    have sp : ZipSep2 z TI TO i1 i2 fp1 fp2 := ⟨Ne.symm n1, Ne.symm n2, n5, n6, m1, o1 z (by simp) n3, o1 TO (by simp) n8, n7, m2, o2 z (by simp) n4, o2 TO (by simp) n9, o2 i1 (by simp) n10, o1 i2 (by simp) (Ne.symm n10)⟩
    have W := WalksT.zipD2 (A := X.A) sp D1 D2
    rw [← zipL_length as bs] at W
    refine ⟨_, _, _, _, _, W, fun b hb => ?_, fun i st => ⟨st.1, st.2.1, st.2.2.1, to1 i st.2.2.2.1, to2 i st.2.2.2.2⟩, fun i h st => ⟨st.1, st.2.1, st.2.2.1, fro1 i h st.2.2.2.1, fro2 i h st.2.2.2.2⟩, fun i vals pt => ?_⟩
    · have hb : b = z ∨ b = TO ∨ b = i1 ∨ b = i2 := by simpa using hb
      rcases hb with rfl | rfl | rfl | rfl <;> simp
    obtain ⟨x, y, px, py, rfl⟩ := pt
    obtain ⟨v1, d1, e1, e2, e3⟩ := hv1 i x px
    obtain ⟨v2, d2, e4, e5, e6⟩ := hv2 i y py
    exact ⟨by show 2 ≤ sizeLine; decide, [v1, v2], [d1, d2], zipL_at e1 e4, .cons e2 (.cons e5 .nil), .cons e3 (.cons e6 .nil)⟩
end
end Ev
set_option Elab.async false
set_option linter.all false
set_option maxRecDepth 100000
/-! Own text: what a loop or a comprehension walks; comprehensions as expressions. -/
namespace Ev
open PySem PySem.Spec PyProof.Rows L2

def iSeq (f : EvF) : ItF := fun ρ S => (eD f ρ S).bind fun (d, S) => (itemsOf d).map fun ds => (ds, S)
/-- lo, .., hi - 1 -/
def rgL (lo hi : Int) : List D := (List.range (hi - lo).toNat).map fun (i : Nat) => .int (lo + i)
def small62 (j : Int) : Prop := -(2 ^ 62) ≤ j ∧ j < 2 ^ 62
instance (j : Int) : Decidable (small62 j) := by unfold small62; infer_instance
def iRng1 (f : EvF) : ItF := fun ρ S => (eV f ρ S).bind fun (v, S) => match v with
  | .d (.int j) => if small62 j then some (rgL 0 j, S) else none
  | _ => none
def iRng2 (f g : EvF) : ItF := fun ρ S => (eV f ρ S).bind fun (v, S) => (eV g ρ S).bind fun (u, S) => match v, u with
  | .d (.int i), .d (.int j) => if small62 i ∧ small62 j then some (rgL i j, S) else none
  | _, _ => none
def iEnum (f : EvF) : ItF := fun ρ S => (eD f ρ S).bind fun (d, S) => (itemsOf d).map fun ds => (enumL 0 ds, S)
def iZip (f g : EvF) : ItF := fun ρ S => (eD f ρ S).bind fun (d, S) => (eD g ρ S).bind fun (e, S) => (itemsOf d).bind fun ds => (itemsOf e).map fun es => (zipL ds es, S)

section
variable {X : Cx} {CL : Str → Option Addr} {tg a b : Expr} {fa fb : EvF} {p pos : Pos}
theorem PIor {it : Expr} {t t' : TI} (h : PI X tg it t) (h' : PI X tg it t') : PI X tg it (fun σ H R => t σ H R ∨ t' σ H R) :=
  ⟨fun pins s σ H R I q => q.elim (h.run pins s σ H R I) (h'.run pins s σ H R I)⟩
theorem walkD_list {K : PySem.W.Frag} {F : Hp} {q : Addr} {vs : List V} {ds : List D} (h : SqL K F q vs) (r : RepL K CL F vs ds) : WalkD K CL (Itl K q) F ds := by
  unfold WalkD
  rw [← r.length]
  exact (walk_list (xs := vs)).mono (fun H s => s.seq h) fun i H x H' hi s y => by
    obtain ⟨rfl, y⟩ := y
    obtain ⟨v, h1, h2⟩ := r.get (List.getElem?_eq_getElem (show i < ds.length by rw [← r.length]; exact hi))
    rw [y] at h1; cases h1
    exact ⟨_, List.getElem?_eq_getElem (by rw [← r.length]; exact hi), .inl ⟨rfl, h2⟩⟩
theorem walkD_tup {K : PySem.W.Frag} {F : Hp} {q : Addr} {vs : List V} {ds : List D} (h : SqT K F q vs) (r : RepL K CL F vs ds) : WalkD K CL (Itt K q) F ds := by
  unfold WalkD
  rw [← r.length]
  exact (walk_tup (xs := vs)).mono (fun H s => sqT_mono s h) fun i H x H' hi s y => by
    obtain ⟨rfl, y⟩ := y
    obtain ⟨v, h1, h2⟩ := r.get (List.getElem?_eq_getElem (show i < ds.length by rw [← r.length]; exact hi))
    rw [y] at h1; cases h1
    exact ⟨_, List.getElem?_eq_getElem (by rw [← r.length]; exact hi), .inl ⟨rfl, h2⟩⟩
theorem walkD_str {K : PySem.W.Frag} {F : Hp} {z : Str} : WalkD K CL (Its z) F (signs z) := by
  unfold WalkD
  have hn : (signs z).length = z.cps.size := by unfold signs; simp
  rw [hn]
  exact (walk_str (z := z)).mono (fun H s => trivial) fun i H x H' hi s y => by
    obtain ⟨rfl, c, y, rfl⟩ := y
    exact ⟨_, signs_at y, .inl ⟨rfl, .str _⟩⟩
theorem walkD_rng {K : PySem.W.Frag} {F : Hp} {lo hi : Int} : WalkD K CL (Itr lo (hi - lo).toNat) F (rgL lo hi) := by
  unfold WalkD
  have hn : (rgL lo hi).length = (hi - lo).toNat := by unfold rgL; simp
  rw [hn]
  exact (walk_range (lo := lo) (n := (hi - lo).toNat)).mono (fun H s => trivial) fun i H x H' hi' s y => by
    obtain ⟨rfl, rfl⟩ := y
    refine ⟨.int (lo + (i : Nat)), ?_, .inl ⟨rfl, .int _⟩⟩
    unfold rgL
    rw [List.getElem?_map, List.getElem?_range hi']
    rfl
theorem eD_inv {f : EvF} {ρ : Rho} {S S' : Sto} {d : D} (h : eD f ρ S = some (d, S')) : eD f ρ S = some (d, S') := h
theorem di_seq (ha : PE X a (tF X.K CL fa)) : PI X tg a (tI X.K CL (iSeq fa)) :=
  PIwk (PIor (pi_list ha.dd) (PIor (pi_tup ha.dd) (pi_str ha.dd))) fun σ H R ⟨F, m, S, ρ, ds, S', rel, env, e, k⟩ => by
    obtain ⟨⟨d, S1⟩, e1, e2⟩ := bind_some e
    obtain ⟨ds', e3, e4⟩ := map_some e2
    cases e4
    cases d with
    | lst xs =>
      cases e3
      refine .inl ⟨F, m, S, ρ, .lst ds, S', rel, env, e1, fun v F' m' H' x1 r1 q1 => ?_⟩
      cases q1 with
      | @lst q vs _ h r => exact ⟨q, rfl, ⟨vs, SqL.of (r1.sub _ _ h)⟩, k _ F' m' H' x1 r1 (walkD_list (SqL.of h) r)⟩
    | scr xs =>
      cases e3
      refine .inl ⟨F, m, S, ρ, .scr ds, S', rel, env, e1, fun v F' m' H' x1 r1 q1 => ?_⟩
      cases q1 with
      | @scr q vs _ h r => exact ⟨q, rfl, ⟨vs, r1.sub.seq h⟩, k _ F' m' H' x1 r1 (walkD_list h r)⟩
    | tup xs =>
      cases e3
      refine .inr (.inl ⟨F, m, S, ρ, .tup ds, S', rel, env, e1, fun v F' m' H' x1 r1 q1 => ?_⟩)
      cases q1 with
      | @tup q vs _ h r => exact ⟨q, rfl, ⟨vs, sqT_mono r1.sub h⟩, k _ F' m' H' x1 r1 (walkD_tup h r)⟩
    | str z =>
      obtain ⟨c, e3⟩ := if_some e3
      cases e3
      refine .inr (.inr ⟨F, m, S, ρ, .str z, S', rel, env, e1, fun v F' m' H' x1 r1 q1 => ?_⟩)
      cases q1
      exact ⟨z, rfl, k _ F' m' H' x1 r1 walkD_str⟩
    | _ => cases e3

/-- values, settled, one after the other -/
def tVs1 (K : PySem.W.Frag) (CL : Str → Option Addr) (fa : EvF) : TA := tCons (tV K CL fa) tNil
theorem pa1 (ha : PE X a (tF X.K CL fa)) (hs : starEach [a] X.env = [(false, eval a X.env)]) : PA X [a] (tCons (tV X.K CL fa) tNil) := pa_cons ha.v pa_nil hs
theorem pa1D (ha : PE X a (tF X.K CL fa)) (hs : starEach [a] X.env = [(false, eval a X.env)]) : PA X [a] (tCons (tD X.K CL fa) tNil) := pa_cons ha.dd pa_nil hs
theorem di_rng1 (hg : Gl X "range") (hm : X.mg "range" = none) (ha : PE X a (tF X.K CL fa)) (hs : starEach [a] X.env = [(false, eval a X.env)]) : PI X tg (.Call (.Name "range" p) [a] [] pos) (tI X.K CL (iRng1 fa)) :=
  PIwk (pi_range1 hg hm (pa1 ha hs) hs) fun σ H R ⟨F, m, S, ρ, ds, S', rel, env, e, k⟩ => by
    obtain ⟨⟨v, S1⟩, e1, e2⟩ := bind_some e
    cases v with
    | cell _ => cases e2
    | grd _ => cases e2
    | d d =>
      cases d with
      | int j =>
        obtain ⟨c, e2⟩ := if_some e2
        cases e2
        refine ⟨F, m, S, ρ, .d (.int j), S', rel, env, e1, fun v F' m' H' x1 r1 q1 => ?_⟩
        cases q1
        refine ⟨j, rfl, c.1, c.2, k _ F' m' H' x1 r1 ?_⟩
        have := walkD_rng (K := X.K) (CL := CL) (F := F') (lo := 0) (hi := j)
        rw [Int.sub_zero] at this
        exact this
      | _ => cases e2
theorem di_rng2 (hg : Gl X "range") (hm : X.mg "range" = none) (ha : PE X a (tF X.K CL fa)) (hb : PE X b (tF X.K CL fb)) (hs : starEach [a, b] X.env = [(false, eval a X.env), (false, eval b X.env)]) (hs2 : starEach [b] X.env = [(false, eval b X.env)]) :
    PI X tg (.Call (.Name "range" p) [a, b] [] pos) (tI X.K CL (iRng2 fa fb)) :=
  PIwk (pi_range2 hg hm (pa_cons ha.v (pa1 hb hs2) (by rw [hs, hs2])) hs hs2) fun σ H R ⟨F, m, S, ρ, ds, S', rel, env, e, k⟩ => by
    obtain ⟨⟨v, S1⟩, e1, e2⟩ := bind_some e
    obtain ⟨⟨u, S2⟩, e3, e4⟩ := bind_some e2
    cases v with
    | cell _ => cases e4
    | grd _ => cases e4
    | d d =>
      cases d with
      | int i =>
        cases u with
        | cell _ => cases e4
        | grd _ => cases e4
        | d d =>
          cases d with
          | int j =>
            obtain ⟨c, e4⟩ := if_some e4
            cases e4
            refine ⟨F, m, S, ρ, .d (.int i), S1, rel, env, e1, fun v F' m' H' x1 r1 q1 => ⟨F', m', S1, ρ, .d (.int j), S', r1, env.mono x1, e3, fun w F2 m2 H2 x2 r2 q2 => ?_⟩⟩
            cases q1
            cases q2
            exact ⟨i, j, rfl, ⟨c.1.1, c.1.2, c.2.1, c.2.2⟩, k _ F2 m2 H2 (x1.trans x2) r2 walkD_rng⟩
          | _ => cases e4
      | _ => cases e4

/-! ### enumerate, zip -/
theorem di_enum {elts : List Expr} {kk : Nat} {tpos : Pos} (hg : Gl X "enumerate") (hm : X.mg "enumerate" = none) (ha : PE X a (tF X.K CL fa)) (hs : starEach [a] X.env = [(false, eval a X.env)]) :
    PI X (.Tuple elts kk tpos) (.Call (.Name "enumerate" p) [a] [] pos) (tI X.K CL (iEnum fa)) := by
  refine ⟨fun pins s σ H R I h => ?_⟩
  refine Call_ (ld_blt I hg hm boot_enumerate (PyProof.Rows.callWith_type1 (thn ((pa1D ha hs).run pos pins s σ H (fun vs H1 => ∃ F1 m1 v d ds S1, Rel X.K CL F1 m1 S1 H1 ∧ vs = [v] ∧ RepD X.K CL F1 v d ∧ itemsOf d = some ds ∧
    ∀ J, WalkD X.K CL J F1 (enumL 0 ds) → R J H1) I ?_) fun us s1 ⟨vs, H1, I1, r1, q1⟩ => ?_) hs rfl))
  · obtain ⟨F, m, S, ρ, ds, S', rel, env, e, k⟩ := h
    obtain ⟨⟨d, S1⟩, e1, e2⟩ := bind_some e
    obtain ⟨ds', e3, e4⟩ := map_some e2
    cases e4
    exact ⟨F, m, S, ρ, d, S', rel, env, e1, fun v F' m' H' x1 r1 q1 => ⟨F', m', v, d, ds', S', r1, rfl, q1, e3, fun J w => k J F' m' H' x1 r1 w⟩⟩
  · obtain ⟨F1, m1, v, d, ds, S1, rel1, rfl, rd, ei, kk'⟩ := q1
    cases r1 with
    | cons rv rr =>
      cases rr
      obtain ⟨ob, Hd, Bg, hb, hsrc⟩ := src_of I1 rel1.sub rd rv ei
      refine call_enum1 Bg hb fun h2 he hit keep => wpAny_pyIter_enum he ?_
      obtain ⟨SI, Sr, st⟩ := hsrc s1.heap.objs.size (Nat.le_refl _)
      have I2 : Inv X pins σ H1 { s1 with heap := h2 } := I1.kept (t' := s1.toks) keep
      refine ⟨s1.heap.objs.size + 1, [s1.heap.objs.size + 1, s1.heap.objs.size], _, _, H1, rfl, I2, turn_enumD Sr (Nat.succ_ne_self _), ⟨⟨.none, he⟩, st _ hit⟩, fun b hb => ?_, kk' _ (walk_ItP _ _)⟩
      have hb : b = s1.heap.objs.size + 1 ∨ b = s1.heap.objs.size := by simpa using hb
      have le : s1.heap.objs.size ≤ b := by
        rcases hb with z | z
        · rw [z]; exact Nat.le_succ _
        · rw [z]; exact Nat.le_refl _
      exact I1.fpOk le (I1.hok.fresh le)
theorem pa2D (ha : PE X a (tF X.K CL fa)) (hb : PE X b (tF X.K CL fb)) (hs : starEach [a, b] X.env = [(false, eval a X.env), (false, eval b X.env)]) (hs2 : starEach [b] X.env = [(false, eval b X.env)]) : PA X [a, b] (tCons (tD X.K CL fa) (tCons (tD X.K CL fb) tNil)) :=
  pa_cons ha.dd (pa1D hb hs2) (by rw [hs, hs2])
theorem di_zip {elts : List Expr} {kk : Nat} {tpos : Pos} (hg : Gl X "zip") (hm : X.mg "zip" = none) (ha : PE X a (tF X.K CL fa)) (hb : PE X b (tF X.K CL fb)) (hs : starEach [a, b] X.env = [(false, eval a X.env), (false, eval b X.env)]) (hs2 : starEach [b] X.env = [(false, eval b X.env)]) :
    PI X (.Tuple elts kk tpos) (.Call (.Name "zip" p) [a, b] [] pos) (tI X.K CL (iZip fa fb)) := by
  refine ⟨fun pins s σ H R I h => ?_⟩
  refine Call_ (ld_blt I hg hm boot_zip (PyProof.Rows.callWith_type1 (thn ((pa2D ha hb hs hs2).run pos pins s σ H (fun vs H1 => ∃ F1 m1 v u d e ds es S1, Rel X.K CL F1 m1 S1 H1 ∧ vs = [v, u] ∧ RepD X.K CL F1 v d ∧ RepD X.K CL F1 u e ∧ itemsOf d = some ds ∧ itemsOf e = some es ∧
    ∀ J, WalkD X.K CL J F1 (zipL ds es) → R J H1) I ?_) fun us s1 ⟨vs, H1, I1, r1, q1⟩ => ?_) (by rw [hs, hs2]) (by rw [hs2]; rfl)))
  · obtain ⟨F, m, S, ρ, ds, S', rel, env, e, k⟩ := h
    obtain ⟨⟨d, S1⟩, e1, e⟩ := bind_some e
    obtain ⟨⟨d2, S2⟩, e2, e⟩ := bind_some e
    obtain ⟨ds1, e3, e⟩ := bind_some e
    obtain ⟨ds2, e4, e⟩ := map_some e
    cases e
    exact ⟨F, m, S, ρ, d, S1, rel, env, e1, fun v F' m' H' x1 r1 q1 => ⟨F', m', S1, ρ, d2, S', r1, env.mono x1, e2, fun u F2 m2 H2 x2 r2 q2 => ⟨F2, m2, v, u, d, d2, ds1, ds2, S', r2, rfl, q1.mono x2.f, q2, e3, e4, fun J w => k J F2 m2 H2 (x1.trans x2) r2 w⟩⟩⟩
  · obtain ⟨F1, m1, v, u, d, e, ds, es, S1, rel1, rfl, rd, re, ei, ej, kk'⟩ := q1
    cases r1 with
    | cons rv rr =>
      cases rr with
      | cons ru rr =>
        cases rr
        obtain ⟨ob1, Hd1, Bg1, hb1, hsrc1⟩ := src_of I1 rel1.sub rd rv ei
        obtain ⟨ob2, Hd2, Bg2, hb2, hsrc2⟩ := src_of I1 rel1.sub re ru ej
        refine zip_begins2 Bg1 Bg2 hb1 hb2 fun h2 hz hTI hTO hi1 hi2 _ keep => wpAny_pyIter_zip hz ?_
        obtain ⟨SI1, Sr1, st1⟩ := hsrc1 s1.heap.objs.size (Nat.le_refl _)
        obtain ⟨SI2, Sr2, st2⟩ := hsrc2 (s1.heap.objs.size + 1) (Nat.le_succ _)
        have I2 : Inv X pins σ H1 { s1 with heap := h2 } := I1.kept (t' := s1.toks) keep
        refine ⟨_, [s1.heap.objs.size + 4, s1.heap.objs.size + 2, s1.heap.objs.size + 3, s1.heap.objs.size, s1.heap.objs.size + 1], _, _, H1, rfl, I2, turn_zipD Sr1 Sr2 ?_, ⟨hz, hTI, ⟨_, _, hTO⟩, st1 _ hi1, st2 _ hi2⟩, fun b hb => ?_, kk' _ (walk_ItP _ _)⟩
        · generalize s1.heap.objs.size = n
          have : ∀ i j : Nat, i ≠ j → n + i ≠ n + j := fun i j h e => h (Nat.add_left_cancel e)
          have h0 : ∀ i : Nat, i ≠ 0 → n + i ≠ n := fun i h e => h (Nat.add_left_cancel (e.trans (Nat.add_zero n).symm))
          simp
        · have hb : b = s1.heap.objs.size + 4 ∨ b = s1.heap.objs.size + 2 ∨ b = s1.heap.objs.size + 3 ∨ b = s1.heap.objs.size ∨ b = s1.heap.objs.size + 1 := by simpa using hb
          have le : s1.heap.objs.size ≤ b := by
            rcases hb with z | z | z | z | z <;> rw [z] <;> first | exact Nat.le_refl _ | exact Nat.le_add_right _ _
          exact I1.fpOk le (I1.hok.fresh le)

/-! ### comprehensions -/
theorem dts_none {Y : Cx} : PTs Y [] (tTs Y.K CL none) := pts_nil
theorem dts_one {Y : Cx} {c : Expr} {fc : EvF} (h : PT Y c (tT Y.K CL fc)) : PTs Y [c] (tTs Y.K CL (some fc)) := pts_one h
theorem de_lc {elt iter : Expr} {ifs : List Expr} {scope : Scope} {own : List (Str × Nat)} {is : List Nat} {ι : ItF} {g : TgF} {t : Option EvF} {fe : EvF} (hc : X.calm = true) (hN : X.N.Nodup) (hi : PI X tg iter (tI X.K CL ι)) (ok : BlkOk X.N X.env.scope scope own)
    (hg : ∀ s H C cl fp, PG (X.blk s H scope (compEnvC scope cl C X.env) fp) tg (tG X.K CL g is)) (ht : ∀ s H C cl fp, PTs (X.blk s H scope (compEnvC scope cl C X.env) fp) ifs (tTs X.K CL t))
    (he : ∀ s H C cl fp, PE (X.blk s H scope (compEnvC scope cl C X.env) fp) elt (tF X.K CL fe)) (hs : ∀ x, foldedSetIterable iter X.env x = pure x) (his : ∀ i ∈ is, i ∈ own.map (·.2)) :
    PE X (.ListComp elt [⟨tg, iter, ifs, 0⟩] scope pos) (tF X.K CL (fLc ι g t fe (own.map (·.2)))) :=
  PEwk (pe_lc hc hN hi ok hg ht (fun s H C cl fp => (he s H C cl fp).dd) hs) fun σ H Q h => lc_t his h
/-- name = [..], the name a local -/
theorem ds_setLc {i : Nat} {y : Str} {py spos : Pos} {elt iter : Expr} {ifs : List Expr} {scope : Scope} {own : List (Str × Nat)} {is : List Nat} {ι : ItF} {g : TgF} {t : Option EvF} {fe : EvF} {c : Bool} (hc : X.calm = true) (hN : X.N.Nodup) (hy : X.N[i]? = some y) (hyl : X.env.scope.names.lookup y = some .local)
    (hsw : swapsWith (.ListComp elt [⟨tg, iter, ifs, 0⟩] scope pos) (some (.Name y py)) spos.line X.env = pure true) (hi : PI X tg iter (tI X.K CL ι)) (ok : BlkOk X.N X.env.scope scope own)
    (hg : ∀ s H C cl fp, PG (X.blk s H scope (compEnvC scope cl C X.env) fp) tg (tG X.K CL g is)) (ht : ∀ s H C cl fp, PTs (X.blk s H scope (compEnvC scope cl C X.env) fp) ifs (tTs X.K CL t))
    (he : ∀ s H C cl fp, PE (X.blk s H scope (compEnvC scope cl C X.env) fp) elt (tF X.K CL fe)) (hs : ∀ x, foldedSetIterable iter X.env x = pure x) (his : ∀ i ∈ is, i ∈ own.map (·.2)) :
    PS X (.Assign [.Name y py] (.ListComp elt [⟨tg, iter, ifs, 0⟩] scope pos) spos) (tS X.K CL (sAsg c (fLc ι g t fe (own.map (·.2))) (gNm i))) :=
  PSwk (ps_setLc hc hN hy hyl hsw hi ok hg ht (fun s H C cl fp => (he s H C cl fp).dd) hs) fun D σ H ⟨F, m, S, ρ, o, ρ', S', rel, env, e, q⟩ => by
    obtain ⟨⟨v, S1⟩, e1, e⟩ := bind_some e
    obtain ⟨⟨ρ2, S2⟩, e2, e⟩ := map_some e
    cases e
    cases e2
    refine lc_t (CL := CL) his (tAr_tF (c := c) ⟨F, m, S, ρ, v, S', rel, env, e1, fun w F1 m1 H1 x1 r1 q1 => ?_⟩)
    exact q F1 m1 H1 x1 r1 _ ((env.mono x1).set q1 i)
end
end Ev
set_option Elab.async false
set_option linter.all false
set_option maxRecDepth 100000
/-! Own text: arguments, the promise of a def, calls, built-in functions as expressions, an own class. -/
namespace Ev
open PySem PySem.Spec PyProof.Rows L2

/-! ### what a def computes, from its body -/
/-- cells at indexes -/
def cellsAt : List Nat → Sto → Option (List Cell)
  | [], _ => some []
  | k :: ks, S => S[k]?.bind fun c => (cellsAt ks S).map fun cs => c :: cs
/-- the cells that were made within are dropped -/
def trunc (k : Nat) (r : Res) (S : Sto) : Option (Res × Sto) := match r with
  | .val (.cell j) => if j < k then some (.val (.cell j), S.take k) else match S[j]? with
    | some (.frz d) => some (.val (.d d), S.take k)
    | some c => some (.new c, S.take k)
    | none => none
  | .val (.d d) => some (.val (.d d), S.take k)
  | .val (.grd ks) => if ks.all (fun j => decide (k ≤ j)) = true ∧ ks.Nodup then (cellsAt ks S).map fun cs => (.val (.grd (List.range' k ks.length)), S.take k ++ cs) else none
  | .new c => some (.new c, S.take k)
def startR (N : Nat) (xs : List Val) : Rho := xs.map some ++ List.replicate (N - xs.length) none
/-- N: the slots -/
def fnOf (N : Nat) (b : StF) : FnF := fun xs S => (b (startR N xs) S).bind fun (o, _, S') => match o with
  | .nx => trunc S.length (.val (.d .non)) S'
  | .rt r => trunc S.length r S'
  | _ => none

inductive RepVs (K : PySem.W.Frag) (CL : Str → Option Addr) (F : Hp) (m : List Addr) : List V → List Val → Prop where
  | nil : RepVs K CL F m [] []
  | cons {v : V} {x : Val} {vs : List V} {xs : List Val} (a : RepV K CL F m v x) (b : RepVs K CL F m vs xs) : RepVs K CL F m (v :: vs) (x :: xs)
section
variable {K : PySem.W.Frag} {CL : Str → Option Addr} {F F' H H' H₀ : Hp} {m m' : List Addr} {S S' : Sto}
theorem RepVs.length {vs : List V} {xs : List Val} (r : RepVs K CL F m vs xs) : vs.length = xs.length := by
  induction r with
  | nil => rfl
  | cons a b ih => simp [ih]
theorem RepVs.mono (e : Ext F m H F' m' H') {vs : List V} {xs : List Val} (r : RepVs K CL F m vs xs) : RepVs K CL F' m' vs xs := by
  induction r with
  | nil => exact .nil
  | cons a b ih => exact .cons (a.mono e) ih
theorem RepVs.get {vs : List V} {xs : List Val} (r : RepVs K CL F m vs xs) : ∀ {i : Nat} {x : Val}, xs[i]? = some x → ∃ v, vs[i]? = some v ∧ RepV K CL F m v x := by
  induction r with
  | nil => intro i x h; simp at h
  | cons a b ih =>
    intro i x h
    cases i with
    | zero => cases h; exact ⟨_, rfl, a⟩
    | succ i => exact ih (i := i) h
theorem RepVs.start {vs : List V} {xs : List Val} (r : RepVs K CL F m vs xs) (N : List Str) : RepE K CL F m (L2.start N vs) (startR N.length xs) := by
  refine ⟨by unfold L2.start startR; simp [r.length], fun i x h => ?_⟩
  unfold startR at h
  by_cases hi : i < xs.length
  · rw [List.getElem?_append_left (by simpa using hi), List.getElem?_map] at h
    cases e : xs[i]? with
    | none => rw [e] at h; cases h
    | some y =>
      rw [e] at h
      cases h
      obtain ⟨v, h1, h2⟩ := r.get e
      refine ⟨v, ?_, h2⟩
      unfold L2.start
      rw [List.getElem?_append_left (by simpa [r.length] using hi), List.getElem?_map, h1]
      rfl
  · rw [List.getElem?_append_right (by simpa using hi), List.getElem?_replicate] at h
    split at h <;> cases h
theorem take_len {l : List Addr} : (m ++ l).take m.length = m := by simp
/-- the cells made within are dropped -/
theorem Rel.take {k : Nat} (r : Rel K CL F m S H) (k : Nat) : Rel K CL F (m.take k) (S.take k) H := by
  refine ⟨r.sub, by simp [r.len], fun j c a h1 h2 => ?_, fun a ha => r.trk a (List.mem_of_mem_take ha), r.nd.sublist (List.take_sublist ..)⟩
  rw [List.getElem?_take] at h1 h2
  split at h1
  · rename_i hj
    rw [if_pos hj] at h2
    exact r.cell j c a h1 h2
  · cases h1
theorem Ext.drop {l : List Addr} (e : Ext F m H F' (m ++ l) H') : Ext F m H F' m H' := ⟨e.f, e.fn, ⟨[], by simp, by simp⟩, e.h, e.t⟩
theorem trunc_ok {r r' : Res} {S2 : Sto} {v : V} (k : m.length = S.length) (e : Ext F m H F' m' H') (rel : Rel K CL F' m' S' H') (q : RepR K CL F' m' H H' v r) (h : trunc S.length r S' = some (r', S2)) :
    ∃ m2, Ext F m H F' m2 H' ∧ Rel K CL F' m2 S2 H' ∧ RepR K CL F' m2 H H' v r' := by
  obtain ⟨l, rfl, hl⟩ := e.mm
  have e' := e.drop
  have relT := rel.take (k := 0) S.length
  rw [← k, take_len, k] at relT
  cases r with
  | new c =>
    cases h
    obtain ⟨a, e1, h0, hm, rest⟩ := q
    exact ⟨m, e', relT, a, e1, h0, fun z => hm (List.mem_append_left _ z), rest⟩
  | val x =>
    cases x with
    | d d => cases h; exact ⟨m, e', relT, q⟩
    | cell j =>
      obtain ⟨a, ha, rfl⟩ := q
      have h : (if j < S.length then some (Res.val (.cell j), S'.take S.length) else match S'[j]? with
        | some (.frz d) => some (.val (.d d), S'.take S.length)
        | some c => some (.new c, S'.take S.length)
        | none => none) = some (r', S2) := h
      by_cases hj : j < S.length
      · rw [if_pos hj] at h
        cases h
        rw [List.getElem?_append_left (by rw [k]; exact hj)] at ha
        exact ⟨m, e', relT, a, ha, rfl⟩
      · rw [if_neg hj] at h
        have hal : a ∈ l := by
          rw [List.getElem?_append_right (by rw [k]; omega)] at ha
          exact List.mem_of_getElem? ha
        have ham : a ∉ m := fun z => (List.nodup_append.mp rel.nd).2.2 a z a hal rfl
        cases hc : S'[j]? with
        | none => rw [hc] at h; cases h
        | some c =>
          rw [hc] at h
          have z := rel.cell j c a hc ha
          cases c with
          | frz d => cases h; exact ⟨m, e', relT, z⟩
          | lst ds => cases h; exact ⟨m, e', relT, a, rfl, hl a hal, ham, rfl, z⟩
          | dct ds => cases h; exact ⟨m, e', relT, a, rfl, hl a hal, ham, rfl, z⟩
          | ins c ds => cases h; exact ⟨m, e', relT, a, rfl, hl a hal, ham, rfl, z⟩
    | grd ks =>
      obtain ⟨a, as, rfl, ha, hz⟩ := q
      have h : (if ks.all (fun j => decide (S.length ≤ j)) = true ∧ ks.Nodup then (cellsAt ks S').map fun cs => (Res.val (.grd (List.range' S.length ks.length)), S'.take S.length ++ cs) else none) = some (r', S2) := h
      by_cases c : ks.all (fun j => decide (S.length ≤ j)) = true ∧ ks.Nodup
      case neg => rw [if_neg c] at h; cases h
      rw [if_pos c] at h
      obtain ⟨cs, e1, e2⟩ := map_some' h
      cases e2
      obtain ⟨c1, c2⟩ := c
      have hlen : as.length = ks.length := by
        have := congrArg List.length hz
        simpa using this.symm
      have hat : ∀ (i : Nat) (k : Nat) (b : Addr), ks[i]? = some k → as[i]? = some b → (m ++ l)[k]? = some b ∧ S.length ≤ k := fun i k b h1 h2 => by
        have := congrArg (fun z => z[i]?) hz
        simp only [List.getElem?_map, h1, h2, Option.map_some] at this
        exact ⟨Option.some.inj this, of_decide_eq_true (List.all_eq_true.mp c1 k (List.mem_of_getElem? h1))⟩
      have hasl : ∀ b ∈ as, b ∈ l := fun b hb => by
        obtain ⟨i, hi, rfl⟩ := List.getElem_of_mem hb
        obtain ⟨z1, z2⟩ := hat i ks[i] as[i] (List.getElem?_eq_getElem (by omega)) (List.getElem?_eq_getElem hi)
        rw [List.getElem?_append_right (by rw [k]; exact z2)] at z1
        exact List.mem_of_getElem? z1
      have hasn : as.Nodup := by
        have key : ∀ {ks : List Nat} {as : List Addr}, ks.map (fun k => (m ++ l)[k]?) = as.map some → ks.Nodup → as.Nodup := by
          intro ks
          induction ks with
          | nil => intro as z _; cases as with | nil => exact .nil | cons _ _ => cases z
          | cons k0 ks ih =>
            intro as z hn
            cases as with
            | nil => cases z
            | cons b as =>
              rw [List.map_cons, List.map_cons] at z
              obtain ⟨z1, z2⟩ := List.cons.inj z
              obtain ⟨n1, n2⟩ := List.nodup_cons.mp hn
              refine List.nodup_cons.mpr ⟨fun hb => n1 ?_, ih z2 n2⟩
              obtain ⟨k2, hk2, e⟩ := List.mem_map.mp (show some b ∈ ks.map (fun k => (m ++ l)[k]?) from z2 ▸ List.mem_map_of_mem hb)
              have : k0 = k2 := (List.getElem?_inj (List.getElem?_eq_some_iff.mp z1).1 rel.nd).mp (z1.trans e.symm)
              exact this ▸ hk2
        exact key hz c2
      have hcs : ∀ {ks : List Nat} {cs : List Cell}, cellsAt ks S' = some cs → cs.length = ks.length ∧ ∀ (i k : Nat), ks[i]? = some k → S'[k]? = cs[i]? := by
        intro ks
        induction ks with
        | nil => intro cs e; cases e; exact ⟨rfl, fun i k h => by simp at h⟩
        | cons k0 ks ih =>
          intro cs e
          obtain ⟨c, e1, e⟩ := bind_some' (show S'[k0]?.bind _ = some cs from e)
          obtain ⟨cs', e2, e⟩ := map_some' e
          cases e
          obtain ⟨h1, h2⟩ := ih e2
          refine ⟨by simp [h1], fun i k h => ?_⟩
          cases i with
          | zero => cases h; exact e1
          | succ i => exact h2 i k h
      obtain ⟨q1, q2⟩ := hcs e1
      have tl : (S'.take S.length).length = S.length := by
        have := rel.len
        rw [List.length_append, k] at this
        rw [List.length_take]; omega
      refine ⟨m ++ as, ⟨e'.f, e'.fn, ⟨as, rfl, fun b hb => hl b (hasl b hb)⟩, e'.h, e'.t⟩, ⟨rel.sub, by rw [List.length_append, List.length_append, tl, q1, hlen, k], fun j c b h1 h2 => ?_, fun b hb => ?_, ?_⟩, a, as, rfl, ha, ?_⟩
      · by_cases hj : j < S.length
        · rw [List.getElem?_append_left (by rw [tl]; exact hj)] at h1
          rw [List.getElem?_append_left (by rw [k]; exact hj)] at h2
          exact relT.cell j c b h1 h2
        · rw [List.getElem?_append_right (by rw [tl]; omega), tl] at h1
          rw [List.getElem?_append_right (by rw [k]; omega), k] at h2
          have hlt := (List.getElem?_eq_some_iff.mp h2).1
          have hk := List.getElem?_eq_getElem (show j - S.length < ks.length by omega)
          exact rel.cell _ c b ((q2 _ _ hk).trans h1) (hat _ _ b hk h2).1
      · rcases List.mem_append.mp hb with hb | hb
        · exact rel.trk b (List.mem_append_left _ hb)
        · exact rel.trk b (List.mem_append_right _ (hasl b hb))
      · exact List.nodup_append.mpr ⟨(List.nodup_append.mp rel.nd).1, hasn, fun x hx y hy => (List.nodup_append.mp rel.nd).2.2 x hx y (hasl y hy)⟩
      · refine List.ext_getElem? fun i => ?_
        rw [List.getElem?_map, List.getElem?_map]
        by_cases hi : i < ks.length
        · rw [List.getElem?_range' hi, Option.map_some, List.getElem?_append_right (by rw [k]; omega), k, show S.length + 1 * i - S.length = i by omega, List.getElem?_eq_getElem (show i < as.length by omega)]
          rfl
        · rw [List.getElem?_eq_none (show (List.range' S.length ks.length).length ≤ i by rw [List.length_range']; omega), List.getElem?_eq_none (show as.length ≤ i by omega)]; rfl
end

/-- the promise of a def that computes fn -/
def spF (K : PySem.W.Frag) (CL : Str → Option Addr) (n : Nat) (fn : FnF) : Sp := fun vs H Q _ => vs.length = n ∧ ∃ F m S xs r S', Rel K CL F m S H ∧ RepVs K CL F m vs xs ∧ fn xs S = some (r, S') ∧
  ∀ v F' m' H', Ext F m H F' m' H' → Rel K CL F' m' S' H' → RepR K CL F' m' H H' v r → Q v H'
theorem body_pure {K : PySem.W.Frag} {CL : Str → Option Addr} {N : List Str} {b : StF} {n : Nat} {vs : List V} {H : Hp} {Q : VK} {E : XK} (h : spF K CL n (fnOf N.length b) vs H Q E) : tS K CL b { nx := fun _ H' => Q .non H', rt := Q } (L2.start N vs) H := by
  obtain ⟨_, F, m, S, xs, r, S', rel, rv, e, q⟩ := h
  obtain ⟨⟨o, ρ', S1⟩, e1, e⟩ := bind_some e
  refine ⟨F, m, S, _, o, ρ', S1, rel, rv.start N, e1, fun F1 m1 H1 x1 r1 => ?_⟩
  cases o with
  | nx =>
    intro σ' env'
    obtain ⟨m2, y1, y2, y3⟩ := trunc_ok (v := .non) rel.len x1 r1 (show RepR K CL F1 m1 H H1 .non (.val (.d .non)) from .non) e
    exact q .non F1 m2 H1 y1 y2 y3
  | rt r1' =>
    intro v rv'
    obtain ⟨m2, y1, y2, y3⟩ := trunc_ok rel.len x1 r1 rv' e
    exact q v F1 m2 H1 y1 y2 y3
  | bk => cases e
  | ct => cases e
/-- what a body is shown in -/
structure BodyOk (P : Program) (w : World) (K : PySem.W.Frag) (mg : Str → Option Value) (base : Heap) (k : Nat) (N : List Str) (sc : Scope) (X : Cx) : Prop where
  hP : X.prog = P
  hw : X.w = w
  hK : X.K = K
  mg : X.mg = mg
  base : X.base = base
  N : X.N = N
  sc : X.env.scope = sc
  calm : X.calm = true
  xe : X.xe = fun _ _ => False
  room : Room k X.A
  fn : ∀ x, X.fn x = true
theorem fn_okD {P : Program} {w : World} {K : PySem.W.Frag} {mg : Str → Option Value} {base : Heap} {CL : Str → Option Addr} {x qual : Str} {params : Arguments} {body : List Stmt} {scope : Scope} {kws : List (Str × V)} {f : Addr} {fd : FuncData} {N ps : List Str} {k : Nat} {b : StF}
    (F : FunD K x qual params body scope [] kws f fd) (S : FnScope N ps scope) (hb : ∀ X, BodyOk P w K mg base k N scope X → PSs X body (tS X.K CL b)) :
    FnOk P w K mg base CX0 (k + 1) f fd ps (spF K CL ps.length (fnOf N.length b)) := by
  refine F.ok S (fun vs H Q E h => h.1) fun cdv A outer s H vs Q E hr h => ⟨tS K CL b, PSs.nox ?_, body_pure h⟩
  exact hb _ ⟨rfl, rfl, rfl, rfl, rfl, rfl, rfl, rfl, rfl, hr, fun _ => rfl⟩

/-! ### arguments -/
section
variable {X : Cx} {CL : Str → Option Addr} {a : Expr} {fa : EvF} {p pos : Pos}
def tAs (K : PySem.W.Frag) (CL : Str → Option Addr) (fs : List (Bool × EvF)) : TA := fun σ H Q => ∃ F m S ρ xs S', Rel K CL F m S H ∧ RepE K CL F m σ ρ ∧ evas fs ρ S = some (xs, S') ∧
  ∀ vs F' m' H', Ext F m H F' m' H' → Rel K CL F' m' S' H' → RepVs K CL F' m' vs xs → Q vs H'
theorem das_nil : PA X [] (tAs X.K CL []) := PAwk pa_nil fun σ H Q ⟨F, m, S, ρ, xs, S', rel, env, e, k⟩ => by
  cases e
  exact k [] F m H (Ext.refl ..) rel .nil
theorem das_cons {es : List Expr} {fs : List (Bool × EvF)} (c : Bool) (ha : PE X a (tF X.K CL fa)) (hr : PA X es (tAs X.K CL fs)) (hs : starEach (a :: es) X.env = (false, eval a X.env) :: starEach es X.env) : PA X (a :: es) (tAs X.K CL ((c, fa) :: fs)) :=
  PAwk (pa_cons (ha.a c) hr hs) fun σ H Q ⟨F, m, S, ρ, xs, S', rel, env, e, k⟩ => by
    obtain ⟨⟨x, S1⟩, e1, e⟩ := bind_some e
    obtain ⟨⟨xs', S2⟩, e2, e⟩ := map_some e
    cases e
    exact ⟨F, m, S, ρ, x, S1, rel, env, e1, fun v F1 m1 H1 x1 r1 q1 => ⟨F1, m1, S1, ρ, xs', S', r1, env.mono x1, e2, fun vs F2 m2 H2 x2 r2 q2 => k (v :: vs) F2 m2 H2 (x1.trans x2) r2 (.cons (q1.mono x2) q2)⟩⟩
theorem evas_length : ∀ {fs : List (Bool × EvF)} {ρ : Rho} {S S' : Sto} {xs : List Val}, evas fs ρ S = some (xs, S') → xs.length = fs.length
  | [], _, _, _, _, e => by cases e; rfl
  | (c, f) :: fs, ρ, S, S', xs, e => by
    obtain ⟨⟨x, S1⟩, e1, e⟩ := bind_some e
    obtain ⟨⟨xs', S2⟩, e2, e⟩ := map_some e
    cases e
    rw [List.length_cons, List.length_cons, evas_length e2]

/-! ### calls -/
/-- a def of the text: its name stands for it, it computes fn with n parameters -/
structure DefOk (X : Cx) (CL : Str → Option Addr) (k : Nat) (x : Str) (n : Nat) (fn : FnF) : Prop where
  ex : ∃ f fd ps, ps.length = n ∧ X.mg x = some (.ref f) ∧ PySem.W.keepIn X.K (.ref f) = true ∧ FnOk X.prog X.w X.K X.mg X.base CX0 k f fd ps (spF X.K CL n fn) ∧ Binds X.K fd ps []
theorem call_t {fn : FnF} {fs : List (Bool × EvF)} {n : Nat} (hn : fs.length = n) {σ : L2.St} {H : Hp} {Q : VK} (h : tF X.K CL (fCall fn fs) σ H Q) : tCall (spF X.K CL n fn) [] E0 (tAs X.K CL fs) σ H Q := by
  obtain ⟨F, m, S, ρ, r, S', rel, env, e, k⟩ := h
  obtain ⟨⟨xs, S1⟩, e1, e⟩ := bind_some e
  refine ⟨F, m, S, ρ, xs, S1, rel, env, e1, fun vs F1 m1 H1 x1 r1 q1 => ?_⟩
  show spF X.K CL n fn (vs ++ []) H1 Q E0
  rw [List.append_nil]
  exact ⟨by rw [q1.length, evas_length e1, hn], F1, m1, S1, xs, r, S', r1, q1, e, then_of x1 k⟩
theorem de_call {x : Str} {e : Expr} {es : List Expr} {fn : FnF} {fs : List (Bool × EvF)} {n k : Nat} (d : DefOk X CL k x n fn) (hr : Room k X.A) (hg : Gl X x) (ha : PA X (e :: es) (tAs X.K CL fs)) (hn : fs.length = n)
    (he : starEach (e :: es) X.env = (false, eval e X.env) :: starEach es X.env) (hpl : (backTo pos (starEach es X.env)).any (·.1) = false) (hdb : (x == ("__debug__" : Str)) = false) :
    PE X (.Call (.Name x p) (e :: es) [] pos) (tF X.K CL (fCall fn fs)) := by
  obtain ⟨f, fd, ps, hp, h1, h2, h3, h4⟩ := d.ex
  exact PEwk (pe_call h3 hr hg h1 h2 h4 .nil pass0 ha hdb he hpl) fun σ H Q h => call_t hn h

/-- the values of keywords -/
theorem PKwk {kws : List Keyword} {t t' : TA} (h : PK X kws t) (w : ∀ σ H Q, t' σ H Q → t σ H Q) : PK X kws t' := ⟨fun p pins s σ H Q I q => h.run p pins s σ H Q I (w σ H Q q)⟩
theorem dks_nil : PK X [] (tAs X.K CL []) := PKwk pk_nil fun σ H Q ⟨F, m, S, ρ, xs, S', rel, env, e, k⟩ => by
  cases e
  exact k [] F m H (Ext.refl ..) rel .nil
theorem dks_cons {kws : List Keyword} {fs : List (Bool × EvF)} {nm : Option Str} {kpos : Pos} (c : Bool) (ha : PE X a (tF X.K CL fa)) (hr : PK X kws (tAs X.K CL fs)) : PK X (⟨nm, a, kpos⟩ :: kws) (tAs X.K CL ((c, fa) :: fs)) :=
  PKwk (pk_cons (ha.a c) hr) fun σ H Q ⟨F, m, S, ρ, xs, S', rel, env, e, k⟩ => by
    obtain ⟨⟨x, S1⟩, e1, e⟩ := bind_some e
    obtain ⟨⟨xs', S2⟩, e2, e⟩ := map_some e
    cases e
    exact ⟨F, m, S, ρ, x, S1, rel, env, e1, fun v F1 m1 H1 x1 r1 q1 => ⟨F1, m1, S1, ρ, xs', S', r1, env.mono x1, e2, fun vs F2 m2 H2 x2 r2 q2 => k (v :: vs) F2 m2 H2 (x1.trans x2) r2 (.cons (q1.mono x2) q2)⟩⟩
/-- a call by keywords alone; perm: the places of the parameters among the keywords -/
def permL {α : Type} (perm : List Nat) (xs : List α) : List α := perm.filterMap fun i => xs[i]?
def fCallK (fn : FnF) (perm : List Nat) (es : List (Bool × EvF)) : EvF := fun ρ S => (evas es ρ S).bind fun (vs, S) => fn (permL perm vs) S
theorem RepVs.perm {K : PySem.W.Frag} {F : Hp} {m : List Addr} {vs : List V} {xs : List Val} (r : RepVs K CL F m vs xs) : ∀ perm : List Nat, RepVs K CL F m (permL perm vs) (permL perm xs)
  | [] => .nil
  | i :: perm => by
    have ih := RepVs.perm r perm
    unfold permL at ih ⊢
    rw [List.filterMap_cons, List.filterMap_cons]
    cases e : xs[i]? with
    | none =>
      have e2 : vs[i]? = none := by
        rw [List.getElem?_eq_none_iff] at e ⊢
        rw [r.length]; exact e
      rw [e2]
      exact ih
    | some x =>
      obtain ⟨v, e2, q⟩ := r.get e
      rw [e2]
      exact .cons q ih
theorem Vals.perm {vs : List V} {us : List Value} (r : Vals vs us) : ∀ perm : List Nat, Vals (permL perm vs) (permL perm us)
  | [] => .nil
  | i :: perm => by
    have ih := Vals.perm r perm
    unfold permL at ih ⊢
    rw [List.filterMap_cons, List.filterMap_cons]
    cases e : vs[i]? with
    | none =>
      rw [r.none_of e]
      exact ih
    | some x =>
      obtain ⟨u, e2, q⟩ := r.get e
      rw [e2]
      exact .cons q ih
theorem permL_length {α β : Type} {xs : List α} {ys : List β} (h : xs.length = ys.length) : ∀ perm : List Nat, (permL perm xs).length = (permL perm ys).length
  | [] => rfl
  | i :: perm => by
    have ih := permL_length h perm
    unfold permL at ih ⊢
    rw [List.filterMap_cons, List.filterMap_cons]
    by_cases q : i < xs.length
    · rw [List.getElem?_eq_getElem q, List.getElem?_eq_getElem (by omega)]
      simp [ih]
    · rw [List.getElem?_eq_none (by omega), List.getElem?_eq_none (by omega)]
      exact ih
structure DefOkK (X : Cx) (CL : Str → Option Addr) (k : Nat) (x : Str) (n : Nat) (fn : FnF) (ks : List Str) (perm : List Nat) : Prop where
  ex : ∃ f fd ps, ps.length = n ∧ X.mg x = some (.ref f) ∧ PySem.W.keepIn X.K (.ref f) = true ∧ FnOk X.prog X.w X.K X.mg X.base CX0 k f fd ps (spF X.K CL n fn) ∧
    ∀ (s : Shared) (ws : List Value), X.K.In s.heap → ws.length = n → BindsTo s fd ⟨[], ks.zip ws⟩ (ps.zip (permL perm ws))
theorem de_callK {x : Str} {kws : List Keyword} {ks : List Str} {perm : List Nat} {fn : FnF} {fs : List (Bool × EvF)} {n k : Nat} (d : DefOkK X CL k x n fn ks perm) (hr : Room k X.A) (hg : Gl X x) (ha : PK X kws (tAs X.K CL fs)) (hn : fs.length = n)
    (hpn : (permL perm fs).length = n) (hall : (backToKw pos (keywordEach kws X.env)).all (·.1.isSome) = true) (hks : (backToKw pos (keywordEach kws X.env)).filterMap (·.1) = ks)
    (hpl : ((backTo pos (starEach [] X.env)).any (·.1) || (backToKw pos (keywordEach kws X.env)).any (·.1.isNone)) = false) (hdb : (x == ("__debug__" : Str)) = false) :
    PE X (.Call (.Name x p) [] kws pos) (tF X.K CL (fCallK fn perm fs)) := by
  obtain ⟨f, fd, ps, hp, h1, h2, h3, h4⟩ := d.ex
  refine ⟨fun pins s σ H Q I h => ?_⟩
  refine wpAny_Call_Name_kw (ld_glob I hg h1 ?_ hdb)
  obtain ⟨F, m, S, ρ, r, S', rel, env, e, kk⟩ := h
  obtain ⟨⟨xs, S1⟩, e1, e⟩ := bind_some e
  refine PySem.W.callWith_KW0 (h₀ := X.base) I.ok.mod.kin h2 hall ?_ hpl
  refine thn (ha.run pos pins s σ H (fun zs H2 => ∃ F1 m1, Ext F m H F1 m1 H2 ∧ Rel X.K CL F1 m1 S1 H2 ∧ RepVs X.K CL F1 m1 zs xs) I ⟨F, m, S, ρ, xs, S1, rel, env, e1, fun vs F1 m1 H1 x1 r1 q1 => ⟨F1, m1, x1, r1, q1⟩⟩)
    fun ws s2 ⟨zs, H2, I2, rz, F1, m1, x1, r1, q1⟩ => ⟨I2.kIn, ?_⟩
  rw [hks, List.nil_append]
  have lw : ws.length = n := by rw [← rz.length, q1.length, evas_length e1, hn]
  have hsp : spF X.K CL n fn (permL perm zs) H2 Q E0 := by
    refine ⟨?_, F1, m1, S1, permL perm xs, r, S', r1, q1.perm perm, e, then_of x1 kk⟩
    rw [← hpn]
    exact permL_length (by rw [q1.length, evas_length e1]) perm
  refine wpAny_call (codeAny_mono (h3.run X.A X.stack s2 H2 ⟨[], ks.zip ws⟩ (permL perm ws) (permL perm zs) Q E0 hr I2.env0 (h4 s2 ws I2.kIn lw) (Vals.perm rz perm) hsp) fun r s' hq => ?_)
  cases r with
  | error e => exact hq.elim
  | ok fl =>
    cases fl with
    | ret u => exact I2.after hq
    | next => exact False.elim hq
    | brk => exact False.elim hq
    | cont => exact False.elim hq

/-! ### built-in functions -/
theorem pks_ok {K : PySem.W.Frag} {F H : Hp} {m : List Addr} {S : Sto} (r : Rel K CL F m S H) {vs : List V} {xs : List Val} {ds : List D} (q : RepVs K CL F m vs xs) (h : pks xs S = some ds) : RepTs K CL F H vs ds := by
  induction q generalizing ds with
  | nil => cases h; exact .nil
  | cons a b ih =>
    obtain ⟨d, e1, h⟩ := bind_some h
    obtain ⟨ds', e2, h⟩ := map_some h
    cases h
    exact .cons (pk_ok r a e1) (ih e2)
theorem bi_t {bi : Bi} {fs : List EvF} {σ : L2.St} {H : Hp} {Q : VK} (h : tF X.K CL (fBi bi fs) σ H Q) : tCB (rBi X.K CL bi) (tAs X.K CL (fs.map fun e => (false, e))) σ H Q := by
  obtain ⟨F, m, S, ρ, r, S', rel, env, e, k⟩ := h
  obtain ⟨⟨xs, S1⟩, e1, e⟩ := bind_some e
  obtain ⟨ds, e2, e⟩ := bind_some e
  obtain ⟨o, e3, e⟩ := map_some e
  cases e
  exact ⟨F, m, S, ρ, xs, S', rel, env, e1, fun vs F1 m1 H1 x1 r1 q1 => ⟨F1, m1, S', ds, o, r1, pks_ok r1 q1 e2, e3, then_of x1 k⟩⟩
end
end Ev
set_option Elab.async false
set_option linter.all false
set_option maxRecDepth 100000
/-! Own text: methods of lists and texts, an own class, stores into lists and fields, pairs assigned at once. -/
namespace Ev
open PySem PySem.Spec PyProof.Rows L2

/-- a live list -/
def lstAt (v : Val) (S : Sto) : Option (Nat × List D) := match v with
  | .cell k => match S[k]? with
    | some (.lst xs) => some (k, xs)
    | _ => none
  | _ => none
def fAppend (fo fe : EvF) : EvF := fun ρ S => (eV fo ρ S).bind fun (v, S) => (lstAt v S).bind fun _ => (eD fe ρ S).bind fun (d, S) => (lstAt v S).bind fun (k, xs) =>
  if xs.length < sizeLine then some (.val (.d .non), S.set k (.lst (xs ++ [d]))) else none
def fPopAt (fo fe : EvF) : EvF := fun ρ S => (eV fo ρ S).bind fun (v, S) => (lstAt v S).bind fun _ => (eV fe ρ S).bind fun (u, S) => (lstAt v S).bind fun (k, xs) => match u with
  | .d (.int i) => if -(2 ^ 63) ≤ i ∧ i < 2 ^ 63 then (seqIndex? i xs.length).bind fun j => (xs[j]?).map fun d => (.val (.d d), S.set k (.lst (xs.eraseIdx j))) else none
  | _ => none
def fPop (fo : EvF) : EvF := fun ρ S => (eV fo ρ S).bind fun (v, S) => (lstAt v S).bind fun (k, xs) => (xs[xs.length - 1]?).map fun d => (.val (.d d), S.set k (.lst xs.dropLast))
def listOf : D → Option (List D)
  | .lst xs => some xs
  | .scr xs => some xs
  | _ => none
def idxF (x : D) : List D → Option Nat
  | [] => none
  | y :: ys => if eqF y x then some 0 else (idxF x ys).map (· + 1)
def countF (x : D) (ys : List D) : Nat := ys.countP fun y => eqF y x
inductive Lm where | index | count
def lmD : Lm → D → List D → Option D
  | .index, x, xs => if flatD x = true ∧ xs.all flatD = true then (idxF x xs).map fun j => .int (j : Nat) else none
  | .count, x, xs => if flatD x = true ∧ xs.all flatD = true then some (.int (countF x xs : Nat)) else none
/-- a list's index, count -/
def fLm (o : Lm) (fo fe : EvF) : EvF := fun ρ S => (eV fo ρ S).bind fun (v, S) => ((pk v S).bind listOf).bind fun _ => (eV fe ρ S).bind fun (u, S) => ((pk v S).bind listOf).bind fun xs => (pk u S).bind fun x => (lmD o x xs).map fun d => (.val (.d d), S)
/-- sep.join(..) -/
def fJoin (fo fe : EvF) : EvF := fun ρ S => (eD fo ρ S).bind fun (a, S) => (eV fe ρ S).bind fun (v, S) => (pk v S).bind fun d => match a with
  | .str a => (seqOf d).bind fun ds => (strsOf ds).bind fun ys => if (ys.map (·.length)).sum + ys.length * a.length ≤ 16777216 then some (.val (.d (.str (Txt.join a ys))), S) else none
  | _ => none
/-- text.count(text) -/
def fSCount (fo fe : EvF) : EvF := fun ρ S => (two fo fe ρ S).bind fun (p, S) => match p.1, p.2 with
  | .str a, .str b => some (.val (.d (.int (Txt.count a b))), S)
  | _, _ => none

/-- o[i] = .. -/
def gSb (fo fi : EvF) : TgF := fun v ρ S => (eV fo ρ S).bind fun (o, S) => (eV fi ρ S).bind fun (i, S) => (toD v S).bind fun (d, S) => (lstAt o S).bind fun (k, xs) => match i with
  | .d (.int i) => (ixN xs.length i).map fun j => (ρ, S.set k (.lst (xs.set j d)))
  | _ => none
/-- x, y = a, b -/
def sPar (c c' : Bool) (f f' : EvF) (g g' : TgF) : StF := fun ρ S => (eA c f ρ S).bind fun (v, S) => (eA c' f' ρ S).bind fun (v', S) => (g v ρ S).bind fun (ρ, S) => (g' v' ρ S).map fun (ρ, S) => (.nx, ρ, S)

/-! an own class -/
def fldC (c : Str) : D → Str → Option D
  | .ins c' fs, f => if c' = c then fs.lookup f else none
  | _, _ => none
def fFldC (c : Str) (fa : EvF) (f : Str) : EvF := fun ρ S => (one fa ρ S).bind fun (x, S) => (fldC c x f).map fun d => (.val (.d d), S)
def putD (f : Str) (v : D) : List (Str × D) → List (Str × D)
  | [] => [(f, v)]
  | (g, x) :: r => if g = f then (g, v) :: r else (g, x) :: putD f v r
def insAt (c : Str) (v : Val) (S : Sto) : Option (Nat × List (Str × D)) := match v with
  | .cell k => match S[k]? with
    | some (.ins c' fs) => if c' = c then some (k, fs) else none
    | _ => none
  | _ => none
/-- o.f = value -/
def sFldC (c : Str) (fo fv : EvF) (f : Str) : StF := fun ρ S => (eD fv ρ S).bind fun (d, S) => (eV fo ρ S).bind fun (o, S) => (insAt c o S).bind fun (k, fs) => if fs.length < 1000 then some (.nx, ρ, S.set k (.ins c (putD f d fs))) else none
/-- C(..): init is what __init__ computes -/
def mkF (c : Str) (init : FnF) : FnF := fun xs S => (init (.cell S.length :: xs) (S ++ [.ins c []])).bind fun (r, S') => match r with
  | .val (.d .non) => match S'[S.length]? with
    | some (.ins c' fs) => some (.new (.ins c' fs), S'.take S.length)
    | _ => none
  | _ => none
/-- len(x) where the class has its own __len__ -/
def fLenO (c : Str) (fn : FnF) (fa : EvF) : EvF := fun ρ S => (eV fa ρ S).bind fun (v, S) => (pk v S).bind fun d => match d with
  | .ins c' _ => if c' = c then (fn [v] S).bind fun (r, S) => match r with
      | .val (.d (.int n)) => if 0 ≤ n ∧ n < 2 ^ 63 then some (.val (.d (.int n)), S) else none
      | _ => none
    else none
  | d => (lenD d).map fun (n : Nat) => (.val (.d (.int (n : Int))), S)

section
variable {K : PySem.W.Frag} {CL : Str → Option Addr} {F F' H H' H₀ : Hp} {m m' : List Addr} {S S' : Sto}
/-- a cell is written -/
theorem Rel.write (r : Rel K CL F m S H) {k : Nat} {a : Addr} {c0 c : Cell} {o : HO} (hk : S[k]? = some c0) (hm : m[k]? = some a) (hl : c0.live = true) (q : CellOk K CL F (upd H a o) a c) :
    Rel K CL F m (S.set k c) (upd H a o) ∧ Ext F m H F m (upd H a o) := by
  obtain ⟨hF, o0, h0, _⟩ := (r.cell k c0 a hk hm).tracked hl
  have hat : a ∈ m := List.mem_of_getElem? hm
  refine ⟨⟨fun b u e => ?_, by simp [r.len], fun j c' b h1 h2 => ?_, fun b hb => upd_ne_none (r.trk b hb), r.nd⟩, ⟨fun _ _ h => h, fun _ h h' => absurd h h', ⟨[], by simp, by simp⟩, fun b u h hb => ?_, fun b h => upd_ne_none h⟩⟩
  · have ne : b ≠ a := fun z => by subst z; rw [hF] at e; cases e
    rw [upd_ne ne]; exact r.sub b u e
  · rw [List.getElem?_set] at h1
    by_cases e : k = j
    · subst e
      rw [if_pos rfl] at h1
      split at h1
      · cases h1; rw [hm] at h2; cases h2; exact q
      · cases h1
    · rw [if_neg e] at h1
      have ne : b ≠ a := fun z => by
        subst z
        exact e ((List.getElem?_inj (List.getElem?_eq_some_iff.mp hm).1 r.nd).mp (hm.trans h2.symm))
      have w := r.cell j c' b h1 h2
      cases c' with
      | lst ds => obtain ⟨n, vs, e, z⟩ := w; exact ⟨n, vs, by rw [upd_ne ne]; exact e, z⟩
      | dct ds => obtain ⟨n, vs, e, z⟩ := w; exact ⟨n, vs, by rw [upd_ne ne]; exact e, z⟩
      | ins x ds => obtain ⟨n, C, dx, fs, e, z⟩ := w; exact ⟨n, C, dx, fs, by rw [upd_ne ne]; exact e, z⟩
      | frz d => exact w
  · have ne : b ≠ a := fun z => by subst z; exact hb hat
    rw [upd_ne ne]; exact h
theorem lstAt_inv {v : Val} {k : Nat} {xs : List D} (h : lstAt v S = some (k, xs)) : v = .cell k ∧ S[k]? = some (.lst xs) := by
  cases v with
  | d _ => cases h
  | grd _ => cases h
  | cell j =>
    unfold lstAt at h
    cases e : S[j]? with
    | none => simp [e] at h
    | some c =>
      cases c with
      | lst ys => simp [e] at h; obtain ⟨rfl, rfl⟩ := h; exact ⟨rfl, e⟩
      | _ => simp [e] at h
theorem lst_at (r : Rel K CL F m S H) {v : V} {x : Val} {k : Nat} {xs : List D} (q : RepV K CL F m v x) (h : lstAt x S = some (k, xs)) : ∃ a vs, v = .ref a ∧ m[k]? = some a ∧ S[k]? = some (.lst xs) ∧ F a = none ∧ H a = some (.lst vs) ∧ RepL K CL F vs xs := by
  obtain ⟨rfl, e⟩ := lstAt_inv h
  obtain ⟨a, ha, rfl⟩ := q
  obtain ⟨hF, vs, h1, h2⟩ := r.cell k _ a e ha
  exact ⟨a, vs, rfl, ha, e, hF, h1, h2⟩
theorem RepT.list {v : V} {d : D} {xs : List D} (s : Same F H) (h : RepT K CL F H v d) (e : listOf d = some xs) : ∃ a vs, v = .ref a ∧ SqL K H a vs ∧ RepL K CL F vs xs := by
  cases d with
  | lst ys => cases e; obtain ⟨a, vs, rfl, h1, h2⟩ := h; exact ⟨a, vs, rfl, SqL.of h1, h2⟩
  | scr ys => cases e; exact RepT.scr s h
  | _ => cases e
end

section
variable {X : Cx} {CL : Str → Option Addr} {o e : Expr} {fo fe : EvF} {apos pos : Pos}
theorem idx_rep {K : PySem.W.Frag} {F : Hp} {y : V} {x : D} (ry : RepD K CL F y x) (fx : flatD x = true) : ∀ {vs : List V} {xs : List D} {j : Nat}, RepL K CL F vs xs → xs.all flatD = true → idxF x xs = some j →
    ∃ z, vs[j]? = some z ∧ eqV z y = true ∧ ∀ (i : Nat) (z' : V), i < j → vs[i]? = some z' → eqV z' y = false
  | _, _, _, .nil, _, h => by cases h
  | v :: vs, d :: xs, j, .cons a b, f, h => by
    rw [List.all_cons, Bool.and_eq_true] at f
    have ev := (eqF_V ry a fx f.1).2
    have h : (if eqF d x then some 0 else (idxF x xs).map (· + 1)) = some j := h
    by_cases q : eqF d x = true
    · rw [if_pos q] at h
      cases h
      exact ⟨v, rfl, ev.trans q, fun i z' hi => absurd hi (Nat.not_lt_zero _)⟩
    · rw [if_neg q] at h
      obtain ⟨i, e1, rfl⟩ := map_some h
      obtain ⟨z, h1, h2, h3⟩ := idx_rep ry fx b f.2 e1
      refine ⟨z, h1, h2, fun i' z' hi hz => ?_⟩
      cases i' with
      | zero =>
        cases hz
        rw [ev]
        exact Bool.eq_false_iff.mpr q
      | succ i' => exact h3 i' z' (by omega) hz
theorem count_rep {K : PySem.W.Frag} {F : Hp} {y : V} {x : D} (ry : RepD K CL F y x) (fx : flatD x = true) : ∀ {vs : List V} {xs : List D} {us : List Value}, RepL K CL F vs xs → xs.all flatD = true → Vals vs us → vs.all flatV = true ∧ us.countP (eqU y) = countF x xs
  | _, _, _, .nil, _, .nil => ⟨rfl, rfl⟩
  | v :: vs, d :: xs, u :: us, .cons a b, f, .cons rv rs => by
    rw [List.all_cons, Bool.and_eq_true] at f
    obtain ⟨h1, h2⟩ := count_rep ry fx b f.2 rs
    have fv := flat_V a f.1
    have ev := (eqF_V ry a fx f.1).2
    refine ⟨by rw [List.all_cons, fv, h1]; rfl, ?_⟩
    unfold countF at h2 ⊢
    rw [List.countP_cons, List.countP_cons, h2, eqU_of rv fv, ev]
def rCntF (K : PySem.W.Frag) (CL : Str → Option Addr) : V → List V → Hp → VK → Prop := fun x xs H Q => ∃ a y vs ds d F, x = .ref a ∧ xs = [y] ∧ SqL K H a vs ∧ RepL K CL F vs ds ∧ RepD K CL F y d ∧ flatD d = true ∧ ds.all flatD = true ∧ Q (.int (countF d ds : Nat)) H
theorem ty_lst {K : PySem.W.Frag} {H : Hp} {a : Addr} {vs : List V} (h : SqL K H a vs) : tyV K "list" (.ref a) H := .inl ⟨rfl, vs, h⟩
section
variable (hbase : ∀ name, attributeBase o name X.env (eval o X.env) = eval o X.env) (hline : (apos.endLine == pos.line) = true) (hs : starEach [e] X.env = [(false, eval e X.env)])
  (hfew : ((backTo pos (starEach [e] X.env)).all (fun x => !x.1) && (backToKw pos (keywordEach [] X.env)).all (fun x => x.1.isSome) && decide (([e] : List Expr).length + ([] : List Keyword).length + (if ([] : List Keyword).isEmpty then 0 else 1) < 30)) = true)
  (ho : PE X o (tF X.K CL fo)) (he : PE X e (tF X.K CL fe))
include hbase hline hs hfew ho he
theorem de_append : PE X (.Call (.Attribute o "append" apos) [e] [] pos) (tF X.K CL (fAppend fo fe)) :=
  PEwk (pe_bm PySem.F.plainAttrs_list PySem.F.slot_list_append PySem.F.type_list_append (r := rAppend) (fun pins s σ H x xs v us Q I rx rs q => mt_append pins s σ H x xs v us Q I rx rs q) ho.v (pa1D he hs) (hbase _) hfew hline hs rfl)
    fun σ H Q ⟨F, m, S, ρ, r, S', rel, env, e, k⟩ => by
      obtain ⟨⟨v, S1⟩, e1, e⟩ := bind_some e
      obtain ⟨⟨k1, xs1⟩, e2, e⟩ := bind_some e
      obtain ⟨⟨d, S2⟩, e3, e⟩ := bind_some e
      obtain ⟨⟨k2, xs⟩, e4, e⟩ := bind_some e
      obtain ⟨c, e⟩ := if_some e
      cases e
      refine ⟨F, m, S, ρ, v, S1, rel, env, e1, fun x F1 m1 H1 x1 r1 q1 => ?_⟩
      obtain ⟨a, vs1, rfl, _, _, _, hH1, _⟩ := lst_at r1 q1 e2
      refine ⟨ty_lst (SqL.of hH1), F1, m1, S1, ρ, d, S2, r1, env.mono x1, e3, fun y F2 m2 H2 x2 r2 q2 => ?_⟩
      obtain ⟨a', vs, e5, hm, hS, hF, hH, hr⟩ := lst_at r2 (q1.mono x2) e4
      cases e5
      obtain ⟨w1, w2⟩ := r2.write (c := .lst (xs ++ [d])) (o := .lst (vs ++ [y])) hS hm rfl ⟨hF, _, upd_same, hr.append (.cons q2 .nil)⟩
      exact ⟨a, vs, y, rfl, rfl, hH, by rw [hr.length]; exact c, k .non F2 m2 _ ((x1.trans x2).trans w2) w1 .non⟩
theorem de_popAt : PE X (.Call (.Attribute o "pop" apos) [e] [] pos) (tF X.K CL (fPopAt fo fe)) :=
  PEwk (pe_bm PySem.F.plainAttrs_list PySem.F.slot_list_pop PySem.F.type_list_pop (r := rPopAt) (fun pins s σ H x xs v us Q I rx rs q => mt_popAt pins s σ H x xs v us Q I rx rs q) ho.v (pa1 he hs) (hbase _) hfew hline hs rfl)
    fun σ H Q ⟨F, m, S, ρ, r, S', rel, env, e, k⟩ => by
      obtain ⟨⟨v, S1⟩, e1, e⟩ := bind_some e
      obtain ⟨⟨k1, xs1⟩, e2, e⟩ := bind_some e
      obtain ⟨⟨u, S2⟩, e3, e⟩ := bind_some e
      obtain ⟨⟨k2, xs⟩, e4, e⟩ := bind_some e
      cases u with
      | cell _ => cases e
      | grd _ => cases e
      | d du =>
        cases du with
        | int i =>
          obtain ⟨c, e⟩ := Option.ite_none_right_eq_some.mp e
          obtain ⟨j, e5, e⟩ := bind_some e
          obtain ⟨d, e6, e⟩ := map_some e
          cases e
          refine ⟨F, m, S, ρ, v, S1, rel, env, e1, fun x F1 m1 H1 x1 r1 q1 => ?_⟩
          obtain ⟨a, vs1, rfl, _, _, _, hH1, _⟩ := lst_at r1 q1 e2
          refine ⟨ty_lst (SqL.of hH1), F1, m1, S1, ρ, _, S2, r1, env.mono x1, e3, fun y F2 m2 H2 x2 r2 q2 => ?_⟩
          obtain ⟨a', vs, e7, hm, hS, hF, hH, hr⟩ := lst_at r2 (q1.mono x2) e4
          cases e7
          cases q2
          obtain ⟨z, hz, qz⟩ := hr.get e6
          obtain ⟨w1, w2⟩ := r2.write (c := .lst (xs.eraseIdx j)) (o := .lst (vs.eraseIdx j)) hS hm rfl ⟨hF, _, upd_same, RepL.eraseIdx j hr⟩
          exact ⟨a, vs, i, j, z, rfl, rfl, hH, c.1, c.2, by rw [hr.length]; exact e5, hz, k z F2 m2 _ ((x1.trans x2).trans w2) w1 qz⟩
        | _ => cases e
end
theorem mt_cntF : MtR X "list.count" (rCntF X.K CL) := by
  intro pins s σ H x xs v us Q I rx rxs h
  obtain ⟨a, y, vs, ds, d, F, rfl, rfl, hs, rl, rd, f1, f2, q⟩ := h
  cases rx
  obtain ⟨u, rfl, ru⟩ := rxs.one
  obtain ⟨its, rv, ⟨⟨cls, dd, data, sl⟩, n, ho, hc, hdn, hd⟩, hlen⟩ := I.list hs
  simp only at hc hd
  subst hc hd
  obtain ⟨fv, hcount⟩ := count_rep rd f1 rl f2 rv
  refine call_meets PySem.F.slot_list_count ⟨_, ho, rfl⟩ PySem.F.entry_list_count (PySem.F.args_list_count_2 _ _)
    (SeqAt.list_countAt a its.toArray n dd sl u (eqU y)) ⟨ho, fun z hz => mem_eqAt ru (flat_V rd f1) rv fv z (by simpa using hz), ?_⟩
  refine ⟨.int (countF d ds : Nat), H, I.tok _, ⟨s.toks, ?_⟩, q⟩
  rw [← hcount]
theorem de_index (hbase : ∀ name, attributeBase o name X.env (eval o X.env) = eval o X.env) (hline : (apos.endLine == pos.line) = true) (hs : starEach [e] X.env = [(false, eval e X.env)])
    (hfew : ((backTo pos (starEach [e] X.env)).all (fun x => !x.1) && (backToKw pos (keywordEach [] X.env)).all (fun x => x.1.isSome) && decide (([e] : List Expr).length + ([] : List Keyword).length + (if ([] : List Keyword).isEmpty then 0 else 1) < 30)) = true)
    (ho : PE X o (tF X.K CL fo)) (he : PE X e (tF X.K CL fe)) : PE X (.Call (.Attribute o "index" apos) [e] [] pos) (tF X.K CL (fLm .index fo fe)) :=
  PEwk (pe_bm PySem.F.plainAttrs_list PySem.F.slot_list_index PySem.F.type_list_index mt_index ho.v (pa1 he hs) (hbase _) hfew hline hs rfl)
    fun σ H Q ⟨F, m, S, ρ, r, S', rel, env, e, k⟩ => by
      obtain ⟨⟨v, S1⟩, e1, e⟩ := bind_some e
      obtain ⟨xs1, e2, e⟩ := bind_some e
      obtain ⟨⟨u, S2⟩, e3, e⟩ := bind_some e
      obtain ⟨xs, e4, e⟩ := bind_some e
      obtain ⟨x, e5, e⟩ := bind_some e
      obtain ⟨d, e6, e⟩ := map_some e
      cases e
      obtain ⟨d1, e7, e2⟩ := bind_some e2
      obtain ⟨d2, e8, e4⟩ := bind_some e4
      obtain ⟨c, e6⟩ := Option.ite_none_right_eq_some.mp e6
      obtain ⟨j, e9, rfl⟩ := map_some e6
      refine ⟨F, m, S, ρ, v, S1, rel, env, e1, fun w F1 m1 H1 x1 r1 q1 => ?_⟩
      obtain ⟨a, vs1, rfl, h1, _⟩ := RepT.list r1.sub (pk_ok r1 q1 e7) e2
      refine ⟨ty_lst h1, F1, m1, S1, ρ, u, S', r1, env.mono x1, e3, fun y F2 m2 H2 x2 r2 q2 => ?_⟩
      obtain ⟨a', vs, e10, h2, h3⟩ := RepT.list r2.sub (pk_ok r2 (q1.mono x2) e8) e4
      cases e10
      have ry := RepT.flat (pk_ok r2 q2 e5) c.1
      obtain ⟨z, hz, hzj, hno⟩ := idx_rep ry c.1 h3 c.2 e9
      have fv : vs.all flatV = true := by
        have := inV_eq ry c.1 h3 c.2
        exact this.1
      exact ⟨a, vs, y, j, z, rfl, rfl, h2, flat_V ry c.1, fv, hz, hzj, hno, k _ F2 m2 H2 (x1.trans x2) r2 (.int _)⟩
theorem de_lcount (hbase : ∀ name, attributeBase o name X.env (eval o X.env) = eval o X.env) (hline : (apos.endLine == pos.line) = true) (hs : starEach [e] X.env = [(false, eval e X.env)])
    (hfew : ((backTo pos (starEach [e] X.env)).all (fun x => !x.1) && (backToKw pos (keywordEach [] X.env)).all (fun x => x.1.isSome) && decide (([e] : List Expr).length + ([] : List Keyword).length + (if ([] : List Keyword).isEmpty then 0 else 1) < 30)) = true)
    (ho : PE X o (tF X.K CL fo)) (he : PE X e (tF X.K CL fe)) : PE X (.Call (.Attribute o "count" apos) [e] [] pos) (tF X.K CL (fLm .count fo fe)) :=
  PEwk (pe_bm PySem.F.plainAttrs_list PySem.F.slot_list_count PySem.F.type_list_count (mt_cntF (CL := CL)) ho.v (pa1 he hs) (hbase _) hfew hline hs rfl)
    fun σ H Q ⟨F, m, S, ρ, r, S', rel, env, e, k⟩ => by
      obtain ⟨⟨v, S1⟩, e1, e⟩ := bind_some e
      obtain ⟨xs1, e2, e⟩ := bind_some e
      obtain ⟨⟨u, S2⟩, e3, e⟩ := bind_some e
      obtain ⟨xs, e4, e⟩ := bind_some e
      obtain ⟨x, e5, e⟩ := bind_some e
      obtain ⟨d, e6, e⟩ := map_some e
      cases e
      obtain ⟨d1, e7, e2⟩ := bind_some e2
      obtain ⟨d2, e8, e4⟩ := bind_some e4
      obtain ⟨c, e6⟩ := if_some e6
      subst e6
      refine ⟨F, m, S, ρ, v, S1, rel, env, e1, fun w F1 m1 H1 x1 r1 q1 => ?_⟩
      obtain ⟨a, vs1, rfl, h1, _⟩ := RepT.list r1.sub (pk_ok r1 q1 e7) e2
      refine ⟨ty_lst h1, F1, m1, S1, ρ, u, S', r1, env.mono x1, e3, fun y F2 m2 H2 x2 r2 q2 => ?_⟩
      obtain ⟨a', vs, e10, h2, h3⟩ := RepT.list r2.sub (pk_ok r2 (q1.mono x2) e8) e4
      cases e10
      have ry := RepT.flat (pk_ok r2 q2 e5) c.1
      exact ⟨a, y, vs, xs, x, F2, rfl, rfl, h2, h3, ry, c.1, c.2, k _ F2 m2 H2 (x1.trans x2) r2 (.int _)⟩
theorem de_join (hbase : attributeBase o "join" X.env (eval o X.env) = eval o X.env) (hline : (apos.endLine == pos.line) = true) (hs : starEach [e] X.env = [(false, eval e X.env)])
    (ho : PE X o (tF X.K CL fo)) (he : PE X e (tF X.K CL fe)) : PE X (.Call (.Attribute o "join" apos) [e] [] pos) (tF X.K CL (fJoin fo fe)) :=
  PEwk (pe_join ho.dd he.v hs hbase hline) fun σ H Q ⟨F, m, S, ρ, r, S', rel, env, e, k⟩ => by
    obtain ⟨⟨da, S1⟩, e1, e⟩ := bind_some e
    obtain ⟨⟨y, S2⟩, e2, e⟩ := bind_some e
    obtain ⟨d, e3, e⟩ := bind_some e
    cases da with
    | str a =>
      obtain ⟨ds, e7, e⟩ := bind_some e
      obtain ⟨ys, e8, e⟩ := bind_some e
      obtain ⟨c, e⟩ := if_some e
      cases e
      refine ⟨F, m, S, ρ, .str a, S1, rel, env, e1, fun w F1 m1 H1 x1 r1 q1 => ?_⟩
      cases q1
      refine ⟨⟨a, rfl⟩, F1, m1, S1, ρ, y, S', r1, env.mono x1, e2, fun u F2 m2 H2 x2 r2 q2 => ?_⟩
      obtain ⟨b, vs, rfl, h1, h2⟩ := RepT.seq r2.sub (pk_ok r2 q2 e3) e7
      have ev := strs_of e8 h2
      subst ev
      exact ⟨a, b, ys, rfl, rfl, h1, c, k _ F2 m2 H2 (x1.trans x2) r2 (.str _)⟩
    | _ => cases e
end
end Ev
set_option Elab.async false
set_option linter.all false
set_option maxRecDepth 100000
/-! Own text: stores into lists and fields, pairs assigned at once, an own class made, read, measured. -/
namespace Ev
open PySem PySem.Spec PyProof.Rows L2

section
variable {X : Cx} {CL : Str → Option Addr} {o e i : Expr} {fo fe fi : EvF} {apos pos pos' tpos : Pos}
theorem dg_sb (ho : PE X o (tF X.K CL fo)) (hi : PE X i (tF X.K CL fi)) (ha : ∀ v, assign (.Subscript o i pos) X.env v = (do
      let ov ← holding [v] (eval o X.env)
      let iv ← holding [v, ov] (eval i X.env)
      standAt pos
      holding [v, ov, iv] (setItem ov iv v)
      release [v, ov, iv] [])) : PG X (.Subscript o i pos) (tG X.K CL (gSb fo fi) []) :=
  PGwk (pg_sub ho.v hi.v set_list ha) fun v σ H Q ⟨F, m, S, ρ, x, ρ', S', rel, env, rv, e, q⟩ => by
    obtain ⟨⟨w, S1⟩, e1, e⟩ := bind_some e
    obtain ⟨⟨j, S2⟩, e2, e⟩ := bind_some e
    obtain ⟨⟨d, S3⟩, e3, e⟩ := bind_some e
    obtain ⟨⟨k, xs⟩, e4, e⟩ := bind_some e
    cases j with
    | cell _ => cases e
    | grd _ => cases e
    | d dj =>
      cases dj with
      | int j =>
        obtain ⟨n, e5, e⟩ := map_some e
        cases e
        refine ⟨F, m, S, ρ, w, S1, rel, env, e1, fun u F1 m1 H1 x1 r1 q1 => ⟨F1, m1, S1, ρ, _, S2, r1, env.mono x1, e2, fun z F2 m2 H2 x2 r2 q2 => ?_⟩⟩
        cases q2
        obtain ⟨F3, x3, r3, q3⟩ := toD_ok r2 ((rv.mono x1).mono x2) e3
        obtain ⟨a, vs, rfl, hm, hS, hF, hH, hr⟩ := lst_at r3 ((q1.mono x2).mono x3) e4
        obtain ⟨w1, w2⟩ := r3.write (c := .lst (xs.set n d)) (o := .lst (vs.set n v)) hS hm rfl ⟨hF, _, upd_same, RepL.set q3 n hr⟩
        exact ⟨a, vs, j, n, rfl, rfl, hH, by rw [hr.length]; exact e5, q σ F3 m2 _ (((x1.trans x2).trans x3).trans w2) w1 (((env.mono x1).mono x2).mono (x3.trans w2)) ⟨rfl, fun _ _ => rfl⟩⟩
      | _ => cases e

/-! ### pairs at once -/
theorem ds_par {tg1 tg2 e1 e2 : Expr} {f1 f2 : EvF} {g1 g2 : TgF} {is1 is2 : List Nat} {c1 c2 : Bool} {k k2 : Nat} {p1 p2 : Pos} (hc : X.calm = true) (h1 : PE X e1 (tF X.K CL f1)) (h2 : PE X e2 (tF X.K CL f2)) (hg1 : PG X tg1 (tG X.K CL g1 is1)) (hg2 : PG X tg2 (tG X.K CL g2 is2))
    (hs : starEach [e1, e2] X.env = (false, eval e1 X.env) :: starEach [e2] X.env) (hs2 : starEach [e2] X.env = [(false, eval e2 X.env)])
    (ha : (assignEach [tg1, tg2] X.env).map (·.2) = assign tg1 X.env :: (assignEach [tg2] X.env).map (·.2)) (ha2 : (assignEach [tg2] X.env).map (·.2) = [assign tg2 X.env])
    (hn : (assignEach [tg1, tg2] X.env).length = 2) (hst : (assignEach [tg1, tg2] X.env).findIdx? (·.1) = none)
    (hsw : swapsWithSole [.Tuple [tg1, tg2] k p1] (.Tuple [e1, e2] k2 p2) pos.line X.env = pure false) (hw : swappedStores [.Tuple [tg1, tg2] k p1] (.Tuple [e1, e2] k2 p2) X.env = pure none)
    (h1' : (assignEach [.Tuple [tg1, tg2] k p1] X.env).map (·.2) = [assign (.Tuple [tg1, tg2] k p1) X.env]) :
    PS X (.Assign [.Tuple [tg1, tg2] k p1] (.Tuple [e1, e2] k2 p2) pos) (tS X.K CL (sPar c1 c2 f1 f2 g1 g2)) :=
  PSwk (ps_asg (pe_tup (pa_cons (h1.a c1) (pa_cons (h2.a c2) pa_nil hs2) hs)) (pg_tup hc (pgs_cons hg1 (pgs_cons hg2 pgs_nil ha2) ha) hn hst) hsw hw h1') fun D σ H ⟨F, m, S, ρ, o, ρ', S', rel, env, e, q⟩ => by
    obtain ⟨⟨v1, S1⟩, e1, e⟩ := bind_some e
    obtain ⟨⟨v2, S2⟩, e2, e⟩ := bind_some e
    obtain ⟨⟨ρ3, S3⟩, e3, e⟩ := bind_some e
    obtain ⟨⟨ρ4, S4⟩, e4, e⟩ := map_some e
    cases e
    refine ⟨F, m, S, ρ, v1, S1, rel, env, e1, fun w1 F1 m1 H1 x1 r1 q1 => ⟨F1, m1, S1, ρ, v2, S2, r1, env.mono x1, e2, fun w2 F2 m2 H2 x2 r2 q2 => ⟨by show 2 ≤ sizeLine; decide, fun p hp => ?_⟩⟩⟩
    have xl : Ext F2 m2 H2 F2 m2 (upd H2 p (.tup [w1, w2])) := Ext.lay hp
    have rl := r2.same (H' := upd H2 p (.tup [w1, w2])) (upd_sameN hp)
    refine ⟨p, [w1, w2], rfl, SqT.of upd_same, rfl, w1, [w2], rfl, F2, m2, S2, ρ, v1, ρ3, S3, rl, (env.mono x1).mono x2 |>.mono xl, (q1.mono x2).mono xl, e3, fun σ3 F3 m3 H3 x3 r3 env3 _ => ?_⟩
    refine ⟨w2, [], rfl, F3, m3, S3, ρ3, v2, ρ', S', r3, env3, (q2.mono xl).mono x3, e4, fun σ4 F4 m4 H4 x4 r4 env4 _ => ?_⟩
    exact ⟨rfl, q F4 m4 H4 ((((x1.trans x2).trans xl).trans x3).trans x4) r4 σ4 env4⟩
/-- .. two plain local names: stored from the right -/
theorem ds_par2 {x y : Str} {e1 e2 : Expr} {f1 f2 : EvF} {i j : Nat} {c1 c2 : Bool} {px py pt pt2 : Pos} {kt k2 : Nat} (hc : X.calm = true) (hN : X.N.Nodup) (hi : X.N[i]? = some x) (hj : X.N[j]? = some y) (hij : i ≠ j)
    (hx : X.env.scope.names.lookup x = some .local) (hy : X.env.scope.names.lookup y = some .local) (h1 : PE X e1 (tF X.K CL f1)) (h2 : PE X e2 (tF X.K CL f2))
    (hs : starEach [e1, e2] X.env = (false, eval e1 X.env) :: starEach [e2] X.env) (hs2 : starEach [e2] X.env = [(false, eval e2 X.env)])
    (hw : swappedStores [.Tuple [.Name x px, .Name y py] kt pt] (.Tuple [e1, e2] k2 pt2) X.env = pure (some [x, y]))
    (hsw : swapsWithSole [.Tuple [.Name x px, .Name y py] kt pt] (.Tuple [e1, e2] k2 pt2) pos.line X.env = pure false) :
    PS X (.Assign [.Tuple [.Name x px, .Name y py] kt pt] (.Tuple [e1, e2] k2 pt2) pos) (tS X.K CL (sPar c1 c2 f1 f2 (gNm i) (gNm j))) :=
  PSwk (ps_par hc hN hi hj hij hx hy (pa_cons (h1.a c1) (pa_cons (h2.a c2) pa_nil hs2) hs) hw hsw) fun D σ H ⟨F, m, S, ρ, o, ρ', S', rel, env, e, q⟩ => by
    obtain ⟨⟨v1, S1⟩, e1, e⟩ := bind_some e
    obtain ⟨⟨v2, S2⟩, e2, e⟩ := bind_some e
    cases e
    exact ⟨F, m, S, ρ, v1, S1, rel, env, e1, fun w1 F1 m1 H1 x1 r1 q1 => ⟨F1, m1, S1, ρ, v2, S', r1, env.mono x1, e2, fun w2 F2 m2 H2 x2 r2 q2 => ⟨w1, w2, rfl,
      q F2 m2 H2 (x1.trans x2) r2 _ ((((env.mono x1).mono x2).set (q1.mono x2) i).set q2 j)⟩⟩⟩

/-! ### an own class -/
/-- the class c of the text: at C; f is a field -/
structure ClsOk (X : Cx) (CL : Str → Option Addr) (c : Str) : Prop where
  ex : ∃ C, CL c = some C ∧ Cls X.K C
theorem ins_inv {K : PySem.W.Frag} {F H : Hp} {v : V} {c f : Str} {d dv : D} (h : RepT K CL F H v d) (e : fldC c d f = some dv) : ∃ a C dx fs u, v = .ref a ∧ H a = some (.ins C dx fs) ∧ CL c = some C ∧ fs.lookup f = some u ∧ RepD K CL F u dv := by
  cases d with
  | ins c' ds =>
    have e' : (if c' = c then ds.lookup f else none) = some dv := e
    obtain ⟨rfl, e2⟩ := Option.ite_none_right_eq_some.mp e'
    obtain ⟨a, C, dx, fs, rfl, h1, h2, h3, h4⟩ := h
    obtain ⟨u, h5, h6⟩ := RepD.lookup h3 h4 e2
    exact ⟨a, C, dx, fs, u, rfl, h1, h2, h5, h6⟩
  | _ => cases e
theorem de_fld {c f : Str} {C : Addr} (hC : CL c = some C) (cl : Cls X.K C) (na : NoAttr X.K C f) (ho : PE X o (tF X.K CL fo)) (hb : attributeBase o f X.env (eval o X.env) = eval o X.env) : PE X (.Attribute o f pos) (tF X.K CL (fFldC c fo f)) :=
  PEwk (pe_fld ho.v hb) fun σ H Q ⟨F, m, S, ρ, r, S', rel, env, e, k⟩ => by
    obtain ⟨⟨d, S1⟩, e1, e⟩ := bind_some e
    obtain ⟨dv, e2, e⟩ := map_some e
    cases e
    refine one_t rel env e1 fun v F1 m1 H1 x1 r1 q1 => ?_
    obtain ⟨a, C', dx, fs, u, rfl, h1, h2, h3, h4⟩ := ins_inv q1 e2
    rw [hC] at h2; cases h2
    exact ⟨a, C, dx, fs, u, rfl, h1, cl, na, h3, (then_of x1 k).d r1 h4⟩
theorem put_rep {K : PySem.W.Frag} {F : Hp} {f : Str} {v : V} {d : D} (q : RepD K CL F v d) : ∀ {fs : List (Str × V)} {ds : List (Str × D)}, fs.map (·.1) = ds.map (·.1) → RepL K CL F (fs.map (·.2)) (ds.map (·.2)) →
    (putF f v fs).map (·.1) = (putD f d ds).map (·.1) ∧ RepL K CL F ((putF f v fs).map (·.2)) ((putD f d ds).map (·.2))
  | [], [], _, _ => ⟨rfl, .cons q .nil⟩
  | [], _ :: _, h, _ => by simp at h
  | _ :: _, [], h, _ => by simp at h
  | (g, x) :: fs, (g', y) :: ds, h, r => by
    rw [List.map_cons, List.map_cons] at h r
    obtain ⟨h1, h2⟩ := List.cons.inj h
    have h1 : g = g' := h1
    subst h1
    cases r with
    | cons a b =>
      unfold putF putD
      by_cases e : g = f
      · rw [if_pos e, if_pos e]
        exact ⟨by rw [List.map_cons, List.map_cons, h2], .cons q b⟩
      · rw [if_neg e, if_neg e]
        obtain ⟨i1, i2⟩ := put_rep q h2 b
        exact ⟨by rw [List.map_cons, List.map_cons, i1], .cons a i2⟩
theorem insAt_inv {c : Str} {v : Val} {S : Sto} {k : Nat} {fs : List (Str × D)} (h : insAt c v S = some (k, fs)) : v = .cell k ∧ S[k]? = some (.ins c fs) := by
  cases v with
  | d _ => cases h
  | grd _ => cases h
  | cell j =>
    unfold insAt at h
    cases e : S[j]? with
    | none => simp [e] at h
    | some c0 =>
      cases c0 with
      | ins c' ys => simp [e] at h; obtain ⟨rfl, rfl, rfl⟩ := h; exact ⟨rfl, e⟩
      | _ => simp [e] at h
theorem ds_fld {c f : Str} {C : Addr} (hC : CL c = some C) (cl : Cls X.K C) (na : NoAttr X.K C f) (ho : PE X o (tF X.K CL fo)) (he : PE X e (tF X.K CL fe)) (hs : swapsWith e (some (.Attribute o f pos')) pos.line X.env = pure false) :
    PS X (.Assign [.Attribute o f pos'] e pos) (tS X.K CL (sFldC c fo fe f)) := PSwk (ps_fld ho.v he.dd hs) fun D σ H ⟨F, m, S, ρ, oo, ρ', S', rel, env, e, q⟩ => by
  obtain ⟨⟨d, S1⟩, e1, e⟩ := bind_some e
  obtain ⟨⟨w, S2⟩, e2, e⟩ := bind_some e
  obtain ⟨⟨k, fs⟩, e3, e⟩ := bind_some e
  obtain ⟨hl, e⟩ := if_some e
  cases e
  refine ⟨F, m, S, ρ, d, S1, rel, env, e1, fun v F1 m1 H1 x1 r1 q1 => ⟨F1, m1, S1, ρ, w, S2, r1, env.mono x1, e2, fun u F2 m2 H2 x2 r2 q2 => ?_⟩⟩
  obtain ⟨rfl, hS⟩ := insAt_inv e3
  obtain ⟨a, hm, rfl⟩ := q2
  obtain ⟨hF, C', dx, gs, h1, h2, h3, h4⟩ := r2.cell k _ a hS hm
  rw [hC] at h2; cases h2
  obtain ⟨i1, i2⟩ := put_rep (f := f) (q1.mono x2.f) h3 h4
  obtain ⟨w1, w2⟩ := r2.write (c := .ins c (putD f d fs)) (o := .ins C dx (putF f v gs)) hS hm rfl ⟨hF, C, dx, _, upd_same, hC, i1, i2⟩
  have len : gs.length = fs.length := by have := congrArg List.length h3; simpa using this
  exact ⟨a, C, dx, gs, rfl, h1, cl, na, by rw [len]; exact hl, q F2 m2 _ ((x1.trans x2).trans w2) w1 σ (((env.mono x1).mono x2).mono w2)⟩

/-- a class of the text, made by __init__ that computes init with n arguments besides self -/
structure MkOk (X : Cx) (CL : Str → Option Addr) (k : Nat) (x c : Str) (n : Nat) (init : FnF) : Prop where
  ex : ∃ C f fd ps, ps.length = n + 1 ∧ CL c = some C ∧ X.mg x = some (.ref C) ∧ Mk X.K C f ∧ FnOk X.prog X.w X.K X.mg X.base CX0 k f fd ps (spF X.K CL (n + 1) init) ∧ Binds X.K fd ps []
theorem de_make {x c : Str} {es : List Expr} {init : FnF} {fs : List (Bool × EvF)} {n k : Nat} {p : Pos} (d : MkOk X CL k x c n init) (hr : Room (k + 1) X.A) (hg : Gl X x) (ha : PA X (e :: es) (tAs X.K CL fs)) (hn : fs.length = n)
    (he : starEach (e :: es) X.env = (false, eval e X.env) :: starEach es X.env) (hpl : (backTo pos (starEach es X.env)).any (·.1) = false) (hdb : (x == ("__debug__" : Str)) = false) :
    PE X (.Call (.Name x p) (e :: es) [] pos) (tF X.K CL (fCall (mkF c init) fs)) := by
  obtain ⟨C, f, fd, ps, hp, hC, h1, h2, h3, h4⟩ := d.ex
  refine PEwk (pe_make h2 h3 hr hg h1 h4 .nil pass0 ha hdb he hpl) fun σ H Q ⟨F, m, S, ρ, r, S', rel, env, e, kk⟩ => ?_
  obtain ⟨⟨xs, S1⟩, e1, e⟩ := bind_some e
  refine ⟨F, m, S, ρ, xs, S1, rel, env, e1, fun vs F1 m1 H1 x1 r1 q1 a dx ha hdx hne => ?_⟩
  show spF X.K CL (n + 1) init (.ref a :: (vs ++ [])) _ _ E0
  rw [List.append_nil]
  obtain ⟨⟨r0, S2⟩, e2, e⟩ := bind_some e
  -- the instance as a cell
  have xd : Ext F1 m1 H1 F1 m1 (upd H1 dx (.own a)) := Ext.lay hdx
  have rd := r1.same (H' := upd H1 dx (.own a)) (upd_sameN hdx)
  have ha2 : (upd H1 dx (.own a)) a = none := by rw [upd_ne (Ne.symm hne)]; exact ha
  have xa := xd.trans (Ext.lay (F := F1) (m := m1) (o := .ins C dx []) ha2)
  have ra := rd.same (H' := upd (upd H1 dx (.own a)) a (.ins C dx [])) (upd_sameN ha2)
  have hm1 : a ∉ m1 := fun z => r1.trk a z ha
  have hF1 : F1 a = none := r1.out ha
  have cok : CellOk X.K CL F1 (upd (upd H1 dx (.own a)) a (.ins C dx [])) a (.ins c []) := ⟨hF1, C, dx, [], upd_same, hC, rfl, .nil⟩
  have rp := ra.push cok (by rw [upd_same]; simp) hm1
  have xp : Ext F1 m1 H1 F1 (m1 ++ [a]) (upd (upd H1 dx (.own a)) a (.ins C dx [])) := xa.push ha
  have qself : RepV X.K CL F1 (m1 ++ [a]) (.ref a) (.cell S1.length) := ⟨a, by rw [← r1.len, List.getElem?_append_right (Nat.le_refl _), Nat.sub_self]; rfl, rfl⟩
  refine ⟨by rw [List.length_cons, q1.length, evas_length e1, hn], F1, m1 ++ [a], S1 ++ [.ins c []], .cell S1.length :: xs, r0, S2, rp, .cons qself (q1.mono xp), e2, fun v F2 m2 H2 x2 r2 q2 => ?_⟩
  cases r0 with
  | new _ => cases e
  | val vv =>
    cases vv with
    | cell _ => cases e
    | grd _ => cases e
    | d d0 =>
      cases d0 with
      | non =>
        cases q2
        refine ⟨rfl, ?_⟩
        change (match S2[S1.length]? with
          | some (.ins c' fs) => some (Res.new (.ins c' fs), S2.take S1.length)
          | _ => none) = some (r, S') at e
        cases hc2 : S2[S1.length]? with
        | none => rw [hc2] at e; cases e
        | some cc =>
          rw [hc2] at e
          cases cc with
          | ins c' fs' =>
            cases e
            obtain ⟨l, rfl, hl⟩ := x2.mm
            have em : (m1 ++ [a] ++ l)[S1.length]? = some a := by
              rw [List.append_assoc, ← r1.len, List.getElem?_append_right (Nat.le_refl _), Nat.sub_self]
              rfl
            have ck := r2.cell S1.length _ a hc2 em
            have xt : Ext F1 m1 H1 F2 (m1 ++ [a] ++ l) H2 := xp.trans x2
            have rt := r2.take (k := 0) S1.length
            rw [← r1.len, List.append_assoc, take_len, r1.len] at rt
            have xt2 : Ext F1 m1 H1 F2 m1 H2 := by
              rw [List.append_assoc] at xt
              exact xt.drop
            exact kk (.ref a) F2 m1 H2 (x1.trans xt2) rt ⟨a, rfl, Classical.byContradiction fun z => x1.t a z ha, hm1, rfl, ck⟩
          | _ => cases e
      | _ => cases e
end
end Ev
set_option Elab.async false
set_option linter.all false
set_option maxRecDepth 100000
/-! Own text: len by an own method, isinstance, the module's constants, dict comprehensions for their size, turned texts, sorted(set(..)). -/
namespace Ev
open PySem PySem.Spec PyProof.Rows L2

section
variable {X : Cx} {CL : Str → Option Addr} {e : Expr} {fe : EvF} {p q pos : Pos}
/-! ### built-in functions by name -/
theorem de_biB {b : Bi} {id : String} {x : Str} {es : List Expr} {f : EvF} {fs : List EvF} (hc : X.calm = true) (hid : biV b = .builtin id) (hg : Gl X x) (hm : X.mg x = none) (hv : bootBuiltins x = some (.builtin id)) (ha : PA X (e :: es) (tAs X.K CL ((f :: fs).map fun e => (false, e))))
    (hn : x ≠ "__name__") (hdb : (x == ("__debug__" : Str)) = false) (he : starEach (e :: es) X.env = (false, eval e X.env) :: starEach es X.env) (hpl : (backTo pos (starEach es X.env)).any (·.1) = false) :
    PE X (.Call (.Name x p) (e :: es) [] pos) (tF X.K CL (fBi b (f :: fs))) :=
  PEwk (pe_callB (hid ▸ cr_bi (CL := CL) hc b) hg hm hv ha hn hdb he hpl) fun σ H Q h => bi_t h
theorem de_biT {b : Bi} {T : String} {x : Str} {es : List Expr} {f : EvF} {fs : List EvF} (hc : X.calm = true) (hid : biV b = .type T) (hg : Gl X x) (hm : X.mg x = none) (hv : bootBuiltins x = some (.type T)) (ha : PA X (e :: es) (tAs X.K CL ((f :: fs).map fun e => (false, e))))
    (hn : x ≠ "__name__") (hdb : (x == ("__debug__" : Str)) = false) (he : starEach (e :: es) X.env = (false, eval e X.env) :: starEach es X.env) (hpl : (backTo pos (starEach es X.env)).any (·.1) = false) :
    PE X (.Call (.Name x p) (e :: es) [] pos) (tF X.K CL (fBi b (f :: fs))) :=
  PEwk (pe_callTy (hid ▸ cr_bi (CL := CL) hc b) hg hm hv ha hn hdb he hpl) fun σ H Q h => bi_t h

/-! ### len, where a class has its own -/
structure LenOk (X : Cx) (CL : Str → Option Addr) (k : Nat) (c : Str) (fn : FnF) : Prop where
  ex : ∃ C f fd ps, ps.length = 1 ∧ CL c = some C ∧ Cls X.K C ∧ PySem.W.findIn X.K (.ref C) "__len__" = some (some (.ref f)) ∧ PySem.W.isFn X.K (.ref f) = true ∧ FnOk X.prog X.w X.K X.mg X.base CX0 k f fd ps (spF X.K CL 1 fn) ∧ Binds X.K fd ps []
def rLenO (X : Cx) (CL : Str → Option Addr) (c : Str) (fn : FnF) : List V → Hp → VK → Prop := fun xs H Q => ∃ a C dx fs, xs = [.ref a] ∧ H a = some (.ins C dx fs) ∧ CL c = some C ∧
  spF X.K CL 1 fn [.ref a] H (fun v H' => ∃ n : Int, v = .int n ∧ 0 ≤ n ∧ n < 2 ^ 63 ∧ Q (.int n) H') E0
theorem cr_lenO {k : Nat} {c : Str} {fn : FnF} (d : LenOk X CL k c fn) (hr : Room (k + 1) X.A) : CallR X (.builtin "len") (rLenO X CL c fn) := by
  intro pins s σ H xs us Q I r h
  obtain ⟨C, f, fd, ps, hp, hC, cl, h1, h2, h3, h4⟩ := d.ex
  obtain ⟨a, C', dx, fs, rfl, hH, hC', hsp⟩ := h
  rw [hC] at hC'; cases hC'
  obtain ⟨u, rfl, ru⟩ := vals1 r
  cases ru
  obtain ⟨mA, O, _⟩ := ins_get I.hok hH
  obtain ⟨od, J, _⟩ := O.look
  obtain ⟨m, F⟩ := I.fr
  refine PySem.W.len_K F I.ok.mod.kin J h1 h2 (wpAny_call (codeAny_mono (h3.run X.A.in1 X.stack s H ⟨[.ref a], []⟩ [.ref a] [.ref a] _ E0 hr.in1 I.env0.in1 (h4 s [.ref a] I.kIn (by simpa using hp.symm)) (.cons rfl .nil) hsp) fun r s' hq => ?_))
  cases r with
  | error e => exact hq.elim
  | ok fl =>
    cases fl with
    | ret u =>
      obtain ⟨v, H', I', rv, n, rfl, n0, n1, qq⟩ := I.after hq
      obtain ⟨t, rfl⟩ := rv
      exact ⟨⟨n0, n1⟩, .int n, H', I'.tok _, ⟨_, rfl⟩, qq⟩
    | next => exact False.elim hq
    | brk => exact False.elim hq
    | cont => exact False.elim hq
theorem de_lenO {c : Str} {k : Nat} {fn : FnF} (d : LenOk X CL k c fn) (hr : Room (k + 1) X.A) (hg : Gl X "len") (hm : X.mg "len" = none) (ha : PE X e (tF X.K CL fe)) (hs : starEach [e] X.env = [(false, eval e X.env)]) :
    PE X (.Call (.Name "len" p) [e] [] pos) (tF X.K CL (fLenO c fn fe)) :=
  PEwk (PE.or (pe_callB (cr_lenO d hr) hg hm boot_len (pa1 ha hs) (by decide) (by decide) hs rfl) (pe_callB (cr_len (CL := CL)) hg hm boot_len (pa1 ha hs) (by decide) (by decide) hs rfl)) fun σ H Q ⟨F, m, S, ρ, r, S', rel, env, e, kk⟩ => by
    obtain ⟨⟨x, S1⟩, e1, e⟩ := bind_some e
    obtain ⟨dd, e2, e⟩ := bind_some e
    have other : (lenD dd).map (fun (n : Nat) => (Res.val (.d (.int (n : Int))), S1)) = some (r, S') → (tCB (rLenO X CL c fn) (tCons (tV X.K CL fe) tNil) σ H Q ∨ tCB (rBi X.K CL .len) (tCons (tV X.K CL fe) tNil) σ H Q) := fun e => by
      obtain ⟨n, e3, e⟩ := map_some e
      cases e
      refine .inr ⟨F, m, S, ρ, x, S', rel, env, e1, fun v F1 m1 H1 x1 r1 q1 => ?_⟩
      refine ⟨F1, m1, S', [dd], .d (.int n), r1, .cons (pk_ok r1 q1 e2) .nil, ?_, then_of x1 kk⟩
      show (lenD dd).map (fun (n : Nat) => O1.d (.int (n : Int))) = _
      rw [e3]; rfl
    cases dd with
    | ins c' ds =>
      obtain ⟨rfl, e5⟩ := Option.ite_none_right_eq_some.mp e
      obtain ⟨⟨r0, S2⟩, e3, e⟩ := bind_some e5
      cases r0 with
      | new _ => cases e
      | val vv =>
        cases vv with
        | cell _ => cases e
        | grd _ => cases e
        | d d0 =>
          cases d0 with
          | int n =>
            obtain ⟨⟨n0, n1⟩, e⟩ := if_some e
            cases e
            refine .inl ⟨F, m, S, ρ, x, S1, rel, env, e1, fun v F1 m1 H1 x1 r1 q1 => ?_⟩
            obtain ⟨a, C, dx, fs, rfl, h1, h2, _⟩ := pk_ok r1 q1 e2
            refine ⟨a, C, dx, fs, rfl, h1, h2, rfl, F1, m1, S1, [x], _, S', r1, .cons q1 .nil, e3, fun w F2 m2 H2 x2 r2 q2 => ?_⟩
            cases q2
            exact ⟨n, rfl, n0, n1, kk _ F2 m2 H2 (x1.trans x2) r2 (.int _)⟩
          | _ => cases e
    | _ => exact other e

/-! ### constants of the module -/
theorem de_glob {x : Str} {v : V} {u : Value} {d : D} (hg : Gl X x) (hm : X.mg x = some u) (r : RelV v u) (rd : ∀ F, RepD X.K CL F v d) (hd : (x == ("__debug__" : Str)) = false) : PE X (.Name x pos) (tF X.K CL (fCst d)) := de_cst (pe_glob hg hm r hd) rd

/-! ### isinstance -/
def tagD : D → Option String
  | .non => some "NoneType"
  | .bl _ => some "bool"
  | .int _ => some "int"
  | .str _ => some "str"
  | .lst _ => some "list"
  | .scr _ => some "list"
  | .tup _ => some "tuple"
  | .dct _ => some "dict"
  | _ => none
theorem tag_ok {K : PySem.W.Frag} {F H : Hp} {v : V} {d : D} {t : String} (s : Same F H) (h : RepT K CL F H v d) (e : tagD d = some t) : TyX K H v (.type t) := by
  have sl : ∀ {a vs}, SqL K H a vs → TyX K H (.ref a) (.type "list") := fun {a vs} h => by
    rcases h with (h | ⟨o, h⟩) | ⟨o, its, n, h, hc, _⟩
    · exact .base (.lst h)
    · exact .base (.frz h)
    · exact .kList h hc
  have st : ∀ {a vs}, SqT K H a vs → TyX K H (.ref a) (.type "tuple") := fun {a vs} h => by
    rcases h with (h | ⟨o, h⟩) | ⟨o, its, n, h, hc, _⟩
    · exact .base (.tup h)
    · exact .fTuple h
    · exact .kTuple h hc
  cases d with
  | non => cases e; cases h; exact .base .non
  | bl b => cases e; cases h; exact .base (.bl b)
  | int i => cases e; cases h; exact .base (.int i)
  | str x => cases e; cases h; exact .base (.str x)
  | lst xs => cases e; obtain ⟨a, vs, rfl, h1, _⟩ := h; exact sl (SqL.of h1)
  | scr xs => cases e; obtain ⟨a, vs, rfl, h1, _⟩ := RepT.scr s h; exact sl h1
  | tup xs => cases e; obtain ⟨a, vs, rfl, h1, _⟩ := RepT.tup s h; exact st h1
  | dct kvs => cases e; obtain ⟨a, vs, rfl, h1, _⟩ := h; exact .base (.dK h1)
  | _ => cases e
theorem look_mem {β : Type} : ∀ {l : List (String × β)} {a : String} {b : β}, l.lookup a = some b → (a, b) ∈ l
  | [], _, _, h => by cases h
  | (x, y) :: l, a, b, h => by
    rw [List.lookup_cons] at h
    cases q : a == x with
    | true => rw [q] at h; cases h; rw [beq_iff_eq.mp q]; exact List.mem_cons_self
    | false => rw [q] at h; exact List.mem_cons_of_mem _ (look_mem h)
/-- isinstance(e, T), T a built-in type; tab: the answers by kind -/
def fIsi (tab : List (String × Bool)) (fe : EvF) : EvF := fun ρ S => (one fe ρ S).bind fun (d, S) => (tagD d).bind fun t => (tab.lookup t).map fun b => (.val (.d (.bl b)), S)
theorem pa_cls {T : Expr} {v : V} (ha : PE X e (tF X.K CL fe)) (ht : PE X T (tC v)) (hs : starEach [e, T] X.env = (false, eval e X.env) :: starEach [T] X.env) (hs2 : starEach [T] X.env = [(false, eval T X.env)]) : PA X [e, T] (tCons (tV X.K CL fe) (tCons (tC v) tNil)) :=
  pa_cons ha.v (pa_cons ht pa_nil hs2) hs
theorem de_isi {T : Str} {Tn : String} {tab : List (String × Bool)} {p2 : Pos} (hg : Gl X "isinstance") (hm : X.mg "isinstance" = none) (ha : PE X e (tF X.K CL fe)) (ht : PE X (.Name T p2) (tC (.ty Tn))) (htab : ∀ y ∈ tab, kitB y.1 Tn = some y.2)
    (hs : starEach [e, .Name T p2] X.env = (false, eval e X.env) :: starEach [.Name T p2] X.env) (hs2 : starEach [.Name T p2] X.env = [(false, eval (.Name T p2) X.env)]) (hb : bootBuiltins "isinstance" = some (.builtin "isinstance")) :
    PE X (.Call (.Name "isinstance" p) [e, .Name T p2] [] pos) (tF X.K CL (fIsi tab fe)) :=
  PEwk (pe_callB call_isi hg hm hb (pa_cls ha ht hs hs2) (by decide) (by decide) hs (by rw [hs2]; rfl)) fun σ H Q ⟨F, m, S, ρ, r, S', rel, env, e, kk⟩ => by
    obtain ⟨⟨d, S1⟩, e1, e⟩ := bind_some e
    obtain ⟨t, e2, e⟩ := bind_some e
    obtain ⟨b, e3, e⟩ := map_some e
    cases e
    refine one_t rel env e1 fun v F1 m1 H1 x1 r1 q1 => ?_
    have hk : kitB t Tn = some b := htab (t, b) (look_mem e3)
    exact ⟨v, .ty Tn, .type t, .type Tn, b, rfl, .ty Tn, tag_ok r1.sub q1 e2, kit_ty hk, (then_of x1 kk).d r1 (.bl _)⟩
/-- what isinstance asks of an own class -/
structure IcOk (K : PySem.W.Frag) (C : Addr) : Prop where
  cl : Cls K C
  a : PySem.W.findIn K (.ref C) "__class__" = some (some (.builtin "object.__class__"))
  n : PySem.W.specialIn K (.builtin "object.__class__") "__get__" = some (some (.builtin "getset_descriptor.__get__"))
  t : PySem.W.takesIn K (.builtin "object.__class__") = some true
  m : PySem.W.mroIn K C (.type "object") = some true
/-- isinstance(e, C), e of the class itself -/
def fIsiC (c : Str) (fe : EvF) : EvF := fun ρ S => (one fe ρ S).bind fun (d, S) => match d with
  | .ins c' _ => if c' = c then some (.val (.d (.bl true)), S) else none
  | _ => none
theorem de_isiC {T c : Str} {C : Addr} {p2 : Pos} (hC : CL c = some C) (ic : IcOk X.K C) (hg : Gl X "isinstance") (hm : X.mg "isinstance" = none) (ha : PE X e (tF X.K CL fe)) (ht : PE X (.Name T p2) (tC (.ref C)))
    (hs : starEach [e, .Name T p2] X.env = (false, eval e X.env) :: starEach [.Name T p2] X.env) (hs2 : starEach [.Name T p2] X.env = [(false, eval (.Name T p2) X.env)]) (hb : bootBuiltins "isinstance" = some (.builtin "isinstance")) :
    PE X (.Call (.Name "isinstance" p) [e, .Name T p2] [] pos) (tF X.K CL (fIsiC c fe)) :=
  PEwk (pe_callB call_isi hg hm hb (pa_cls ha ht hs hs2) (by decide) (by decide) hs (by rw [hs2]; rfl)) fun σ H Q ⟨F, m, S, ρ, r, S', rel, env, e, kk⟩ => by
    obtain ⟨⟨d, S1⟩, e1, e⟩ := bind_some e
    cases d with
    | ins c' ds =>
      obtain ⟨rfl, e5⟩ := if_some e
      cases e5
      refine one_t rel env e1 fun v F1 m1 H1 x1 r1 q1 => ?_
      obtain ⟨a, C', dx, fs, rfl, h1, h2, _⟩ := q1
      rw [hC] at h2; cases h2
      exact ⟨.ref a, .ref C, .ref C, .ref C, true, rfl, .own C, .base (.ins h1 ic.cl ic.a ic.n ic.t ic.m), if_pos (beq_self_eq_true _), (then_of x1 kk).d r1 (.bl _)⟩
    | _ => cases e
end
end Ev
set_option Elab.async false
set_option linter.all false
set_option maxRecDepth 100000
/-! Own text: dict comprehensions, turned texts and lists, sorted(set(..)) of ints. -/
namespace Ev
open PySem PySem.Spec PyProof.Rows L2

def keyD : D → Option Key
  | .int i => some (.inl i)
  | .str x => some (.inr x)
  | _ => none
def putKD (kvs : List (Key × D)) (k : Key) (v : D) : List (Key × D) :=
  if (kvs.any fun kv => decide (kv.1 = k)) = true then kvs.map (fun kv => if kv.1 = k then (kv.1, v) else kv) else kvs ++ [(k, v)]
def compDF (g : TgF) (fk fv : EvF) : List D → List (Key × D) → Rho → Sto → Option (List (Key × D) × Sto)
  | [], acc, _, S => some (acc, S)
  | d :: ds, acc, ρ, S => (g (.d d) ρ S).bind fun (ρ2, S) => (eD fk ρ2 S).bind fun (x, S) => (eD fv ρ2 S).bind fun (y, S) => (keyD x).bind fun k =>
      if acc.length < sizeLine then compDF g fk fv ds (putKD acc k y) ρ S else none
/-- {k: v for g in ι} -/
def fDc (ι : ItF) (g : TgF) (fk fv : EvF) (vs : List Nat) : EvF := fun ρ S => (ι ρ S).bind fun (ds, S) => (compDF g fk fv ds [] (wipeR ρ vs) S).map fun (kvs, S) => (.new (.dct kvs), S)
section
variable {X : Cx} {CL : Str → Option Addr}
theorem keyD_ok {K : PySem.W.Frag} {F : Hp} {v : V} {d : D} {k : Key} (r : RepD K CL F v d) (h : keyD d = some k) : v = kV k := by
  cases d with
  | int i => cases h; cases r; rfl
  | str x => cases h; cases r; rfl
  | _ => cases h
theorem putKD_keys {kvs : List (Key × V)} {ds : List (Key × D)} {k : Key} {v : V} {d : D} (e : kvs.map (·.1) = ds.map (·.1)) : (putK kvs k v).map (·.1) = (putKD ds k d).map (·.1) := by
  have ea : ∀ {kvs : List (Key × V)} {ds : List (Key × D)}, kvs.map (·.1) = ds.map (·.1) → (kvs.any fun kv => decide (kv.1 = k)) = ds.any fun kv => decide (kv.1 = k) := fun {kvs ds} e => by
    have h1 : (kvs.any fun kv => decide (kv.1 = k)) = (kvs.map (·.1)).any fun x => decide (x = k) := by rw [List.any_map]; rfl
    have h2 : (ds.any fun kv => decide (kv.1 = k)) = (ds.map (·.1)).any fun x => decide (x = k) := by rw [List.any_map]; rfl
    rw [h1, h2, e]
  unfold putK putKD
  rw [ea e]
  split
  · rw [List.map_map, List.map_map]
    have k1 : (kvs.map ((fun x => x.1) ∘ fun kv => if kv.1 = k then (kv.1, v) else kv)) = kvs.map (·.1) := List.map_congr_left fun x _ => by
      show (if x.1 = k then (x.1, v) else x).1 = x.1
      split <;> rfl
    have k2 : (ds.map ((fun x => x.1) ∘ fun kv => if kv.1 = k then (kv.1, d) else kv)) = ds.map (·.1) := List.map_congr_left fun x _ => by
      show (if x.1 = k then (x.1, d) else x).1 = x.1
      split <;> rfl
    rw [k1, k2, e]
  · rw [List.map_append, List.map_append, e]
    rfl
theorem putKD_vals {K : PySem.W.Frag} {F : Hp} {k : Key} {v : V} {d : D} (q : RepD K CL F v d) : ∀ {kvs : List (Key × V)} {ds : List (Key × D)}, kvs.map (·.1) = ds.map (·.1) → RepL K CL F (kvs.map (·.2)) (ds.map (·.2)) →
    RepL K CL F ((kvs.map fun kv => if kv.1 = k then (kv.1, v) else kv).map (·.2)) ((ds.map fun kv => if kv.1 = k then (kv.1, d) else kv).map (·.2))
  | [], [], _, _ => .nil
  | [], _ :: _, h, _ => by simp at h
  | _ :: _, [], h, _ => by simp at h
  | (x, a) :: kvs, (y, b) :: ds, h, r => by
    rw [List.map_cons, List.map_cons] at h r
    obtain ⟨h1, h2⟩ := List.cons.inj h
    have h1 : x = y := h1
    subst h1
    cases r with
    | cons r1 r2 =>
      rw [List.map_cons, List.map_cons, List.map_cons, List.map_cons]
      refine .cons ?_ (putKD_vals q h2 r2)
      by_cases e : x = k
      · show RepD K CL F (if x = k then (x, v) else (x, a)).2 (if x = k then (x, d) else (x, b)).2
        rw [if_pos e, if_pos e]; exact q
      · show RepD K CL F (if x = k then (x, v) else (x, a)).2 (if x = k then (x, d) else (x, b)).2
        rw [if_neg e, if_neg e]; exact r1
theorem putKD_rep {K : PySem.W.Frag} {F : Hp} {k : Key} {v : V} {d : D} (q : RepD K CL F v d) {kvs : List (Key × V)} {ds : List (Key × D)} (e : kvs.map (·.1) = ds.map (·.1)) (r : RepL K CL F (kvs.map (·.2)) (ds.map (·.2))) :
    RepL K CL F ((putK kvs k v).map (·.2)) ((putKD ds k d).map (·.2)) := by
  have ea : (kvs.any fun kv => decide (kv.1 = k)) = ds.any fun kv => decide (kv.1 = k) := by
    have h1 : (kvs.any fun kv => decide (kv.1 = k)) = (kvs.map (·.1)).any fun x => decide (x = k) := by rw [List.any_map]; rfl
    have h2 : (ds.any fun kv => decide (kv.1 = k)) = (ds.map (·.1)).any fun x => decide (x = k) := by rw [List.any_map]; rfl
    rw [h1, h2, e]
  unfold putK putKD
  rw [ea]
  split
  · exact putKD_vals q e r
  · rw [List.map_append, List.map_append]
    exact r.append (.cons q .nil)
theorem dc_t {ι : ItF} {g : TgF} {fk fv : EvF} {vs is : List Nat} (hs : ∀ i ∈ is, i ∈ vs) {σ : L2.St} {H : Hp} {Q : VK} (h : tF X.K CL (fDc ι g fk fv vs) σ H Q) :
    tDc (tI X.K CL ι) (tG X.K CL g is) tYes (tD X.K CL fk) (tD X.K CL fv) vs σ H Q := by
  obtain ⟨F, m, S, ρ, r, S', rel, env, e, q⟩ := h
  obtain ⟨⟨ds, S1⟩, e1, e⟩ := bind_some e
  obtain ⟨⟨xs, S2⟩, e2, e⟩ := map_some e
  cases e
  refine ⟨F, m, S, ρ, ds, S1, rel, env, e1, fun J F1 m1 H1 x1 r1 w D hD => ?_⟩
  have hm1 : D ∉ m1 := fun z => r1.trk D z hD
  have hF1 : F1 D = none := r1.out hD
  have env1 := (env.mono x1).wipeR vs
  let Pv : Nat → Hp → Prop := fun i H' => ∃ F2 m2 S3 acc ws, Ext F1 m1 H1 F2 m2 H' ∧ Rel X.K CL F2 m2 S3 H' ∧ H' D = some (.dK ws) ∧ D ∉ m2 ∧ F2 D = none ∧ ws.map (·.1) = acc.map (·.1) ∧ RepL X.K CL F2 (ws.map (·.2)) (acc.map (·.2)) ∧ compDF g fk fv (ds.drop i) acc (wipeR ρ vs) S3 = some (xs, S')
  refine ⟨fun i k H' => k = ds.length - i ∧ i ≤ ds.length ∧ Pv i H', ⟨ds.length, by simp, Nat.zero_le _, F1, m1, S1, [], [], Ext.lay hD, r1.same (upd_sameN hD), upd_same, hm1, hF1, rfl, .nil, by rw [List.drop_zero]; exact e2⟩, ?_⟩
  rintro i k H' ⟨rfl, hi, F2, m2, S3, acc, ws, x2, r2, hD2, hm2, hF2, ek, ra, e3⟩
  have hG : Same F1 H' := fun a u z => r2.sub a u (x2.f a u z)
  by_cases hlt : i < ds.length
  · refine .inr ⟨w.goes i H' hlt hG, Pv (i + 1), fun H'' p' => ⟨ds.length - (i + 1), by omega, rfl, hlt, p'⟩, fun x H'' y => ?_⟩
    obtain ⟨d, ed, y⟩ := w.yields i H' x H'' hlt hG y
    rw [drop_cons ed] at e3
    obtain ⟨⟨ρ4, S4⟩, e4, e3⟩ := bind_some e3
    obtain ⟨⟨dk, S5⟩, e5, e3⟩ := bind_some e3
    obtain ⟨⟨dv, S6⟩, e6, e3⟩ := bind_some e3
    obtain ⟨kk, e7, e3⟩ := bind_some e3
    obtain ⟨c, e3⟩ := Option.ite_none_right_eq_some.mp e3
    obtain ⟨F3, x3, r3, q3⟩ := walk_step (J := J) (ds := ds) x2.f r2 y
    have x23 := x2.trans x3
    refine ⟨F3, m2, S3, wipeR ρ vs, .d d, ρ4, S4, r3, env1.mono x23, q3, e4, fun σ4 F4 m4 H4 x4 r4 env4 t4 => ?_⟩
    refine ⟨wipe_eq (t4.1.trans (wipe_length ..)) t4.2 hs, ?_⟩
    have hD3 : H'' D = some (.dK ws) := by
      rcases y with ⟨rfl, _⟩ | ⟨T, _, _, _, hT, rfl, _⟩
      · exact hD2
      · rw [upd_ne (ne_of_none hD2 hT)]; exact hD2
    have hF3 : F3 D = none := (keep_item x3 hD2 hm2 hF2).2.2
    obtain ⟨hD4, hm4, hF4⟩ := keep_item x4 hD3 hm2 hF3
    dsimp only [tYes]
    rw [if_pos rfl]
    refine ⟨F4, m4, S4, ρ4, dk, S5, r4, env4, e5, fun yk F5 m5 H5 x5 r5 q5 => ⟨F5, m5, S5, ρ4, dv, S6, r5, env4.mono x5, e6, fun yv F6 m6 H6 x6 r6 q6 => ?_⟩⟩
    obtain ⟨hD5, hm5, hF5⟩ := keep_item x5 hD4 hm4 hF4
    obtain ⟨hD6, hm6, hF6⟩ := keep_item x6 hD5 hm5 hF5
    have xx : Ext F1 m1 H1 F6 m6 H6 := ((x23.trans x4).trans x5).trans x6
    have lw : ws.length = acc.length := by have := congrArg List.length ek; simpa using this
    refine ⟨ws, kk, keyD_ok q5 e7, hD6, by rw [lw]; exact c, F6, m6, S6, putKD acc kk dv, putK ws kk yv, ?_, new_item (vs := []) r6 (by rw [hD6]; simp) hm6 hF6, upd_same, hm6, hF6, putKD_keys ek, putKD_rep q6 ek ((((ra.mono x3.f).mono x4.f).mono x5.f).mono x6.f), e3⟩
    refine ⟨xx.f, xx.fn, xx.mm, fun a u h hm => ?_, fun a h => upd_ne_none (xx.t a h)⟩
    rw [upd_ne (ne_of_none h hD)]
    exact xx.h a u h hm
  · have ei : i = ds.length := by omega
    subst ei
    rw [List.drop_length] at e3
    cases e3
    exact .inl ⟨w.stops H' hG, q (.ref D) F2 m2 H' (x1.trans x2) r2 ⟨D, rfl, Classical.byContradiction fun z => x1.t D z hD, hm2, rfl, hF2, ws, hD2, ek, ra⟩⟩
theorem de_dc {kx vx tg iter : Expr} {scope : Scope} {own : List (Str × Nat)} {is : List Nat} {ι : ItF} {g : TgF} {fk fv : EvF} {pos : Pos} (hc : X.calm = true) (hN : X.N.Nodup) (hi : PI X tg iter (tI X.K CL ι)) (ok : BlkOk X.N X.env.scope scope own)
    (hg : ∀ s H C cl fp, PG (X.blk s H scope (compEnvC scope cl C X.env) fp) tg (tG X.K CL g is)) (hk : ∀ s H C cl fp, PE (X.blk s H scope (compEnvC scope cl C X.env) fp) kx (tF X.K CL fk))
    (he : ∀ s H C cl fp, PE (X.blk s H scope (compEnvC scope cl C X.env) fp) vx (tF X.K CL fv)) (hs : ∀ x, foldedSetIterable iter X.env x = pure x) (his : ∀ i ∈ is, i ∈ own.map (·.2)) :
    PE X (.DictComp kx vx [⟨tg, iter, [], 0⟩] scope pos) (tF X.K CL (fDc ι g fk fv (own.map (·.2)))) :=
  PEwk (pe_dc hc hN hi ok hg (fun s H C cl fp => pts_nil) (fun s H C cl fp => (hk s H C cl fp).dd) (fun s H C cl fp => (he s H C cl fp).dd) hs) fun σ H Q h => dc_t his h

/-! ### x[::-1] -/
def revS (z : Str) : Str := ⟨z.cps.toList.reverse.toArray⟩
def revD : D → Option O1
  | .str z => if z.length ≤ sizeLine then some (.d (.str (revS z))) else none
  | .lst xs => some (.new (.lst xs.reverse))
  | .scr xs => some (.new (.lst xs.reverse))
  | _ => none
def fRev (fe : EvF) : EvF := fun ρ S => (one fe ρ S).bind fun (d, S) => (revD d).map fun r => (r.res, S)
theorem rev_range (l : List Nat) : (List.range l.length).map (fun k => l.toArray.getD (l.length - 1 - k) 0) = l.reverse := by
  apply List.ext_getElem
  · simp
  · intro i h1 h2
    simp only [List.length_map, List.length_range] at h1
    simp only [List.getElem_map, List.getElem_range, List.getElem_reverse]
    simp [Array.getD, show l.length - 1 - i < l.length by omega]
theorem rev_text (z : Str) (u : Tok) : Txt.sliceBy z none none (-1, u) = revS z := by
  have h := step_rev_list z u
  have e : z.cps = z.cps.toList.toArray := by simp
  have h2 : (Txt.sliceBy z none none (-1, u)).cps.toList = z.cps.toList.reverse := by
    rw [h, ← rev_range z.cps.toList]
    simp [Str.length]
  unfold revS
  rw [← h2]
def tRevS (te : TE) : TE := fun σ H Q => te σ H fun x H1 => ∃ z, x = .str z ∧ z.length ≤ sizeLine ∧ Q (.str (revS z)) H1
theorem pe_revS {e : Expr} {te : TE} {k : Nat} {p1 p2 p3 pos : Pos} (he : PE X e te) : PE X (.Subscript e (.Slice none none (some (.UnaryOp .USub (.Constant (.int 1) k p1) p2)) p3) pos) (tRevS te) := by
  refine ⟨fun pins s σ H Q I h => ?_⟩
  refine Subscript_ (thn (he.run pins s σ H _ I h) fun v s1 ⟨x, H1, I1, r1, z, ez, hz, q⟩ => ?_)
  subst ez
  obtain ⟨t, rfl⟩ := r1
  have step : PO X (some (.UnaryOp .USub (.Constant (.int 1) k p1) p2)) (tPart (tUn (rU fun i => .int (-i)) (tC (.int 1)))) := po_some (pe_un un_neg pe_int)
  refine wpAny_Slice (thn (po_none.run pins s1 σ H1 (fun o H2 => o = none ∧ H2 = H1) I1 ⟨rfl, rfl⟩) fun vl s2 ⟨l, H2, I2, pl, el, e2⟩ => ?_)
  subst el e2
  refine thn (po_none.run pins s2 σ H2 (fun o H3 => o = none ∧ H3 = H2) I2 ⟨rfl, rfl⟩) fun vu s3 ⟨u, H3, I3, pu, eu, e3⟩ => ?_
  subst eu e3
  refine thn (step.run pins s3 σ H3 (fun o H4 => o = some (-1) ∧ H4 = H3) I3 ⟨1, rfl, -1, rfl, rfl, rfl⟩) fun vs s4 ⟨o, H4, I4, ps, eo, e4⟩ => ?_
  subst eo e4
  have I5 : Inv X pins σ H4 { s4 with heap := s4.heap.push { cls := .type "slice", data := .fields #[vl, vu, vs] } } := I4.kept (t' := s4.toks) fun b ob q => Heap.get?_push_of_some _ q
  cases pl; cases pu
  obtain ⟨st, rfl, est⟩ := IsPart.raw ps
  show wpAny (model X.prog X.w) X.A (subscriptTail e (.Slice none none (some (.UnaryOp .USub (.Constant (.int 1) k p1) p2)) p3) (.str z t) (.ref s4.heap.objs.size)) (EP X pins σ Q) X.xe { s4 with heap := s4.heap.push { cls := .type "slice", data := .fields #[.none, .none, partValue st] } }
  refine tail_any (ops := [.ref s4.heap.objs.size, .str z t]) (typeIs_str _ z t) (PySem.F.slot_str_getitem.lookup) ?_ (by with_unfolding_all rfl)
  cases st with
  | none => cases est
  | some pr =>
    obtain ⟨i, tu⟩ := pr
    cases est
    refine wpAny_getItem_str_slice (l := none) (u := none) (st := some (-1, tu)) ⟨_, Heap.get?_push_size _ rfl, rfl, rfl⟩ rfl ?_
    have e := rev_text z tu
    unfold Txt.sliceBy at e
    have nc : ¬ ((((some ((-1 : Int), tu)).map (·.1)).getD 1 == 1 && (slicePicked z none none (some (-1, tu))).length == z.length) = true) := Bool.false_ne_true
    rw [if_neg nc] at e
    unfold sliceMade
    rw [if_neg nc, e]
    have hl : (revS z).length = z.length := by unfold revS Str.length; simp
    exact ⟨by rw [hl]; exact hz, .str (revS z), H4, I5.tok _, ⟨_, rfl⟩, q⟩
theorem de_rev {e : Expr} {fe : EvF} {k : Nat} {p1 p2 p3 pos : Pos} (he : PE X e (tF X.K CL fe)) : PE X (.Subscript e (.Slice none none (some (.UnaryOp .USub (.Constant (.int 1) k p1) p2)) p3) pos) (tF X.K CL (fRev fe)) :=
  PEwk (PE.or (pe_revS he.v) (pe_revL he.v)) fun σ H Q ⟨F, m, S, ρ, r, S', rel, env, e, kk⟩ => by
    obtain ⟨⟨d, S1⟩, e1, e⟩ := bind_some e
    obtain ⟨o, e2, e⟩ := map_some e
    cases e
    cases d with
    | str z =>
      obtain ⟨c, e2⟩ := if_some e2
      subst e2
      refine .inl (one_t rel env e1 fun v F1 m1 H1 x1 r1 q1 => ?_)
      cases q1
      exact ⟨z, rfl, c, (then_of x1 kk).d r1 (.str _)⟩
    | lst xs =>
      cases e2
      refine .inr (one_t rel env e1 fun v F1 m1 H1 x1 r1 q1 => ?_)
      obtain ⟨a, vs, rfl, h1, h2⟩ := q1
      exact ⟨a, vs, rfl, SqL.of h1, fun p hp => (then_of x1 kk).lst r1 h2.reverse hp⟩
    | scr xs =>
      cases e2
      refine .inr (one_t rel env e1 fun v F1 m1 H1 x1 r1 q1 => ?_)
      obtain ⟨a, vs, rfl, h1, h2⟩ := RepT.scr r1.sub q1
      exact ⟨a, vs, rfl, h1, fun p hp => (then_of x1 kk).lst r1 h2.reverse hp⟩
    | _ => cases e2

/-! ### sorted(set(t)), t a tuple of ints -/
/-- without a second one -/
def dedI : List Int → List Int
  | [] => []
  | i :: is => if i ∈ is then dedI is else i :: dedI is
def sortSet (d : D) : Option (List D) := match d with
  | .tup ds => (intsOf ds).bind fun ns => if ns.length < 64 then some ((isort leI (dedI ns)).map .int) else none
  | _ => none
def fSortSet (fe : EvF) : EvF := fun ρ S => (eD fe ρ S).bind fun (d, S) => (sortSet d).map fun ds => (.new (.lst ds), S)
theorem mem_dedI {k : Int} : ∀ {ns : List Int}, k ∈ dedI ns ↔ k ∈ ns
  | [] => Iff.rfl
  | i :: is => by
    unfold dedI
    by_cases h : i ∈ is
    · rw [if_pos h, mem_dedI, List.mem_cons]
      exact ⟨.inr, fun z => z.elim (fun e => e ▸ h) id⟩
    · rw [if_neg h, List.mem_cons, List.mem_cons, mem_dedI]
theorem dedI_nodup : ∀ ns : List Int, (dedI ns).Nodup
  | [] => .nil
  | i :: is => by
    unfold dedI
    by_cases h : i ∈ is
    · rw [if_pos h]; exact dedI_nodup is
    · rw [if_neg h]; exact List.nodup_cons.mpr ⟨fun z => h (mem_dedI.mp z), dedI_nodup is⟩
theorem insI_mem {k x : Int} : ∀ {l : List Int}, k ∈ ins leI x l ↔ k = x ∨ k ∈ l
  | [] => by simp [ins]
  | y :: ys => by
    unfold ins
    split
    · simp
    · rw [List.mem_cons, insI_mem, List.mem_cons]
      constructor
      · rintro (h | h | h) <;> simp [h]
      · rintro (h | h | h) <;> simp [h]
theorem isortI_mem {k : Int} : ∀ {l : List Int}, k ∈ isort leI l ↔ k ∈ l
  | [] => Iff.rfl
  | x :: xs => by rw [isort, insI_mem, isortI_mem, List.mem_cons]
theorem ins_lt {x : Int} : ∀ {l : List Int}, l.Pairwise (· < ·) → x ∉ l → (ins leI x l).Pairwise (· < ·)
  | [], _, _ => by simp [ins]
  | y :: ys, h, hx => by
    obtain ⟨h1, h2⟩ := List.pairwise_cons.mp h
    have ne : x ≠ y := fun e => hx (e ▸ List.mem_cons_self)
    unfold ins
    split
    · rename_i hle
      have hle : x ≤ y := of_decide_eq_true hle
      refine List.pairwise_cons.mpr ⟨fun z hz => ?_, h⟩
      rcases List.mem_cons.mp hz with rfl | hz
      · omega
      · have := h1 z hz; omega
    · rename_i hle
      have hle : ¬ x ≤ y := fun e => hle (decide_eq_true e)
      refine List.pairwise_cons.mpr ⟨fun z hz => ?_, ins_lt h2 fun z => hx (List.mem_cons_of_mem _ z)⟩
      rcases insI_mem.mp hz with rfl | hz
      · omega
      · exact h1 z hz
theorem isort_lt : ∀ {l : List Int}, l.Nodup → (isort leI l).Pairwise (· < ·)
  | [], _ => .nil
  | x :: xs, h => by
    obtain ⟨h1, h2⟩ := List.nodup_cons.mp h
    exact ins_lt (isort_lt h2) fun z => h1 (isortI_mem.mp z)
/-- one sorted list without a second one of the same members -/
theorem lt_unique : ∀ {a b : List Int}, a.Pairwise (· < ·) → b.Pairwise (· < ·) → (∀ k, k ∈ a ↔ k ∈ b) → a = b
  | [], [], _, _, _ => rfl
  | [], y :: ys, _, _, h => by have := (h y).mpr List.mem_cons_self; simp at this
  | x :: xs, [], _, _, h => by have := (h x).mp List.mem_cons_self; simp at this
  | x :: xs, y :: ys, ha, hb, h => by
    obtain ⟨a1, a2⟩ := List.pairwise_cons.mp ha
    obtain ⟨b1, b2⟩ := List.pairwise_cons.mp hb
    have e : x = y := by
      have h1 := (h x).mp List.mem_cons_self
      have h2 := (h y).mpr List.mem_cons_self
      rcases List.mem_cons.mp h1 with e | h1
      · exact e
      · rcases List.mem_cons.mp h2 with e | h2
        · exact e.symm
        · have := a1 y h2
          have := b1 x h1
          omega
    subst e
    rw [lt_unique a2 b2 fun k => ?_]
    constructor
    · intro hk
      rcases List.mem_cons.mp ((h k).mp (List.mem_cons_of_mem _ hk)) with e | z
      · have := a1 k hk; omega
      · exact z
    · intro hk
      rcases List.mem_cons.mp ((h k).mpr (List.mem_cons_of_mem _ hk)) with e | z
      · have := b1 k hk; omega
      · exact z
def rSetT (X : Cx) : List V → Hp → VK → Prop := fun xs H Q => ∃ (p : Addr) (ns : List Int), xs = [.ref p] ∧ SqT X.K H p (ns.map V.int) ∧ ns.length < 64 ∧ ∀ a c, H a = none → c ≤ ns.length → Q (.ref a) (upd H a (SetO X.w a (fun j => decide (j ∈ ns)) c))
theorem cr_setT (hc : X.calm = true) : CallR X (.type "set") (rSetT X) := by
  intro pins s σ H xs us Q I r h
  obtain ⟨p, ns, rfl, hs, h64, q⟩ := h
  obtain ⟨its, rv, ht, hz⟩ := I.tuple hs
  rw [Vals.ref1 r]
  refine call_set_tupI ns (I.ok.hd hc) ht (by simpa using ints_of_vals rv) (by unfold scanBound; omega) fun h' tk c R hcn keep => ?_
  have hn : H s.heap.objs.size = none := I.hok.fresh (Nat.le_refl _)
  exact ⟨.ref s.heap.objs.size, _, I.laid (t' := tk) keep (Nat.le_refl _) (setO_new R), rfl, q _ _ hn hcn⟩
theorem de_sortSet {e : Expr} {fe : EvF} {p p2 q pos : Pos} (hc : X.calm = true) (hg : Gl X "sorted") (hm : X.mg "sorted" = none) (hg2 : Gl X "set") (hm2 : X.mg "set" = none) (hb : bootBuiltins "sorted" = some (.builtin "sorted")) (hb2 : bootBuiltins "set" = some (.type "set"))
    (he : PE X e (tF X.K CL fe)) (hs : starEach [e] X.env = [(false, eval e X.env)]) (hs2 : starEach [.Call (.Name "set" p2) [e] [] q] X.env = [(false, eval (.Call (.Name "set" p2) [e] [] q) X.env)]) :
    PE X (.Call (.Name "sorted" p) [.Call (.Name "set" p2) [e] [] q] [] pos) (tF X.K CL (fSortSet fe)) :=
  PEwk (pe_callB (cr_sortedSet hc) hg hm hb (pa_cons (pe_callTy (cr_setT hc) hg2 hm2 hb2 (pa1D he hs) (by decide) (by decide) hs rfl) pa_nil hs2) (by decide) (by decide) hs2 rfl) fun σ H Q ⟨F, m, S, ρ, r, S', rel, env, e, kk⟩ => by
    obtain ⟨⟨d, S1⟩, e1, e⟩ := bind_some e
    obtain ⟨ds, e2, e⟩ := map_some e
    cases e
    cases d with
    | tup xs =>
      obtain ⟨ns, e3, e4⟩ := bind_some e2
      obtain ⟨c, e5⟩ := if_some e4
      subst e5
      refine ⟨F, m, S, ρ, .tup xs, S', rel, env, e1, fun v F1 m1 H1 x1 r1 q1 => ?_⟩
      cases q1 with
      | @tup a vs _ h q =>
        have ev := ints_of e3 q
        subst ev
        refine ⟨a, ns, rfl, sqT_mono r1.sub h, c, fun b n hb hn => ⟨b, _, n, rfl, upd_same, by omega, fun ms p' hms hmem hlen hp' => ?_⟩⟩
        have em : ms = isort leI (dedI ns) := lt_unique hms (isort_lt (dedI_nodup ns)) fun k => by rw [isortI_mem, mem_dedI, hmem]; simp
        subst em
        have xb : Ext F1 m1 H1 F1 m1 (upd H1 b (SetO X.w b (fun j => decide (j ∈ ns)) n)) := Ext.lay hb
        have rb := r1.same (H' := upd H1 b (SetO X.w b (fun j => decide (j ∈ ns)) n)) (upd_sameN hb)
        exact (then_of (x1.trans xb) kk).lst rb (ints_rep _) hp'
    | _ => cases e2
end
end Ev
set_option Elab.async false
set_option linter.all false
set_option maxRecDepth 100000
/-! Own text: a hook with words of one's own besides the library's facts. -/
namespace Ev
open PySem PySem.Spec PyProof.Rows L2

abbrev Frg := PySem.W.Frag
/-- what isinstance asks of the class that the module's name x stands for -/
def icB (x : Str) (K : Frg) : Bool := He.eqO (PySem.W.findIn K (.ref (He.ga K x)) "__class__") (some (some (.builtin "object.__class__"))) &&
  (He.eqO (PySem.W.specialIn K (.builtin "object.__class__") "__get__") (some (some (.builtin "getset_descriptor.__get__"))) &&
  (decide (PySem.W.takesIn K (.builtin "object.__class__") = some true) && decide (PySem.W.mroIn K (He.ga K x) (.type "object") = some true)))
theorem icB_ok {K : Frg} {x : Str} (cl : Cls K (He.ga K x)) (h : icB x K = true) : IcOk K (He.ga K x) := by
  obtain ⟨h1, h⟩ := He.ba h
  obtain ⟨h2, h⟩ := He.ba h
  obtain ⟨h3, h4⟩ := He.ba h
  exact ⟨cl, He.eqO_ok h1, He.eqO_ok h2, of_decide_eq_true h3, of_decide_eq_true h4⟩
def obsX (n : Nat) (fa : List He.Fa) (fn : List He.DefD) (bs : List (Frg → Bool)) (g : Addr → Option Obj) : He.AlD × Bool := (He.obsD fa fn (He.frG g (He.asD g n)), bs.all fun b => b (He.frG g (He.asD g n)))
def hookX (n : Nat) (fa : List He.Fa) (fn : List He.DefD) (bs : List (Frg → Bool)) : PySem.W.Hook where
  α := He.AlD × Bool
  obs := fun s => obsX n fa fn bs s.heap.get?
  val := fun _ => (He.valD fn, true)
  says := fun _ h => ∃ K : Frg, K.In h ∧ He.SaysD fa fn K ∧ ∀ b ∈ bs, b K = true
  of := fun _ s e => ⟨He.frG s.heap.get? (He.asD s.heap.get? n), He.frG_in, congrArg Prod.fst e, List.all_eq_true.mp (congrArg Prod.snd e)⟩
  keeps := fun _ _ _ ⟨K, h, c⟩ k => ⟨K, PySem.W.Frag.In.keeps h k, c⟩
theorem obsX_eq {n : Nat} {fa : List He.Fa} {fn : List He.DefD} {bs : List (Frg → Bool)} {g : Addr → Option Obj} {s : Shared} (h : ∀ a, g a = s.heap.get? a) : obsX n fa fn bs g = (hookX n fa fn bs).obs s := by
  have e : g = s.heap.get? := funext h
  rw [e] <;> rfl
end Ev
set_option Elab.async false
set_option linter.all false
set_option maxRecDepth 100000
/-! Own text: the rules in a context whose names and scope are known; what generated derivations use. -/
namespace Ev
open PySem PySem.Spec PyProof.Rows L2

structure Cok (P : Program) (w : World) (K : Frg) (mg : Str → Option Value) (base : Heap) (k : Nat) (N : List Str) (sc : Scope) (fb : Str → Bool) (X : Cx) : Prop where
  hP : X.prog = P
  hw : X.w = w
  hK : X.K = K
  hmg : X.mg = mg
  hbase : X.base = base
  hN : X.N = N
  nd : N.Nodup
  hsc : X.env.scope = sc
  calm : X.calm = true
  xe : X.xe = fun _ _ => False
  room : Room k X.A
  fn : ∀ x, fb x = true → X.fn x = true
structure FOk (P : Program) (w : World) (K : Frg) (mg : Str → Option Value) (base : Heap) (CL : Str → Option Addr) (k : Nat) (x : Str) (n : Nat) (fn : FnF) : Prop where
  ex : ∃ f fd ps, ps.length = n ∧ mg x = some (.ref f) ∧ PySem.W.keepIn K (.ref f) = true ∧ FnOk P w K mg base CX0 k f fd ps (spF K CL n fn) ∧ Binds K fd ps []
structure FOkK (P : Program) (w : World) (K : Frg) (mg : Str → Option Value) (base : Heap) (CL : Str → Option Addr) (k : Nat) (x : Str) (n : Nat) (fn : FnF) (ks : List Str) (perm : List Nat) : Prop where
  ex : ∃ f fd ps, ps.length = n ∧ mg x = some (.ref f) ∧ PySem.W.keepIn K (.ref f) = true ∧ FnOk P w K mg base CX0 k f fd ps (spF K CL n fn) ∧
    ∀ (s : Shared) (ws : List Value), K.In s.heap → ws.length = n → BindsTo s fd ⟨[], ks.zip ws⟩ (ps.zip (permL perm ws))
structure MOk (P : Program) (w : World) (K : Frg) (mg : Str → Option Value) (base : Heap) (CL : Str → Option Addr) (k : Nat) (x c : Str) (n : Nat) (init : FnF) : Prop where
  ex : ∃ C f fd ps, ps.length = n + 1 ∧ CL c = some C ∧ mg x = some (.ref C) ∧ Mk K C f ∧ FnOk P w K mg base CX0 k f fd ps (spF K CL (n + 1) init) ∧ Binds K fd ps []
structure LOk (P : Program) (w : World) (K : Frg) (mg : Str → Option Value) (base : Heap) (CL : Str → Option Addr) (k : Nat) (c : Str) (fn : FnF) : Prop where
  ex : ∃ C f fd ps, ps.length = 1 ∧ CL c = some C ∧ Cls K C ∧ PySem.W.findIn K (.ref C) "__len__" = some (some (.ref f)) ∧ PySem.W.isFn K (.ref f) = true ∧ FnOk P w K mg base CX0 k f fd ps (spF K CL 1 fn) ∧ Binds K fd ps []
/-- a class of the text, its name, its fields -/
structure COk (K : Frg) (mg : Str → Option Value) (CL : Str → Option Addr) (c : Str) (fields : List Str) : Prop where
  ex : ∃ C, CL c = some C ∧ mg c = some (.ref C) ∧ IcOk K C ∧ ∀ f ∈ fields, NoAttr K C f
/-- what the text's names do not hide -/
def Fre (mg : Str → Option Value) (l : List Str) : Prop := ∀ x ∈ l, mg x = none
def memB (x : Str) (l : List Str) : Bool := decide (x ∈ l)

def varB (N : List Str) (sc : Scope) (i : Nat) (x : Str) : Bool := decide (N[i]? = some x) && (match sc.names.lookup x with
  | some .local => true | some .cell => true | some .free => true | _ => false) && !(x == ("__debug__" : Str)) && !(x == ("__classdict__" : Str))
def gloB (sc : Scope) (x : Str) : Bool := decide (sc.names.lookup x = some .globalImplicit) && !(x == ("__debug__" : Str))
/-- a name that may be stored -/
def putB (N : List Str) (sc : Scope) (fb : Str → Bool) (i : Nat) (x : Str) : Bool := decide (N[i]? = some x) && (match sc.names.lookup x with
  | some .local => true | some .cell => fb x | _ => false)
def locB (N : List Str) (sc : Scope) (i : Nat) (x : Str) : Bool := decide (N[i]? = some x) && decide (sc.names.lookup x = some .local)

section
variable {P : Program} {w : World} {K : Frg} {mg : Str → Option Value} {base : Heap} {CL : Str → Option Addr} {k : Nat} {N : List Str} {sc : Scope} {fb : Str → Bool} {X : Cx}
def fbB (scope : Scope) : Str → Bool := fun x => scope.names.lookup x == some .cell
theorem Cok.blk (h : Cok P w K mg base k N sc fb X) (s : Shared) (H : Hp) (scope : Scope) (C : Addr) (cl : List (Str × Addr)) (fp : List Addr) : Cok P w K mg base k N (relS scope sc) (fbB scope) (X.blk s H scope (compEnvC scope cl C X.env) fp) :=
  ⟨h.hP, h.hw, h.hK, h.hmg, h.hbase, h.hN, h.nd, by rw [← h.hsc] <;> rfl, h.calm, rfl, h.room, fun x e => e⟩
theorem Cok.gl (h : Cok P w K mg base k N sc fb X) {x : Str} (e : gloB sc x = true) : Gl X x := by
  unfold gloB at e
  rw [Bool.and_eq_true] at e
  show X.env.scope.names.lookup x = _
  rw [h.hsc]
  exact of_decide_eq_true e.1
theorem gloB_d {x : Str} (e : gloB sc x = true) : (x == ("__debug__" : Str)) = false := by
  unfold gloB at e
  rw [Bool.and_eq_true] at e
  simpa using e.2
theorem Cok.un (h : Cok P w K mg base k N sc fb X) : X.A.units + 65 < cLine := by have := h.room.un; omega
theorem r_var (h : Cok P w K mg base k N sc fb X) {i : Nat} {x : Str} {pos : Pos} (e : varB N sc i x = true) : PE X (.Name x pos) (tF K CL (fVar i)) := by
  unfold varB at e
  simp only [Bool.and_eq_true, Bool.not_eq_true'] at e
  obtain ⟨⟨⟨e1, e2⟩, e3⟩, e4⟩ := e
  rw [← h.hK]
  refine de_var (pe_var (by rw [h.hN]; exact of_decide_eq_true e1) ?_ e3 e4)
  unfold Vis
  rw [h.hsc]
  split at e2
  · rename_i q; exact .inl q
  · rename_i q; exact .inr (.inl q)
  · rename_i q; exact .inr (.inr q)
  · cases e2
theorem r_int {i j pos} : PE X (.Constant (.int i) j pos) (tF X.K CL (fCst (.int i))) := de_cst pe_int fun _ => .int i
theorem r_str {i j pos} : PE X (.Constant (.str i) j pos) (tF X.K CL (fCst (.str i))) := de_cst pe_str fun _ => .str i
theorem r_bl {i j pos} : PE X (.Constant (.bool i) j pos) (tF X.K CL (fCst (.bl i))) := de_cst pe_bl fun _ => .bl i
theorem r_non {j pos} : PE X (.Constant .none j pos) (tF X.K CL (fCst .non)) := de_cst pe_non fun _ => .non
theorem k_int (h : Cok P w K mg base k N sc fb X) {i j pos} : PE X (.Constant (.int i) j pos) (tF K CL (fCst (.int i))) := h.hK ▸ r_int
theorem k_str (h : Cok P w K mg base k N sc fb X) {i j pos} : PE X (.Constant (.str i) j pos) (tF K CL (fCst (.str i))) := h.hK ▸ r_str
theorem k_bl (h : Cok P w K mg base k N sc fb X) {i j pos} : PE X (.Constant (.bool i) j pos) (tF K CL (fCst (.bl i))) := h.hK ▸ r_bl
theorem k_non (h : Cok P w K mg base k N sc fb X) {j pos} : PE X (.Constant .none j pos) (tF K CL (fCst .non)) := h.hK ▸ r_non
/-- constants of the module -/
theorem k_gint (h : Cok P w K mg base k N sc fb X) {x : Str} {i : Int} {pos : Pos} (e : gloB sc x = true) (hm : ∃ t, mg x = some (.int i t)) : PE X (.Name x pos) (tF K CL (fCst (.int i))) := by
  obtain ⟨t, hm⟩ := hm
  rw [← h.hK]
  exact de_glob (v := .int i) (h.gl e) (by rw [h.hmg]; exact hm) ⟨t, rfl⟩ (fun _ => .int i) (gloB_d e)
theorem k_gstr (h : Cok P w K mg base k N sc fb X) {x z : Str} {pos : Pos} (e : gloB sc x = true) (hm : ∃ t, mg x = some (.str z t)) : PE X (.Name x pos) (tF K CL (fCst (.str z))) := by
  obtain ⟨t, hm⟩ := hm
  rw [← h.hK]
  exact de_glob (v := .str z) (h.gl e) (by rw [h.hmg]; exact hm) ⟨t, rfl⟩ (fun _ => .str z) (gloB_d e)
section
variable (h : Cok P w K mg base k N sc fb X) {a b c e : Expr} {es : List Expr} {fa fb' fc fe : EvF} {fs : List EvF} {as : List (Bool × EvF)} {p p2 pos : Pos}
include h
theorem k_bop (o : Bop) (ha : PE X a (tF K CL fa)) (hb : PE X b (tF K CL fb')) : PE X (.BinOp a (bopOf o) b pos) (tF K CL (fBop o fa fb')) := by
  obtain ⟨rfl, rfl, rfl, rfl, rfl, rfl, hnd, rfl, hc, hx, hr, hf⟩ := h
  exact de_bop o ha hb
theorem k_cmp (o : Cop) (ha : PE X a (tF K CL fa)) (hb : PE X b (tF K CL fb')) (hm : behindInMarks (copOf o) b = false) : PE X (.Compare a [copOf o] [b] pos) (tF K CL (fCmp o fa fb')) := by
  have hu := h.un
  obtain ⟨rfl, rfl, rfl, rfl, rfl, rfl, hnd, rfl, hc, hx, hr, hf⟩ := h
  exact de_cmp hu o ha hb hm
theorem k_chain (o o' : Cop) (ha : PE X a (tF K CL fa)) (hb : PE X b (tF K CL fb')) (hc' : PE X c (tF K CL fc)) (hm : lastMarks [copOf o, copOf o'] [b, c] = false) :
    PE X (.Compare a [copOf o, copOf o'] [b, c] pos) (tF K CL (fChain o o' fa fb' fc)) := by
  have hu := h.un
  obtain ⟨rfl, rfl, rfl, rfl, rfl, rfl, hnd, rfl, hc, hx, hr, hf⟩ := h
  exact de_chain hu o o' ha hb hc' hm
/-! tests -/
theorem t_val (ha : PE X a (tF K CL fa)) (he : ∀ whole, isTrue a X.env whole = (do let v ← whole; standAt a.pos; holding [v] (truthy v))) : PT X a (tT K CL fa) := by
  obtain ⟨rfl, rfl, rfl, rfl, rfl, rfl, hnd, rfl, hc, hx, hr, hf⟩ := h
  exact dt_val ha he
theorem t_cmp (o : Cop) (ha : PE X a (tF K CL fa)) (hb : PE X b (tF K CL fb')) (hm : behindInMarks (copOf o) b = false) : PT X (.Compare a [copOf o] [b] pos) (tT K CL (fCmp o fa fb')) := by
  have hu := h.un
  obtain ⟨rfl, rfl, rfl, rfl, rfl, rfl, hnd, rfl, hc, hx, hr, hf⟩ := h
  exact dt_cmp hu o ha hb hm
theorem t_chain (o o' : Cop) (ha : PE X a (tF K CL fa)) (hb : PE X b (tF K CL fb')) (hc' : PE X c (tF K CL fc)) (hm : lastMarks [copOf o, copOf o'] [b, c] = false) :
    PT X (.Compare a [copOf o, copOf o'] [b, c] pos) (tT K CL (fChain o o' fa fb' fc)) := by
  have hu := h.un
  obtain ⟨rfl, rfl, rfl, rfl, rfl, rfl, hnd, rfl, hc, hx, hr, hf⟩ := h
  exact dt_chain hu o o' ha hb hc' hm
theorem w_and1 (ha : PT X a (tT K CL fa)) : PW X (.BoolOp .And [a] pos) (tT K CL fa) := by
  obtain ⟨rfl, rfl, rfl, rfl, rfl, rfl, hnd, rfl, hc, hx, hr, hf⟩ := h
  exact dw_and1 ha
theorem w_or1 (ha : PT X a (tT K CL fa)) : PW X (.BoolOp .Or [a] pos) (tT K CL fa) := by
  obtain ⟨rfl, rfl, rfl, rfl, rfl, rfl, hnd, rfl, hc, hx, hr, hf⟩ := h
  exact dw_or1 ha
theorem w_and (ha : PT X a (tT K CL fa)) (hb : PW X (.BoolOp .And (b :: es) pos) (tT K CL fb')) : PW X (.BoolOp .And (a :: b :: es) pos) (tT K CL (fAnd fa fb')) := by
  obtain ⟨rfl, rfl, rfl, rfl, rfl, rfl, hnd, rfl, hc, hx, hr, hf⟩ := h
  exact dw_and ha hb
theorem w_or (ha : PT X a (tT K CL fa)) (hb : PW X (.BoolOp .Or (b :: es) pos) (tT K CL fb')) : PW X (.BoolOp .Or (a :: b :: es) pos) (tT K CL (fOr fa fb')) := by
  obtain ⟨rfl, rfl, rfl, rfl, rfl, rfl, hnd, rfl, hc, hx, hr, hf⟩ := h
  exact dw_or ha hb
theorem t_not (ha : PT X a (tT K CL fa)) : PT X (.UnaryOp .Not a pos) (tT K CL (fNot fa)) := by
  obtain ⟨rfl, rfl, rfl, rfl, rfl, rfl, hnd, rfl, hc, hx, hr, hf⟩ := h
  exact dt_not ha
theorem t_isN (neg : Bool) {j : Nat} (ha : PE X a (tF K CL fa)) : PT X (.Compare a [if neg then .IsNot else .Is] [.Constant .none j p] pos) (tT K CL (fIsN neg fa)) := by
  obtain ⟨rfl, rfl, rfl, rfl, rfl, rfl, hnd, rfl, hc, hx, hr, hf⟩ := h
  exact dt_isN neg ha
theorem k_isN (neg : Bool) {j : Nat} (ha : PE X a (tF K CL fa)) : PE X (.Compare a [if neg then .IsNot else .Is] [.Constant .none j p] pos) (tF K CL (fIsN neg fa)) := by
  obtain ⟨rfl, rfl, rfl, rfl, rfl, rfl, hnd, rfl, hc, hx, hr, hf⟩ := h
  exact de_isN neg ha
/-! values -/
theorem k_and (ha : PE X a (tF K CL fa)) (hb : PE X (.BoolOp .And (b :: es) pos) (tF K CL fb')) : PE X (.BoolOp .And (a :: b :: es) pos) (tF K CL (fAnd fa fb')) := by
  obtain ⟨rfl, rfl, rfl, rfl, rfl, rfl, hnd, rfl, hc, hx, hr, hf⟩ := h
  exact de_and ha hb
theorem k_or (ha : PE X a (tF K CL fa)) (hb : PE X (.BoolOp .Or (b :: es) pos) (tF K CL fb')) : PE X (.BoolOp .Or (a :: b :: es) pos) (tF K CL (fOr fa fb')) := by
  obtain ⟨rfl, rfl, rfl, rfl, rfl, rfl, hnd, rfl, hc, hx, hr, hf⟩ := h
  exact de_or ha hb
theorem k_one {op} (ha : PE X a (tF K CL fa)) : PE X (.BoolOp op [a] pos) (tF K CL fa) := pe_one ha
theorem k_not (ha : PT X a (tT K CL fa)) (hv : PE X a (tF K CL fa)) : PE X (.UnaryOp .Not a pos) (tF K CL (fNot fa)) := by
  obtain ⟨rfl, rfl, rfl, rfl, rfl, rfl, hnd, rfl, hc, hx, hr, hf⟩ := h
  exact de_not ha hv
theorem k_neg (ha : PE X a (tF K CL fa)) : PE X (.UnaryOp .USub a pos) (tF K CL (fNeg fa)) := by
  obtain ⟨rfl, rfl, rfl, rfl, rfl, rfl, hnd, rfl, hc, hx, hr, hf⟩ := h
  exact de_neg ha
theorem k_ite (hc' : PT X c (tT K CL fc)) (ha : PE X a (tF K CL fa)) (hb : PE X b (tF K CL fb')) : PE X (.IfExp c a b pos) (tF K CL (fIte fc fa fb')) := by
  obtain ⟨rfl, rfl, rfl, rfl, rfl, rfl, hnd, rfl, hc, hx, hr, hf⟩ := h
  exact de_ite hc' ha hb
theorem a_nil : PA X [] (tDs K CL []) := by
  obtain ⟨rfl, rfl, rfl, rfl, rfl, rfl, hnd, rfl, hc, hx, hr, hf⟩ := h
  exact da_nil
theorem a_cons (ha : PE X a (tF K CL fa)) (hr' : PA X es (tDs K CL fs)) (hs : starEach (a :: es) X.env = (false, eval a X.env) :: starEach es X.env) : PA X (a :: es) (tDs K CL (fa :: fs)) := by
  obtain ⟨rfl, rfl, rfl, rfl, rfl, rfl, hnd, rfl, hc, hx, hr, hf⟩ := h
  exact da_cons ha hr' hs
theorem k_tup {x1} (ha : PA X es (tDs K CL fs)) : PE X (.Tuple es x1 pos) (tF K CL (fTup fs)) := by
  obtain ⟨rfl, rfl, rfl, rfl, rfl, rfl, hnd, rfl, hc, hx, hr, hf⟩ := h
  exact de_tup ha
theorem k_lst (ha : PA X es (tDs K CL fs)) : PE X (.List es pos) (tF K CL (fLst fs)) := by
  obtain ⟨rfl, rfl, rfl, rfl, rfl, rfl, hnd, rfl, hc, hx, hr, hf⟩ := h
  exact de_lst ha
theorem k_idx (ha : PE X a (tF K CL fa)) (hb : PE X b (tF K CL fb')) (hs : PlainIx b) : PE X (.Subscript a b pos) (tF K CL (fIdx fa fb')) := by
  obtain ⟨rfl, rfl, rfl, rfl, rfl, rfl, hnd, rfl, hc, hx, hr, hf⟩ := h
  exact de_idx ha hb hs
theorem o_none : PO X none (tPo K CL none) := by
  obtain ⟨rfl, rfl, rfl, rfl, rfl, rfl, hnd, rfl, hc, hx, hr, hf⟩ := h
  exact dp_none
theorem o_some (ha : PE X a (tF K CL fa)) : PO X (some a) (tPo K CL (some fa)) := by
  obtain ⟨rfl, rfl, rfl, rfl, rfl, rfl, hnd, rfl, hc, hx, hr, hf⟩ := h
  exact dp_some ha
theorem k_slc {lo hi : Option Expr} {fl fh : Option EvF} (ha : PE X a (tF K CL fa)) (hl : PO X lo (tPo K CL fl)) (hh : PO X hi (tPo K CL fh)) : PE X (.Subscript a (.Slice lo hi none p2) pos) (tF K CL (fSlc fa fl fh)) := by
  obtain ⟨rfl, rfl, rfl, rfl, rfl, rfl, hnd, rfl, hc, hx, hr, hf⟩ := h
  exact de_slc ha hl hh
theorem k_rev {j : Nat} {p1 p3 : Pos} (ha : PE X a (tF K CL fa)) : PE X (.Subscript a (.Slice none none (some (.UnaryOp .USub (.Constant (.int 1) j p1) p2)) p3) pos) (tF K CL (fRev fa)) := by
  obtain ⟨rfl, rfl, rfl, rfl, rfl, rfl, hnd, rfl, hc, hx, hr, hf⟩ := h
  exact de_rev ha
/-! calls -/
theorem v_nil : PA X [] (tAs K CL []) := by
  obtain ⟨rfl, rfl, rfl, rfl, rfl, rfl, hnd, rfl, hc, hx, hr, hf⟩ := h
  exact das_nil
theorem v_cons (c : Bool) (ha : PE X a (tF K CL fa)) (hr' : PA X es (tAs K CL as)) (hs : starEach (a :: es) X.env = (false, eval a X.env) :: starEach es X.env) : PA X (a :: es) (tAs K CL ((c, fa) :: as)) := by
  obtain ⟨rfl, rfl, rfl, rfl, rfl, rfl, hnd, rfl, hc, hx, hr, hf⟩ := h
  exact das_cons c ha hr' hs
theorem k_call {x : Str} {fn : FnF} {n j : Nat} (d : FOk P w K mg base CL j x n fn) (hj : j ≤ k) (e1 : gloB sc x = true) (ha : PA X (e :: es) (tAs K CL as)) (hn : as.length = n)
    (he : starEach (e :: es) X.env = (false, eval e X.env) :: starEach es X.env) (hpl : (backTo pos (starEach es X.env)).any (·.1) = false) : PE X (.Call (.Name x p) (e :: es) [] pos) (tF K CL (fCall fn as)) := by
  have g := h.gl e1
  obtain ⟨rfl, rfl, rfl, rfl, rfl, rfl, hnd, rfl, hc, hx, hr, hf⟩ := h
  exact de_call ⟨d.ex⟩ (hr.mono hj) g ha hn he hpl (gloB_d e1)
theorem kw_nil : PK X [] (tAs K CL []) := by
  obtain ⟨rfl, rfl, rfl, rfl, rfl, rfl, hnd, rfl, hc, hx, hr, hf⟩ := h
  exact dks_nil
theorem kw_cons {kws : List Keyword} {nm : Option Str} (c : Bool) (ha : PE X a (tF K CL fa)) (hr' : PK X kws (tAs K CL as)) : PK X (⟨nm, a, p⟩ :: kws) (tAs K CL ((c, fa) :: as)) := by
  obtain ⟨rfl, rfl, rfl, rfl, rfl, rfl, hnd, rfl, hc, hx, hr, hf⟩ := h
  exact dks_cons c ha hr'
theorem k_callK {x : Str} {kws : List Keyword} {ks : List Str} {perm : List Nat} {fn : FnF} {n j : Nat} (d : FOkK P w K mg base CL j x n fn ks perm) (hj : j ≤ k) (e1 : gloB sc x = true) (ha : PK X kws (tAs K CL as)) (hn : as.length = n)
    (hpn : (permL perm as).length = n) (hall : (backToKw pos (keywordEach kws X.env)).all (·.1.isSome) = true) (hks : (backToKw pos (keywordEach kws X.env)).filterMap (·.1) = ks)
    (hpl : ((backTo pos (starEach [] X.env)).any (·.1) || (backToKw pos (keywordEach kws X.env)).any (·.1.isNone)) = false) : PE X (.Call (.Name x p) [] kws pos) (tF K CL (fCallK fn perm as)) := by
  have g := h.gl e1
  obtain ⟨rfl, rfl, rfl, rfl, rfl, rfl, hnd, rfl, hc, hx, hr, hf⟩ := h
  exact de_callK ⟨d.ex⟩ (hr.mono hj) g ha hn hpn hall hks hpl (gloB_d e1)
theorem k_make {x c : Str} {init : FnF} {n j : Nat} (d : MOk P w K mg base CL j x c n init) (hj : j + 1 ≤ k) (e1 : gloB sc x = true) (ha : PA X (e :: es) (tAs K CL as)) (hn : as.length = n)
    (he : starEach (e :: es) X.env = (false, eval e X.env) :: starEach es X.env) (hpl : (backTo pos (starEach es X.env)).any (·.1) = false) : PE X (.Call (.Name x p) (e :: es) [] pos) (tF K CL (fCall (mkF c init) as)) := by
  have g := h.gl e1
  obtain ⟨rfl, rfl, rfl, rfl, rfl, rfl, hnd, rfl, hc, hx, hr, hf⟩ := h
  exact de_make ⟨d.ex⟩ (hr.mono hj) g ha hn he hpl (gloB_d e1)
theorem k_biB {bi : Bi} {id : String} {x : Str} {l : List Str} (fr : Fre mg l) (hid : biV bi = .builtin id) (e1 : gloB sc x = true) (e2 : memB x l = true) (hv : bootBuiltins x = some (.builtin id)) (ha : PA X (e :: es) (tAs K CL ((fa :: fs).map fun e => (false, e))))
    (hn : x ≠ "__name__") (he : starEach (e :: es) X.env = (false, eval e X.env) :: starEach es X.env) (hpl : (backTo pos (starEach es X.env)).any (·.1) = false) : PE X (.Call (.Name x p) (e :: es) [] pos) (tF K CL (fBi bi (fa :: fs))) := by
  have g := h.gl e1
  obtain ⟨rfl, rfl, rfl, rfl, rfl, rfl, hnd, rfl, hc, hx, hr, hf⟩ := h
  exact de_biB hc hid g (fr x (of_decide_eq_true e2)) hv ha hn (gloB_d e1) he hpl
theorem k_biT {bi : Bi} {T : String} {x : Str} {l : List Str} (fr : Fre mg l) (hid : biV bi = .type T) (e1 : gloB sc x = true) (e2 : memB x l = true) (hv : bootBuiltins x = some (.type T)) (ha : PA X (e :: es) (tAs K CL ((fa :: fs).map fun e => (false, e))))
    (hn : x ≠ "__name__") (he : starEach (e :: es) X.env = (false, eval e X.env) :: starEach es X.env) (hpl : (backTo pos (starEach es X.env)).any (·.1) = false) : PE X (.Call (.Name x p) (e :: es) [] pos) (tF K CL (fBi bi (fa :: fs))) := by
  have g := h.gl e1
  obtain ⟨rfl, rfl, rfl, rfl, rfl, rfl, hnd, rfl, hc, hx, hr, hf⟩ := h
  exact de_biT hc hid g (fr x (of_decide_eq_true e2)) hv ha hn (gloB_d e1) he hpl
theorem k_lenO {c : Str} {fn : FnF} {j : Nat} {l : List Str} (fr : Fre mg l) (d : LOk P w K mg base CL j c fn) (hj : j + 1 ≤ k) (e1 : gloB sc "len" = true) (e2 : memB "len" l = true) (ha : PE X e (tF K CL fe)) (hs : starEach [e] X.env = [(false, eval e X.env)]) :
    PE X (.Call (.Name "len" p) [e] [] pos) (tF K CL (fLenO c fn fe)) := by
  have g := h.gl e1
  obtain ⟨rfl, rfl, rfl, rfl, rfl, rfl, hnd, rfl, hc, hx, hr, hf⟩ := h
  exact de_lenO ⟨d.ex⟩ (hr.mono hj) g (fr _ (of_decide_eq_true e2)) ha hs
theorem k_isi {T : Str} {Tn : String} {tab : List (String × Bool)} {l : List Str} (fr : Fre mg l) (e1 : gloB sc "isinstance" = true) (e2 : memB "isinstance" l = true) (e3 : gloB sc T = true) (e4 : memB T l = true) (hv : bootBuiltins T = some (.type Tn)) (hn : T ≠ "__name__") (ha : PE X e (tF K CL fe))
    (htab : ∀ y ∈ tab, kitB y.1 Tn = some y.2) (hs : starEach [e, .Name T p2] X.env = (false, eval e X.env) :: starEach [.Name T p2] X.env) (hs2 : starEach [.Name T p2] X.env = [(false, eval (.Name T p2) X.env)]) :
    PE X (.Call (.Name "isinstance" p) [e, .Name T p2] [] pos) (tF K CL (fIsi tab fe)) := by
  have g := h.gl e1
  have g2 := h.gl e3
  obtain ⟨rfl, rfl, rfl, rfl, rfl, rfl, hnd, rfl, hc, hx, hr, hf⟩ := h
  exact de_isi g (fr _ (of_decide_eq_true e2)) ha (pe_bltn (v := .ty Tn) g2 (fr T (of_decide_eq_true e4)) hv rfl hn (gloB_d e3)) htab hs hs2 boot_isinstance
theorem k_isiC {c : Str} {fields l : List Str} (fr : Fre mg l) (d : COk K mg CL c fields) (e1 : gloB sc "isinstance" = true) (e2 : memB "isinstance" l = true) (e3 : gloB sc c = true) (ha : PE X e (tF K CL fe))
    (hs : starEach [e, .Name c p2] X.env = (false, eval e X.env) :: starEach [.Name c p2] X.env) (hs2 : starEach [.Name c p2] X.env = [(false, eval (.Name c p2) X.env)]) :
    PE X (.Call (.Name "isinstance" p) [e, .Name c p2] [] pos) (tF K CL (fIsiC c fe)) := by
  have g := h.gl e1
  have g2 := h.gl e3
  obtain ⟨rfl, rfl, rfl, rfl, rfl, rfl, hnd, rfl, hc, hx, hr, hf⟩ := h
  obtain ⟨C, hC, hm, ic, _⟩ := d.ex
  exact de_isiC hC ic g (fr _ (of_decide_eq_true e2)) ha (pe_glob (v := .ref C) g2 hm rfl (gloB_d e3)) hs hs2 boot_isinstance
theorem k_fld {c f : Str} {fields : List Str} (d : COk K mg CL c fields) (e1 : memB f fields = true) (ha : PE X a (tF K CL fa)) (hb : attributeBase a f X.env (eval a X.env) = eval a X.env) : PE X (.Attribute a f pos) (tF K CL (fFldC c fa f)) := by
  obtain ⟨rfl, rfl, rfl, rfl, rfl, rfl, hnd, rfl, hc, hx, hr, hf⟩ := h
  obtain ⟨C, hC, hm, ic, na⟩ := d.ex
  exact de_fld hC ic.cl (na f (of_decide_eq_true e1)) ha hb
theorem k_sortSet {q : Pos} {l : List Str} (fr : Fre mg l) (e1 : gloB sc "sorted" = true) (e2 : memB "sorted" l = true) (e3 : gloB sc "set" = true) (e4 : memB "set" l = true) (hb : bootBuiltins "sorted" = some (.builtin "sorted")) (hb2 : bootBuiltins "set" = some (.type "set"))
    (he : PE X e (tF K CL fe)) (hs : starEach [e] X.env = [(false, eval e X.env)]) (hs2 : starEach [.Call (.Name "set" p2) [e] [] q] X.env = [(false, eval (.Call (.Name "set" p2) [e] [] q) X.env)]) :
    PE X (.Call (.Name "sorted" p) [.Call (.Name "set" p2) [e] [] q] [] pos) (tF K CL (fSortSet fe)) := by
  have g := h.gl e1
  have g2 := h.gl e3
  obtain ⟨rfl, rfl, rfl, rfl, rfl, rfl, hnd, rfl, hc, hx, hr, hf⟩ := h
  exact de_sortSet hc g (fr _ (of_decide_eq_true e2)) g2 (fr _ (of_decide_eq_true e4)) hb hb2 he hs hs2
end
end
end Ev
set_option Elab.async false
set_option linter.all false
set_option maxRecDepth 100000
/-! Own text: the rules in a known context, the rest: methods, targets, loops, comprehensions, statements, defs. -/
namespace Ev
open PySem PySem.Spec PyProof.Rows L2

section
variable {P : Program} {w : World} {K : Frg} {mg : Str → Option Value} {base : Heap} {CL : Str → Option Addr} {k : Nat} {N : List Str} {sc : Scope} {fb : Str → Bool} {X : Cx}
variable (h : Cok P w K mg base k N sc fb X) {a b c e o : Expr} {es : List Expr} {fa fb' fc fe fo : EvF} {fs : List EvF} {as : List (Bool × EvF)} {p p2 apos pos : Pos}
include h
/-! ### methods -/
section
variable (hb : ∀ name, attributeBase o name X.env (eval o X.env) = eval o X.env) (hl : (apos.endLine == pos.line) = true) (hs : starEach [e] X.env = [(false, eval e X.env)])
  (hw : ((backTo pos (starEach [e] X.env)).all (fun x => !x.1) && (backToKw pos (keywordEach [] X.env)).all (fun x => x.1.isSome) && decide (([e] : List Expr).length + ([] : List Keyword).length + (if ([] : List Keyword).isEmpty then 0 else 1) < 30)) = true)
  (ho : PE X o (tF K CL fo)) (he : PE X e (tF K CL fe))
include hb hl hs hw ho he
theorem m_append : PE X (.Call (.Attribute o "append" apos) [e] [] pos) (tF K CL (fAppend fo fe)) := by
  obtain ⟨rfl, rfl, rfl, rfl, rfl, rfl, hnd, rfl, hc, hx, hr, hf⟩ := h
  exact de_append hb hl hs hw ho he
theorem m_popAt : PE X (.Call (.Attribute o "pop" apos) [e] [] pos) (tF K CL (fPopAt fo fe)) := by
  obtain ⟨rfl, rfl, rfl, rfl, rfl, rfl, hnd, rfl, hc, hx, hr, hf⟩ := h
  exact de_popAt hb hl hs hw ho he
theorem m_index : PE X (.Call (.Attribute o "index" apos) [e] [] pos) (tF K CL (fLm .index fo fe)) := by
  obtain ⟨rfl, rfl, rfl, rfl, rfl, rfl, hnd, rfl, hc, hx, hr, hf⟩ := h
  exact de_index hb hl hs hw ho he
theorem m_lcount : PE X (.Call (.Attribute o "count" apos) [e] [] pos) (tF K CL (fLm .count fo fe)) := by
  obtain ⟨rfl, rfl, rfl, rfl, rfl, rfl, hnd, rfl, hc, hx, hr, hf⟩ := h
  exact de_lcount hb hl hs hw ho he
theorem m_join : PE X (.Call (.Attribute o "join" apos) [e] [] pos) (tF K CL (fJoin fo fe)) := by
  obtain ⟨rfl, rfl, rfl, rfl, rfl, rfl, hnd, rfl, hc, hx, hr, hf⟩ := h
  exact de_join (hb _) hl hs ho he
end
/-! ### targets -/
theorem g_nm {i : Nat} {x : Str} (e1 : putB N sc fb i x = true) : PG X (.Name x pos) (tG K CL (gNm i) [i]) := by
  unfold putB at e1
  rw [Bool.and_eq_true] at e1
  obtain ⟨e1, e2⟩ := e1
  have e1 := of_decide_eq_true e1
  obtain ⟨rfl, rfl, rfl, rfl, rfl, rfl, hnd, rfl, hc, hx, hr, hf⟩ := h
  refine dg_nm ?_
  split at e2
  · rename_i q; exact pg_name hnd e1 (.inl q) (.inr q)
  · rename_i q; exact pg_name hnd e1 (.inr q) (.inl (hf x e2))
  · cases e2
theorem gs_nil : PGs X [] (tGs K CL [] []) := by
  obtain ⟨rfl, rfl, rfl, rfl, rfl, rfl, hnd, rfl, hc, hx, hr, hf⟩ := h
  exact dgs_nil
theorem gs_cons {t : TgF} {ts : List TgF} {is js : List Nat} (h1 : PG X e (tG K CL t is)) (h2 : PGs X es (tGs K CL ts js)) (hs : (assignEach (e :: es) X.env).map (·.2) = assign e X.env :: (assignEach es X.env).map (·.2)) : PGs X (e :: es) (tGs K CL (t :: ts) (is ++ js)) := by
  obtain ⟨rfl, rfl, rfl, rfl, rfl, rfl, hnd, rfl, hc, hx, hr, hf⟩ := h
  exact dgs_cons h1 h2 hs
theorem g_tp {j : Nat} {ts : List TgF} {is : List Nat} (h1 : PGs X es (tGs K CL ts is)) (hn : (assignEach es X.env).length = ts.length) (hst : (assignEach es X.env).findIdx? (·.1) = none) : PG X (.Tuple es j pos) (tG K CL (gTp ts) is) := by
  obtain ⟨rfl, rfl, rfl, rfl, rfl, rfl, hnd, rfl, hc, hx, hr, hf⟩ := h
  exact dg_tp hc h1 hn hst
theorem g_sb (ho : PE X o (tF K CL fo)) (hi : PE X e (tF K CL fe)) (ha : ∀ v, assign (.Subscript o e pos) X.env v = (do
      let ov ← holding [v] (eval o X.env)
      let iv ← holding [v, ov] (eval e X.env)
      standAt pos
      holding [v, ov, iv] (setItem ov iv v)
      release [v, ov, iv] [])) : PG X (.Subscript o e pos) (tG K CL (gSb fo fe) []) := by
  obtain ⟨rfl, rfl, rfl, rfl, rfl, rfl, hnd, rfl, hc, hx, hr, hf⟩ := h
  exact dg_sb ho hi ha
/-! ### what is walked -/
theorem i_seq {tg : Expr} (ha : PE X a (tF K CL fa)) : PI X tg a (tI K CL (iSeq fa)) := by
  obtain ⟨rfl, rfl, rfl, rfl, rfl, rfl, hnd, rfl, hc, hx, hr, hf⟩ := h
  exact di_seq ha
theorem i_rng1 {tg : Expr} {l : List Str} (fr : Fre mg l) (e1 : gloB sc "range" = true) (e2 : memB "range" l = true) (ha : PE X a (tF K CL fa)) (hs : starEach [a] X.env = [(false, eval a X.env)]) : PI X tg (.Call (.Name "range" p) [a] [] pos) (tI K CL (iRng1 fa)) := by
  have g := h.gl e1
  obtain ⟨rfl, rfl, rfl, rfl, rfl, rfl, hnd, rfl, hc, hx, hr, hf⟩ := h
  exact di_rng1 g (fr _ (of_decide_eq_true e2)) ha hs
theorem i_rng2 {tg : Expr} {l : List Str} (fr : Fre mg l) (e1 : gloB sc "range" = true) (e2 : memB "range" l = true) (ha : PE X a (tF K CL fa)) (hb : PE X b (tF K CL fb')) (hs : starEach [a, b] X.env = [(false, eval a X.env), (false, eval b X.env)]) (hs2 : starEach [b] X.env = [(false, eval b X.env)]) :
    PI X tg (.Call (.Name "range" p) [a, b] [] pos) (tI K CL (iRng2 fa fb')) := by
  have g := h.gl e1
  obtain ⟨rfl, rfl, rfl, rfl, rfl, rfl, hnd, rfl, hc, hx, hr, hf⟩ := h
  exact di_rng2 g (fr _ (of_decide_eq_true e2)) ha hb hs hs2
theorem i_enum {elts : List Expr} {j : Nat} {l : List Str} (fr : Fre mg l) (e1 : gloB sc "enumerate" = true) (e2 : memB "enumerate" l = true) (ha : PE X a (tF K CL fa)) (hs : starEach [a] X.env = [(false, eval a X.env)]) :
    PI X (.Tuple elts j apos) (.Call (.Name "enumerate" p) [a] [] pos) (tI K CL (iEnum fa)) := by
  have g := h.gl e1
  obtain ⟨rfl, rfl, rfl, rfl, rfl, rfl, hnd, rfl, hc, hx, hr, hf⟩ := h
  exact di_enum g (fr _ (of_decide_eq_true e2)) ha hs
theorem i_zip {elts : List Expr} {j : Nat} {l : List Str} (fr : Fre mg l) (e1 : gloB sc "zip" = true) (e2 : memB "zip" l = true) (ha : PE X a (tF K CL fa)) (hb : PE X b (tF K CL fb')) (hs : starEach [a, b] X.env = [(false, eval a X.env), (false, eval b X.env)]) (hs2 : starEach [b] X.env = [(false, eval b X.env)]) :
    PI X (.Tuple elts j apos) (.Call (.Name "zip" p) [a, b] [] pos) (tI K CL (iZip fa fb')) := by
  have g := h.gl e1
  obtain ⟨rfl, rfl, rfl, rfl, rfl, rfl, hnd, rfl, hc, hx, hr, hf⟩ := h
  exact di_zip g (fr _ (of_decide_eq_true e2)) ha hb hs hs2
/-! ### comprehensions -/
section
variable {elt tg iter : Expr} {ifs : List Expr} {scope : Scope} {own : List (Str × Nat)} {is : List Nat} {ι : ItF} {g : TgF} {t : Option EvF}
theorem ts_none : PTs X [] (tTs K CL none) := by
  obtain ⟨rfl, rfl, rfl, rfl, rfl, rfl, hnd, rfl, hc, hx, hr, hf⟩ := h
  exact dts_none
theorem ts_one (h1 : PT X c (tT K CL fc)) : PTs X [c] (tTs K CL (some fc)) := by
  obtain ⟨rfl, rfl, rfl, rfl, rfl, rfl, hnd, rfl, hc, hx, hr, hf⟩ := h
  exact dts_one h1
theorem k_lc (hi : PI X tg iter (tI K CL ι)) (e1 : blkC N sc scope own = true) (hg : ∀ Y, Cok P w K mg base k N (relS scope sc) (fbB scope) Y → PG Y tg (tG K CL g is)) (ht : ∀ Y, Cok P w K mg base k N (relS scope sc) (fbB scope) Y → PTs Y ifs (tTs K CL t))
    (he : ∀ Y, Cok P w K mg base k N (relS scope sc) (fbB scope) Y → PE Y elt (tF K CL fe)) (hs : ∀ x, foldedSetIterable iter X.env x = pure x) (his : ∀ i ∈ is, i ∈ own.map (·.2)) :
    PE X (.ListComp elt [⟨tg, iter, ifs, 0⟩] scope pos) (tF K CL (fLc ι g t fe (own.map (·.2)))) := by
  have hbl := fun s H C cl fp => h.blk s H scope C cl fp
  obtain ⟨rfl, rfl, rfl, rfl, rfl, rfl, hnd, rfl, hc, hx, hr, hf⟩ := h
  exact de_lc hc hnd hi (blkOk_by e1) (fun s H C cl fp => hg _ (hbl s H C cl fp)) (fun s H C cl fp => ht _ (hbl s H C cl fp)) (fun s H C cl fp => he _ (hbl s H C cl fp)) hs his
theorem k_dc {kx vx : Expr} {fk fv : EvF} (hi : PI X tg iter (tI K CL ι)) (e1 : blkC N sc scope own = true) (hg : ∀ Y, Cok P w K mg base k N (relS scope sc) (fbB scope) Y → PG Y tg (tG K CL g is))
    (hk : ∀ Y, Cok P w K mg base k N (relS scope sc) (fbB scope) Y → PE Y kx (tF K CL fk)) (he : ∀ Y, Cok P w K mg base k N (relS scope sc) (fbB scope) Y → PE Y vx (tF K CL fv)) (hs : ∀ x, foldedSetIterable iter X.env x = pure x) (his : ∀ i ∈ is, i ∈ own.map (·.2)) :
    PE X (.DictComp kx vx [⟨tg, iter, [], 0⟩] scope pos) (tF K CL (fDc ι g fk fv (own.map (·.2)))) := by
  have hbl := fun s H C cl fp => h.blk s H scope C cl fp
  obtain ⟨rfl, rfl, rfl, rfl, rfl, rfl, hnd, rfl, hc, hx, hr, hf⟩ := h
  exact de_dc hc hnd hi (blkOk_by e1) (fun s H C cl fp => hg _ (hbl s H C cl fp)) (fun s H C cl fp => hk _ (hbl s H C cl fp)) (fun s H C cl fp => he _ (hbl s H C cl fp)) hs his
theorem s_setLc {y : Str} {i : Nat} {py spos : Pos} (cf : Bool) (e0 : locB N sc i y = true) (hsw : ∀ env : Env, env.scope = sc → swapsWith (.ListComp elt [⟨tg, iter, ifs, 0⟩] scope pos) (some (.Name y py)) spos.line env = pure true)
    (hi : PI X tg iter (tI K CL ι)) (e1 : blkC N sc scope own = true) (hg : ∀ Y, Cok P w K mg base k N (relS scope sc) (fbB scope) Y → PG Y tg (tG K CL g is)) (ht : ∀ Y, Cok P w K mg base k N (relS scope sc) (fbB scope) Y → PTs Y ifs (tTs K CL t))
    (he : ∀ Y, Cok P w K mg base k N (relS scope sc) (fbB scope) Y → PE Y elt (tF K CL fe)) (hs : ∀ x, foldedSetIterable iter X.env x = pure x) (his : ∀ i ∈ is, i ∈ own.map (·.2)) :
    PS X (.Assign [.Name y py] (.ListComp elt [⟨tg, iter, ifs, 0⟩] scope pos) spos) (tS K CL (sAsg cf (fLc ι g t fe (own.map (·.2))) (gNm i))) := by
  have hbl := fun s H C cl fp => h.blk s H scope C cl fp
  have sw := hsw X.env h.hsc
  unfold locB at e0
  rw [Bool.and_eq_true] at e0
  have a1 := of_decide_eq_true e0.1
  have a2 := of_decide_eq_true e0.2
  obtain ⟨rfl, rfl, rfl, rfl, rfl, rfl, hnd, rfl, hc, hx, hr, hf⟩ := h
  exact ds_setLc hc hnd a1 a2 sw hi (blkOk_by e1) (fun s H C cl fp => hg _ (hbl s H C cl fp)) (fun s H C cl fp => ht _ (hbl s H C cl fp)) (fun s H C cl fp => he _ (hbl s H C cl fp)) hs his
end
/-! ### statements -/
section
variable {f g bb : StF} {st : Stmt} {sts : List Stmt}
theorem q_nil : PSs X [] (tS K CL sNx) := by
  obtain ⟨rfl, rfl, rfl, rfl, rfl, rfl, hnd, rfl, hc, hx, hr, hf⟩ := h
  exact ss_nil
theorem q_one (h1 : PS X st (tS K CL f)) : PSs X [st] (tS K CL f) := pss_one h1
theorem q_cons (h1 : PS X st (tS K CL f)) (h2 : PSs X sts (tS K CL g)) : PSs X (st :: sts) (tS K CL (sSeq f g)) := by
  obtain ⟨rfl, rfl, rfl, rfl, rfl, rfl, hnd, rfl, hc, hx, hr, hf⟩ := h
  exact ss_cons h1 h2
theorem s_no : PS X st (tS K CL sNo) := by
  obtain ⟨rfl, rfl, rfl, rfl, rfl, rfl, hnd, rfl, hc, hx, hr, hf⟩ := h
  exact ds_no
theorem s_ret (he : PE X e (tF K CL fe)) : PS X (.Return (some e) pos) (tS K CL (sRet fe)) := by
  obtain ⟨rfl, rfl, rfl, rfl, rfl, rfl, hnd, rfl, hc, hx, hr, hf⟩ := h
  exact ds_ret he
theorem s_pass : PS X (.Pass pos) (tS K CL sNx) := by
  obtain ⟨rfl, rfl, rfl, rfl, rfl, rfl, hnd, rfl, hc, hx, hr, hf⟩ := h
  exact ds_pass
theorem s_break : PS X (.Break pos) (tS K CL sBk) := by
  obtain ⟨rfl, rfl, rfl, rfl, rfl, rfl, hnd, rfl, hc, hx, hr, hf⟩ := h
  exact ds_break
theorem s_cont : PS X (.Continue pos) (tS K CL sCt) := by
  obtain ⟨rfl, rfl, rfl, rfl, rfl, rfl, hnd, rfl, hc, hx, hr, hf⟩ := h
  exact ds_continue
theorem s_exp (he : PE X e (tF K CL fe)) (hs : swapsWith e none pos.line X.env = pure false) : PS X (.Expr e pos) (tS K CL (sExp fe)) := by
  obtain ⟨rfl, rfl, rfl, rfl, rfl, rfl, hnd, rfl, hc, hx, hr, hf⟩ := h
  exact ds_exp he hs
theorem s_if {aa cc : List Stmt} (hc' : PT X c (tT K CL fc)) (ha : PSs X aa (tS K CL f)) (hb : PSs X cc (tS K CL g)) : PS X (.If c aa cc pos) (tS K CL (sIf fc f g)) := by
  obtain ⟨rfl, rfl, rfl, rfl, rfl, rfl, hnd, rfl, hc, hx, hr, hf⟩ := h
  exact ds_if hc' ha hb
theorem s_asg {tg : Expr} {gg : TgF} {is : List Nat} (cf : Bool) (he : PE X e (tF K CL fe)) (hg : PG X tg (tG K CL gg is)) (hs : swapsWithSole [tg] e pos.line X.env = pure false) (hw : swappedStores [tg] e X.env = pure none)
    (h1 : (assignEach [tg] X.env).map (·.2) = [assign tg X.env]) : PS X (.Assign [tg] e pos) (tS K CL (sAsg cf fe gg)) := by
  obtain ⟨rfl, rfl, rfl, rfl, rfl, rfl, hnd, rfl, hc, hx, hr, hf⟩ := h
  exact ds_asg he hg hs hw h1
theorem s_set {x : Str} {i : Nat} {pos' : Pos} (cf : Bool) (e1 : putB N sc fb i x = true) (he : PE X e (tF K CL fe)) (hs : ∀ env : Env, env.scope = sc → swapsWith e (some (.Name x pos')) pos.line env = pure false) :
    PS X (.Assign [.Name x pos'] e pos) (tS K CL (sAsg cf fe (gNm i))) := by
  unfold putB at e1
  rw [Bool.and_eq_true] at e1
  obtain ⟨e1, e2⟩ := e1
  have e1 := of_decide_eq_true e1
  have sw := hs X.env h.hsc
  obtain ⟨rfl, rfl, rfl, rfl, rfl, rfl, hnd, rfl, hc, hx, hr, hf⟩ := h
  split at e2
  · rename_i q; exact ds_set hnd e1 (.inl q) (.inr q) he sw
  · rename_i q; exact ds_set hnd e1 (.inr q) (.inl (hf x e2)) he sw
  · cases e2
theorem s_par {tg1 tg2 a1 a2 : Expr} {f1 f2 : EvF} {g1 g2 : TgF} {is1 is2 : List Nat} {j j2 : Nat} {p1 : Pos} (c1 c2 : Bool) (h1 : PE X a1 (tF K CL f1)) (h2 : PE X a2 (tF K CL f2)) (hg1 : PG X tg1 (tG K CL g1 is1)) (hg2 : PG X tg2 (tG K CL g2 is2))
    (hs : starEach [a1, a2] X.env = (false, eval a1 X.env) :: starEach [a2] X.env) (hs2 : starEach [a2] X.env = [(false, eval a2 X.env)])
    (ha : (assignEach [tg1, tg2] X.env).map (·.2) = assign tg1 X.env :: (assignEach [tg2] X.env).map (·.2)) (ha2 : (assignEach [tg2] X.env).map (·.2) = [assign tg2 X.env])
    (hn : (assignEach [tg1, tg2] X.env).length = 2) (hst : (assignEach [tg1, tg2] X.env).findIdx? (·.1) = none)
    (hsw : swapsWithSole [.Tuple [tg1, tg2] j p1] (.Tuple [a1, a2] j2 p2) pos.line X.env = pure false) (hw : ∀ env : Env, env.scope = sc → swappedStores [.Tuple [tg1, tg2] j p1] (.Tuple [a1, a2] j2 p2) env = pure none)
    (h1' : (assignEach [.Tuple [tg1, tg2] j p1] X.env).map (·.2) = [assign (.Tuple [tg1, tg2] j p1) X.env]) :
    PS X (.Assign [.Tuple [tg1, tg2] j p1] (.Tuple [a1, a2] j2 p2) pos) (tS K CL (sPar c1 c2 f1 f2 g1 g2)) := by
  have sw := hw X.env h.hsc
  obtain ⟨rfl, rfl, rfl, rfl, rfl, rfl, hnd, rfl, hc, hx, hr, hf⟩ := h
  exact ds_par hc h1 h2 hg1 hg2 hs hs2 ha ha2 hn hst hsw sw h1'
theorem s_par2 {x y : Str} {a1 a2 : Expr} {f1 f2 : EvF} {i j : Nat} {px py p1 : Pos} {kt k2 : Nat} (c1 c2 : Bool) (e1 : locB N sc i x = true) (e2 : locB N sc j y = true) (hij : decide (i ≠ j) = true) (h1 : PE X a1 (tF K CL f1)) (h2 : PE X a2 (tF K CL f2))
    (hs : starEach [a1, a2] X.env = (false, eval a1 X.env) :: starEach [a2] X.env) (hs2 : starEach [a2] X.env = [(false, eval a2 X.env)])
    (hw : ∀ env : Env, env.scope = sc → swappedStores [.Tuple [.Name x px, .Name y py] kt p1] (.Tuple [a1, a2] k2 p2) env = pure (some [x, y]))
    (hsw : swapsWithSole [.Tuple [.Name x px, .Name y py] kt p1] (.Tuple [a1, a2] k2 p2) pos.line X.env = pure false) :
    PS X (.Assign [.Tuple [.Name x px, .Name y py] kt p1] (.Tuple [a1, a2] k2 p2) pos) (tS K CL (sPar c1 c2 f1 f2 (gNm i) (gNm j))) := by
  have sw := hw X.env h.hsc
  unfold locB at e1 e2
  rw [Bool.and_eq_true] at e1 e2
  have b1 := of_decide_eq_true e1.1
  have b2 := of_decide_eq_true e1.2
  have b3 := of_decide_eq_true e2.1
  have b4 := of_decide_eq_true e2.2
  obtain ⟨rfl, rfl, rfl, rfl, rfl, rfl, hnd, rfl, hc, hx, hr, hf⟩ := h
  exact ds_par2 hc hnd b1 b3 (of_decide_eq_true hij) b2 b4 h1 h2 hs hs2 sw hsw
theorem s_fld {c fd : Str} {fields : List Str} {pos' : Pos} (d : COk K mg CL c fields) (e1 : memB fd fields = true) (ho : PE X o (tF K CL fo)) (he : PE X e (tF K CL fe)) (hs : swapsWith e (some (.Attribute o fd pos')) pos.line X.env = pure false) :
    PS X (.Assign [.Attribute o fd pos'] e pos) (tS K CL (sFldC c fo fe fd)) := by
  obtain ⟨rfl, rfl, rfl, rfl, rfl, rfl, hnd, rfl, hc, hx, hr, hf⟩ := h
  obtain ⟨C, hC, hm, ic, na⟩ := d.ex
  exact ds_fld hC ic.cl (na fd (of_decide_eq_true e1)) ho he hs
theorem s_for {tg iter : Expr} {body : List Stmt} {ι : ItF} {gt : TgF} {is : List Nat} (hi : PI X tg iter (tI K CL ι)) (hg : PG X tg (tG K CL gt is)) (hb : PSs X body (tS K CL bb)) (hs : ∀ x, foldedSetIterable iter X.env x = pure x) : PS X (.For tg iter body [] pos) (tS K CL (sFor ι gt bb)) := by
  obtain ⟨rfl, rfl, rfl, rfl, rfl, rfl, hnd, rfl, hc, hx, hr, hf⟩ := h
  exact ds_for (by rw [hx]; exact PassesOwn.never) hc hi hg hb hs
theorem s_while {body : List Stmt} (n : Nat) (hc' : PT X c (tT K CL fc)) (hb : PSs X body (tS K CL bb)) : PS X (.While c body [] pos) (tS K CL (sWhl fc bb n)) := by
  obtain ⟨rfl, rfl, rfl, rfl, rfl, rfl, hnd, rfl, hc, hx, hr, hf⟩ := h
  exact ds_while n (by rw [hx]; exact PassesOwn.never) hc' hb
end
end
/-! ### defs -/
section
variable {P : Program} {w : World} {K : Frg} {mg : Str → Option Value} {base : Heap} {CL : Str → Option Addr} {k : Nat} {N ps : List Str} {scope : Scope} {x qual : Str} {params : Arguments} {body : List Stmt} {kws : List (Str × V)} {f : Addr} {fd : FuncData} {b : StF}
theorem fn_okC (F : FunD K x qual params body scope [] kws f fd) (S : FnScope N ps scope) (hb : ∀ X, Cok P w K mg base k N scope (fun _ => true) X → PSs X body (tS K CL b)) :
    FnOk P w K mg base CX0 (k + 1) f fd ps (spF K CL ps.length (fnOf N.length b)) :=
  fn_okD F S fun X B => by
    have q := hb X ⟨B.hP, B.hw, B.hK, B.mg, B.base, B.N, S.nd, B.sc, B.calm, B.xe, B.room, fun x _ => B.fn x⟩
    rw [B.hK]
    exact q
end
end Ev
namespace Ev
open PySem PySem.Spec PyProof.Rows L2
/-- a def's parameters given by keywords alone -/
theorem bindsK {K : Frg} {x qual : Str} {params : Arguments} {body : List Stmt} {scope : Scope} {kws : List (Str × V)} {f : Addr} {fd : FuncData} {ps ks : List Str} {perm : List Nat} {n : Nat} (F : FunD K x qual params body scope [] kws f fd)
    (h : ∀ (kV doc pm : Value) (an : Option Addr) (cdv ct : Value) (ws : List Value), ws.length = n → bindArgs (PySem.W.fnOf x qual params body scope .none kV doc pm an cdv ct) ⟨[], ks.zip ws⟩ = pure (ps.zip (permL perm ws))) :
    ∀ (s : Shared) (ws : List Value), K.In s.heap → ws.length = n → BindsTo s fd ⟨[], ks.zip ws⟩ (ps.zip (permL perm ws)) := by
  obtain ⟨oc, od, dV, kV, doc, pm, an, cdv, ct, osl, rfl, lk, hcd, hD, hK⟩ := F.ex
  rcases hD with ⟨_, rfl⟩ | ⟨e, _⟩
  · exact fun s ws _ hl => .of_eq (h kV doc pm an cdv ct ws hl)
  · exact absurd rfl e
/-- classes by names -/
def clsOf (K : Frg) (l : List Str) : Str → Option Addr := fun c => if c ∈ l then some (He.ga K c) else none
theorem clsOf_at {K : Frg} {l : List Str} {c : Str} (h : memB c l = true) : clsOf K l c = some (He.ga K c) := if_pos (of_decide_eq_true h)
/-- the law's promise, from what its def computes at a script -/
theorem top_of {K : Frg} {CL : Str → Option Addr} {fn : FnF} {H : Hp} {a : Addr} {ns : List Int} {Q : VK} (hS : SqL K H a (ns.map V.int)) (e : fn [.d (.scr (ns.map .int))] [] = some (.val (.d (.bl true)), [])) (hQ : ∀ H', Q (.bl true) H') : spF K CL 1 fn [.ref a] H Q E0 := by
  refine ⟨rfl, fun b => if b = a then H b else none, [], [], [.d (.scr (ns.map .int))], _, _, ⟨fun b o h => ?_, rfl, fun k c b h _ => ?_, fun b hb => ?_, .nil⟩, .cons (.scr ?_ (ints_rep ns)) .nil, e, fun v F' m' H' _ _ q => ?_⟩
  · have h : (if b = a then H b else none) = some o := h
    by_cases q : b = a
    · rw [if_pos q] at h; exact h
    · rw [if_neg q] at h; cases h
  · simp at h
  · simp at hb
  · rcases hS with (h | ⟨o, h⟩) | h
    · exact .inl (.inl (by show (if a = a then H a else none) = _; rw [if_pos rfl]; exact h))
    · exact .inl (.inr ⟨o, by show (if a = a then H a else none) = _; rw [if_pos rfl]; exact h⟩)
    · exact .inr h
  · cases q
    exact hQ H'
end Ev
set_option Elab.async false
set_option linter.all false
set_option maxRecDepth 100000
/-! Own text: comprehensions over a list that may change later on. -/
namespace Ev
open PySem PySem.Spec PyProof.Rows L2
open Classical in
/-- the list stands still as long as it is walked -/
noncomputable def compL (k : Nat) (c : Cell) (g : TgF) (t : Option EvF) (e : EvF) : List D → List D → Rho → Sto → Option (List D × Sto)
  | [], acc, _, S => if S[k]? = some c then some (acc, S) else none
  | d :: ds, acc, ρ, S => if S[k]? = some c then (g (.d d) ρ S).bind fun (ρ2, S) => (match t with
      | none => some (true, S)
      | some t => tst t ρ2 S).bind fun (k', S) =>
      if k' then (eD e ρ2 S).bind fun (x, S) => if acc.length < sizeLine then compL k c g t e ds (acc ++ [x]) ρ S else none
      else compL k c g t e ds acc ρ S
    else none
/-- [e for g in a if t], a's list not frozen -/
noncomputable def fLcL (a : EvF) (g : TgF) (t : Option EvF) (e : EvF) (vs : List Nat) : EvF := fun ρ S => (eV a ρ S).bind fun (v, S) => (lstAt v S).bind fun (k, ds) => (compL k (.lst ds) g t e ds [] (wipeR ρ vs) S).map fun (xs, S) => (.new (.lst xs), S)
/-- the list itself is walked -/
def tIL (K : PySem.W.Frag) (CL : Str → Option Addr) (fa : EvF) : TI := fun σ H R => ∃ F m S ρ v k ds S', Rel K CL F m S H ∧ RepE K CL F m σ ρ ∧ eV fa ρ S = some (v, S') ∧ lstAt v S' = some (k, ds) ∧
  ∀ q F' m' H', Ext F m H F' m' H' → Rel K CL F' m' S' H' → m'[k]? = some q → R (Itl K q) H'
section
variable {X : Cx} {CL : Str → Option Addr} {tg a : Expr} {fa : EvF} {pos : Pos}
theorem di_live (ha : PE X a (tF X.K CL fa)) : PI X tg a (tIL X.K CL fa) :=
  PIwk (pi_list ha.v) fun σ H R ⟨F, m, S, ρ, v, k, ds, S', rel, env, e, el, kk⟩ => ⟨F, m, S, ρ, v, S', rel, env, e, fun x F1 m1 H1 x1 r1 q1 => by
    obtain ⟨q, vs, rfl, hm, hS, hF, hH, hr⟩ := lst_at r1 q1 el
    exact ⟨q, rfl, ⟨vs, SqL.of hH⟩, kk q F1 m1 H1 x1 r1 hm⟩⟩
theorem walk_live {K : PySem.W.Frag} {q : Addr} {n : Nat} : Walk (Itl K q) n (fun H => ∃ vs, SqL K H q vs ∧ vs.length = n) (fun i H x H' => H' = H ∧ ∀ vs, SqL K H q vs → vs[i]? = some x) :=
  ⟨fun i H hi ⟨vs, h, e⟩ => ⟨vs, vs[i]'(by omega), h, by simp [e, hi]⟩, fun H ⟨vs, h, e⟩ => ⟨vs, h, Nat.le_of_eq e⟩, fun i H x H' _ _ y => y⟩
theorem compL_still {k : Nat} {c : Cell} {g : TgF} {t : Option EvF} {e : EvF} {ds acc : List D} {ρ : Rho} {S : Sto} {r : List D × Sto} (h : compL k c g t e ds acc ρ S = some r) : S[k]? = some c := by
  cases ds with
  | nil =>
    unfold compL at h
    by_cases z : S[k]? = some c
    · exact z
    · rw [if_neg z] at h; cases h
  | cons d ds =>
    unfold compL at h
    by_cases z : S[k]? = some c
    · exact z
    · rw [if_neg z] at h; cases h
theorem lcL_t {g : TgF} {t : Option EvF} {fe : EvF} {vs is : List Nat} (hs : ∀ i ∈ is, i ∈ vs) {σ : L2.St} {H : Hp} {Q : VK} (h : tF X.K CL (fLcL fa g t fe vs) σ H Q) :
    tLc (tIL X.K CL fa) (tG X.K CL g is) (tTs X.K CL t) (tD X.K CL fe) vs σ H Q := by
  obtain ⟨F, m, S, ρ, r, S', rel, env, e, q⟩ := h
  obtain ⟨⟨v, S1⟩, e1, e⟩ := bind_some e
  obtain ⟨⟨k, ds⟩, el, e⟩ := bind_some e
  obtain ⟨⟨xs, S2⟩, e2, e⟩ := map_some e
  cases e
  refine ⟨F, m, S, ρ, v, k, ds, S1, rel, env, e1, el, fun a F1 m1 H1 x1 r1 hma D hD => ?_⟩
  have hm1 : D ∉ m1 := fun z => r1.trk D z hD
  have hF1 : F1 D = none := r1.out hD
  have env1 := (env.mono x1).wipeR vs
  -- the list at its place
  have live : ∀ {F2 m2 S3 H2 acc i}, Ext F1 m1 H1 F2 m2 H2 → Rel X.K CL F2 m2 S3 H2 → compL k (.lst ds) g t fe (ds.drop i) acc (wipeR ρ vs) S3 = some (xs, S') → ∃ ws, H2 a = some (.lst ws) ∧ RepL X.K CL F2 ws ds := fun {F2 m2 S3 H2 acc i} x2 r2 e => by
    have hS := compL_still e
    obtain ⟨l, em, _⟩ := x2.mm
    have hm2 : m2[k]? = some a := by
      rw [em, List.getElem?_append_left (by have := List.getElem?_eq_some_iff.mp hma; exact this.1)]
      exact hma
    obtain ⟨_, ws, h1, h2⟩ := r2.cell k _ a hS hm2
    exact ⟨ws, h1, h2⟩
  refine lc_it (walk_live (n := ds.length)) (fun i H' => ∃ F2 m2 S3 acc ws, Ext F1 m1 H1 F2 m2 H' ∧ Rel X.K CL F2 m2 S3 H' ∧ H' D = some (.lst ws) ∧ D ∉ m2 ∧ F2 D = none ∧ RepL X.K CL F2 ws acc ∧ compL k (.lst ds) g t fe (ds.drop i) acc (wipeR ρ vs) S3 = some (xs, S')) ?_ ?_ ?_ ?_
  · exact ⟨F1, m1, S1, [], [], Ext.lay hD, r1.same (upd_sameN hD), upd_same, hm1, hF1, .nil, by rw [List.drop_zero]; exact e2⟩
  · rintro i H' _ ⟨F2, m2, S3, acc, ws, x2, r2, _, _, _, _, e3⟩
    obtain ⟨us, h1, h2⟩ := live x2 r2 e3
    exact ⟨us, SqL.of h1, h2.length⟩
  · rintro i x H' H'' hi ⟨F2, m2, S3, acc, ws, x2, r2, hD2, hm2, hF2, ra, e3⟩ ⟨rfl, y⟩
    obtain ⟨us, h1, h2⟩ := live x2 r2 e3
    have hS := compL_still e3
    have ed : ds[i]? = some ds[i] := List.getElem?_eq_getElem hi
    have q3 : RepD X.K CL F2 x ds[i] := by
      obtain ⟨v', h3, h4⟩ := h2.get ed
      rw [y us (SqL.of h1)] at h3
      cases h3
      exact h4
    rw [drop_cons ed] at e3
    unfold compL at e3
    rw [if_pos hS] at e3
    obtain ⟨⟨ρ4, S4⟩, e4, e3⟩ := bind_some e3
    obtain ⟨⟨b, S5⟩, e5, e3⟩ := bind_some e3
    refine ⟨F2, m2, S3, wipeR ρ vs, .d ds[i], ρ4, S4, r2, env1.mono x2, q3, e4, fun σ4 F4 m4 H4 x4 r4 env4 t4 => ?_⟩
    refine ⟨wipe_eq (t4.1.trans (wipe_length ..)) t4.2 hs, ?_⟩
    have x24 := x2.trans x4
    have go : ∀ F5 m5 H5, Ext F1 m1 H1 F5 m5 H5 → Ext F2 m2 H'' F5 m5 H5 → Rel X.K CL F5 m5 S5 H5 → RepE X.K CL F5 m5 σ4 ρ4 → if b = true then tD X.K CL fe σ4 H5 fun y H6 => ∃ acc', H6 D = some (.lst acc') ∧ acc'.length < sizeLine ∧ ∃ F2 m2 S3 acc ws, Ext F1 m1 H1 F2 m2 (upd H6 D (.lst (acc' ++ [y]))) ∧ Rel X.K CL F2 m2 S3 (upd H6 D (.lst (acc' ++ [y]))) ∧ (upd H6 D (.lst (acc' ++ [y]))) D = some (.lst ws) ∧ D ∉ m2 ∧ F2 D = none ∧ RepL X.K CL F2 ws acc ∧ compL k (.lst ds) g t fe (ds.drop (i + 1)) acc (wipeR ρ vs) S3 = some (xs, S')
        else ∃ F2 m2 S3 acc ws, Ext F1 m1 H1 F2 m2 H5 ∧ Rel X.K CL F2 m2 S3 H5 ∧ H5 D = some (.lst ws) ∧ D ∉ m2 ∧ F2 D = none ∧ RepL X.K CL F2 ws acc ∧ compL k (.lst ds) g t fe (ds.drop (i + 1)) acc (wipeR ρ vs) S3 = some (xs, S') := fun F5 m5 H5 x15 x35 r5 env5 => by
      obtain ⟨hD5, hm5, hF5⟩ := keep_item x35 hD2 hm2 hF2
      have ra5 := ra.mono x35.f
      cases b with
      | true =>
        rw [if_pos rfl]
        change (if true = true then _ else _) = _ at e3
        rw [if_pos rfl] at e3
        obtain ⟨⟨z, S6⟩, e6, e3⟩ := bind_some e3
        refine ⟨F5, m5, S5, ρ4, z, S6, r5, env5, e6, fun v F6 m6 H6 x6 r6 q6 => ?_⟩
        obtain ⟨hD6, hm6, hF6⟩ := keep_item x6 hD5 hm5 hF5
        have e3 : (if acc.length < sizeLine then compL k (.lst ds) g t fe (ds.drop (i + 1)) (acc ++ [z]) (wipeR ρ vs) S6 else none) = some (xs, S') := e3
        by_cases c : acc.length < sizeLine
        · rw [if_pos c] at e3
          refine ⟨ws, hD6, by rw [ra.length]; exact c, F6, m6, S6, acc ++ [z], ws ++ [v], ?_, new_item (vs := ws) r6 (by rw [hD6]; simp) hm6 hF6, upd_same, hm6, hF6, (ra5.mono x6.f).append (.cons q6 .nil), e3⟩
          have xx := x15.trans x6
          refine ⟨xx.f, xx.fn, xx.mm, fun a u h hm => ?_, fun a h => upd_ne_none (xx.t a h)⟩
          rw [upd_ne (ne_of_none h hD)]
          exact xx.h a u h hm
        · rw [if_neg c] at e3; cases e3
      | false =>
        rw [if_neg Bool.false_ne_true]
        change (if false = true then _ else _) = _ at e3
        rw [if_neg Bool.false_ne_true] at e3
        exact ⟨F5, m5, S5, acc, ws, x15, r5, hD5, hm5, hF5, ra5, e3⟩
    cases t with
    | none =>
      cases e5
      exact go F4 m4 H4 x24 x4 r4 env4
    | some t =>
      exact ⟨F4, m4, S4, ρ4, b, S5, r4, env4, e5, fun F5 m5 H5 x5 r5 => go F5 m5 H5 (x24.trans x5) (x4.trans x5) r5 (env4.mono x5)⟩
  · rintro H' ⟨F2, m2, S3, acc, ws, x2, r2, hD2, hm2, hF2, ra, e3⟩
    have hS := compL_still e3
    rw [List.drop_length] at e3
    unfold compL at e3
    rw [if_pos hS] at e3
    cases e3
    exact q (.ref D) F2 m2 H' (x1.trans x2) r2 ⟨D, rfl, Classical.byContradiction fun z => x1.t D z hD, hm2, rfl, hF2, ws, hD2, ra⟩
theorem de_lcL {elt : Expr} {ifs : List Expr} {scope : Scope} {own : List (Str × Nat)} {is : List Nat} {g : TgF} {t : Option EvF} {fe : EvF} (hc : X.calm = true) (hN : X.N.Nodup) (ha : PE X a (tF X.K CL fa)) (ok : BlkOk X.N X.env.scope scope own)
    (hg : ∀ s H C cl fp, PG (X.blk s H scope (compEnvC scope cl C X.env) fp) tg (tG X.K CL g is)) (ht : ∀ s H C cl fp, PTs (X.blk s H scope (compEnvC scope cl C X.env) fp) ifs (tTs X.K CL t))
    (he : ∀ s H C cl fp, PE (X.blk s H scope (compEnvC scope cl C X.env) fp) elt (tF X.K CL fe)) (hs : ∀ x, foldedSetIterable a X.env x = pure x) (his : ∀ i ∈ is, i ∈ own.map (·.2)) :
    PE X (.ListComp elt [⟨tg, a, ifs, 0⟩] scope pos) (tF X.K CL (fLcL fa g t fe (own.map (·.2)))) :=
  PEwk (pe_lc hc hN (di_live ha) ok hg ht (fun s H C cl fp => (he s H C cl fp).dd) hs) fun σ H Q h => lcL_t his h
end
section
variable {P : Program} {w : World} {K : Frg} {mg : Str → Option Value} {base : Heap} {CL : Str → Option Addr} {k : Nat} {N : List Str} {sc : Scope} {fb : Str → Bool} {X : Cx}
variable (h : Cok P w K mg base k N sc fb X) {a tg elt : Expr} {fa fe : EvF} {ifs : List Expr} {scope : Scope} {own : List (Str × Nat)} {is : List Nat} {g : TgF} {t : Option EvF} {pos : Pos}
include h
theorem k_lcL (ha : PE X a (tF K CL fa)) (e1 : blkC N sc scope own = true) (hg : ∀ Y, Cok P w K mg base k N (relS scope sc) (fbB scope) Y → PG Y tg (tG K CL g is)) (ht : ∀ Y, Cok P w K mg base k N (relS scope sc) (fbB scope) Y → PTs Y ifs (tTs K CL t))
    (he : ∀ Y, Cok P w K mg base k N (relS scope sc) (fbB scope) Y → PE Y elt (tF K CL fe)) (hs : ∀ x, foldedSetIterable a X.env x = pure x) (his : ∀ i ∈ is, i ∈ own.map (·.2)) :
    PE X (.ListComp elt [⟨tg, a, ifs, 0⟩] scope pos) (tF K CL (fLcL fa g t fe (own.map (·.2)))) := by
  have hbl := fun s H C cl fp => h.blk s H scope C cl fp
  obtain ⟨rfl, rfl, rfl, rfl, rfl, rfl, hnd, rfl, hc, hx, hr, hf⟩ := h
  exact de_lcL hc hnd ha (blkOk_by e1) (fun s H C cl fp => hg _ (hbl s H C cl fp)) (fun s H C cl fp => ht _ (hbl s H C cl fp)) (fun s H C cl fp => he _ (hbl s H C cl fp)) hs his
end
end Ev
set_option Elab.async false
set_option linter.all false
set_option maxRecDepth 100000
/-! Own text: an expression whose new cells are dropped behind it. -/
namespace Ev
open PySem PySem.Spec PyProof.Rows L2
def fScp (f : EvF) : EvF := fun ρ S => (f ρ S).bind fun (r, S') => trunc S.length r S'
theorem k_scp {X : Cx} {CL : Str → Option Addr} {e : Expr} {f : EvF} {K : Frg} (h : PE X e (tF K CL f)) : PE X e (tF K CL (fScp f)) :=
  PEwk h fun σ H Q ⟨F, m, S, ρ, r, S', rel, env, e, k⟩ => by
    obtain ⟨⟨r1, S1⟩, e1, e⟩ := bind_some e
    refine ⟨F, m, S, ρ, r1, S1, rel, env, e1, fun v F' m' H' x1 r1' q1 => ?_⟩
    obtain ⟨m2, y1, y2, y3⟩ := trunc_ok rel.len x1 r1' q1 e
    exact k v F' m2 H' y1 y2 y3
end Ev
set_option Elab.async false
set_option linter.all false
set_option maxRecDepth 100000
/-! Own text: where no repr is under way: defs that use repr, their calls, the law's own call. -/
namespace Ev
open PySem PySem.Spec PyProof.Rows L2

/-- the promise of a def, where no repr is under way -/
structure FnG (P : Program) (w : World) (K : Frg) (mg : Str → Option Value) (base : Heap) (k : Nat) (f : Addr) (fd : FuncData) (ps : List Str) (sp : Sp) : Prop where
  hl : ∀ xs H Q E, sp xs H Q E → xs.length = ps.length
  go : ∀ (A : Around) (st : List Env) (s : Shared) (H : Hp) (ar : Args) (us : List Value) (xs : List V) (Q : VK) (E : XK), Room k A → A.guards = some [] → Env0 P w K mg base A st s H → BindsTo s fd ar (ps.zip us) → Vals xs us → sp xs H Q E →
    codeAny (model P w) A (.call (.ref f) ar) (CR CX0 st P w H s Q E) s
section
variable {P : Program} {w : World} {K : Frg} {mg : Str → Option Value} {base : Heap} {k : Nat} {f : Addr} {fd : FuncData} {ps N : List Str} {sp : Sp} {x qual : Str} {params : Arguments} {body : List Stmt} {scope : Scope} {dvs kws : List (Str × V)}
/-- from the body -/
theorem fnG_of {dv : List V} (F : FunD K x qual params body scope dv kws f fd) (S : FnScope N ps scope) (len : ∀ xs H Q E, sp xs H Q E → xs.length = ps.length)
    (hb : ∀ (cdv : Value) (A : Around) (st : List Env) (s : Shared) (H : Hp) (xs : List V) (Q : VK) (E : XK), Room k (A.deeper (envOfC qual scope s.heap.objs.size f cdv)) → A.guards = some [] → sp xs H Q E →
      ∃ t, PSs (cxOf CX0 P w K mg base N qual scope f cdv A st s H E) body t ∧ t { nx := fun _ H' => Q .non H', rt := Q } (L2.start N xs) H) : FnG P w K mg base (k + 1) f fd ps sp := by
  obtain ⟨oc, od, dV, kV, doc, pm, an, cdv, ct, osl, rfl, lk, hcd, _, _⟩ := F.ex
  refine ⟨len, ?_⟩
  intro A st s H ar us xs Q E room hgu en hbi rel spx
  have leq := len _ _ _ _ spx
  have inK : K.In s.heap := en.mod.kin.keeps fun p q z => (en.bs p q z).1
  have nol : s.heap.NoLimit := en.mod.nolimit.keeps fun p q z => (en.bs p q z).1
  have kinds : ∀ z ∈ ps.zip us, scope.names.lookup z.1 = some .local ∨ (scope.names.lookup z.1 = some .cell ∧ ((cellsFrom (s.heap.objs.size + 1) scope.names []).lookup z.1).isSome = true) := by
    rintro ⟨nm, vv⟩ hz
    cases S.par nm (List.of_mem_zip hz).1 with
    | inl z => exact .inl z
    | inr z => exact .inr ⟨z, PySem.W.cellsFrom_some _ _ _ (.inl z)⟩
  refine codeAny_call_function room.depth (inK _ _ lk) rfl S.co S.gen rfl (PySem.W.codeRec_of inK hcd) (hbi _ _ _ _ ?_)
  refine wpAny_newFunctionEnv_cells S.kind kinds fun en1 hen s2 inC => ?_
  subst hen
  refine ⟨nol.keeps inC.toInCall.keep, codeAny_func ?_⟩
  obtain ⟨t, pt, ht⟩ := hb cdv A st s H xs Q E (room.deeper _) hgu spx
  have I0 : Inv (cxOf CX0 P w K mg base N qual scope f cdv A st s H E) [] (L2.start N xs) H s2 := inv_start S room.hd en leq rel inC
  have over : ∀ {σ1 : L2.St} {H1 : Hp} {v1 : V} {u1 : Value} {s3 : Shared}, Inv (cxOf CX0 P w K mg base N qual scope f cdv A st s H E) [] σ1 H1 s3 → RelV v1 u1 → Q v1 H1 → CE st P w H s Q u1 s3 := by
    intro σ1 H1 v1 u1 s3 J r1 q1
    exact ⟨v1, H1, J.os, J.bare, J.base, J.hok, r1, q1⟩
  refine wpAny_mono (pt.run [] s2 (L2.start N xs) H _ I0 ht) ?_ fun _ _ z => z
  intro fl s3 h3
  cases fl with
  | next => obtain ⟨σ1, H1, J, q1⟩ := h3; exact over (v1 := V.non) (u1 := Value.none) J rfl q1
  | ret u1 => obtain ⟨v1, σ1, H1, J, r1, q1⟩ := h3; exact over J r1 q1
  | brk => obtain ⟨_, _, _, z⟩ := h3; exact z.elim
  | cont => obtain ⟨_, _, _, z⟩ := h3; exact z.elim
end
section
variable {P : Program} {w : World} {K : Frg} {mg : Str → Option Value} {base : Heap} {CL : Str → Option Addr} {k : Nat} {N : List Str} {sc : Scope} {fb : Str → Bool} {X : Cx} {b : StF}
structure FOkG (P : Program) (w : World) (K : Frg) (mg : Str → Option Value) (base : Heap) (CL : Str → Option Addr) (k : Nat) (x : Str) (n : Nat) (fn : FnF) : Prop where
  ex : ∃ f fd ps, ps.length = n ∧ mg x = some (.ref f) ∧ PySem.W.keepIn K (.ref f) = true ∧ FnG P w K mg base k f fd ps (spF K CL n fn) ∧ Binds K fd ps []
theorem fn_okG {x qual : Str} {params : Arguments} {body : List Stmt} {scope : Scope} {kws : List (Str × V)} {f : Addr} {fd : FuncData} {ps : List Str} (F : FunD K x qual params body scope [] kws f fd) (S : FnScope N ps scope)
    (hb : ∀ X, Cok P w K mg base k N scope (fun _ => true) X → X.A.guards = some [] → PSs X body (tS K CL b)) : FnG P w K mg base (k + 1) f fd ps (spF K CL ps.length (fnOf N.length b)) := by
  refine fnG_of F S (fun _ _ _ _ h => h.1) ?_
  intro cdv A st s H xs Q E room hgu h
  refine ⟨tS K CL b, PSs.nox ?_, body_pure h⟩
  exact hb _ ⟨rfl, rfl, rfl, rfl, rfl, rfl, S.nd, rfl, rfl, rfl, room, fun _ _ => rfl⟩ hgu
theorem k_callG (h : Cok P w K mg base k N sc fb X) (hgu : X.A.guards = some []) {x : Str} {e : Expr} {es : List Expr} {as : List (Bool × EvF)} {fn : FnF} {n j : Nat} {p pos : Pos} (d : FOkG P w K mg base CL j x n fn) (hj : j ≤ k) (e1 : gloB sc x = true) (ha : PA X (e :: es) (tAs K CL as)) (hn : as.length = n)
    (he : starEach (e :: es) X.env = (false, eval e X.env) :: starEach es X.env) (hpl : (backTo pos (starEach es X.env)).any (·.1) = false) : PE X (.Call (.Name x p) (e :: es) [] pos) (tF K CL (fCall fn as)) := by
  have g := h.gl e1
  obtain ⟨rfl, rfl, rfl, rfl, rfl, rfl, hnd, rfl, hc, hx, hr, hf⟩ := h
  obtain ⟨f, fd, ps, hp, h1, h2, h3, h4⟩ := d.ex
  refine ⟨fun pins s σ H Q I h => ?_⟩
  refine wpAny_Call_Name_kw (ld_glob I g h1 ?_ (gloB_d e1))
  refine PySem.W.callWith_K (h₀ := X.base) I.ok.mod.kin h2 (thn (ha.run pos pins s σ H _ I (call_t hn h)) ?_) he hpl
  rintro us s1 ⟨xs, H1, I1, r, q⟩
  refine ⟨I1.kIn, ?_⟩
  have q' : spF X.K CL n fn xs H1 Q E0 := by
    have z : spF X.K CL n fn (xs ++ []) H1 Q E0 := q
    rwa [List.append_nil] at z
  have hl : us.length = ps.length := by rw [← r.length]; exact h3.hl _ _ _ _ q'
  have hb := h4 s1 us I1.kIn (by rw [List.append_nil]; exact hl)
  rw [List.append_nil] at hb
  refine wpAny_call (codeAny_mono (h3.go X.A X.stack s1 H1 ⟨us, []⟩ us xs Q E0 (hr.mono hj) hgu I1.env0 hb r q') ?_)
  intro r s2 hq
  cases r with
  | error e => exact hq.elim
  | ok fl =>
    cases fl with
    | ret u => exact I1.after hq
    | next => exact False.elim hq
    | brk => exact False.elim hq
    | cont => exact False.elim hq
section
variable (h : Cok P w K mg base k N sc fb X) (hgu : X.A.guards = some []) {tg iter elt : Expr} {ifs : List Expr} {scope : Scope} {own : List (Str × Nat)} {is : List Nat} {g : TgF} {t : Option EvF} {fe : EvF} {ι : ItF} {pos : Pos}
include h hgu
theorem k_lcG (hi : PI X tg iter (tI K CL ι)) (e1 : blkC N sc scope own = true) (hg : ∀ Y, Cok P w K mg base k N (relS scope sc) (fbB scope) Y → Y.A.guards = some [] → PG Y tg (tG K CL g is)) (ht : ∀ Y, Cok P w K mg base k N (relS scope sc) (fbB scope) Y → Y.A.guards = some [] → PTs Y ifs (tTs K CL t))
    (he : ∀ Y, Cok P w K mg base k N (relS scope sc) (fbB scope) Y → Y.A.guards = some [] → PE Y elt (tF K CL fe)) (hs : ∀ x, foldedSetIterable iter X.env x = pure x) (his : ∀ i ∈ is, i ∈ own.map (·.2)) :
    PE X (.ListComp elt [⟨tg, iter, ifs, 0⟩] scope pos) (tF K CL (fLc ι g t fe (own.map (·.2)))) := by
  have hbl := fun s H C cl fp => h.blk s H scope C cl fp
  obtain ⟨rfl, rfl, rfl, rfl, rfl, rfl, hnd, rfl, hc, hx, hr, hf⟩ := h
  exact de_lc hc hnd hi (blkOk_by e1) (fun s H C cl fp => hg _ (hbl s H C cl fp) hgu) (fun s H C cl fp => ht _ (hbl s H C cl fp) hgu) (fun s H C cl fp => he _ (hbl s H C cl fp) hgu) hs his
theorem s_setLcG {y : Str} {i : Nat} {py spos : Pos} (cf : Bool) (e0 : locB N sc i y = true) (hsw : ∀ env : Env, env.scope = sc → swapsWith (.ListComp elt [⟨tg, iter, ifs, 0⟩] scope pos) (some (.Name y py)) spos.line env = pure true)
    (hi : PI X tg iter (tI K CL ι)) (e1 : blkC N sc scope own = true) (hg : ∀ Y, Cok P w K mg base k N (relS scope sc) (fbB scope) Y → Y.A.guards = some [] → PG Y tg (tG K CL g is)) (ht : ∀ Y, Cok P w K mg base k N (relS scope sc) (fbB scope) Y → Y.A.guards = some [] → PTs Y ifs (tTs K CL t))
    (he : ∀ Y, Cok P w K mg base k N (relS scope sc) (fbB scope) Y → Y.A.guards = some [] → PE Y elt (tF K CL fe)) (hs : ∀ x, foldedSetIterable iter X.env x = pure x) (his : ∀ i ∈ is, i ∈ own.map (·.2)) :
    PS X (.Assign [.Name y py] (.ListComp elt [⟨tg, iter, ifs, 0⟩] scope pos) spos) (tS K CL (sAsg cf (fLc ι g t fe (own.map (·.2))) (gNm i))) := by
  have hbl := fun s H C cl fp => h.blk s H scope C cl fp
  have sw := hsw X.env h.hsc
  unfold locB at e0
  rw [Bool.and_eq_true] at e0
  have a1 := of_decide_eq_true e0.1
  have a2 := of_decide_eq_true e0.2
  obtain ⟨rfl, rfl, rfl, rfl, rfl, rfl, hnd, rfl, hc, hx, hr, hf⟩ := h
  exact ds_setLc hc hnd a1 a2 sw hi (blkOk_by e1) (fun s H C cl fp => hg _ (hbl s H C cl fp) hgu) (fun s H C cl fp => ht _ (hbl s H C cl fp) hgu) (fun s H C cl fp => he _ (hbl s H C cl fp) hgu) hs his
end
end
/-- what the script is in, abstractly -/
noncomputable def scrH (K : Frg) (a : Addr) (o : Obj) (ns : List Int) : Hp := fun b => if b = a ∧ K.lookup a = none then some (.frz o (.lst (ns.map V.int))) else none
theorem scrH_some {K : Frg} {a b : Addr} {o : Obj} {ns : List Int} {u : HO} (h : scrH K a o ns b = some u) : b = a ∧ K.lookup a = none ∧ u = .frz o (.lst (ns.map V.int)) := by
  unfold scrH at h
  by_cases z : b = a ∧ K.lookup a = none
  · rw [if_pos z] at h
    exact ⟨z.1, z.2, (Option.some.inj h).symm⟩
  · rw [if_neg z] at h
    cases h
/-- the law's call -/
theorem law_go {P : Program} {w : World} {K : Frg} {mg mb : Str → Option Value} {k : Nat} {fa a : Addr} {fd : FuncData} {x : Str} {sp : Sp} {s : Shared} {us : List Value} {ns : List Int} (inK : K.In s.heap) (hns : s.heap.Ns mainGlobals mg) (hbn : s.heap.Ns builtinsNs mb)
    (hbb : ∀ x : Str, x ≠ "__name__" → mb x = bootBuiltins x) (nol : s.heap.NoLimit) (hge : s.gens = #[]) (at_ : s.heap.get? a = some { cls := .type "list", data := .seq us.toArray }) (hin : IntsAre us ns) (hsz : ns.length ≤ sizeLine) (room : Room k callerA)
    (F : ∀ base : Heap, K.In base → base.Ns mainGlobals mg → FnG P w K mg base k fa fd [x] sp) (hbi : ∀ (s : Shared) (u : Value), BindsTo s fd ⟨[u], []⟩ [(x, u)])
    (hsp : ∀ H : Hp, Only H → SqL K H a (ns.map V.int) → sp [.ref a] H (fun v _ => v = .bl true) fun _ _ _ => False) :
    codeAny (model P w) callerA (.call (.ref fa) ⟨[.ref a], []⟩) (fun r s' => r = .ok (.ret (.bool true)) ∧ OldK s.heap s'.heap ∧ s'.os = s.os ∧ AllBare s'.gens) s := by
  have rv := L2.vals_ints hin
  have eqn := hin.length
  let H := scrH K a { cls := .type "list", data := .seq us.toArray } ns
  have only : Only H := by
    intro b
    cases z : H b with
    | none => exact .inl rfl
    | some u => exact .inr ⟨_, _, by rw [(scrH_some z).2.2]⟩
  have sq : SqL K H a (ns.map V.int) := by
    cases z : K.lookup a with
    | some ob =>
      have z2 := inK a ob z
      rw [at_] at z2
      cases z2
      exact .inr ⟨_, us.toArray, _, z, rfl, rfl, rfl, by rw [List.size_toArray, eqn]; exact hsz, by simpa using rv⟩
    | none => exact .inl (.inr ⟨_, if_pos ⟨rfl, z⟩⟩)
  have ok : HOk P w H s.heap := by
    intro b u z
    obtain ⟨rfl, _, rfl⟩ := scrH_some z
    exact ⟨at_, by rw [List.length_map]; exact hsz, us, _, rv, at_⟩
  have none_of : ∀ {b : Addr} {o : Obj}, K.lookup b = some o → H b = none := by
    intro b o z
    cases z2 : H b with
    | none => rfl
    | some u =>
      obtain ⟨rfl, z3, _⟩ := scrH_some z2
      rw [z3] at z
      cases z
  have dict_none : ∀ {b : Addr} {o : Obj} {es : Array DictEntry} {n : Nat}, s.heap.get? b = some o → o.data = .dict es n → H b = none := by
    intro b o es n z d
    cases z2 : H b with
    | none => rfl
    | some u =>
      obtain ⟨rfl, _, _⟩ := scrH_some z2
      rw [at_] at z
      cases z
      cases d
  have below : ∀ {b : Addr} {m : Str → Option Value}, s.heap.Ns b m → (hidT s.heap H).Ns b m := by
    rintro b m ⟨o, es, n, z, d, r⟩
    exact ⟨o, es, n, hidT_get z (dict_none z d), d, r⟩
  have inB : K.In (hidT s.heap H) := fun b o z => hidT_get (inK b o z) (none_of z)
  obtain ⟨mc, c1, c2⟩ := nol
  have en : Env0 P w K mg (hidT s.heap H) callerA [] s H :=
    { frames := rfl, mod := ⟨inB, below hns, ⟨mb, below hbn, hbb⟩, ⟨mc, below c1, c2⟩⟩, bs := fun b o z => of_hidT z, bsz := Nat.le_of_eq (hidT_size _ _), funs := trivial, frf := by intro b hb; exact absurd (show b ∈ ([] : List Addr) from hb) (by simp), hok := ok, bare := .of_eq hge }
  refine codeAny_mono ((F _ inB (below hns)).go callerA [] s H ⟨[.ref a], []⟩ [.ref a] [.ref a] _ _ room rfl en (hbi s (.ref a)) (.cons rfl .nil) (hsp H only sq)) ?_
  intro r s2 h
  cases r with
  | error e => exact h.elim
  | ok fl =>
    cases fl with
    | next => exact False.elim h
    | brk => exact False.elim h
    | cont => exact False.elim h
    | ret u =>
      obtain ⟨v, H2, os, bare, un, ok2, r1, rfl⟩ := h
      cases r1
      refine ⟨rfl, OldK.of_keep ?_, os, bare⟩
      intro b o z
      cases z2 : H b with
      | none => exact un.keep b o z z2 (fun z => absurd (show b ∈ ([] : List Addr) from z) (by simp)) (by simp)
      | some u =>
        obtain ⟨ob, xs, z3⟩ := (only b).resolve_left (by rw [z2]; simp)
        have z4 := ok b _ z3
        have z5 := ok2 b _ (un.frzs b ob _ z3)
        obtain ⟨y1, _⟩ := z4
        obtain ⟨y2, _⟩ := z5
        rw [z] at y1
        cases y1
        exact y2
/-- the end of a law that uses repr -/
theorem walk_G {l : PySem.W.OpenLaw} {n k : Nat} {q : Program} {loose : List Str} {XP : (Str → Option Value) → Heap → Prop} {YP : World → Heap → Prop} {d : DefRec} {x : Str} (hn : l.most = some n) (hn2 : n ≤ sizeLine) (hdf : d.params.defaults = []) (room : Room k callerA)
    (F : ∀ (w : World) (mg : Str → Option Value) (fa : Addr) (h : Heap), YP w h → h.Ns mainGlobals mg → mg d.name = some (.ref fa) → ∃ (K : Frg) (fd : FuncData) (sp : Sp), K.In h ∧ (∀ (s : Shared) (u : Value), BindsTo s fd ⟨[u], []⟩ [(x, u)]) ∧
      (∀ (H : Hp) (a : Addr) (ns : List Int), ns.length ≤ n → Only H → SqL K H a (ns.map V.int) → sp [.ref a] H (fun v _ => v = .bl true) fun _ _ _ => False) ∧ ∀ base : Heap, K.In base → base.Ns mainGlobals mg → FnG l.prog w K mg base k fa fd [x] sp) :
    PySem.W.WalkO q loose XP YP l.row.toRowW d [] (fun f vs => PySem.call f vs) := by
  refine Att.attach_call hn hdf ?_
  intro w s₀ s₁ mg mb fa o pm cd doc a us ns G Y ho hd hcd hmg hobj hints hlen hge
  obtain ⟨K, fd, sp, inK, hbi, hsp, hF⟩ := F w mg fa _ Y G.T.g hmg
  exact law_go inK G.T.g G.T.b G.T.builtins G.T.nolimit hge hobj hints (Nat.le_trans hlen hn2) room hF hbi fun H hO hS => hsp H a ns hlen hO hS
end Ev
set_option Elab.async false
set_option linter.all false
set_option maxRecDepth 100000
/-! Own text: repr. -/
namespace Ev
open PySem PySem.Spec PyProof.Rows L2
mutual
theorem toP_noDict : ∀ {d : D} {p : PyData}, toP d = some p → p.hasDict = false
  | .non, _, e => by cases e; rfl
  | .bl _, _, e => by cases e; rfl
  | .int _, _, e => by cases e; rfl
  | .str _, _, e => by cases e; rfl
  | .lst ds, p, e => by
    obtain ⟨ps, e1, rfl⟩ := map_some (show (toPs ds).map PyData.list = some p by simpa [toP] using e)
    exact toPs_noDict e1
  | .scr ds, p, e => by
    obtain ⟨ps, e1, rfl⟩ := map_some (show (toPs ds).map PyData.list = some p by simpa [toP] using e)
    exact toPs_noDict e1
  | .tup ds, p, e => by
    obtain ⟨ps, e1, rfl⟩ := map_some (show (toPs ds).map PyData.tuple = some p by simpa [toP] using e)
    exact toPs_noDict e1
  | .dct _, _, e => by simp [toP] at e
  | .dcT _, _, e => by simp [toP] at e
  | .dcl _, _, e => by simp [toP] at e
  | .ins _ _, _, e => by simp [toP] at e
theorem toPs_noDict : ∀ {ds : List D} {ps : List PyData}, toPs ds = some ps → PyData.hasDictAll ps = false
  | [], _, e => by cases e; rfl
  | d :: ds, ps, e => by
    simp only [toPs] at e
    cases h1 : toP d with
    | none => rw [h1] at e; cases e
    | some q =>
      cases h2 : toPs ds with
      | none => rw [h1, h2] at e; cases e
      | some qs =>
        rw [h1, h2] at e
        cases e
        show (q.hasDict || PyData.hasDictAll qs) = false
        rw [toP_noDict h1, toPs_noDict h2]; rfl
end
def reprD (d : D) : Option Str := (toP d).bind fun p => if p.showable = true ∧ p.shown.length ≤ sizeLine ∧ p.depth ≤ 60 then some p.shown else none
def fRepr (a : EvF) : EvF := fun ρ S => (one a ρ S).bind fun (d, S) => (reprD d).map fun z => (.val (.d (.str z)), S)
section
variable {X : Cx} {CL : Str → Option Addr}
def rRepr (K : Frg) (CL : Str → Option Addr) : List V → Hp → VK → Prop := fun xs H Q => ∃ F m S d z, Rel K CL F m S H ∧ RepTs K CL F H xs [d] ∧ reprD d = some z ∧ Then K CL F m S H (.val (.d (.str z))) Q
theorem cr_repr (hgu : X.A.guards = some []) (hu : X.A.units + 65 < cLine) : CallR X (.builtin "repr") (rRepr X.K CL) := by
  intro pins s σ H xs us Q I r h
  obtain ⟨F, m, S, d, z, rel, reps, e, k⟩ := h
  obtain ⟨p, e1, e⟩ := bind_some e
  obtain ⟨⟨c1, c2, c3⟩, rfl⟩ := if_some e
  obtain ⟨x, rfl, t⟩ := reps1 reps
  obtain ⟨u, rfl, ru⟩ := vals1 r
  have dp := RepT.dp rel.sub t e1
  have hq : ∀ (tk : Tok) (s' : Shared), Inv X pins σ H s' → EP X pins σ Q (.str p.shown tk) s' := fun tk s' I' => ⟨.str p.shown, H, I', ⟨tk, rfl⟩, k.d rel (.str _)⟩
  obtain ⟨as, rd⟩ := Dp.reads I p x u dp ru
  cases p with
  | none => cases rd; exact PySem.P.repr_of_none (hq _ _ (I.tok _))
  | bool b => cases rd; exact PySem.P.repr_of_bool (hq _ _ (I.tok _))
  | int i => cases rd; exact PySem.P.repr_of_int (of_decide_eq_true (by simpa [PyData.showable] using c1)) (hq _ _ (I.tok _))
  | str z => cases rd; exact PySem.P.repr_of_str (hq _ _ (I.tok _)) c2
  | list xs =>
    cases u with
    | ref a => exact repr_of_reads' rd c1 (PyData.noDict_hsm (toP_noDict e1)) hgu (by omega) (fun _ _ z => z) (fun h' u tk hk => hq u _ (I.kept hk)) c2
    | _ => cases rd
  | tuple xs =>
    cases u with
    | ref a => exact repr_of_reads' rd c1 (PyData.noDict_hsm (toP_noDict e1)) hgu (by omega) (fun _ _ z => z) (fun h' u tk hk => hq u _ (I.kept hk)) c2
    | _ => cases rd
  | dict kvs => have := toP_noDict e1; cases this
theorem repr_t {fa : EvF} {σ : L2.St} {H : Hp} {Q : VK} (h : tF X.K CL (fRepr fa) σ H Q) : tCB (rRepr X.K CL) (tAs X.K CL [(false, fa)]) σ H Q := by
  obtain ⟨F, m, S, ρ, r, S', rel, env, e, k⟩ := h
  obtain ⟨⟨d, S1⟩, e1, e⟩ := bind_some e
  obtain ⟨z, e2, e⟩ := map_some e
  cases e
  obtain ⟨⟨v, S2⟩, e3, e1⟩ := bind_some e1
  obtain ⟨d', e4, e1⟩ := map_some e1
  cases e1
  obtain ⟨⟨r1, S3⟩, e5, e3⟩ := map_some e3
  cases e3
  refine ⟨F, m, S, ρ, [Ev.settle r1], S', rel, env, ?_, ?_⟩
  · show (eA false fa ρ S).bind _ = _
    unfold eA
    rw [e5]
    cases r1 <;> rfl
  · intro vs F1 m1 H1 x1 rel1 q1
    exact ⟨F1, m1, S', d, z, rel1, pks_ok rel1 q1 (by show (pk (Ev.settle r1) S').bind _ = _; rw [e4]; rfl), e2, then_of x1 k⟩
end
section
variable {P : Program} {w : World} {K : Frg} {mg : Str → Option Value} {base : Heap} {CL : Str → Option Addr} {k : Nat} {N : List Str} {sc : Scope} {fb : Str → Bool} {X : Cx}
theorem k_repr (h : Cok P w K mg base k N sc fb X) (hgu : X.A.guards = some []) {e : Expr} {fe : EvF} {p pos : Pos} {l : List Str} (fr : Fre mg l) (e1 : gloB sc "repr" = true) (e2 : memB "repr" l = true) (ha : PE X e (tF K CL fe)) (hs : starEach [e] X.env = [(false, eval e X.env)]) :
    PE X (.Call (.Name "repr" p) [e] [] pos) (tF K CL (fRepr fe)) := by
  have g := h.gl e1
  have hu := h.un
  obtain ⟨rfl, rfl, rfl, rfl, rfl, rfl, hnd, rfl, hc, hx, hr, hf⟩ := h
  exact PEwk (pe_callB (cr_repr hgu hu) g (fr _ (of_decide_eq_true e2)) (by decide +kernel) (das_cons false ha das_nil hs) (by decide) (gloB_d e1) hs (by rfl)) fun σ H Q h => repr_t h
end
end Ev
set_option Elab.async false
set_option linter.all false
set_option maxRecDepth 100000
/-! Own text: xs[i] += e, x += e. -/
namespace Ev
open PySem PySem.Spec PyProof.Rows L2
def augI (sub : Bool) (a b : Int) : Int := if sub then a - b else a + b
/-- what stands at an index of a list that changes -/
def atL (o i : Val) (S : Sto) : Option (Int × D) := (lstAt o S).bind fun (_, xs) => match i with
  | .d (.int j) => if 0 ≤ j then (xs[j.toNat]?).map fun d => (j, d) else none
  | _ => none
def augV (sub : Bool) (d : D) (y : Val) : Option D := match d, y with
  | .int a, .d (.int b) => some (.int (augI sub a b))
  | _, _ => none
def sAugS (sub : Bool) (fo fi fe : EvF) : StF := fun ρ S => (eV fo ρ S).bind fun (o, S) => (eV fi ρ S).bind fun (i, S) => (atL o i S).bind fun (j, d) => (eV fe ρ S).bind fun (y, S) => (augV sub d y).bind fun z =>
  (lstAt o S).bind fun (k, ys) => (ixN ys.length j).map fun n => (.nx, ρ, S.set k (.lst (ys.set n z)))
def sAug (sub : Bool) (i : Nat) (fe : EvF) : StF := fun ρ S => match ρ[i]? with
  | some (some (.d d)) => (eV fe ρ S).bind fun (y, S) => (augV sub d y).map fun z => (.nx, ρ.set i (some (.d z)), S)
  | _ => none
def augOp : Bool → Operator
  | true => .Sub
  | false => .Add
section
variable {X : Cx} {CL : Str → Option Addr} {o e i : Expr} {fo fe fi : EvF} {apos pos pos' tpos : Pos}
def rGetL : V → V → Hp → VK → Prop := fun o i H Q => ∃ p xs k v, o = .ref p ∧ i = .int k ∧ H p = some (.lst xs) ∧ 0 ≤ k ∧ xs[k.toNat]? = some v ∧ Q v H
theorem get_list : PGet X rGetL := by
  intro pins s σ H o i ov iv Q I ro ri h
  obtain ⟨p, xs, k, v, rfl, rfl, hp, h0, hv, q⟩ := h
  cases ro
  obtain ⟨t, rfl⟩ := ri
  obtain ⟨its, n, r, ho, hz⟩ := I.lst hp
  obtain ⟨w, ew, rw'⟩ := r.get hv
  have hl := r.length
  have hn := line63
  have lt : k.toNat < xs.length := (List.getElem?_eq_some_iff.mp hv).1
  exact wpAny_getItem_list ⟨_, ho, rfl, n, rfl⟩ h0 (by omega) (by simpa using ew) ⟨v, H, I, rw', q⟩
theorem ip_aug (sub : Bool) : PIp X (augOp sub) (ipI (augI sub)) := by
  cases sub with
  | true => exact ip_sub
  | false => exact ip_add
theorem aug_some {sub : Bool} {d : D} {y : Val} {z : D} (h : augV sub d y = some z) : ∃ a b, d = .int a ∧ y = .d (.int b) ∧ z = .int (augI sub a b) := by
  unfold augV at h
  split at h
  · exact ⟨_, _, rfl, rfl, (Option.some.inj h).symm⟩
  · cases h
theorem ds_augS (sub : Bool) (ho : PE X o (tF X.K CL fo)) (hi : PE X i (tF X.K CL fi)) (he : PE X e (tF X.K CL fe)) (ha : ∀ ov iv new, augStore i ov iv new = (do holding [new, ov, iv] (setItem ov iv new); release [new, ov, iv] []; pure .next)) :
    PS X (.AugAssign (.Subscript o i tpos) (augOp sub) e pos) (tS X.K CL (sAugS sub fo fi fe)) :=
  PSwk (ps_augS ho.v hi.v get_list he.v (ip_aug sub) set_list ha) fun D σ H ⟨F, m, S, ρ, oc, ρ', S', rel, env, e, q⟩ => by
    obtain ⟨⟨w, S1⟩, e1, e⟩ := bind_some e
    obtain ⟨⟨iv, S2⟩, e2, e⟩ := bind_some e
    obtain ⟨⟨j, d⟩, e3, e⟩ := bind_some e
    obtain ⟨⟨y, S3⟩, e4, e⟩ := bind_some e
    obtain ⟨z, e5, e⟩ := bind_some e
    obtain ⟨⟨k, ys⟩, e6, e⟩ := bind_some e
    obtain ⟨n, e7, e⟩ := map_some e
    cases e
    obtain ⟨⟨k0, xs⟩, e8, e3⟩ := bind_some e3
    obtain ⟨a, b, rfl, rfl, rfl⟩ := aug_some e5
    refine ⟨F, m, S, ρ, w, S1, rel, env, e1, fun u F1 m1 H1 x1 r1 q1 => ⟨F1, m1, S1, ρ, _, S2, r1, env.mono x1, e2, fun v F2 m2 H2 x2 r2 q2 => ?_⟩⟩
    cases iv with
    | cell _ => cases e3
    | grd _ => cases e3
    | d dj =>
      cases dj with
      | int jj =>
        have e3 : (if 0 ≤ jj then (xs[jj.toNat]?).map fun d => (jj, d) else none) = some (j, .int a) := e3
        obtain ⟨h0, e3⟩ := Option.ite_none_right_eq_some.mp e3
        obtain ⟨d', e9, e3⟩ := map_some e3
        cases e3
        cases q2
        obtain ⟨pa, vs, rfl, hm, hS, hF, hH, hr⟩ := lst_at r2 (q1.mono x2) e8
        obtain ⟨va, ea, ra⟩ := RepL.get hr e9
        cases ra
        refine ⟨pa, vs, j, _, rfl, rfl, hH, h0, ea, F2, m2, S2, ρ, _, S3, r2, (env.mono x1).mono x2, e4, fun v3 F3 m3 H3 x3 r3 q3 => ?_⟩
        cases q3
        obtain ⟨pa', vs', hpa, hm', hS', hF', hH', hr'⟩ := lst_at r3 ((q1.mono x2).mono x3) e6
        cases hpa
        obtain ⟨w1, w2⟩ := r3.write (c := .lst (ys.set n (.int (augI sub a b)))) (o := .lst (vs'.set n (.int (augI sub a b)))) hS' hm' rfl ⟨hF', _, upd_same, RepL.set (.int _) n hr'⟩
        exact ⟨a, b, rfl, rfl, pa, vs', j, n, rfl, rfl, hH', by rw [hr'.length]; exact e7, q F3 m3 _ ((((x1.trans x2).trans x3)).trans w2) w1 σ ((((env.mono x1).mono x2).mono x3).mono w2)⟩
      | _ => cases e3
end
/-! texts: where a sign first stands, how often it stands -/
inductive Sm where | index | count
def smD : Sm → Str → Str → Option D
  | .index, a, b => match Builtin.Str.occurrences a b 0 a.length 1 with
    | i :: _ => some (.int (i : Nat))
    | [] => none
  | .count, a, b => some (.int (Txt.count a b))
def fSm (o : Sm) (fo fe : EvF) : EvF := fun ρ S => (eV fo ρ S).bind fun (x, S) => (eV fe ρ S).bind fun (y, S) => match x, y with
  | .d (.str a), .d (.str b) => (smD o a b).map fun d => (.val (.d d), S)
  | _, _ => none
def smN : Sm → Str
  | .index => "index"
  | .count => "count"
section
variable {X : Cx} {CL : Str → Option Addr} {o e : Expr} {fo fe : EvF} {apos pos : Pos}
def rSm (m : Sm) : V → List V → Hp → VK → Prop := fun x xs H Q => ∃ a b d v, x = .str a ∧ xs = [.str b] ∧ smD m a b = some d ∧ d = .int v ∧ Q (.int v) H
theorem mt_smI : MtR X "str.index" (rSm .index) := by
  intro pins s σ H x xs v us Q I rx rs h
  obtain ⟨a, b, d, z, rfl, rfl, e, rfl, q⟩ := h
  have e : (match Builtin.Str.occurrences a b 0 a.length 1 with | i :: _ => some (D.int (i : Nat)) | [] => none) = some (.int z) := e
  cases ho : Builtin.Str.occurrences a b 0 a.length 1 with
  | nil => rw [ho] at e; cases e
  | cons i rest =>
    rw [ho] at e
    cases e
    exact mt_sindex pins s σ H _ _ v us Q I rx rs ⟨a, b, i, rest, rfl, rfl, ho, q⟩
theorem mt_smC : MtR X "str.count" (rSm .count) := by
  intro pins s σ H x xs v us Q I rx rs h
  obtain ⟨a, b, d, z, rfl, rfl, e, rfl, q⟩ := h
  cases e
  exact mt_count pins s σ H _ _ v us Q I rx rs ⟨a, b, rfl, rfl, q⟩
theorem smD_int {m : Sm} {a b : Str} {d : D} (h : smD m a b = some d) : ∃ i, d = .int i := by
  cases m with
  | count => cases h; exact ⟨_, rfl⟩
  | index =>
    have h : (match Builtin.Str.occurrences a b 0 a.length 1 with | i :: _ => some (D.int (i : Nat)) | [] => none) = some d := h
    split at h
    · cases h; exact ⟨_, rfl⟩
    · cases h
theorem sm_t {m : Sm} {σ : L2.St} {H : Hp} {Q : VK} (h : tF X.K CL (fSm m fo fe) σ H Q) : tBM X.K "str" (rSm m) (tV X.K CL fo) (tCons (tV X.K CL fe) tNil) σ H Q := by
  obtain ⟨F, m', S, ρ, r, S', rel, env, e, k⟩ := h
  obtain ⟨⟨x, S2⟩, e2, e⟩ := bind_some e
  obtain ⟨⟨y, S3⟩, e3, e⟩ := bind_some e
  dsimp only at e
  cases x with
  | cell _ => cases e
  | grd _ => cases e
  | d dx =>
    cases dx with
    | str a =>
      cases y with
      | cell _ => cases e
      | grd _ => cases e
      | d dy =>
        cases dy with
        | str b =>
          obtain ⟨d, e6, e⟩ := map_some e
          cases e
          obtain ⟨z, rfl⟩ := smD_int e6
          refine ⟨F, m', S, ρ, _, S2, rel, env, e2, fun v F1 m1 H1 x1 r1 q1 => ?_⟩
          cases q1
          refine ⟨rfl, F1, m1, S2, ρ, _, _, r1, env.mono x1, e3, fun u F2 m2 H2 x2 r2 q2 => ?_⟩
          cases q2
          exact ⟨a, b, _, z, rfl, rfl, e6, rfl, k _ F2 m2 H2 (x1.trans x2) r2 (.int _)⟩
        | _ => cases e
    | _ => cases e
end
/-! three names at once -/
def sPar3 (c1 c2 c3 : Bool) (f1 f2 f3 : EvF) (i j l : Nat) : StF := fun ρ S => (eA c1 f1 ρ S).bind fun (u, S) => (eA c2 f2 ρ S).bind fun (v, S) => (eA c3 f3 ρ S).map fun (w, S) => (.nx, ((ρ.set i (some u)).set j (some v)).set l (some w), S)
section
variable {X : Cx} {CL : Str → Option Addr}
theorem ds_par3 {x y z : Str} {e1 e2 e3 : Expr} {f1 f2 f3 : EvF} {i j l : Nat} {c1 c2 c3 : Bool} {px py pz pt pos : Pos} {kt k2 : Nat} {pt2 : Pos} (hc : X.calm = true) (hN : X.N.Nodup) (hi : X.N[i]? = some x) (hj : X.N[j]? = some y) (hl : X.N[l]? = some z) (hij : i ≠ j) (hil : i ≠ l) (hjl : j ≠ l)
    (hx : X.env.scope.names.lookup x = some .local) (hy : X.env.scope.names.lookup y = some .local) (hz : X.env.scope.names.lookup z = some .local) (h1 : PE X e1 (tF X.K CL f1)) (h2 : PE X e2 (tF X.K CL f2)) (h3 : PE X e3 (tF X.K CL f3))
    (hs : starEach [e1, e2, e3] X.env = (false, eval e1 X.env) :: starEach [e2, e3] X.env) (hs2 : starEach [e2, e3] X.env = (false, eval e2 X.env) :: starEach [e3] X.env) (hs3 : starEach [e3] X.env = [(false, eval e3 X.env)])
    (hw : swappedStores [.Tuple [.Name x px, .Name y py, .Name z pz] kt pt] (.Tuple [e1, e2, e3] k2 pt2) X.env = pure (some [x, y, z]))
    (hsw : swapsWithSole [.Tuple [.Name x px, .Name y py, .Name z pz] kt pt] (.Tuple [e1, e2, e3] k2 pt2) pos.line X.env = pure false) :
    PS X (.Assign [.Tuple [.Name x px, .Name y py, .Name z pz] kt pt] (.Tuple [e1, e2, e3] k2 pt2) pos) (tS X.K CL (sPar3 c1 c2 c3 f1 f2 f3 i j l)) :=
  PSwk (ps_par3 hc hN hi hj hl hij hil hjl hx hy hz (pa_cons (h1.a c1) (pa_cons (h2.a c2) (pa_cons (h3.a c3) pa_nil hs3) hs2) hs) hw hsw) fun D σ H ⟨F, m, S, ρ, o, ρ', S', rel, env, e, q⟩ => by
    obtain ⟨⟨v1, S1⟩, e1, e⟩ := bind_some e
    obtain ⟨⟨v2, S2⟩, e2, e⟩ := bind_some e
    obtain ⟨⟨v3, S3⟩, e3, e⟩ := map_some e
    cases e
    refine ⟨F, m, S, ρ, v1, S1, rel, env, e1, fun w1 F1 m1 H1 x1 r1 q1 => ⟨F1, m1, S1, ρ, v2, S2, r1, env.mono x1, e2, fun w2 F2 m2 H2 x2 r2 q2 => ⟨F2, m2, S2, ρ, v3, _, r2, (env.mono x1).mono x2, e3, fun w3 F3 m3 H3 x3 r3 q3 => ⟨w1, w2, w3, rfl, ?_⟩⟩⟩⟩
    exact q F3 m3 H3 ((x1.trans x2).trans x3) r3 _ ((((((env.mono x1).mono x2).mono x3).set ((q1.mono x2).mono x3) i).set (q2.mono x3) j).set q3 l)
end
section
variable {P : Program} {w : World} {K : Frg} {mg : Str → Option Value} {base : Heap} {CL : Str → Option Addr} {k : Nat} {N : List Str} {sc : Scope} {fb : Str → Bool} {X : Cx}
theorem s_augS (h : Cok P w K mg base k N sc fb X) {o i e : Expr} {fo fi fe : EvF} {tpos pos : Pos} (sub : Bool) (ho : PE X o (tF K CL fo)) (hi : PE X i (tF K CL fi)) (he : PE X e (tF K CL fe))
    (ha : ∀ ov iv new, augStore i ov iv new = (do holding [new, ov, iv] (setItem ov iv new); release [new, ov, iv] []; pure .next)) : PS X (.AugAssign (.Subscript o i tpos) (augOp sub) e pos) (tS K CL (sAugS sub fo fi fe)) := by
  obtain ⟨rfl, rfl, rfl, rfl, rfl, rfl, hnd, rfl, hc, hx, hr, hf⟩ := h
  exact ds_augS sub ho hi he ha
section
variable (h : Cok P w K mg base k N sc fb X) {o e : Expr} {fo fe : EvF} {apos pos : Pos} (hb : ∀ name, attributeBase o name X.env (eval o X.env) = eval o X.env) (hl : (apos.endLine == pos.line) = true) (hs : starEach [e] X.env = [(false, eval e X.env)])
  (hw : ((backTo pos (starEach [e] X.env)).all (fun x => !x.1) && (backToKw pos (keywordEach [] X.env)).all (fun x => x.1.isSome) && decide (([e] : List Expr).length + ([] : List Keyword).length + (if ([] : List Keyword).isEmpty then 0 else 1) < 30)) = true)
  (ho : PE X o (tF K CL fo)) (he : PE X e (tF K CL fe))
include h hb hl hs hw ho he
theorem m_sindex : PE X (.Call (.Attribute o "index" apos) [e] [] pos) (tF K CL (fSm .index fo fe)) := by
  obtain ⟨rfl, rfl, rfl, rfl, rfl, rfl, hnd, rfl, hc, hx, hr, hf⟩ := h
  exact PEwk (pe_bm PySem.F.plainAttrs_str PySem.F.slot_str_index PySem.F.type_str_index mt_smI ho.v (pa1 he hs) (hb _) hw hl hs rfl) fun σ H Q h => sm_t h
theorem m_scount : PE X (.Call (.Attribute o "count" apos) [e] [] pos) (tF K CL (fSm .count fo fe)) := by
  obtain ⟨rfl, rfl, rfl, rfl, rfl, rfl, hnd, rfl, hc, hx, hr, hf⟩ := h
  exact PEwk (pe_bm PySem.F.plainAttrs_str PySem.F.slot_str_count PySem.F.type_str_count mt_smC ho.v (pa1 he hs) (hb _) hw hl hs rfl) fun σ H Q h => sm_t h
end
theorem s_par3 (h : Cok P w K mg base k N sc fb X) {x y z : Str} {a1 a2 a3 : Expr} {f1 f2 f3 : EvF} {i j l : Nat} {px py pz p1 p2 pos : Pos} {kt k2 : Nat} (c1 c2 c3 : Bool) (e1 : locB N sc i x = true) (e2 : locB N sc j y = true) (e3 : locB N sc l z = true)
    (hij : decide (i ≠ j ∧ i ≠ l ∧ j ≠ l) = true) (h1 : PE X a1 (tF K CL f1)) (h2 : PE X a2 (tF K CL f2)) (h3 : PE X a3 (tF K CL f3))
    (hs : starEach [a1, a2, a3] X.env = (false, eval a1 X.env) :: starEach [a2, a3] X.env) (hs2 : starEach [a2, a3] X.env = (false, eval a2 X.env) :: starEach [a3] X.env) (hs3 : starEach [a3] X.env = [(false, eval a3 X.env)])
    (hw : ∀ env : Env, env.scope = sc → swappedStores [.Tuple [.Name x px, .Name y py, .Name z pz] kt p1] (.Tuple [a1, a2, a3] k2 p2) env = pure (some [x, y, z]))
    (hsw : swapsWithSole [.Tuple [.Name x px, .Name y py, .Name z pz] kt p1] (.Tuple [a1, a2, a3] k2 p2) pos.line X.env = pure false) :
    PS X (.Assign [.Tuple [.Name x px, .Name y py, .Name z pz] kt p1] (.Tuple [a1, a2, a3] k2 p2) pos) (tS K CL (sPar3 c1 c2 c3 f1 f2 f3 i j l)) := by
  have sw := hw X.env h.hsc
  unfold locB at e1 e2 e3
  rw [Bool.and_eq_true] at e1 e2 e3
  have b1 := of_decide_eq_true e1.1
  have b2 := of_decide_eq_true e1.2
  have b3 := of_decide_eq_true e2.1
  have b4 := of_decide_eq_true e2.2
  have b5 := of_decide_eq_true e3.1
  have b6 := of_decide_eq_true e3.2
  obtain ⟨n1, n2, n3⟩ := of_decide_eq_true hij
  obtain ⟨rfl, rfl, rfl, rfl, rfl, rfl, hnd, rfl, hc, hx, hr, hf⟩ := h
  exact ds_par3 hc hnd b1 b3 b5 n1 n2 n3 b2 b4 b6 h1 h2 h3 hs hs2 hs3 sw hsw
end
end Ev
set_option Elab.async false
set_option linter.all false
set_option maxRecDepth 100000
set_option maxHeartbeats 400000
/-! Own text: sorting tuples, the empty one among them. -/
namespace Ev
open PySem PySem.Spec PySem.Calls PyProof.Rows PySem.SeqAt PySem.W
section
variable {prog : Program} {w : World} {A : Around} {s : Shared}
/-- a tuple asked by its own method -/
theorem tup_lt {E : Value → Shared → Prop} {Q : Value → Shared → Prop} {l b : Addr} {items items2 : Array Value} {e r : Nat → Bool} (hl : s.heap.IsTuple l items) (hb : s.heap.IsTuple b items2)
    (he : ∀ j (h1 : j < items.size) (h2 : j < items2.size), EqAt A.in1 s items[j] items2[j] (e j)) (hr : ∀ j (h1 : j < items.size) (h2 : j < items2.size), e j = false → RcLt A.in1 s items[j] items2[j] (r j))
    (h : Q (.bool (firstLt e r (decide (items.size < items2.size)) (List.range (min items.size items2.size)))) s) : wpAny (model prog w) A (call (.builtin "tuple.__lt__") [.ref l, .ref b]) Q E s := by
  obtain ⟨⟨c1, x1, y1, z1⟩, g1, k1, n1, d1⟩ := hl
  obtain ⟨⟨c2, x2, y2, z2⟩, g2, k2, n2, d2⟩ := hb
  cases k1
  cases k2
  cases d1
  cases d2
  refine call_meets F.slot_tuple_lt ⟨_, g1, rfl⟩ F.entry_tuple_lt (F.args_tuple_lt_2 _ _) (tuple_ltAt l b items items2 n1 n2 x1 x2 z1 z2 e r) ?_
  exact ⟨g1, g2, he, hr, h⟩
theorem one_tup {E : Value → Shared → Prop} {xs ys : List PyData} {a b : Value} {as bs : List Addr} {Q : Bool → Shared → Prop} (ra : Reads s.heap a (.tuple xs) as) (rb : Reads s.heap b (.tuple ys) bs) (hal : alikeAll xs ys = true)
    (hu : A.units + min (PyData.tuple xs).depth (PyData.tuple ys).depth < cLine) (hq : Q (dataLt (.tuple xs) (.tuple ys)) s) : wpAny (model prog w) A (oneLt' true a b) Q E s := by
  cases ra with
  | @tuple l o vs n _ _ g1 g2 g3 g4 =>
    cases rb with
    | @tuple l' o' vs' n' _ _ k1 k2 k3 k4 =>
      have n1 : vs.size = xs.length := by simpa using ReadsAll.length _ _ _ g4
      have n2 : vs'.size = ys.length := by simpa using ReadsAll.length _ _ _ k4
      rw [dataLt_tuple, ← firstLt_toks xs ys hal, ← n1, ← n2] at hq
      rw [oneLt'_eq, if_pos rfl]
      refine wpAny_bind (wpAny_cRoomFor (room_here hu) (wpAny_bind ?_))
      refine wpAny_callSpecialIfBound?_slot (T := "tuple") ⟨_, g1, g2⟩ F.slot_tuple_lt (tup_lt (e := pairEq xs ys) (r := fun j => dataLt (xs.getD j .none) (ys.getD j .none)) ⟨_, g1, g2, _, g3⟩ ⟨_, k1, k2, _, k3⟩ (fun j j1 j2 => ?_) (fun j j1 j2 hj => ?_) ?_)
      · have q := eqAt_alikeAll xs ys A.in1 s vs.toList vs'.toList _ _ g4 k4 hal (room_in hu) j (by simpa using j1) (by simpa using j2)
        rw [Array.getElem_toList, Array.getElem_toList] at q
        exact q
      · have q := rcLt_alikeAll xs ys A.in1 s vs.toList vs'.toList _ _ g4 k4 hal (room_in hu) j (by simpa using j1) (by simpa using j2) hj
        rw [Array.getElem_toList, Array.getElem_toList] at q
        exact q
      · exact wpAny_truthy_bool hq
/-- the first items of tuples -/
def hasFst : PyData → Bool
  | .tuple (_ :: _) => true
  | _ => false
theorem firsts_tup {E : Value → Shared → Prop} : ∀ {vs : List Value} {ds : List PyData} {Q : List (Option Value) → Shared → Prop}, EachIs (fun v d => ∃ as, Reads s.heap v d as) vs ds → (∀ d ∈ ds, ∃ xs, d = .tuple xs) →
    (∀ fs, fs.map (·.isSome) = ds.map hasFst → Q fs s) → wpAny (model prog w) A (vs.mapM firstOfTuple') Q E s
  | _, _, _, .nil, _, h => by rw [List.mapM_nil]; exact wpAny_pure (h [] rfl)
  | v :: vs, d :: ds, Q, .cons ⟨as, r⟩ t, ht, h => by
    obtain ⟨xs, rfl⟩ := ht d List.mem_cons_self
    cases r with
    | @tuple a o us n _ _ ho hc hd hr =>
      rw [List.mapM_cons]
      refine wpAny_bind ?_
      rw [kas_first_eq]
      refine wpAny_bind (Looks.here (show Looks (model prog w) s.heap (typeOf (.ref a)) o.cls from (Looks.ld ho).andThen .now) ?_)
      rw [hc, if_neg (by decide)]
      refine wpAny_bind (listItems_at ho hd (wpAny_pure ?_))
      refine wpAny_bind (firsts_tup t (fun d hd => ht d (List.mem_cons_of_mem _ hd)) fun fs hfs => wpAny_pure (h _ ?_))
      rw [List.map_cons, List.map_cons, hfs]
      congr 1
      cases xs with
      | nil =>
        cases q : us.toList with
        | nil =>
          have : us = #[] := by simpa using q
          subst this; rfl
        | cons x l => rw [q] at hr; cases hr
      | cons y ys =>
        cases q : us.toList with
        | nil => rw [q] at hr; cases hr
        | cons x l =>
          have : us[0]? = some x := by rw [← Array.getElem?_toList, q]; rfl
          rw [this]; rfl
/-- the kind of comparing, where an empty tuple is among them -/
theorem kind_tup {E : Value → Shared → Prop} {vs : List Value} {ds : List PyData} {Q : SortKind → Shared → Prop} (e : EachIs (fun v d => ∃ as, Reads s.heap v d as) vs ds) (ht : ∀ d ∈ ds, ∃ xs, d = .tuple xs) (hn : ds.all hasFst = false) (h0 : ds ≠ [])
    (h : Q (if (ds[0]?.map hasFst).getD false then general' else oneType') s) : wpAny (model prog w) A (keyKind' vs.toArray) Q E s := by
  rw [kat_kind_eq, List.mapM_toArray, map_eq_pure_bind]
  refine wpAny_bind (wpAny_bind (firsts_tup e ht fun fs hfs => wpAny_pure ?_))
  have hall : (fs.toArray.all fun x => x.isSome) = false := by
    rw [List.all_toArray, ← hn]
    have : ∀ {l : List (Option Value)} {m : List PyData}, l.map (·.isSome) = m.map hasFst → l.all (fun x => x.isSome) = m.all hasFst := by
      intro l
      induction l with
      | nil => intro m q; cases m with
        | nil => rfl
        | cons _ _ => cases q
      | cons a l ih => intro m q; cases m with
        | nil => cases q
        | cons b m =>
          rw [List.map_cons, List.map_cons] at q
          obtain ⟨q1, q2⟩ := List.cons.inj q
          rw [List.all_cons, List.all_cons, ih q2, q1]
    exact this hfs
  rw [if_neg (by rw [hall]; decide)]
  cases ds with
  | nil => exact absurd rfl h0
  | cons d ds =>
    cases fs with
    | nil => cases hfs
    | cons f fs =>
      rw [List.map_cons, List.map_cons] at hfs
      have hf : f.isSome = hasFst d := (List.cons.inj hfs).1
      have h1 : ((f :: fs).toArray[0]?.bind id).isSome = hasFst d := by
        rw [← hf]
        cases f <;> rfl
      have h2 : (((d :: ds)[0]?.map hasFst).getD false) = hasFst d := rfl
      rw [h2] at h
      rw [h1]
      cases q : hasFst d with
      | true =>
        rw [q, if_pos rfl] at h
        rw [if_pos rfl]
        exact wpAny_pure h
      | false =>
        rw [q, if_neg (by decide)] at h
        rw [if_neg (by decide), oneTypeOnly'_eq, List.mapM_toArray, map_eq_pure_bind]
        have hl : ∀ v ∈ vs, Looks (model prog w) s.heap (typeOf v) (Value.type "tuple") := fun v hv => by
          obtain ⟨d', hd', as, r⟩ := e.left v hv
          obtain ⟨xs, rfl⟩ := ht d' hd'
          exact looks_reads r
        refine wpAny_bind (wpAny_bind (wpAny_bind (kas_mapM (r := Value.type "tuple") _ (fun v hv Q' hq => (hl v hv).here hq) (wpAny_pure ?_))))
        cases e with
        | cons _ _ =>
          rename_i v vs' _ _
          have ha : ((List.map (fun _ => Value.type "tuple") (v :: vs')).toArray.all fun x => x == Value.type "tuple") = true := by
            simp
          have hz : (List.map (fun _ => Value.type "tuple") (v :: vs')).toArray[0]? = some (Value.type "tuple") := by simp
          rw [hz]
          simp only [ha, if_true]
          exact wpAny_pure (wpAny_pure h)
/-- tuples can be sorted, the empty one among them -/
theorem sorts_tup {vs : List Value} {ds : List PyData} (e : EachIs (fun v d => ∃ as, Reads s.heap v d as) vs ds) (hal : AllAlike ds) (ht : ∀ d ∈ ds, ∃ xs, d = .tuple xs) (hu : ∀ d, d ∈ ds → A.units + d.depth < cLine) :
    SortsAt prog w A s (dataKind s.heap ds) vs := by
  by_cases hk : ds.all hasFst = true
  · refine SortsAt.data e hal (.inl fun d hd => ?_) hu
    have := List.all_eq_true.mp hk d hd
    obtain ⟨xs, rfl⟩ := ht d hd
    cases xs with
    | nil => cases this
    | cons x r => exact ⟨x, r, rfl⟩
  · have hk : ds.all hasFst = false := by simpa using hk
    have h0 : ds ≠ [] := by rintro rfl; cases hk
    have room : ∀ {d d' : PyData}, d ∈ ds → A.units + min d.depth d'.depth < cLine := fun {d d'} hd => Nat.lt_of_le_of_lt (Nat.add_le_add_left (Nat.min_le_left _ _) _) (hu d hd)
    refine ⟨fun v hv => ?_, (if (ds[0]?.map hasFst).getD false then general' else oneType'), ?_, fun _ E Q hq => kind_tup e ht hk h0 hq⟩
    · obtain ⟨d, hd, as, r⟩ := e.left v hv
      exact ⟨_, dataKind_some hal hd r⟩
    · intro E x y a b Q ha hb hq
      obtain ⟨d, as, hd, ra, rfl⟩ := dataKind_inv ha
      obtain ⟨d', as', hd', rb, rfl⟩ := dataKind_inv hb
      obtain ⟨xs, rfl⟩ := ht d hd
      obtain ⟨ys, rfl⟩ := ht d' hd'
      have hdd := hal _ hd _ hd'
      split
      · show wpAny _ _ (oneLt' false x y) _ _ _
        exact oneLt_alike (f := false) (fun z => nomatch z) ra rb hdd (fun z => nomatch z) (room hd) hq
      · rw [keyLt'_oneType]
        exact one_tup ra rb (by simpa [alike] using hdd) (room hd) hq
variable {E : Value → Shared → Prop} {β : Type} {R : Value → β → Prop} {enc : β → PyData} {bs : List β} {vs : List Value}
theorem sorted_tups {l : Addr} {Q : Value → Shared → Prop} (hl : s.heap.IsList l vs.toArray) (e : EachIs R vs bs) (er : EachIs (fun v b => ∃ as, Reads s.heap v (enc b) as) vs bs) (hal : AllAlike (bs.map enc)) (ht : ∀ b ∈ bs, ∃ xs, enc b = .tuple xs) (hL : bs.length ≤ sizeLine)
    (hu : ∀ b, b ∈ bs → A.units + 2 + (enc b).depth < cLine) (h : ∀ out, out.length = bs.length → EachIs R out (bs.mergeSort (dataLe false enc)) → Q (.ref (s.heap.objs.size + 1)) { s with heap := sortedAll s.heap vs (List.toArray out) }) :
    wpAny (model prog w) A (call (.builtin "sorted") [.ref l]) Q E s := by
  have er2 : EachIs (fun v b => ∃ as, Reads (sortingHeap (copyHeap s.heap vs) (s.heap.objs.size + 1) vs) v (enc b) as) vs bs := er.mono fun _ _ ⟨as, r⟩ => ⟨as, PyProof.Rows.Reads.keeps (fun _ _ => sorting_copy_old) r⟩
  have hlen : (sortVals (dataKind (sortingHeap (copyHeap s.heap vs) (s.heap.objs.size + 1) vs) (bs.map enc)) false vs vs).length = bs.length := by
    rw [sortVals_length false rfl]; exact e.length
  refine sorted_vals hl (sorts_tup (s := { s with heap := sortingHeap (copyHeap s.heap vs) (s.heap.objs.size + 1) vs }) (each_map (R := fun v d => ∃ as, Reads (sortingHeap (copyHeap s.heap vs) (s.heap.objs.size + 1) vs) v d as) enc er2) hal (fun d hd => ?_) (bound_map hu)) (by rw [e.length]; exact hL) (h _ hlen (sortVals_data false e er2 hal))
  obtain ⟨b, hb, rfl⟩ := List.mem_map.mp hd
  exact ht b hb
end
open L2
/-- data for the library -/
def encD (d : D) : PyData := (toP d).getD .none
def isTupD : D → Bool
  | .tup _ => true
  | _ => false
/-- tuples, sorted -/
def tupsD (ds : List D) : Option (List D) := (toPs ds).bind fun ps => if ps.all (fun p => ps.all (alike p)) = true ∧ ds.all isTupD = true ∧ PyData.depthAll ps ≤ 60 ∧ ds.length ≤ sizeLine then some (ds.mergeSort (dataLe false encD)) else none
theorem toPs_enc : ∀ {ds : List D} {ps : List PyData}, toPs ds = some ps → ps = ds.map encD ∧ ∀ d ∈ ds, toP d = some (encD d)
  | [], ps, e => by cases e; exact ⟨rfl, fun d hd => nomatch hd⟩
  | d :: ds, ps, e => by
    simp only [toPs] at e
    cases h1 : toP d with
    | none => rw [h1] at e; cases e
    | some q =>
      cases h2 : toPs ds with
      | none => rw [h1, h2] at e; cases e
      | some qs =>
        rw [h1, h2] at e
        cases e
        obtain ⟨rfl, h3⟩ := toPs_enc h2
        have : encD d = q := by unfold encD; rw [h1]; rfl
        refine ⟨by rw [List.map_cons, this], fun x hx => ?_⟩
        rcases List.mem_cons.mp hx with rfl | hx
        · rw [h1, this]
        · exact h3 x hx
section
variable {X : Cx} {CL : Str → Option Addr} {K : Frg} {F : Hp}
def RV (K : Frg) (CL : Str → Option Addr) (F : Hp) (u : Value) (d : D) : Prop := ∃ x : V, RelV x u ∧ RepD K CL F x d
theorem each_of : ∀ {xs : List V} {us : List Value} {ds : List D}, Vals xs us → RepL K CL F xs ds → EachIs (RV K CL F) us ds
  | _, _, _, .nil, .nil => .nil
  | _, _, _, .cons r rs, .cons a as => .cons ⟨_, r, a⟩ (each_of rs as)
theorem of_each : ∀ {us : List Value} {ds : List D}, EachIs (RV K CL F) us ds → ∃ xs, Vals xs us ∧ RepL K CL F xs ds
  | _, _, .nil => ⟨[], .nil, .nil⟩
  | _, _, .cons ⟨x, r, a⟩ t => by
    obtain ⟨xs, h1, h2⟩ := of_each t
    exact ⟨x :: xs, .cons r h1, .cons a h2⟩
theorem depth_mem {p : PyData} : ∀ {ps : List PyData}, p ∈ ps → p.depth ≤ PyData.depthAll ps
  | q :: ps, h => by
    show _ ≤ max q.depth (PyData.depthAll ps)
    rcases List.mem_cons.mp h with rfl | h
    · omega
    · have := depth_mem h
      omega
def rSortT (K : Frg) (CL : Str → Option Addr) : List V → Hp → VK → Prop := fun xs H Q => ∃ F m S ds out, Rel K CL F m S H ∧ RepTs K CL F H xs [.lst ds] ∧ tupsD ds = some out ∧ Then K CL F m S H (.new (.lst out)) Q
theorem cr_sortT (hu : X.A.units + 65 < cLine) : CallR X (.builtin "sorted") (rSortT X.K CL) := by
  intro pins s σ H xs us Q I r h
  obtain ⟨F, m, S, ds, out, rel, reps, e, k⟩ := h
  obtain ⟨ps, e1, e⟩ := bind_some e
  obtain ⟨⟨c1, c2, c3, c4⟩, rfl⟩ := if_some e
  obtain ⟨hps, hto⟩ := toPs_enc e1
  subst hps
  obtain ⟨x, rfl, t⟩ := reps1 reps
  obtain ⟨u, rfl, ru⟩ := vals1 r
  obtain ⟨a, vs, rfl, h1, h2⟩ := t
  cases ru
  obtain ⟨its, r', pl, hz⟩ := I.list (SqL.of h1)
  have ee := each_of r' h2
  have er : EachIs (fun v d => ∃ as, Reads s.heap v (encD d) as) its ds := by
    refine (each_mem ee).mono fun u d ⟨⟨x, r, a⟩, hd⟩ => ?_
    exact Dp.reads I _ x u (RepD.dp rel.sub a (hto d hd)) r
  refine sorted_tups (vs := its) pl.isList ee er ?_ ?_ c4 ?_ ?_
  · intro p hp q hq
    exact List.all_eq_true.mp (List.all_eq_true.mp c1 p hp) q hq
  · intro d hd
    have h := List.all_eq_true.mp c2 d hd
    have h3 := hto d hd
    cases d with
    | tup xs =>
      obtain ⟨qs, _, e⟩ := map_some (show (toPs xs).map PyData.tuple = some (encD (.tup xs)) by simpa [toP] using h3)
      exact ⟨qs, e.symm⟩
    | _ => cases h
  · intro d hd
    have := depth_mem (List.mem_map_of_mem (f := encD) hd)
    show X.A.units + 2 + _ < _
    omega
  · intro out hlen ho
    obtain ⟨xs', v1, v2⟩ := of_each ho
    obtain ⟨ep, hat⟩ := sortedAll_at s.heap its out.toArray
    have hf : H (s.heap.objs.size + 1) = none := I.hok.fresh (Nat.le_succ _)
    have hx : xs'.length ≤ sizeLine := by
      rw [v1.length, hlen]; exact c4
    exact ⟨.ref (s.heap.objs.size + 1), upd H (s.heap.objs.size + 1) (.lst xs'), I.laid (t' := s.toks) (fun _ _ => sortedAll_old) (Nat.le_succ _) ⟨hx, out, ep, v1, hat⟩, rfl, k.lst rel v2 hf⟩
def fSortT (a : EvF) : EvF := fun ρ S => (one a ρ S).bind fun (d, S) => match d with
  | .lst ds => (tupsD ds).map fun out => (.new (.lst out), S)
  | _ => none
theorem sortT_t {fa : EvF} {σ : L2.St} {H : Hp} {Q : VK} (h : tF X.K CL (fSortT fa) σ H Q) : tCB (rSortT X.K CL) (tAs X.K CL [(false, fa)]) σ H Q := by
  obtain ⟨F, m, S, ρ, r, S', rel, env, e, k⟩ := h
  obtain ⟨⟨d, S1⟩, e1, e⟩ := bind_some e
  cases d with
  | lst ds =>
    obtain ⟨out, e2, e⟩ := map_some e
    cases e
    obtain ⟨⟨v, S2⟩, e3, e1⟩ := bind_some e1
    obtain ⟨d', e4, e1⟩ := map_some e1
    cases e1
    obtain ⟨⟨r1, S3⟩, e5, e3⟩ := map_some e3
    cases e3
    refine ⟨F, m, S, ρ, [Ev.settle r1], S', rel, env, ?_, ?_⟩
    · show (eA false fa ρ S).bind _ = _
      unfold eA
      rw [e5]
      cases r1 <;> rfl
    · intro vs F1 m1 H1 x1 rel1 q1
      exact ⟨F1, m1, S', ds, out, rel1, pks_ok rel1 q1 (by show (pk (Ev.settle r1) S').bind _ = _; rw [e4]; rfl), e2, then_of x1 k⟩
  | _ => cases e
end
section
variable {P : Program} {w : World} {K : Frg} {mg : Str → Option Value} {base : Heap} {CL : Str → Option Addr} {k : Nat} {N : List Str} {sc : Scope} {fb : Str → Bool} {X : Cx}
/-- sorted of a list of tuples -/
theorem k_sortT (h : Cok P w K mg base k N sc fb X) {e : Expr} {fe : EvF} {p pos : Pos} {l : List Str} (fr : Fre mg l) (e1 : gloB sc "sorted" = true) (e2 : memB "sorted" l = true) (ha : PE X e (tF K CL fe)) (hs : starEach [e] X.env = [(false, eval e X.env)]) :
    PE X (.Call (.Name "sorted" p) [e] [] pos) (tF K CL (fSortT fe)) := by
  have g := h.gl e1
  have hu := h.un
  obtain ⟨rfl, rfl, rfl, rfl, rfl, rfl, hnd, rfl, hc, hx, hr, hf⟩ := h
  exact PEwk (pe_callB (cr_sortT hu) g (fr _ (of_decide_eq_true e2)) (by decide +kernel) (das_cons false ha das_nil hs) (by decide) (gloB_d e1) hs (by rfl)) fun σ H Q h => sortT_t h
/-- sorted of what is told by either way -/
def fSort2 (a : EvF) : EvF := fun ρ S => match fBi .sorted [a] ρ S with
  | some r => some r
  | none => fSortT a ρ S
theorem k_sort2 (h : Cok P w K mg base k N sc fb X) {e : Expr} {fe : EvF} {p pos : Pos} (h1 : PE X (.Call (.Name "sorted" p) [e] [] pos) (tF K CL (fBi .sorted [fe]))) (h2 : PE X (.Call (.Name "sorted" p) [e] [] pos) (tF K CL (fSortT fe))) :
    PE X (.Call (.Name "sorted" p) [e] [] pos) (tF K CL (fSort2 fe)) := by
  refine ⟨fun pins s σ H Q I hq => ?_⟩
  obtain ⟨F, m, S, ρ, r, S', rel, env, e, k⟩ := hq
  unfold fSort2 at e
  split at e
  · next r' e' =>
    cases e
    exact h1.run pins s σ H Q I ⟨F, m, S, ρ, r, S', rel, env, e', k⟩
  · exact h2.run pins s σ H Q I ⟨F, m, S, ρ, r, S', rel, env, e, k⟩
end
end Ev
set_option Elab.async false
set_option linter.all false
set_option maxRecDepth 100000
set_option maxHeartbeats 400000
/-! Own text: rows of numbers, insert, dicts that change. -/
namespace Ev
open PySem PySem.Spec PyProof.Rows L2
section
variable {X : Cx} {CL : Str → Option Addr} {K : Frg}
/-- list(range(n)), tuple(range(n)) -/
def fRgX (tup : Bool) (a : EvF) : EvF := fun ρ S => (eV a ρ S).bind fun (x, S) => match x with
  | .d (.int n) => if -(2 ^ 62) ≤ n ∧ n ≤ 16777216 then some (if tup then .val (.d (.tup (rgL 0 n))) else .new (.lst (rgL 0 n)), S) else none
  | _ => none
theorem rgV_rep {F : Hp} (n : Int) : RepL K CL F (rgV 0 n) (rgL 0 n) := by
  unfold rgV rgL
  generalize List.range (n - 0).toNat = l
  induction l with
  | nil => exact .nil
  | cons i l ih => exact .cons (.int _) ih
theorem rg_t {tup : Bool} {fa : EvF} {σ : L2.St} {H : Hp} {Q : VK} (h : tF X.K CL (fRgX tup fa) σ H Q) : ∃ F m S ρ n S' r, Rel X.K CL F m S H ∧ RepE X.K CL F m σ ρ ∧ eV fa ρ S = some (.d (.int n), S') ∧ RgOk 0 n ∧ r = (if tup then .val (.d (.tup (rgL 0 n))) else .new (.lst (rgL 0 n)) : Res) ∧
    ∀ v F' m' H', Ext F m H F' m' H' → Rel X.K CL F' m' S' H' → RepR X.K CL F' m' H H' v r → Q v H' := by
  obtain ⟨F, m, S, ρ, r, S', rel, env, e, k⟩ := h
  obtain ⟨⟨x, S2⟩, e2, e⟩ := bind_some e
  cases x with
  | cell _ => cases e
  | grd _ => cases e
  | d d =>
    cases d with
    | int n =>
      obtain ⟨⟨c1, c2⟩, e⟩ := if_some e
      cases e
      exact ⟨F, m, S, ρ, n, _, _, rel, env, e2, ⟨by omega, by omega, by omega, by omega, by omega⟩, rfl, k⟩
    | _ => cases e
theorem de_tupRg {a : Expr} {fa : EvF} {p p2 q pos : Pos} (hc : X.calm = true) (hg : Gl X "tuple") (hm : X.mg "tuple" = none) (hg2 : Gl X "range") (hm2 : X.mg "range" = none) (ha : PE X a (tF X.K CL fa)) (na : starEach [a] X.env = (false, eval a X.env) :: starEach [] X.env)
    (ne : starEach [.Call (.Name "range" p2) [a] [] q] X.env = (false, eval (.Call (.Name "range" p2) [a] [] q) X.env) :: starEach [] X.env) : PE X (.Call (.Name "tuple" p) [.Call (.Name "range" p2) [a] [] q] [] pos) (tF X.K CL (fRgX true fa)) :=
  PEwk (pe_tupRg hc hg hm (prg_1 hg2 hm2 ha.v na) ne) fun σ H Q h => by
    obtain ⟨F, m, S, ρ, n, S', r, rel, env, e, ok, rfl, k⟩ := rg_t h
    refine ⟨F, m, S, ρ, _, S', rel, env, e, fun v F1 m1 H1 x1 rel1 q1 => ?_⟩
    cases q1
    exact ⟨n, rfl, ok, fun q hq => Then.tup (then_of x1 k) rel1 (rgV_rep n) hq⟩
theorem de_lstRg {a : Expr} {fa : EvF} {p p2 q pos : Pos} (hc : X.calm = true) (hg : Gl X "list") (hm : X.mg "list" = none) (hg2 : Gl X "range") (hm2 : X.mg "range" = none) (ha : PE X a (tF X.K CL fa)) (na : starEach [a] X.env = (false, eval a X.env) :: starEach [] X.env)
    (ne : starEach [.Call (.Name "range" p2) [a] [] q] X.env = (false, eval (.Call (.Name "range" p2) [a] [] q) X.env) :: starEach [] X.env) : PE X (.Call (.Name "list" p) [.Call (.Name "range" p2) [a] [] q] [] pos) (tF X.K CL (fRgX false fa)) :=
  PEwk (pe_listRg hc hg hm (prg_1 hg2 hm2 ha.v na) ne) fun σ H Q h => by
    obtain ⟨F, m, S, ρ, n, S', r, rel, env, e, ok, rfl, k⟩ := rg_t h
    refine ⟨F, m, S, ρ, _, S', rel, env, e, fun v F1 m1 H1 x1 rel1 q1 => ?_⟩
    cases q1
    exact ⟨n, rfl, ok, fun q hq => Then.lst (then_of x1 k) rel1 (rgV_rep n) hq⟩
end
/-! ### dicts whose keys are numbers and texts -/
def valD (kvs : List (Key × D)) (k : Key) : Option D := (kvs.find? fun kv => decide (kv.1 = k)).map (·.2)
def putD2 (kvs : List (Key × D)) (k : Key) (v : D) : List (Key × D) :=
  if (kvs.any fun kv => decide (kv.1 = k)) = true then kvs.map (fun kv => if kv.1 = k then (kv.1, v) else kv) else kvs ++ [(k, v)]
def mergeD (kvs more : List (Key × D)) : List (Key × D) := more.foldl (fun acc kv => putD2 acc kv.1 kv.2) kvs
section
variable {K : Frg} {CL : Str → Option Addr} {F H : Hp} {m : List Addr} {S : Sto}
theorem keyD_V {v : V} {d : D} {k : Key} (r : RepD K CL F v d) (e : keyD d = some k) : v = kV k := by
  cases r with
  | int i => cases e; rfl
  | str x => cases e; rfl
  | _ => cases e
/-- two rows of pairs alike -/
def RepK (K : Frg) (CL : Str → Option Addr) (F : Hp) (vs : List (Key × V)) (ds : List (Key × D)) : Prop := vs.map (·.1) = ds.map (·.1) ∧ RepL K CL F (vs.map (·.2)) (ds.map (·.2))
theorem RepK.cons_inv {v : Key × V} {vs : List (Key × V)} {ds : List (Key × D)} (h : RepK K CL F (v :: vs) ds) : ∃ d ds', ds = d :: ds' ∧ v.1 = d.1 ∧ RepD K CL F v.2 d.2 ∧ RepK K CL F vs ds' := by
  obtain ⟨h1, h2⟩ := h
  cases ds with
  | nil => cases h1
  | cons d ds =>
    rw [List.map_cons, List.map_cons] at h1 h2
    obtain ⟨e1, e2⟩ := List.cons.inj h1
    cases h2 with
    | cons a b => exact ⟨d, ds, rfl, e1, a, e2, b⟩
theorem RepK.nil_inv {ds : List (Key × D)} (h : RepK K CL F [] ds) : ds = [] := by
  cases ds with
  | nil => rfl
  | cons d ds => have := h.1; cases this
theorem RepK.cons {v : Key × V} {d : Key × D} {vs : List (Key × V)} {ds : List (Key × D)} (e : v.1 = d.1) (a : RepD K CL F v.2 d.2) (h : RepK K CL F vs ds) : RepK K CL F (v :: vs) (d :: ds) :=
  ⟨by rw [List.map_cons, List.map_cons, e, h.1], .cons a h.2⟩
theorem RepK.get : ∀ {vs : List (Key × V)} {ds : List (Key × D)} {k : Key} {d : D}, RepK K CL F vs ds → valD ds k = some d → ∃ z, valV vs k = some z ∧ RepD K CL F z d
  | [], ds, k, d, h, e => by have := h.nil_inv; subst this; cases e
  | v :: vs, ds, k, d, h, e => by
    obtain ⟨d0, ds, rfl, e1, a, h⟩ := h.cons_inv
    unfold valD at e
    rw [List.find?_cons] at e
    by_cases z : d0.1 = k
    · rw [decide_eq_true z] at e
      cases e
      exact ⟨v.2, valV_pos (e1.trans z), a⟩
    · rw [decide_eq_false z] at e
      obtain ⟨w, h1, h2⟩ := RepK.get (k := k) (d := d) h e
      exact ⟨w, by rw [valV_neg (fun q => z (e1.symm.trans q))]; exact h1, h2⟩
theorem RepK.any {vs : List (Key × V)} {ds : List (Key × D)} (h : RepK K CL F vs ds) (k : Key) : (vs.any fun kv => decide (kv.1 = k)) = ds.any fun kv => decide (kv.1 = k) := by
  have e1 : (vs.any fun kv => decide (kv.1 = k)) = (vs.map (·.1)).any fun x => decide (x = k) := by rw [List.any_map]; rfl
  have e2 : (ds.any fun kv => decide (kv.1 = k)) = (ds.map (·.1)).any fun x => decide (x = k) := by rw [List.any_map]; rfl
  rw [e1, e2, h.1]
theorem RepK.map_put {v : V} {d : D} {k : Key} (a : RepD K CL F v d) : ∀ {vs : List (Key × V)} {ds : List (Key × D)}, RepK K CL F vs ds → RepK K CL F (vs.map fun kv => if kv.1 = k then (kv.1, v) else kv) (ds.map fun kv => if kv.1 = k then (kv.1, d) else kv)
  | [], ds, h => by have := h.nil_inv; subst this; exact h
  | w :: vs, ds, h => by
    obtain ⟨d0, ds, rfl, e1, b, h⟩ := h.cons_inv
    rw [List.map_cons, List.map_cons]
    refine RepK.cons ?_ ?_ (RepK.map_put a h)
    · rw [e1]
      split
      · rfl
      · exact e1
    · rw [e1]
      split
      · exact a
      · exact b
theorem RepK.push {v : V} {d : D} {k : Key} (a : RepD K CL F v d) : ∀ {vs : List (Key × V)} {ds : List (Key × D)}, RepK K CL F vs ds → RepK K CL F (vs ++ [(k, v)]) (ds ++ [(k, d)])
  | [], ds, h => by have := h.nil_inv; subst this; exact RepK.cons rfl a h
  | w :: vs, ds, h => by
    obtain ⟨d0, ds, rfl, e1, b, h⟩ := h.cons_inv
    exact RepK.cons e1 b (RepK.push a h)
theorem RepK.put {v : V} {d : D} {k : Key} {vs : List (Key × V)} {ds : List (Key × D)} (h : RepK K CL F vs ds) (a : RepD K CL F v d) : RepK K CL F (putK vs k v) (putD2 ds k d) := by
  unfold putK putD2
  rw [h.any k]
  split
  · exact RepK.map_put a h
  · exact RepK.push a h
theorem RepK.merge : ∀ {more : List (Key × V)} {mo : List (Key × D)} {vs : List (Key × V)} {ds : List (Key × D)}, RepK K CL F more mo → RepK K CL F vs ds → RepK K CL F (mergeK vs more) (mergeD ds mo)
  | [], mo, _, _, h, h0 => by have := h.nil_inv; subst this; exact h0
  | w :: more, mo, vs, ds, h, h0 => by
    obtain ⟨d0, mo, rfl, e1, b, h⟩ := h.cons_inv
    have := RepK.merge h (RepK.put (k := w.1) h0 b)
    rw [e1] at this
    unfold mergeK mergeD at this ⊢
    rw [List.foldl_cons, List.foldl_cons, e1]
    exact this
theorem RepK.length {vs : List (Key × V)} {ds : List (Key × D)} (h : RepK K CL F vs ds) : vs.length = ds.length := by
  have := congrArg List.length h.1
  simpa using this
def dctAt (v : Val) (S : Sto) : Option (Nat × List (Key × D)) := match v with
  | .cell k => match S[k]? with
    | some (.dct xs) => some (k, xs)
    | _ => none
  | _ => none
theorem dctAt_inv {x : Val} {k : Nat} {xs : List (Key × D)} (h : dctAt x S = some (k, xs)) : x = .cell k ∧ S[k]? = some (.dct xs) := by
  cases x with
  | d _ => cases h
  | grd _ => cases h
  | cell j =>
    have h : (match S[j]? with | some (.dct xs) => some (j, xs) | _ => none) = some (k, xs) := h
    split at h
    · next ys e => cases h; exact ⟨rfl, e⟩
    · cases h
theorem dct_at (r : Rel K CL F m S H) {v : V} {x : Val} {k : Nat} {xs : List (Key × D)} (q : RepV K CL F m v x) (h : dctAt x S = some (k, xs)) : ∃ a vs, v = .ref a ∧ m[k]? = some a ∧ S[k]? = some (.dct xs) ∧ F a = none ∧ H a = some (.dK vs) ∧ RepK K CL F vs xs := by
  obtain ⟨rfl, e⟩ := dctAt_inv h
  obtain ⟨a, ha, rfl⟩ := q
  obtain ⟨hF, vs, h1, h2, h3⟩ := r.cell k _ a e ha
  exact ⟨a, vs, rfl, ha, e, hF, h1, h2, h3⟩
end
/-- d[i] -/
def fDGet (fo fi : EvF) : EvF := fun ρ S => (eV fo ρ S).bind fun (x, S) => (eV fi ρ S).bind fun (y, S) => (pk x S).bind fun dx => match dx, y with
  | .dct kvs, .d dy => (keyD dy).bind fun k => (valD kvs k).map fun d => (.val (.d d), S)
  | .dcl kvs, .d dy => (keyD dy).bind fun k => (valD kvs k).map fun d => (.val (.d d), S)
  | _, _ => none
/-- d[i] = e -/
def sDPut2 (fo fi fe : EvF) : StF := fun ρ S => (eD fe ρ S).bind fun (d, S) => (eV fo ρ S).bind fun (x, S) => (eV fi ρ S).bind fun (y, S) => (dctAt x S).bind fun (j, kvs) => match y with
  | .d dy => (keyD dy).bind fun k => if kvs.length < sizeLine then some (.nx, ρ, S.set j (.dct (putD2 kvs k d))) else none
  | _ => none
section
variable {X : Cx} {CL : Str → Option Addr} {o i e : Expr} {fo fi fe : EvF} {pos pos' : Pos}
theorem de_dget (hu : X.A.units + 1 < cLine) (ho : PE X o (tF X.K CL fo)) (hi : PE X i (tF X.K CL fi)) (hs : NoSl i) : PE X (.Subscript o i pos) (tF X.K CL (fDGet fo fi)) :=
  PEwk (pe_dget hu ho.v hi.v hs) fun σ H Q ⟨F, m, S, ρ, r, S', rel, env, e, k⟩ => by
    obtain ⟨⟨x, S1⟩, e1, e⟩ := bind_some e
    obtain ⟨⟨y, S2⟩, e2, e⟩ := bind_some e
    obtain ⟨dx, e3, e⟩ := bind_some e
    cases dx with
    | dct kvs =>
      cases y with
      | cell _ => cases e
      | grd _ => cases e
      | d dy =>
        obtain ⟨ky, e4, e⟩ := bind_some e
        obtain ⟨d, e5, e⟩ := map_some e
        cases e
        refine ⟨F, m, S, ρ, x, S1, rel, env, e1, fun v F1 m1 H1 x1 r1 q1 => ⟨F1, m1, S1, ρ, _, _, r1, env.mono x1, e2, fun w F2 m2 H2 x2 r2 q2 => ?_⟩⟩
        obtain ⟨a, vs, rfl, h1, h2⟩ := pk_ok r2 (q1.mono x2) e3
        have h2 : RepK X.K CL F2 vs kvs := h2
        obtain ⟨z, e6, h3⟩ := h2.get e5
        have ew := keyD_V q2 e4
        subst ew
        exact ⟨a, z, rfl, .inl ⟨vs, ky, .inl h1, rfl, e6.symm⟩, k z F2 m2 H2 (x1.trans x2) r2 h3⟩
    | dcl kvs =>
      cases y with
      | cell _ => cases e
      | grd _ => cases e
      | d dy =>
        obtain ⟨ky, e4, e⟩ := bind_some e
        obtain ⟨d, e5, e⟩ := map_some e
        cases e
        refine ⟨F, m, S, ρ, x, S1, rel, env, e1, fun v F1 m1 H1 x1 r1 q1 => ⟨F1, m1, S1, ρ, _, _, r1, env.mono x1, e2, fun w F2 m2 H2 x2 r2 q2 => ?_⟩⟩
        have q3 := pk_ok r2 (q1.mono x2) e3
        cases q3 with
        | @dcl a o vs _ h1 hk hv =>
          have h2 : RepK X.K CL F2 vs kvs := ⟨hk, hv⟩
          obtain ⟨z, e6, h3⟩ := h2.get e5
          have ew := keyD_V q2 e4
          subst ew
          exact ⟨a, z, rfl, .inl ⟨vs, ky, .inr ⟨o, r2.sub _ _ h1⟩, rfl, e6.symm⟩, k z F2 m2 H2 (x1.trans x2) r2 h3⟩
    | _ => cases y <;> cases e
theorem ds_dput (hu : X.A.units + 1 < cLine) (ho : PE X o (tF X.K CL fo)) (hi : PE X i (tF X.K CL fi)) (he : PE X e (tF X.K CL fe)) (hs : swapsWith e (some (.Subscript o i pos')) pos.line X.env = pure false) : PS X (.Assign [.Subscript o i pos'] e pos) (tS X.K CL (sDPut2 fo fi fe)) :=
  PSwk (ps_dput hu ho.v hi.v he.dd hs) fun D σ H ⟨F, m, S, ρ, oc, ρ', S', rel, env, e, q⟩ => by
    obtain ⟨⟨d, S1⟩, e1, e⟩ := bind_some e
    obtain ⟨⟨x, S2⟩, e2, e⟩ := bind_some e
    obtain ⟨⟨y, S3⟩, e3, e⟩ := bind_some e
    obtain ⟨⟨j, kvs⟩, e4, e⟩ := bind_some e
    cases y with
    | cell _ => cases e
    | grd _ => cases e
    | d dy =>
      obtain ⟨ky, e5, e⟩ := bind_some e
      obtain ⟨c, e⟩ := if_some e
      cases e
      refine ⟨F, m, S, ρ, d, S1, rel, env, e1, fun v F1 m1 H1 x1 r1 q1 => ⟨F1, m1, S1, ρ, x, S2, r1, env.mono x1, e2, fun w F2 m2 H2 x2 r2 q2 => ⟨F2, m2, S2, ρ, _, S3, r2, (env.mono x1).mono x2, e3, fun u F3 m3 H3 x3 r3 q3 => ?_⟩⟩⟩
      obtain ⟨a, vs, rfl, hm, hS, hF, hH, hr⟩ := dct_at r3 (q2.mono x3) e4
      have eu := keyD_V q3 e5
      subst eu
      have q1' : RepD X.K CL F3 v d := (q1.mono x2.f).mono x3.f
      have hp := hr.put (k := ky) q1'
      obtain ⟨w1, w2⟩ := r3.write (c := .dct (putD2 kvs ky d)) (o := .dK (putK vs ky v)) hS hm rfl ⟨hF, _, upd_same, hp.1, hp.2⟩
      exact ⟨a, _, rfl, .inl ⟨vs, ky, hH, rfl, by rw [hr.length]; exact c, rfl⟩, q F3 m3 _ (((x1.trans x2).trans x3).trans w2) w1 σ (((env.mono x1).mono x2).mono x3 |>.mono w2)⟩
end
/-- pairs as data -/
def pairsD : List D → Option (List (Key × D))
  | [] => some []
  | .tup [a, b] :: ds => (keyD a).bind fun k => (pairsD ds).map fun r => (k, b) :: r
  | _ => none
/-- dict(pairs) -/
def fDictP (a : EvF) : EvF := fun ρ S => (eV a ρ S).bind fun (x, S) => (pk x S).bind fun d => match d with
  | .lst ds => (pairsD ds).map fun kvs => (.new (.dct (mergeD [] kvs)), S)
  | _ => none
section
variable {X : Cx} {CL : Str → Option Addr} {o i e a : Expr} {fo fi fe fa : EvF} {p pos apos : Pos}
theorem pairs_rep {K : Frg} {F H : Hp} (s : Same F H) : ∀ {vs : List V} {ds : List D} {kvs : List (Key × D)}, RepL K CL F vs ds → pairsD ds = some kvs → ∃ ps ks, vs = ps.map V.ref ∧ Paired (fun p (kv : Key × V) => SqT K H p [kV kv.1, kv.2]) ps ks ∧ RepK K CL F ks kvs
  | _, _, kvs, .nil, e => by
    cases e
    exact ⟨[], [], rfl, .nil, rfl, .nil⟩
  | v :: vs, d :: ds, kvs, .cons r rs, e => by
    cases d with
    | tup xs =>
      cases xs with
      | nil => cases e
      | cons x xs =>
        cases xs with
        | nil => cases e
        | cons y xs =>
          cases xs with
          | cons _ _ => cases e
          | nil =>
            obtain ⟨ky, e1, e⟩ := bind_some e
            obtain ⟨r', e2, rfl⟩ := map_some e
            obtain ⟨ps, ks, rfl, h1, h2⟩ := pairs_rep s rs e2
            obtain ⟨q, ws, rfl, h3, h4⟩ := RepT.tup s (RepD.top s r)
            cases h4 with
            | cons a1 a2 =>
              cases a2 with
              | cons a3 a4 =>
                cases a4
                have ek := keyD_V a1 e1
                subst ek
                exact ⟨q :: ps, (ky, _) :: ks, rfl, .cons h3 h1, RepK.cons rfl a3 h2⟩
    | _ => cases e
theorem de_dictP (hc : X.calm = true) (hg : Gl X "dict") (hm : X.mg "dict" = none) (hv : bootBuiltins "dict" = some (.type "dict")) (ha : PE X a (tF X.K CL fa)) (hs : starEach [a] X.env = [(false, eval a X.env)]) : PE X (.Call (.Name "dict" p) [a] [] pos) (tF X.K CL (fDictP fa)) :=
  PEwk (pe_callTy (call_dictP hc) hg hm hv (pa1 ha hs) (by decide) (by decide) hs (by rfl)) fun σ H Q ⟨F, m, S, ρ, r, S', rel, env, e, k⟩ => by
    obtain ⟨⟨x, S1⟩, e1, e⟩ := bind_some e
    obtain ⟨d, e2, e⟩ := bind_some e
    cases d with
    | lst ds =>
      obtain ⟨kvs, e3, e⟩ := map_some e
      cases e
      refine ⟨F, m, S, ρ, x, _, rel, env, e1, fun v F1 m1 H1 x1 r1 q1 => ?_⟩
      obtain ⟨a, vs, rfl, h1, h2⟩ := pk_ok r1 q1 e2
      obtain ⟨ps, ks, rfl, h3, h4⟩ := pairs_rep r1.sub h2 e3
      have hk := RepK.merge (vs := []) (ds := []) h4 ⟨rfl, .nil⟩
      exact ⟨a, ps, ks, rfl, SqL.of h1, h3, fun q hq => Then.dct (then_of x1 k) r1 hk.1 hk.2 hq⟩
    | _ => cases e
/-- xs.insert(i, e) -/
def fIns (fo fi fe : EvF) : EvF := fun ρ S => (eV fo ρ S).bind fun (v, S) => (lstAt v S).bind fun _ => (eV fi ρ S).bind fun (y, S) => (eD fe ρ S).bind fun (d, S) => (lstAt v S).bind fun (k, xs) => match y with
  | .d (.int i) => if xs.length < sizeLine ∧ 0 ≤ i ∧ i < 2 ^ 63 then some (.val (.d .non), S.set k (.lst (xs.take i.toNat ++ [d] ++ xs.drop i.toNat))) else none
  | _ => none
theorem RepL.app {K : Frg} {F : Hp} : ∀ {vs ws : List V} {ds es : List D}, RepL K CL F vs ds → RepL K CL F ws es → RepL K CL F (vs ++ ws) (ds ++ es)
  | _, _, _, _, .nil, h => h
  | _, _, _, _, .cons a b, h => .cons a (RepL.app b h)
theorem RepL.tk {K : Frg} {F : Hp} : ∀ {vs : List V} {ds : List D} (n : Nat), RepL K CL F vs ds → RepL K CL F (vs.take n) (ds.take n)
  | _, _, 0, _ => by rw [List.take_zero, List.take_zero]; exact .nil
  | _, _, n + 1, .nil => .nil
  | _, _, n + 1, .cons a b => .cons a (RepL.tk n b)
theorem RepL.dr {K : Frg} {F : Hp} : ∀ {vs : List V} {ds : List D} (n : Nat), RepL K CL F vs ds → RepL K CL F (vs.drop n) (ds.drop n)
  | _, _, 0, h => h
  | _, _, n + 1, .nil => .nil
  | _, _, n + 1, .cons a b => RepL.dr n b
section
variable (hbase : ∀ name, attributeBase o name X.env (eval o X.env) = eval o X.env) (hline : (apos.endLine == pos.line) = true) (hs : starEach [i, e] X.env = [(false, eval i X.env), (false, eval e X.env)]) (hs2 : starEach [e] X.env = [(false, eval e X.env)])
  (hfew : ((backTo pos (starEach [i, e] X.env)).all (fun x => !x.1) && (backToKw pos (keywordEach [] X.env)).all (fun x => x.1.isSome) && decide (([i, e] : List Expr).length + ([] : List Keyword).length + (if ([] : List Keyword).isEmpty then 0 else 1) < 30)) = true)
  (ho : PE X o (tF X.K CL fo)) (hi : PE X i (tF X.K CL fi)) (he : PE X e (tF X.K CL fe))
include hbase hline hs hs2 hfew ho hi he
theorem de_ins : PE X (.Call (.Attribute o "insert" apos) [i, e] [] pos) (tF X.K CL (fIns fo fi fe)) :=
  PEwk (pe_bm PySem.F.plainAttrs_list PySem.F.slot_list_insert PySem.F.type_list_insert mt_insert ho.v (pa_cons hi.v (pa1D he hs2) (by rw [hs, hs2])) (hbase _) hfew hline (by rw [hs, hs2]) (by rw [hs2]; rfl))
    fun σ H Q ⟨F, m, S, ρ, r, S', rel, env, e, k⟩ => by
      obtain ⟨⟨v, S1⟩, e1, e⟩ := bind_some e
      obtain ⟨⟨k1, xs1⟩, e2, e⟩ := bind_some e
      obtain ⟨⟨y, S2⟩, e3, e⟩ := bind_some e
      obtain ⟨⟨d, S3⟩, e4, e⟩ := bind_some e
      obtain ⟨⟨k2, xs⟩, e5, e⟩ := bind_some e
      cases y with
      | cell _ => cases e
      | grd _ => cases e
      | d dy =>
        cases dy with
        | int j =>
          obtain ⟨c, e⟩ := if_some e
          cases e
          refine ⟨F, m, S, ρ, v, S1, rel, env, e1, fun x F1 m1 H1 x1 r1 q1 => ?_⟩
          obtain ⟨a, vs1, rfl, _, _, _, hH1, _⟩ := lst_at r1 q1 e2
          refine ⟨ty_lst (SqL.of hH1), F1, m1, S1, ρ, _, S2, r1, env.mono x1, e3, fun y F2 m2 H2 x2 r2 q2 => ⟨F2, m2, S2, ρ, d, S3, r2, (env.mono x1).mono x2, e4, fun z F3 m3 H3 x3 r3 q3 => ?_⟩⟩
          obtain ⟨a', vs, e7, hm, hS, hF, hH, hr⟩ := lst_at r3 ((q1.mono x2).mono x3) e5
          cases e7
          cases q2
          obtain ⟨w1, w2⟩ := r3.write (c := .lst (xs.take j.toNat ++ [d] ++ xs.drop j.toNat)) (o := .lst (vs.take j.toNat ++ [z] ++ vs.drop j.toNat)) hS hm rfl ⟨hF, _, upd_same, RepL.app (RepL.app (RepL.tk _ hr) (.cons q3 .nil)) (RepL.dr _ hr)⟩
          exact ⟨a, vs, j, z, rfl, rfl, hH, by rw [hr.length]; exact c.1, c.2.1, c.2.2, k .non F3 m3 _ (((x1.trans x2).trans x3).trans w2) w1 .non⟩
        | _ => cases e
end
end
section
variable {P : Program} {w : World} {K : Frg} {mg : Str → Option Value} {base : Heap} {CL : Str → Option Addr} {k : Nat} {N : List Str} {sc : Scope} {fb : Str → Bool} {X : Cx}
theorem k_tupRg (h : Cok P w K mg base k N sc fb X) {a : Expr} {fa : EvF} {p p2 q pos : Pos} {l : List Str} (fr : Fre mg l) (e1 : gloB sc "tuple" = true) (e2 : memB "tuple" l = true) (e3 : gloB sc "range" = true) (e4 : memB "range" l = true) (ha : PE X a (tF K CL fa)) (na : starEach [a] X.env = (false, eval a X.env) :: starEach [] X.env)
    (ne : starEach [.Call (.Name "range" p2) [a] [] q] X.env = (false, eval (.Call (.Name "range" p2) [a] [] q) X.env) :: starEach [] X.env) : PE X (.Call (.Name "tuple" p) [.Call (.Name "range" p2) [a] [] q] [] pos) (tF K CL (fRgX true fa)) := by
  have g := h.gl e1
  have g2 := h.gl e3
  obtain ⟨rfl, rfl, rfl, rfl, rfl, rfl, hnd, rfl, hc, hx, hr, hf⟩ := h
  exact de_tupRg hc g (fr _ (of_decide_eq_true e2)) g2 (fr _ (of_decide_eq_true e4)) ha na ne
theorem k_lstRg (h : Cok P w K mg base k N sc fb X) {a : Expr} {fa : EvF} {p p2 q pos : Pos} {l : List Str} (fr : Fre mg l) (e1 : gloB sc "list" = true) (e2 : memB "list" l = true) (e3 : gloB sc "range" = true) (e4 : memB "range" l = true) (ha : PE X a (tF K CL fa)) (na : starEach [a] X.env = (false, eval a X.env) :: starEach [] X.env)
    (ne : starEach [.Call (.Name "range" p2) [a] [] q] X.env = (false, eval (.Call (.Name "range" p2) [a] [] q) X.env) :: starEach [] X.env) : PE X (.Call (.Name "list" p) [.Call (.Name "range" p2) [a] [] q] [] pos) (tF K CL (fRgX false fa)) := by
  have g := h.gl e1
  have g2 := h.gl e3
  obtain ⟨rfl, rfl, rfl, rfl, rfl, rfl, hnd, rfl, hc, hx, hr, hf⟩ := h
  exact de_lstRg hc g (fr _ (of_decide_eq_true e2)) g2 (fr _ (of_decide_eq_true e4)) ha na ne
end
end Ev
set_option Elab.async false
set_option linter.all false
set_option maxRecDepth 100000
set_option maxHeartbeats 400000
/-! Own text: how many different texts there are. -/
namespace Ev
open PySem PySem.Spec PyProof.Rows
/-- different texts among the first i -/
def cntS (xs : List Str) : Nat → Nat
  | 0 => 0
  | i + 1 => if (xs.take i).any (· == xs.getD i Str.empty) = true then cntS xs i else cntS xs i + 1
theorem cntS_le (xs : List Str) : ∀ i, cntS xs i ≤ i
  | 0 => Nat.le_refl _
  | i + 1 => by
    have := cntS_le xs i
    unfold cntS
    split <;> omega
def inTk (xs : List Str) (i : Nat) (y : Str) : Bool := (xs.take i).any (· == y)
theorem inTk_succ {xs : List Str} {i : Nat} (h : i < xs.length) (y : Str) : (inTk xs i y || decide (y = xs.getD i Str.empty)) = inTk xs (i + 1) y := by
  unfold inTk
  rw [List.take_succ_eq_append_getElem h, List.any_append, List.any_cons, List.any_nil, Bool.or_false]
  congr 1
  have : xs.getD i Str.empty = xs[i] := by rw [List.getD_eq_getElem?_getD, List.getElem?_eq_getElem h]; rfl
  rw [this]
  by_cases e : y = xs[i]
  · subst e; simp
  · have h2 : (xs[i] == y) = false := by simpa [beq_iff_eq] using fun z : xs[i] = y => e z.symm
    rw [h2, decide_eq_false e]
section
variable {prog : Program} {w : World} {A : Around}
theorem loop_cnt {Rz : Result → Shared → Prop} {I : Addr} {fp wr : List Addr} {G : Array GenState → Array GenState → Prop} {n : Nat} {Pz : Nat → Value → Prop} {St : Nat → Shared → Prop} (W : WalksS prog w A.in1 I fp wr G n Pz St) {S : Addr} (hSf : S ∉ fp) {xs : List Str} (hsz : xs.length = n) (hn1 : n < 64)
    (hval : ∀ i v, Pz i v → ∃ t, v = .str (xs.getD i Str.empty) t) : ∀ (j i : Nat) (s : Shared), n - i = j → i ≤ n → St i s → s.heap.SetOf (PySem.strKind prog w) S (inTk xs i) (cntS xs i) →
      (∀ s2, Moved (S :: wr) G s s2 → s2.heap.SetOf (PySem.strKind prog w) S (inTk xs n) (cntS xs n) → Rz (.ok (.ret .none)) s2) → codeAny (model prog w) A (.builtin "set.update.loop" ⟨[.ref S, .ref I], []⟩) Rz s := by
  have hSw : S ∉ wr := fun h => hSf (W.sub _ h)
  have hin : ∀ b ∈ wr, b ∈ S :: wr := fun b hb => List.mem_cons_of_mem _ hb
  have kept : ∀ {s s2 : Shared} {f : Str → Bool} {c : Nat}, Moved wr G s s2 → s.heap.SetOf (PySem.strKind prog w) S f c → s2.heap.SetOf (PySem.strKind prog w) S f c := fun {s s2 f c} hm hS => by
    obtain ⟨ob, es, ep, t, ho, more⟩ := hS
    exact ⟨ob, es, ep, t, hm.heap S ob hSw ho, more⟩
  intro j
  induction j with
  | zero =>
    intro i s e hi hst hS hR
    obtain rfl : i = n := by omega
    refine codeAny_builtin PyProof.Rows.F.entry_set_update_loop ?_
    rw [Around.under_plainId PyProof.Rows.F.plain_set_update_loop _]
    refine wpAny_bind (W.done s _ _ hst fun s2 hm => ?_)
    exact wpAny_pure (hR s2 (hm.mono hin) (kept hm hS))
  | succ j ih =>
    intro i s e hi hst hS hR
    have hlt : i < n := by omega
    refine codeAny_builtin PyProof.Rows.F.entry_set_update_loop ?_
    rw [Around.under_plainId PyProof.Rows.F.plain_set_update_loop _]
    refine wpAny_bind (W.item i s _ _ hlt hst fun v s2 hP hst2 hm => ?_)
    obtain ⟨t, rfl⟩ := hval i v hP
    refine wpAny_bind (wpAny_holding ?_)
    unfold setAdd
    refine wpAny_holding (wpAny_bind ((PySem.strKind prog w).pyHash (k := xs.getD i Str.empty) (strKind_is _ _ _ _) ?_))
    have hroom : cntS xs i + 1 < scanBound := by have := cntS_le xs i; unfold scanBound; omega
    refine wpAny_setAddHashed_of (knd := PySem.strKind prog w) (s := { s2 with toks := s2.toks + 1 }) (strKind_is _ _ _ _) rfl (show s2.heap.SetOf (PySem.strKind prog w) S (inTk xs i) (cntS xs i) from kept hm hS) hroom fun h2 hsb hS2 => ?_
    have hSi : h2.SetOf (PySem.strKind prog w) S (inTk xs (i + 1)) (cntS xs (i + 1)) := SetOf_congr hS2 (fun y => inTk_succ (by omega) y) rfl
    refine wpAny_pure ⟨plainId_quiet PyProof.Rows.F.plain_set_update_loop _, ih (i + 1) _ (by omega) hlt (W.frame _ s2 _ _ hst2 (Nat.le_succ _) fun b hb o q => ?_) hSi fun s3 hm3 hS3 => ?_⟩
    · have ne : b ≠ S := fun z => hSf (z ▸ hb)
      rw [hsb.2 b ne]; exact q
    · refine hR s3 (Moved.trans W.gtrans ((hm.mono hin).then_heap (Nat.le_succ _) fun b o hb q => ?_) hm3) hS3
      have ne : b ≠ S := fun z => hb (z ▸ List.mem_cons_self)
      rw [hsb.2 b ne]; exact q
/-- a set just made -/
def sOb (b : Bool) : Obj := { cls := .type "set", dict := none, data := .set #[] 0 (.fresh 0 0 b) }
variable {E : Value → Shared → Prop} {s : Shared}
set_option maxHeartbeats 3200000 in
theorem set_list {l : Addr} {its : Array Value} {xs : List Str} {Q : Value → Shared → Prop} (hh : A.handled = none) (hl : s.heap.IsList l its) (hi : PyProof.Rows.StrsAre its.toList xs) (hn1 : xs.length < 64)
    (h : ∀ (h2 : Heap) (tk : Nat), h2.SetOf (PySem.strKind prog w) s.heap.objs.size (inTk xs its.size) (cntS xs its.size) → (∀ b o, b < s.heap.objs.size → s.heap.get? b = some o → h2.get? b = some o) → Q (.ref s.heap.objs.size) { s with heap := h2, toks := tk }) :
    wpAny (model prog w) A (call (.type "set") [.ref l]) Q E s := by
  obtain ⟨cc, tl, hmro⟩ := PySem.F.called_set.mro
  have a1 := PySem.F.called_set.made
  have a2 := PySem.F.called_set.sub
  refine wpAny_call (codeAny_of_tree ?_)
  refine wpAny_pure ⟨Code.quiet_builtin _ (by decide +kernel), codeAny_builtin PySem.F.entry_type_call ?_⟩
  rw [Around.under_plain (weight_type_call_type "set" [.ref l] []) rfl]
  have a3 := PySem.F.called_set.notType
  have a4 := PySem.F.called_set.canCreate
  have a5 := PySem.F.typeCall_set_1 (.ref l)
  repeat (any_goals (first | assumption | wp_step))
  refine codeAny_mono (code_set_new_1 (.ref l) (E := E) (Q₁ := fun ob s1 => ∃ b : Bool, ob = .ref s.heap.objs.size ∧ s1 = { s with heap := s.heap.push (sOb b) }) fun b => ⟨b, rfl, rfl⟩) fun r s1 hr => ?_
  cases r with
  | error _ => exact hr
  | ok f1 =>
    cases f1 with
    | ret ob =>
      obtain ⟨led, rfl, rfl⟩ := hr
      have hS : (s.heap.push (sOb led)).get? s.heap.objs.size = some (sOb led) := Heap.get?_push_size _ rfl
      have hT : Shared.TypeIs { s with heap := s.heap.push (sOb led) } (.ref s.heap.objs.size) "set" := ⟨_, hS, rfl⟩
      have a6 := PySem.F.called_set.init.lookup
      have a7 := PySem.F.called_set.init.bind (.ref s.heap.objs.size)
      repeat (any_goals (first | assumption | wp_step))
      refine codeAny_mono (codeAny_call_builtin (R := wants (fun r s2 => r = .none ∧ ∃ h2 tk, s2 = { s with heap := h2, toks := tk } ∧ h2.SetOf (PySem.strKind prog w) s.heap.objs.size (inTk xs its.size) (cntS xs its.size) ∧
          (∀ b o, b < s.heap.objs.size → s.heap.get? b = some o → h2.get? b = some o)) E) PySem.F.called_set.init.plain PySem.F.entry_set_init (check_set_init_1 hT ?_)) fun r2 s2 hr2 => ?_
      · obtain ⟨⟨x1, x2, x3, x4⟩, hol, hcl, nl, hdl⟩ := hl
        cases hcl
        cases hdl
        have hlS : l < s.heap.objs.size := Heap.lt_size hol
        have hl2 : (s.heap.push (sOb led)).get? l = some { cls := .type "list", dict := x2, data := .seq its nl, slots := x4 } := Heap.get?_push_of_some _ hol
        have b1 := PySem.F.sub_list_set
        have b2 := PySem.F.sub_list_frozenset
        have b3 : (Value.type "list" == Value.type "dict") = false := by decide
        have hl1 : (s.heap.push (sOb led)).IsList l its := ⟨_, hl2, rfl, nl, rfl⟩
        unfold Builtin.«set.__init__» noKeywords Builtin.Frozenset.updateFrom
        generalize hPI : pyIter = PI
        wp_walk
        subst hPI
        refine wpAny_pyIter_list hl1 (wpAny_bind (wpAny_runValue ?_))
        have hh3 : A.in1.in1.in1.handled = none := by simp [hh]
        have hsp : (s.heap.push (sOb led)).objs.size = s.heap.objs.size + 1 := Heap.size_push ..
        have hneI : l ≠ (s.heap.push (sOb led)).objs.size := by rw [hsp]; exact Nat.ne_of_lt (Nat.lt_succ_of_lt hlS)
        have hSf : s.heap.objs.size ∉ [(s.heap.push (sOb led)).objs.size, l] := by
          rw [hsp]
          simp only [List.mem_cons, List.not_mem_nil, or_false, not_or]
          exact ⟨Nat.ne_of_lt (Nat.lt_succ_self _), Nat.ne_of_gt hlS⟩
        have hsz : xs.length = its.size := by rw [← StrsAre.len_eq hi, Array.length_toList]
        have hval : ∀ (i : Nat) (v : Value), its[i]? = some v → ∃ t, v = .str (xs.getD i Str.empty) t := fun i v hv => SS.strs_at hi i v (by rw [Array.getElem?_toList]; exact hv)
        refine loop_cnt ((Walks.list hh3 _ l hneI its).toS) hSf hsz (by omega) hval (its.size - 0) 0 _ rfl (Nat.zero_le _) ⟨⟨_, Heap.get?_push_size _ rfl, rfl, rfl⟩, (hl1.push _)⟩ ?_ ?_
        · exact PyProof.Rows.SetOf_congr ((PyProof.Rows.setObjOf_fresh (knd := PySem.strKind prog w) led).setOf (Heap.get?_push_of_some _ hS) (by unfold scanBound; omega)) (fun _ => rfl) rfl
        · intro s4 hm hS4
          obtain ⟨h4, g4, d4, tk4, os4⟩ := s4
          have q1 : g4 = s.gens := hm.gens
          have q2 : d4 = s.drawn := hm.drawn
          have q3 : os4 = s.os := hm.os
          subst q1 q2 q3
          refine wpAny_pure (wpAny_pure ⟨rfl, h4, tk4, rfl, hS4, fun b o hb e => ?_⟩)
          refine hm.heap b o ?_ (Heap.get?_push_of_some _ (Heap.get?_push_of_some _ e))
          rw [hsp]
          simp only [List.mem_cons, List.not_mem_nil, or_false, not_or]
          exact ⟨Nat.ne_of_lt hb, Nat.ne_of_lt (Nat.lt_succ_of_lt hb)⟩
      · cases r2 with
        | error _ => exact hr2
        | ok f2 =>
          cases f2 with
          | ret r =>
            obtain ⟨rfl, h2, tk, rfl, hS2, hk2⟩ := hr2
            repeat (any_goals (first | assumption | wp_step))
            exact h _ _ hS2 hk2
          | _ => exact hr2.elim
    | _ => exact hr.elim
end
open L2
section
variable {X : Cx} {CL : Str → Option Addr}
/-- len(set(xs)), xs a list of texts -/
def fLenSet (a : EvF) : EvF := fun ρ S => (eV a ρ S).bind fun (x, S) => (pk x S).bind fun d => match d with
  | .lst ds => (strsOf ds).bind fun xs => if xs.length < 64 then some (.val (.d (.int (cntS xs xs.length : Nat))), S) else none
  | _ => none
def tLenS (K : PySem.W.Frag) (ta : TE) : TE := fun σ H Q => ta σ H fun x H1 => ∃ l, ∃ xs : List Str, x = .ref l ∧ SqL K H1 l (xs.map V.str) ∧ xs.length < 64 ∧ Q (.int (cntS xs xs.length : Nat)) H1
theorem pe_lenS {a : Expr} {ta : TE} {p p2 q pos : Pos} (hc : X.calm = true) (hg : Gl X "len") (hm : X.mg "len" = none) (hg2 : Gl X "set") (hm2 : X.mg "set" = none) (ha : PE X a ta)
    (na : starEach [a] X.env = (false, eval a X.env) :: starEach [] X.env) (nb : starEach [.Call (.Name "set" p2) [a] [] q] X.env = (false, eval (.Call (.Name "set" p2) [a] [] q) X.env) :: starEach [] X.env) : PE X (.Call (.Name "len" p) [.Call (.Name "set" p2) [a] [] q] [] pos) (tLenS X.K ta) := by
  refine ⟨fun pins s σ H Q I h => ?_⟩
  refine Call_ (ld_blt I hg hm boot_len (PyProof.Rows.callWith_builtin1 (PyProof.Rows.args_cons ?_ nb) nb rfl))
  refine Call_ (ld_blt I hg2 hm2 boot_set (PyProof.Rows.callWith_type1 (PyProof.Rows.args_cons (thn (ha.run pins s σ H _ I h) fun v s1 ⟨x, H1, I1, r1, q1⟩ => PyProof.Rows.args_nil ?_) na) na rfl))
  obtain ⟨l, xs, rfl, hq, hn, q1⟩ := q1
  cases r1
  obtain ⟨its, rv, pl, hz⟩ := I1.list hq
  refine set_list (I1.ok.hd hc) pl.isList (by simpa using strsAre_of rv) hn fun h2 tk hS hk => PyProof.Rows.args_nil ?_
  have el : its.toArray.size = xs.length := by rw [List.size_toArray, ← rv.length, List.length_map]
  rw [el] at hS
  obtain ⟨o, es, ep, t, ho, hex, hd, _, _, hb, hf, e⟩ := hS
  have I2 : Inv X pins σ H1 { s1 with heap := h2, toks := tk } := I1.kept fun b o q => hk b o (Heap.lt_size q) q
  refine call_len_set ho hex hd hf (by unfold scanBound at hb; omega) ⟨.int (cntS xs xs.length : Nat), H1, I2.tok _, ⟨_, by rw [e]⟩, q1⟩
theorem de_lenS {a : Expr} {fa : EvF} {p p2 q pos : Pos} (hc : X.calm = true) (hg : Gl X "len") (hm : X.mg "len" = none) (hg2 : Gl X "set") (hm2 : X.mg "set" = none) (ha : PE X a (tF X.K CL fa))
    (na : starEach [a] X.env = (false, eval a X.env) :: starEach [] X.env) (nb : starEach [.Call (.Name "set" p2) [a] [] q] X.env = (false, eval (.Call (.Name "set" p2) [a] [] q) X.env) :: starEach [] X.env) : PE X (.Call (.Name "len" p) [.Call (.Name "set" p2) [a] [] q] [] pos) (tF X.K CL (fLenSet fa)) :=
  PEwk (pe_lenS hc hg hm hg2 hm2 ha.v na nb) fun σ H Q ⟨F, m, S, ρ, r, S', rel, env, e, k⟩ => by
    obtain ⟨⟨x, S1⟩, e1, e⟩ := bind_some e
    obtain ⟨d, e2, e⟩ := bind_some e
    cases d with
    | lst ds =>
      obtain ⟨xs, e3, e⟩ := bind_some e
      obtain ⟨c, e⟩ := if_some e
      cases e
      refine ⟨F, m, S, ρ, x, _, rel, env, e1, fun v F1 m1 H1 x1 r1 q1 => ?_⟩
      obtain ⟨a, vs, rfl, h1, h2⟩ := pk_ok r1 q1 e2
      have ev := strs_of e3 h2
      subst ev
      exact ⟨a, xs, rfl, SqL.of h1, c, k _ F1 m1 H1 x1 r1 (.int _)⟩
    | _ => cases e
end
section
variable {P : Program} {w : World} {K : Frg} {mg : Str → Option Value} {base : Heap} {CL : Str → Option Addr} {k : Nat} {N : List Str} {sc : Scope} {fb : Str → Bool} {X : Cx}
theorem k_lenS (h : Cok P w K mg base k N sc fb X) {a : Expr} {fa : EvF} {p p2 q pos : Pos} {l : List Str} (fr : Fre mg l) (e1 : gloB sc "len" = true) (e2 : memB "len" l = true) (e3 : gloB sc "set" = true) (e4 : memB "set" l = true) (ha : PE X a (tF K CL fa)) (na : starEach [a] X.env = (false, eval a X.env) :: starEach [] X.env)
    (nb : starEach [.Call (.Name "set" p2) [a] [] q] X.env = (false, eval (.Call (.Name "set" p2) [a] [] q) X.env) :: starEach [] X.env) : PE X (.Call (.Name "len" p) [.Call (.Name "set" p2) [a] [] q] [] pos) (tF K CL (fLenSet fa)) := by
  have g := h.gl e1
  have g2 := h.gl e3
  obtain ⟨rfl, rfl, rfl, rfl, rfl, rfl, hnd, rfl, hc, hx, hr, hf⟩ := h
  exact de_lenS hc g (fr _ (of_decide_eq_true e2)) g2 (fr _ (of_decide_eq_true e4)) ha na nb
theorem k_dictP (h : Cok P w K mg base k N sc fb X) {a : Expr} {fa : EvF} {p pos : Pos} {l : List Str} (fr : Fre mg l) (e1 : gloB sc "dict" = true) (e2 : memB "dict" l = true) (ha : PE X a (tF K CL fa)) (hs : starEach [a] X.env = [(false, eval a X.env)]) : PE X (.Call (.Name "dict" p) [a] [] pos) (tF K CL (fDictP fa)) := by
  have g := h.gl e1
  obtain ⟨rfl, rfl, rfl, rfl, rfl, rfl, hnd, rfl, hc, hx, hr, hf⟩ := h
  exact de_dictP hc g (fr _ (of_decide_eq_true e2)) (by decide +kernel) ha hs
theorem k_dget (h : Cok P w K mg base k N sc fb X) {o i : Expr} {fo fi : EvF} {pos : Pos} (ho : PE X o (tF K CL fo)) (hi : PE X i (tF K CL fi)) (hn : NoSl i) : PE X (.Subscript o i pos) (tF K CL (fDGet fo fi)) := by
  have hu := h.un
  obtain ⟨rfl, rfl, rfl, rfl, rfl, rfl, hnd, rfl, hc, hx, hr, hf⟩ := h
  exact de_dget (by omega) ho hi hn
/-- a place of a list or of a dict -/
def fIdx2 (a b : EvF) : EvF := fun ρ S => match fIdx a b ρ S with
  | some r => some r
  | none => fDGet a b ρ S
theorem k_idx2 (h : Cok P w K mg base k N sc fb X) {o i : Expr} {fo fi : EvF} {pos : Pos} (ho : PE X o (tF K CL fo)) (hi : PE X i (tF K CL fi)) (hs : PlainIx i) (hn : NoSl i) : PE X (.Subscript o i pos) (tF K CL (fIdx2 fo fi)) := by
  have h1 := k_idx h ho hi hs (pos := pos)
  have hu := h.un
  obtain ⟨rfl, rfl, rfl, rfl, rfl, rfl, hnd, rfl, hc, hx, hr, hf⟩ := h
  have h2 := de_dget (pos := pos) (by omega) ho hi hn
  refine ⟨fun pins s σ H Q I hq => ?_⟩
  obtain ⟨F, m, S, ρ, r, S', rel, env, e, k⟩ := hq
  unfold fIdx2 at e
  split at e
  · next r' e' =>
    cases e
    exact h1.run pins s σ H Q I ⟨F, m, S, ρ, r, S', rel, env, e', k⟩
  · exact h2.run pins s σ H Q I ⟨F, m, S, ρ, r, S', rel, env, e, k⟩
theorem s_dput (h : Cok P w K mg base k N sc fb X) {o i e : Expr} {fo fi fe : EvF} {pos pos' : Pos} (ho : PE X o (tF K CL fo)) (hi : PE X i (tF K CL fi)) (he : PE X e (tF K CL fe)) (hs : swapsWith e (some (.Subscript o i pos')) pos.line X.env = pure false) : PS X (.Assign [.Subscript o i pos'] e pos) (tS K CL (sDPut2 fo fi fe)) := by
  have hu := h.un
  obtain ⟨rfl, rfl, rfl, rfl, rfl, rfl, hnd, rfl, hc, hx, hr, hf⟩ := h
  exact ds_dput (by omega) ho hi he hs
section
variable (h : Cok P w K mg base k N sc fb X) {o i e : Expr} {fo fi fe : EvF} {apos pos : Pos} (hbase : ∀ name, attributeBase o name X.env (eval o X.env) = eval o X.env) (hline : (apos.endLine == pos.line) = true) (hs : starEach [i, e] X.env = [(false, eval i X.env), (false, eval e X.env)]) (hs2 : starEach [e] X.env = [(false, eval e X.env)])
  (hfew : ((backTo pos (starEach [i, e] X.env)).all (fun x => !x.1) && (backToKw pos (keywordEach [] X.env)).all (fun x => x.1.isSome) && decide (([i, e] : List Expr).length + ([] : List Keyword).length + (if ([] : List Keyword).isEmpty then 0 else 1) < 30)) = true)
  (ho : PE X o (tF K CL fo)) (hi : PE X i (tF K CL fi)) (he : PE X e (tF K CL fe))
include h hbase hline hs hs2 hfew ho hi he
theorem m_ins : PE X (.Call (.Attribute o "insert" apos) [i, e] [] pos) (tF K CL (fIns fo fi fe)) := by
  obtain ⟨rfl, rfl, rfl, rfl, rfl, rfl, hnd, rfl, hc, hx, hr, hf⟩ := h
  exact de_ins hbase hline hs hs2 hfew ho hi he
end
end
end Ev
set_option Elab.async false
set_option linter.all false
set_option maxRecDepth 100000
/-! Own text: lists of lists that change. -/
namespace Ev
open PySem PySem.Spec PyProof.Rows L2
def compG (g : TgF) (e : EvF) : List D → List Nat → Rho → Sto → Option (List Nat × Sto)
  | [], acc, _, S => some (acc, S)
  | d :: ds, acc, ρ, S => (g (.d d) ρ S).bind fun (ρ2, S) => (eA true e ρ2 S).bind fun (x, S) => match x with
      | .cell k => if acc.length < sizeLine then compG g e ds (acc ++ [k]) ρ S else none
      | _ => none
/-- [e for g in ι], the items lists that change -/
def fGrd (ι : ItF) (g : TgF) (e : EvF) (vs : List Nat) : EvF := fun ρ S => (ι ρ S).bind fun (ds, S) => (compG g e ds [] (wipeR ρ vs) S).map fun (ks, S) => (.val (.grd ks), S)
/-- x[i], x a list of lists that change -/
def fGIx (fa fb : EvF) : EvF := fun ρ S => (eV fa ρ S).bind fun (x, S) => (eV fb ρ S).bind fun (y, S) => match x, y with
  | .grd ks, .d (.int i) => (atI ks i).map fun k => (.val (.cell k), S)
  | _, _ => none
theorem Ext.atM {F F' H H' : Hp} {m m' : List Addr} (e : Ext F m H F' m' H') {ks : List Nat} {as : List Addr} (z : ks.map (fun k => m[k]?) = as.map some) : ks.map (fun k => m'[k]?) = as.map some := by
  rw [← z]
  refine List.map_congr_left fun k hk => ?_
  obtain ⟨b, _, hb⟩ := List.mem_map.mp (show m[k]? ∈ as.map some from z ▸ List.mem_map_of_mem hk)
  rw [← hb]
  exact e.at_ hb.symm
section
variable {X : Cx} {CL : Str → Option Addr}
theorem grd_t {ι : ItF} {g : TgF} {fe : EvF} {vs is : List Nat} (hs : ∀ i ∈ is, i ∈ vs) {σ : L2.St} {H : Hp} {Q : VK} (h : tF X.K CL (fGrd ι g fe vs) σ H Q) :
    tLc (tI X.K CL ι) (tG X.K CL g is) (tTs X.K CL none) (tAr X.K CL true fe) vs σ H Q := by
  obtain ⟨F, m, S, ρ, r, S', rel, env, e, q⟩ := h
  obtain ⟨⟨ds, S1⟩, e1, e⟩ := bind_some e
  obtain ⟨⟨xs, S2⟩, e2, e⟩ := map_some e
  cases e
  refine ⟨F, m, S, ρ, ds, S1, rel, env, e1, fun J F1 m1 H1 x1 r1 w D hD => ?_⟩
  have hm1 : D ∉ m1 := fun z => r1.trk D z hD
  have hF1 : F1 D = none := r1.out hD
  have env1 := (env.mono x1).wipeR vs
  refine lc_it w (fun i H' => ∃ (F2 : Hp) (m2 : List Addr) (S3 : Sto) (ks : List Nat) (as : List Addr), Ext F1 m1 H1 F2 m2 H' ∧ Rel X.K CL F2 m2 S3 H' ∧ H' D = some (.lst (as.map V.ref)) ∧ D ∉ m2 ∧ F2 D = none ∧ ks.map (fun k => m2[k]?) = as.map some ∧ compG g fe (ds.drop i) ks (wipeR ρ vs) S3 = some (xs, S')) ?_ ?_ ?_ ?_
  · exact ⟨F1, m1, S1, [], [], Ext.lay hD, r1.same (upd_sameN hD), upd_same, hm1, hF1, rfl, by rw [List.drop_zero]; exact e2⟩
  · rintro i H' _ ⟨F2, m2, S3, ks, as, x2, r2, _⟩
    exact fun a u z => r2.sub a u (x2.f a u z)
  · rintro i x H' H'' hi ⟨F2, m2, S3, ks, as, x2, r2, hD2, hm2, hF2, ra, e3⟩ ⟨d, ed, y⟩
    rw [drop_cons ed] at e3
    obtain ⟨⟨ρ4, S4⟩, e4, e3⟩ := bind_some e3
    obtain ⟨⟨vv, S5⟩, e5, e3⟩ := bind_some e3
    obtain ⟨F3, x3, r3, q3⟩ := walk_step (J := J) (ds := ds) x2.f r2 y
    have x23 := x2.trans x3
    refine ⟨F3, m2, S3, wipeR ρ vs, .d d, ρ4, S4, r3, env1.mono x23, q3, e4, fun σ4 F4 m4 H4 x4 r4 env4 t4 => ?_⟩
    refine ⟨wipe_eq (t4.1.trans (wipe_length ..)) t4.2 hs, ?_⟩
    have x24 := x23.trans x4
    have hD3 : H'' D = some (.lst (as.map V.ref)) := by
      rcases y with ⟨rfl, _⟩ | ⟨T, _, _, _, hT, rfl, _⟩
      · exact hD2
      · rw [upd_ne (ne_of_none hD2 hT)]; exact hD2
    have hF3 : F3 D = none := (keep_item x3 hD2 hm2 hF2).2.2
    obtain ⟨hD5, hm5, hF5⟩ := keep_item x4 hD3 hm2 hF3
    show tAr X.K CL true fe σ4 H4 _
    refine ⟨F4, m4, S4, ρ4, vv, S5, r4, env4, e5, fun v F6 m6 H6 x6 r6 q6 => ?_⟩
    obtain ⟨hD6, hm6, hF6⟩ := keep_item x6 hD5 hm5 hF5
    cases vv with
    | d _ => cases e3
    | grd _ => cases e3
    | cell k =>
      have e3 : (if ks.length < sizeLine then compG g fe (ds.drop (i + 1)) (ks ++ [k]) (wipeR ρ vs) S5 else none) = some (xs, S') := e3
      obtain ⟨c, e3⟩ := Option.ite_none_right_eq_some.mp e3
      obtain ⟨a, ha, rfl⟩ := q6
      have hl : as.length = ks.length := by simpa using (congrArg List.length ra).symm
      refine ⟨as.map V.ref, hD6, by rw [List.length_map, hl]; exact c, F6, m6, S5, ks ++ [k], as ++ [a], ?_, new_item (vs := as.map V.ref) r6 (by rw [hD6]; simp) hm6 hF6, by rw [List.map_append]; exact upd_same, hm6, hF6, ?_, e3⟩
      · have xx := x24.trans x6
        refine ⟨xx.f, xx.fn, xx.mm, fun a u h hm => ?_, fun a h => upd_ne_none (xx.t a h)⟩
        rw [upd_ne (ne_of_none h hD)]
        exact xx.h a u h hm
      · have := (x3.trans (x4.trans x6)).atM ra
        rw [List.map_append, List.map_append, this, List.map_cons, List.map_nil, ha]; rfl
  · rintro H' ⟨F2, m2, S3, ks, as, x2, r2, hD2, hm2, hF2, ra, e3⟩
    rw [List.drop_length] at e3
    cases e3
    have h0 : H D = none := Classical.byContradiction fun z => x1.t D z hD
    exact q (.ref D) _ m2 H' (Ext.frzN hF2 h0 (x1.trans x2) hF2) (r2.frzAt hF2 hD2 hm2) ⟨D, as, rfl, upd_same, ra⟩
theorem de_grd {elt iter tg : Expr} {pos : Pos} {scope : Scope} {own : List (Str × Nat)} {is : List Nat} {ι : ItF} {g : TgF} {fe : EvF} (hc : X.calm = true) (hN : X.N.Nodup) (hi : PI X tg iter (tI X.K CL ι)) (ok : BlkOk X.N X.env.scope scope own)
    (hg : ∀ s H C cl fp, PG (X.blk s H scope (compEnvC scope cl C X.env) fp) tg (tG X.K CL g is))
    (he : ∀ s H C cl fp, PE (X.blk s H scope (compEnvC scope cl C X.env) fp) elt (tF X.K CL fe)) (hs : ∀ x, foldedSetIterable iter X.env x = pure x) (his : ∀ i ∈ is, i ∈ own.map (·.2)) :
    PE X (.ListComp elt [⟨tg, iter, [], 0⟩] scope pos) (tF X.K CL (fGrd ι g fe (own.map (·.2)))) :=
  PEwk (pe_lc hc hN hi ok hg (fun s H C cl fp => dts_none (CL := CL)) (fun s H C cl fp => (he s H C cl fp).a true) hs) fun σ H Q h => grd_t his h
theorem ds_setGrd {i : Nat} {y : Str} {py spos pos : Pos} {elt iter tg : Expr} {scope : Scope} {own : List (Str × Nat)} {is : List Nat} {ι : ItF} {g : TgF} {fe : EvF} {c : Bool} (hc : X.calm = true) (hN : X.N.Nodup) (hy : X.N[i]? = some y) (hyl : X.env.scope.names.lookup y = some .local)
    (hsw : swapsWith (.ListComp elt [⟨tg, iter, [], 0⟩] scope pos) (some (.Name y py)) spos.line X.env = pure true) (hi : PI X tg iter (tI X.K CL ι)) (ok : BlkOk X.N X.env.scope scope own)
    (hg : ∀ s H C cl fp, PG (X.blk s H scope (compEnvC scope cl C X.env) fp) tg (tG X.K CL g is))
    (he : ∀ s H C cl fp, PE (X.blk s H scope (compEnvC scope cl C X.env) fp) elt (tF X.K CL fe)) (hs : ∀ x, foldedSetIterable iter X.env x = pure x) (his : ∀ i ∈ is, i ∈ own.map (·.2)) :
    PS X (.Assign [.Name y py] (.ListComp elt [⟨tg, iter, [], 0⟩] scope pos) spos) (tS X.K CL (sAsg c (fGrd ι g fe (own.map (·.2))) (gNm i))) :=
  PSwk (ps_setLc hc hN hy hyl hsw hi ok hg (fun s H C cl fp => dts_none (CL := CL)) (fun s H C cl fp => (he s H C cl fp).a true) hs) fun D σ H ⟨F, m, S, ρ, o, ρ', S', rel, env, e, q⟩ => by
    obtain ⟨⟨v, S1⟩, e1, e⟩ := bind_some e
    obtain ⟨⟨ρ2, S2⟩, e2, e⟩ := map_some e
    cases e
    cases e2
    refine grd_t (CL := CL) his (tAr_tF (c := c) ⟨F, m, S, ρ, v, S', rel, env, e1, fun w F1 m1 H1 x1 r1 q1 => ?_⟩)
    exact q F1 m1 H1 x1 r1 _ ((env.mono x1).set q1 i)
theorem de_gix {a b : Expr} {fa fb : EvF} {pos : Pos} (ha : PE X a (tF X.K CL fa)) (hb : PE X b (tF X.K CL fb)) (hs : PlainIx b) : PE X (.Subscript a b pos) (tF X.K CL (fGIx fa fb)) :=
  PEwk (pe_ix ix_seq ha.v hb.v hs) fun σ H Q ⟨F, m, S, ρ, r, S', rel, env, e, k⟩ => by
    obtain ⟨⟨x, S1⟩, e1, e⟩ := bind_some e
    obtain ⟨⟨y, S2⟩, e2, e⟩ := bind_some e
    cases x with
    | d _ => cases e
    | cell _ => cases e
    | grd ks =>
      cases y with
      | cell _ => cases e
      | grd _ => cases e
      | d dy =>
        cases dy with
        | int i =>
          obtain ⟨j, e3, e⟩ := map_some e
          cases e
          refine ⟨F, m, S, ρ, _, S1, rel, env, e1, fun v F1 m1 H1 x1 r1 q1 => ⟨F1, m1, S1, ρ, _, _, r1, env.mono x1, e2, fun w F2 m2 H2 x2 r2 q2 => ?_⟩⟩
          cases q2
          obtain ⟨p, as, rfl, hp, z⟩ := q1.mono x2
          have hl : as.length = ks.length := by simpa using (congrArg List.length z).symm
          unfold atI at e3
          obtain ⟨n, e4, e5⟩ := bind_some e3
          have hn : n < ks.length := (List.getElem?_eq_some_iff.mp e5).1
          obtain ⟨b, hb⟩ : ∃ b, as[n]? = some b := ⟨as[n], List.getElem?_eq_getElem (by omega)⟩
          have hz := congrArg (fun l => l[n]?) z
          simp only [List.getElem?_map, e5, hb, Option.map_some] at hz
          refine .inl ⟨p, as.map V.ref, i, .ref b, rfl, rfl, SqL.of (r2.sub _ _ hp), ?_, k (.ref b) F2 m2 H2 (x1.trans x2) r2 ⟨b, Option.some.inj hz, rfl⟩⟩
          unfold atI
          rw [List.length_map, hl, e4]
          show (as.map V.ref)[n]? = _
          rw [List.getElem?_map, hb]; rfl
        | _ => cases e
end
section
variable {P : Program} {w : World} {K : Frg} {mg : Str → Option Value} {base : Heap} {CL : Str → Option Addr} {k : Nat} {N : List Str} {sc : Scope} {fb : Str → Bool} {X : Cx}
variable (h : Cok P w K mg base k N sc fb X) {a b tg iter elt : Expr} {fa fb' fe : EvF} {scope : Scope} {own : List (Str × Nat)} {is : List Nat} {g : TgF} {ι : ItF} {pos : Pos}
include h
theorem k_gix (ha : PE X a (tF K CL fa)) (hb : PE X b (tF K CL fb')) (hs : PlainIx b) : PE X (.Subscript a b pos) (tF K CL (fGIx fa fb')) := by
  obtain ⟨rfl, rfl, rfl, rfl, rfl, rfl, hnd, rfl, hc, hx, hr, hf⟩ := h
  exact de_gix ha hb hs
theorem k_grd (hi : PI X tg iter (tI K CL ι)) (e1 : blkC N sc scope own = true) (hg : ∀ Y, Cok P w K mg base k N (relS scope sc) (fbB scope) Y → PG Y tg (tG K CL g is))
    (he : ∀ Y, Cok P w K mg base k N (relS scope sc) (fbB scope) Y → PE Y elt (tF K CL fe)) (hs : ∀ x, foldedSetIterable iter X.env x = pure x) (his : ∀ i ∈ is, i ∈ own.map (·.2)) :
    PE X (.ListComp elt [⟨tg, iter, [], 0⟩] scope pos) (tF K CL (fGrd ι g fe (own.map (·.2)))) := by
  have hbl := fun s H C cl fp => h.blk s H scope C cl fp
  obtain ⟨rfl, rfl, rfl, rfl, rfl, rfl, hnd, rfl, hc, hx, hr, hf⟩ := h
  exact de_grd hc hnd hi (blkOk_by e1) (fun s H C cl fp => hg _ (hbl s H C cl fp)) (fun s H C cl fp => he _ (hbl s H C cl fp)) hs his
theorem s_setGrd {y : Str} {i : Nat} {py spos : Pos} (cf : Bool) (e0 : locB N sc i y = true) (hsw : ∀ env : Env, env.scope = sc → swapsWith (.ListComp elt [⟨tg, iter, [], 0⟩] scope pos) (some (.Name y py)) spos.line env = pure true)
    (hi : PI X tg iter (tI K CL ι)) (e1 : blkC N sc scope own = true) (hg : ∀ Y, Cok P w K mg base k N (relS scope sc) (fbB scope) Y → PG Y tg (tG K CL g is))
    (he : ∀ Y, Cok P w K mg base k N (relS scope sc) (fbB scope) Y → PE Y elt (tF K CL fe)) (hs : ∀ x, foldedSetIterable iter X.env x = pure x) (his : ∀ i ∈ is, i ∈ own.map (·.2)) :
    PS X (.Assign [.Name y py] (.ListComp elt [⟨tg, iter, [], 0⟩] scope pos) spos) (tS K CL (sAsg cf (fGrd ι g fe (own.map (·.2))) (gNm i))) := by
  have hbl := fun s H C cl fp => h.blk s H scope C cl fp
  have sw := hsw X.env h.hsc
  unfold locB at e0
  rw [Bool.and_eq_true] at e0
  have a1 := of_decide_eq_true e0.1
  have a2 := of_decide_eq_true e0.2
  obtain ⟨rfl, rfl, rfl, rfl, rfl, rfl, hnd, rfl, hc, hx, hr, hf⟩ := h
  exact ds_setGrd hc hnd a1 a2 sw hi (blkOk_by e1) (fun s H C cl fp => hg _ (hbl s H C cl fp)) (fun s H C cl fp => he _ (hbl s H C cl fp)) hs his
end
/-! ### several places at once -/
def gEachV : List TgF → List Val → Rho → Sto → Option (Rho × Sto)
  | [], [], ρ, S => some (ρ, S)
  | g :: gs, v :: vs, ρ, S => (g v ρ S).bind fun (ρ, S) => gEachV gs vs ρ S
  | _, _, _, _ => none
def sParN (fs : List (Bool × EvF)) (gs : List TgF) : StF := fun ρ S => (evas fs ρ S).bind fun (vs, S) => (gEachV gs vs ρ S).map fun (ρ, S) => (.nx, ρ, S)
def tGVs (K : PySem.W.Frag) (CL : Str → Option Addr) (gs : List TgF) : TGs := fun vs σ H Q => ∃ F m S ρ xs ρ' S', Rel K CL F m S H ∧ RepE K CL F m σ ρ ∧ RepVs K CL F m vs xs ∧ gEachV gs xs ρ S = some (ρ', S') ∧
  ∀ σ' F' m' H', Ext F m H F' m' H' → Rel K CL F' m' S' H' → RepE K CL F' m' σ' ρ' → Q σ' H'
section
variable {X : Cx} {CL : Str → Option Addr}
theorem dgv_nil : PGs X [] (tGVs X.K CL []) := PGswk pgs_nil fun vs σ H Q ⟨F, m, S, ρ, ds, ρ', S', rel, env, rv, e, q⟩ => by
  cases rv with
  | nil => cases e; exact ⟨rfl, q σ F m H (Ext.refl ..) rel env⟩
  | cons _ _ => cases e
theorem dgv_cons {e : Expr} {es : List Expr} {t : TgF} {ts : List TgF} {is : List Nat} (h1 : PG X e (tG X.K CL t is)) (h2 : PGs X es (tGVs X.K CL ts))
    (hs : (assignEach (e :: es) X.env).map (·.2) = assign e X.env :: (assignEach es X.env).map (·.2)) : PGs X (e :: es) (tGVs X.K CL (t :: ts)) := PGswk (pgs_cons h1 h2 hs) fun vs σ H Q ⟨F, m, S, ρ, ds, ρ', S', rel, env, rv, e, q⟩ => by
  cases rv with
  | nil => cases e
  | cons a rest =>
    obtain ⟨⟨ρ1, S1⟩, e1, e2⟩ := bind_some e
    refine ⟨_, _, rfl, F, m, S, ρ, _, ρ1, S1, rel, env, a, e1, fun σ1 F1 m1 H1 x1 r1 env1 t1 => ⟨F1, m1, S1, ρ1, _, ρ', S', r1, env1, rest.mono x1, e2, fun σ2 F2 m2 H2 x2 r2 env2 => ?_⟩⟩
    exact q σ2 F2 m2 H2 (x1.trans x2) r2 env2
theorem ds_parN {tgs es : List Expr} {fs : List (Bool × EvF)} {gs : List TgF} {k k2 : Nat} {p1 p2 pos : Pos} (hc : X.calm = true) (ha : PA X es (tAs X.K CL fs)) (hg : PGs X tgs (tGVs X.K CL gs)) (hf : fs.length = gs.length) (hf2 : fs.length ≤ sizeLine)
    (hn : (assignEach tgs X.env).length = gs.length) (hst : (assignEach tgs X.env).findIdx? (·.1) = none)
    (hsw : swapsWithSole [.Tuple tgs k p1] (.Tuple es k2 p2) pos.line X.env = pure false) (hw : swappedStores [.Tuple tgs k p1] (.Tuple es k2 p2) X.env = pure none)
    (h1' : (assignEach [.Tuple tgs k p1] X.env).map (·.2) = [assign (.Tuple tgs k p1) X.env]) :
    PS X (.Assign [.Tuple tgs k p1] (.Tuple es k2 p2) pos) (tS X.K CL (sParN fs gs)) :=
  PSwk (ps_asg (pe_tup ha) (pg_tup hc hg hn hst) hsw hw h1') fun D σ H ⟨F, m, S, ρ, o, ρ', S', rel, env, e, q⟩ => by
    obtain ⟨⟨vs, S1⟩, e1, e⟩ := bind_some e
    obtain ⟨⟨ρ2, S2⟩, e2, e⟩ := map_some e
    cases e
    refine ⟨F, m, S, ρ, vs, S1, rel, env, e1, fun ws F1 m1 H1 x1 r1 q1 => ⟨by rw [q1.length, evas_length e1]; exact hf2, fun p hp => ?_⟩⟩
    have xl : Ext F1 m1 H1 F1 m1 (upd H1 p (.tup ws)) := Ext.lay hp
    have rl := r1.same (H' := upd H1 p (.tup ws)) (upd_sameN hp)
    exact ⟨p, ws, rfl, SqT.of upd_same, by rw [q1.length, evas_length e1, hf], F1, m1, S1, ρ, vs, ρ', S', rl, (env.mono x1).mono xl, q1.mono xl, e2, fun σ3 F3 m3 H3 x3 r3 env3 => q F3 m3 H3 ((x1.trans xl).trans x3) r3 σ3 env3⟩
end
section
variable {P : Program} {w : World} {K : Frg} {mg : Str → Option Value} {base : Heap} {CL : Str → Option Addr} {k : Nat} {N : List Str} {sc : Scope} {fb : Str → Bool} {X : Cx}
variable (h : Cok P w K mg base k N sc fb X)
include h
theorem gv_nil : PGs X [] (tGVs K CL []) := by
  obtain ⟨rfl, rfl, rfl, rfl, rfl, rfl, hnd, rfl, hc, hx, hr, hf⟩ := h
  exact dgv_nil
theorem gv_cons {e : Expr} {es : List Expr} {t : TgF} {ts : List TgF} {is : List Nat} (h1 : PG X e (tG K CL t is)) (h2 : PGs X es (tGVs K CL ts)) (hs : (assignEach (e :: es) X.env).map (·.2) = assign e X.env :: (assignEach es X.env).map (·.2)) : PGs X (e :: es) (tGVs K CL (t :: ts)) := by
  obtain ⟨rfl, rfl, rfl, rfl, rfl, rfl, hnd, rfl, hc, hx, hr, hf⟩ := h
  exact dgv_cons h1 h2 hs
theorem s_parN {tgs es : List Expr} {fs : List (Bool × EvF)} {gs : List TgF} {j j2 : Nat} {p1 p2 pos : Pos} (ha : PA X es (tAs K CL fs)) (hg : PGs X tgs (tGVs K CL gs)) (hf0 : fs.length = gs.length) (hf2 : fs.length ≤ 1000)
    (hn : (assignEach tgs X.env).length = gs.length) (hst : (assignEach tgs X.env).findIdx? (·.1) = none)
    (hsw : swapsWithSole [.Tuple tgs j p1] (.Tuple es j2 p2) pos.line X.env = pure false) (hw : ∀ env : Env, env.scope = sc → swappedStores [.Tuple tgs j p1] (.Tuple es j2 p2) env = pure none)
    (h1' : (assignEach [.Tuple tgs j p1] X.env).map (·.2) = [assign (.Tuple tgs j p1) X.env]) :
    PS X (.Assign [.Tuple tgs j p1] (.Tuple es j2 p2) pos) (tS K CL (sParN fs gs)) := by
  have sw := hw X.env h.hsc
  obtain ⟨rfl, rfl, rfl, rfl, rfl, rfl, hnd, rfl, hc, hx, hr, hf⟩ := h
  exact ds_parN hc ha hg hf0 (Nat.le_trans hf2 (by decide)) hn hst hsw sw h1'
end
/-! ### dicts that are locked: they never change, their items may be walked -/
def kD : Key → D
  | .inl i => .int i
  | .inr x => .str x
def itemsK (kvs : List (Key × D)) : List D := kvs.map fun p => .tup [kD p.1, p.2]
def fLk (f : EvF) : EvF := fun ρ S => (f ρ S).bind fun (r, S) => match r with
  | .new (.dct kvs) => some (.val (.d (.dcl kvs)), S)
  | _ => none
def iItm (f : EvF) : ItF := fun ρ S => (eD f ρ S).bind fun (d, S) => match d with
  | .dcl kvs => some (itemsK kvs, S)
  | _ => none
section
variable {X : Cx} {CL : Str → Option Addr} {e : Expr} {fe : EvF}
theorem de_lk (he : PE X e (tF X.K CL fe)) : PE X e (tF X.K CL (fLk fe)) := by
  refine ⟨fun pins s σ H Q I ⟨F, m, S, ρ, r, S', rel, env, ee, k⟩ => ?_⟩
  obtain ⟨⟨r0, S1⟩, e1, e2⟩ := bind_some ee
  cases r0 with
  | val _ => cases e2
  | new c =>
    cases c with
    | dct ds =>
      cases e2
      refine thn (he.run pins s σ H (fun v H1 => ∃ a kvs, v = .ref a ∧ H1 a = some (.dK kvs) ∧ ∀ od, Q (.ref a) (upd H1 a (.frz od (.dK kvs)))) I ⟨F, m, S, ρ, _, _, rel, env, e1, fun v F1 m1 H1 x1 r1 q1 => ?_⟩) fun v s1 ⟨x, H1, I1, rx, a, kvs, ex, hd, q⟩ => ?_
      · obtain ⟨a, rfl, h0, hm, _, hF, kvs, hH, hk, hr⟩ := q1
        refine ⟨a, kvs, rfl, hH, fun od => ?_⟩
        have r2 := new_item (vs := []) (o := .frz od (.dK kvs)) r1 (by rw [hH]; simp) hm hF
        have r3 := r2.frzAt (o := .frz od (.dK kvs)) hF upd_same hm
        refine k _ _ _ _ (Ext.frzN hF h0 ⟨x1.f, x1.fn, x1.mm, fun b u h hb => ?_, fun b h => upd_ne_none (x1.t b h)⟩ hF) r3 (.dcl upd_same hk (hr.mono (upd_sameN hF)))
        rw [upd_ne (ne_of_none h h0)]
        exact x1.h b u h hb
      · subst ex
        obtain ⟨od, I2⟩ := I1.lock hd trivial
        exact ⟨_, _, I2, rx, q od⟩
    | _ => cases e2
theorem kD_rep {K : PySem.W.Frag} {F : Hp} (k : Key) : RepD K CL F (kV k) (kD k) := by
  cases k with
  | inl i => exact .int i
  | inr x => exact .str x
theorem walkD_items {K : PySem.W.Frag} {F : Hp} {d : Addr} {o : Obj} {kvs : List (Key × V)} {ds : List (Key × D)} (h : F d = some (.frz o (.dK kvs))) (hk : kvs.map (·.1) = ds.map (·.1)) (r : RepL K CL F (kvs.map (·.2)) (ds.map (·.2))) : WalkD K CL (Iti d o kvs) F (itemsK ds) := by
  have hl : kvs.length = ds.length := by simpa using congrArg List.length hk
  have hn : (itemsK ds).length = ds.length := List.length_map _
  unfold WalkD
  rw [hn]
  refine ⟨fun i H hi s => ⟨s _ _ h, by omega⟩, fun H s => ⟨s _ _ h, by omega⟩, fun i H x H' hi s y => ?_⟩
  obtain ⟨T, k, v, e, rfl, hT, rfl⟩ := y
  have hd : ds[i]? = some ds[i] := List.getElem?_eq_getElem hi
  have e1 : (ds[i]).1 = k := by
    have := congrArg (fun l => l[i]?) hk
    simp only [List.getElem?_map, e, hd, Option.map_some] at this
    exact (Option.some.inj this).symm
  obtain ⟨v', e2, q⟩ := r.get (show (ds.map (·.2))[i]? = some (ds[i]).2 by rw [List.getElem?_map, hd]; rfl)
  rw [List.getElem?_map, e] at e2
  have e2 : v = v' := Option.some.inj e2
  subst e2
  refine ⟨.tup [kD k, (ds[i]).2], ?_, .inr ⟨T, [kV k, v], _, rfl, hT, rfl, rfl, .cons (kD_rep k) (.cons q .nil)⟩⟩
  unfold itemsK
  rw [List.getElem?_map, hd, ← e1]; rfl
theorem di_items {elts : List Expr} {kk : Nat} {tpos apos cpos : Pos} (he : PE X e (tF X.K CL fe)) (hbase : attributeBase e "items" X.env (eval e X.env) = eval e X.env) (hline : (apos.endLine == cpos.line) = true) :
    PI X (.Tuple elts kk tpos) (.Call (.Attribute e "items" apos) [] [] cpos) (tI X.K CL (iItm fe)) :=
  PIwk (pi_items he.dd hbase hline) fun σ H R ⟨F, m, S, ρ, ds, S', rel, env, ee, k⟩ => by
    obtain ⟨⟨d, S1⟩, e1, e2⟩ := bind_some ee
    cases d with
    | dcl kvs =>
      cases e2
      refine ⟨F, m, S, ρ, _, _, rel, env, e1, fun v F' m' H' x1 r1 q1 => ?_⟩
      cases q1 with
      | @dcl a o vs _ h hk hr => exact ⟨a, o, vs, rfl, r1.sub _ _ h, k _ F' m' H' x1 r1 (walkD_items h hk hr)⟩
    | _ => cases e2
end
section
variable {P : Program} {w : World} {K : Frg} {mg : Str → Option Value} {base : Heap} {CL : Str → Option Addr} {k : Nat} {N : List Str} {sc : Scope} {fb : Str → Bool} {X : Cx}
variable (h : Cok P w K mg base k N sc fb X) {e : Expr} {fe : EvF}
include h
theorem k_lk (he : PE X e (tF K CL fe)) : PE X e (tF K CL (fLk fe)) := by
  obtain ⟨rfl, rfl, rfl, rfl, rfl, rfl, hnd, rfl, hc, hx, hr, hf⟩ := h
  exact de_lk he
theorem i_items {elts : List Expr} {kk : Nat} {tpos apos cpos : Pos} (he : PE X e (tF K CL fe)) (hbase : attributeBase e "items" X.env (eval e X.env) = eval e X.env) (hline : (apos.endLine == cpos.line) = true) :
    PI X (.Tuple elts kk tpos) (.Call (.Attribute e "items" apos) [] [] cpos) (tI K CL (iItm fe)) := by
  obtain ⟨rfl, rfl, rfl, rfl, rfl, rfl, hnd, rfl, hc, hx, hr, hf⟩ := h
  exact di_items he hbase hline
end
/-! ### name = {..}, the name a local -/
section
variable {X : Cx} {CL : Str → Option Addr}
theorem ps_setDc {i : Nat} {y : Str} {py : Pos} {kx vx tg iter : Expr} {ifs : List Expr} {scope : Scope} {own : List (Str × Nat)} {pos spos : Pos} {wi : TI} {g : TG} {tt : TT} {tk tv : TE} (hc : X.calm = true) (hN : X.N.Nodup) (hy : X.N[i]? = some y) (hyl : X.env.scope.names.lookup y = some .local)
    (hsw : swapsWith (.DictComp kx vx [⟨tg, iter, ifs, 0⟩] scope pos) (some (.Name y py)) spos.line X.env = pure true) (hi : PI X tg iter wi) (ok : BlkOk X.N X.env.scope scope own)
    (hg : ∀ (s : Shared) (H : Hp) (C : Addr) (cl : List (Str × Addr)) (fp : List Addr), PG (X.blk s H scope (compEnvC scope cl C X.env) fp) tg g) (ht : ∀ (s : Shared) (H : Hp) (C : Addr) (cl : List (Str × Addr)) (fp : List Addr), PTs (X.blk s H scope (compEnvC scope cl C X.env) fp) ifs tt)
    (hk : ∀ (s : Shared) (H : Hp) (C : Addr) (cl : List (Str × Addr)) (fp : List Addr), PE (X.blk s H scope (compEnvC scope cl C X.env) fp) kx tk)
    (he : ∀ (s : Shared) (H : Hp) (C : Addr) (cl : List (Str × Addr)) (fp : List Addr), PE (X.blk s H scope (compEnvC scope cl C X.env) fp) vx tv) (hs : ∀ x, foldedSetIterable iter X.env x = pure x) :
    PS X (.Assign [.Name y py] (.DictComp kx vx [⟨tg, iter, ifs, 0⟩] scope pos) spos) (tAsg (tDc wi g tt tk tv (own.map (·.2))) (gName i)) := by
  refine ⟨fun pins s σ H D I h => ?_⟩
  rw [exec_Assign_Name_used _ _ _ _ hsw]
  refine wpAny_bind (wpAny_standAt (wpAny_bind ?_))
  show wpAny _ X.A (do let _ ← comprehension (.DictComp kx vx [⟨tg, iter, ifs, 0⟩] scope pos) scope X.env (firstIterPos [⟨tg, iter, ifs, 0⟩] pos) newDict false (eval iter X.env) (some (assign (.Name y py) X.env))) _ _ s
  have h : tDc wi g tt tk tv (own.map (·.2)) σ H (fun x H1 => gName i x σ H1 D.nx) := h
  refine wpAny_bind (thn (dc_core (Qf := fun _ s' => SP X pins D .next s') hc hN I hi ok hg ht hk he hs h fun L C s' m H' I' q hn f => ?_) fun _ s' hq => wpAny_pure (wpAny_pure hq))
  show wpAny _ _ (assign (.Name y py) X.env (.ref L)) _ _ _
  refine wpAny_assign_Name (store_ok2 (v := V.ref L) I' hN hy (.inl hyl) rfl (fun s2 I2 ⟨a, sb, ha⟩ => ?_) (.inr hyl))
  obtain ⟨f0, f1, f2, f3, f4, f5⟩ := f
  have haC : C ≠ a := by
    rcases ha with z | z
    · rw [z]; exact f1
    · exact fun e => f4 y a z e.symm
  refine ⟨m, hn.sameBut sb haC, fun h3 sb3 => ?_⟩
  exact ⟨_, H', I2.turned (t' := s2.toks) (fun b o hb e => (sb3.2 b hb).trans e) f0 f1 f3 f4 f5, q⟩
theorem ds_setDc {i : Nat} {y : Str} {py : Pos} {kx vx tg iter : Expr} {scope : Scope} {own : List (Str × Nat)} {is : List Nat} {ι : ItF} {g : TgF} {fk fv : EvF} {pos spos : Pos} {c : Bool} (hc : X.calm = true) (hN : X.N.Nodup) (hy : X.N[i]? = some y) (hyl : X.env.scope.names.lookup y = some .local)
    (hsw : swapsWith (.DictComp kx vx [⟨tg, iter, [], 0⟩] scope pos) (some (.Name y py)) spos.line X.env = pure true) (hi : PI X tg iter (tI X.K CL ι)) (ok : BlkOk X.N X.env.scope scope own)
    (hg : ∀ s H C cl fp, PG (X.blk s H scope (compEnvC scope cl C X.env) fp) tg (tG X.K CL g is)) (hk : ∀ s H C cl fp, PE (X.blk s H scope (compEnvC scope cl C X.env) fp) kx (tF X.K CL fk))
    (he : ∀ s H C cl fp, PE (X.blk s H scope (compEnvC scope cl C X.env) fp) vx (tF X.K CL fv)) (hs : ∀ x, foldedSetIterable iter X.env x = pure x) (his : ∀ i ∈ is, i ∈ own.map (·.2)) :
    PS X (.Assign [.Name y py] (.DictComp kx vx [⟨tg, iter, [], 0⟩] scope pos) spos) (tS X.K CL (sAsg c (fDc ι g fk fv (own.map (·.2))) (gNm i))) :=
  PSwk (ps_setDc hc hN hy hyl hsw hi ok hg (fun s H C cl fp => pts_nil) (fun s H C cl fp => (hk s H C cl fp).dd) (fun s H C cl fp => (he s H C cl fp).dd) hs) fun D σ H ⟨F, m, S, ρ, o, ρ', S', rel, env, e, q⟩ => by
    obtain ⟨⟨v, S1⟩, e1, e⟩ := bind_some e
    obtain ⟨⟨ρ2, S2⟩, e2, e⟩ := map_some e
    cases e
    cases e2
    refine dc_t (CL := CL) his (tAr_tF (c := c) ⟨F, m, S, ρ, v, S', rel, env, e1, fun w F1 m1 H1 x1 r1 q1 => ?_⟩)
    exact q F1 m1 H1 x1 r1 _ ((env.mono x1).set q1 i)
/-- .. locked -/
theorem ds_setDcLk {i : Nat} {y : Str} {py : Pos} {kx vx tg iter : Expr} {scope : Scope} {own : List (Str × Nat)} {is : List Nat} {ι : ItF} {g : TgF} {fk fv : EvF} {pos spos : Pos} {c : Bool} (hc : X.calm = true) (hN : X.N.Nodup) (hy : X.N[i]? = some y) (hyl : X.env.scope.names.lookup y = some .local)
    (hsw : swapsWith (.DictComp kx vx [⟨tg, iter, [], 0⟩] scope pos) (some (.Name y py)) spos.line X.env = pure true) (hi : PI X tg iter (tI X.K CL ι)) (ok : BlkOk X.N X.env.scope scope own)
    (hg : ∀ s H C cl fp, PG (X.blk s H scope (compEnvC scope cl C X.env) fp) tg (tG X.K CL g is)) (hk : ∀ s H C cl fp, PE (X.blk s H scope (compEnvC scope cl C X.env) fp) kx (tF X.K CL fk))
    (he : ∀ s H C cl fp, PE (X.blk s H scope (compEnvC scope cl C X.env) fp) vx (tF X.K CL fv)) (hs : ∀ x, foldedSetIterable iter X.env x = pure x) (his : ∀ i ∈ is, i ∈ own.map (·.2)) :
    PS X (.Assign [.Name y py] (.DictComp kx vx [⟨tg, iter, [], 0⟩] scope pos) spos) (tS X.K CL (sAsg c (fLk (fDc ι g fk fv (own.map (·.2)))) (gNm i))) := by
  refine ⟨fun pins s σ H D I ⟨F, m, S, ρ, o, ρ', S', rel, env, e, q⟩ => ?_⟩
  obtain ⟨⟨v, S1⟩, e1, e⟩ := bind_some e
  obtain ⟨⟨ρ2, S2⟩, e2, e⟩ := map_some e
  cases e
  cases e2
  obtain ⟨⟨r, S0⟩, e3, e4⟩ := map_some e1
  obtain ⟨⟨r0, S3⟩, e5, e6⟩ := bind_some e3
  cases r0 with
  | val _ => cases e6
  | new cc =>
    cases cc with
    | dct ds =>
      cases e6
      cases e4
      refine thn ((ps_setDc hc hN hy hyl hsw hi ok hg (fun s H C cl fp => pts_nil) (fun s H C cl fp => (hk s H C cl fp).dd) (fun s H C cl fp => (he s H C cl fp).dd) hs).run pins s σ H
        { D with nx := fun σ' H' => ∃ a kvs, H' a = some (.dK kvs) ∧ ∀ od, D.nx σ' (upd H' a (.frz od (.dK kvs))) } I
        (dc_t (CL := CL) his ⟨F, m, S, ρ, _, _, rel, env, e5, fun w F1 m1 H1 x1 r1 q1 => ?_⟩)) fun f s1 hf => ?_
      · obtain ⟨a, rfl, h0, hm, _, hF, kvs, hH, hk, hr⟩ := q1
        refine ⟨a, kvs, hH, fun od => ?_⟩
        have r2 := new_item (vs := []) (o := .frz od (.dK kvs)) r1 (by rw [hH]; simp) hm hF
        have r3 := r2.frzAt (o := .frz od (.dK kvs)) hF upd_same hm
        have xx : Ext F m H F1 m1 (upd H1 a (.frz od (.dK kvs))) := ⟨x1.f, x1.fn, x1.mm, fun b u h hb => by
          rw [upd_ne (ne_of_none h h0)]
          exact x1.h b u h hb, fun b h => upd_ne_none (x1.t b h)⟩
        have x2 := Ext.frzN (o := .frz od (.dK kvs)) hF h0 xx hF
        exact q _ _ _ x2 r3 _ ((env.mono x2).set (show RepV X.K CL (upd F1 a (.frz od (.dK kvs))) m1 (.ref a) (.d (.dcl ds)) from .dcl upd_same hk (hr.mono (upd_sameN hF))) i)
      · cases f with
        | next =>
          obtain ⟨σ', H', I2, a, kvs, hH, q2⟩ := hf
          obtain ⟨od, I3⟩ := I2.lock hH trivial
          exact ⟨σ', _, I3, q2 od⟩
        | brk => exact hf
        | cont => exact hf
        | ret u => exact hf
    | _ => cases e6
end
section
variable {P : Program} {w : World} {K : Frg} {mg : Str → Option Value} {base : Heap} {CL : Str → Option Addr} {k : Nat} {N : List Str} {sc : Scope} {fb : Str → Bool} {X : Cx}
variable (h : Cok P w K mg base k N sc fb X) {tg iter kx vx : Expr} {fk fv : EvF} {scope : Scope} {own : List (Str × Nat)} {is : List Nat} {g : TgF} {ι : ItF} {pos : Pos}
include h
theorem s_setDc {y : Str} {i : Nat} {py spos : Pos} (cf : Bool) (e0 : locB N sc i y = true) (hsw : ∀ env : Env, env.scope = sc → swapsWith (.DictComp kx vx [⟨tg, iter, [], 0⟩] scope pos) (some (.Name y py)) spos.line env = pure true)
    (hi : PI X tg iter (tI K CL ι)) (e1 : blkC N sc scope own = true) (hg : ∀ Y, Cok P w K mg base k N (relS scope sc) (fbB scope) Y → PG Y tg (tG K CL g is)) (hk : ∀ Y, Cok P w K mg base k N (relS scope sc) (fbB scope) Y → PE Y kx (tF K CL fk))
    (he : ∀ Y, Cok P w K mg base k N (relS scope sc) (fbB scope) Y → PE Y vx (tF K CL fv)) (hs : ∀ x, foldedSetIterable iter X.env x = pure x) (his : ∀ i ∈ is, i ∈ own.map (·.2)) :
    PS X (.Assign [.Name y py] (.DictComp kx vx [⟨tg, iter, [], 0⟩] scope pos) spos) (tS K CL (sAsg cf (fDc ι g fk fv (own.map (·.2))) (gNm i))) := by
  have hbl := fun s H C cl fp => h.blk s H scope C cl fp
  have sw := hsw X.env h.hsc
  unfold locB at e0
  rw [Bool.and_eq_true] at e0
  have a1 := of_decide_eq_true e0.1
  have a2 := of_decide_eq_true e0.2
  obtain ⟨rfl, rfl, rfl, rfl, rfl, rfl, hnd, rfl, hc, hx, hr, hf⟩ := h
  exact ds_setDc hc hnd a1 a2 sw hi (blkOk_by e1) (fun s H C cl fp => hg _ (hbl s H C cl fp)) (fun s H C cl fp => hk _ (hbl s H C cl fp)) (fun s H C cl fp => he _ (hbl s H C cl fp)) hs his
theorem s_setDcLk {y : Str} {i : Nat} {py spos : Pos} (cf : Bool) (e0 : locB N sc i y = true) (hsw : ∀ env : Env, env.scope = sc → swapsWith (.DictComp kx vx [⟨tg, iter, [], 0⟩] scope pos) (some (.Name y py)) spos.line env = pure true)
    (hi : PI X tg iter (tI K CL ι)) (e1 : blkC N sc scope own = true) (hg : ∀ Y, Cok P w K mg base k N (relS scope sc) (fbB scope) Y → PG Y tg (tG K CL g is)) (hk : ∀ Y, Cok P w K mg base k N (relS scope sc) (fbB scope) Y → PE Y kx (tF K CL fk))
    (he : ∀ Y, Cok P w K mg base k N (relS scope sc) (fbB scope) Y → PE Y vx (tF K CL fv)) (hs : ∀ x, foldedSetIterable iter X.env x = pure x) (his : ∀ i ∈ is, i ∈ own.map (·.2)) :
    PS X (.Assign [.Name y py] (.DictComp kx vx [⟨tg, iter, [], 0⟩] scope pos) spos) (tS K CL (sAsg cf (fLk (fDc ι g fk fv (own.map (·.2)))) (gNm i))) := by
  have hbl := fun s H C cl fp => h.blk s H scope C cl fp
  have sw := hsw X.env h.hsc
  unfold locB at e0
  rw [Bool.and_eq_true] at e0
  have a1 := of_decide_eq_true e0.1
  have a2 := of_decide_eq_true e0.2
  obtain ⟨rfl, rfl, rfl, rfl, rfl, rfl, hnd, rfl, hc, hx, hr, hf⟩ := h
  exact ds_setDcLk hc hnd a1 a2 sw hi (blkOk_by e1) (fun s H C cl fp => hg _ (hbl s H C cl fp)) (fun s H C cl fp => hk _ (hbl s H C cl fp)) (fun s H C cl fp => he _ (hbl s H C cl fp)) hs his
end
end Ev
set_option Elab.async false
set_option linter.all false
set_option maxRecDepth 100000
/-! Own text: reckoning with the plain functions: what is reached, from the head (a step by a lemma). -/
namespace Ev
open PySem L2
def G1 {α : Type} (x : Option α) (P : α → Prop) : Prop := ∃ a, x = some a ∧ P a
def G2 {α β : Type} (x : Option (α × β)) (P : α → β → Prop) : Prop := ∃ a b, x = some (a, b) ∧ P a b
def G3 {α β γ : Type} (x : Option (α × β × γ)) (P : α → β → γ → Prop) : Prop := ∃ a b c, x = some (a, b, c) ∧ P a b c
theorem G1.some {α : Type} {a : α} {P : α → Prop} (h : P a) : G1 (some a) P := ⟨a, rfl, h⟩
theorem G2.some {α β : Type} {a : α} {b : β} {P : α → β → Prop} (h : P a b) : G2 (some (a, b)) P := ⟨a, b, rfl, h⟩
theorem G3.some {α β γ : Type} {a : α} {b : β} {c : γ} {P : α → β → γ → Prop} (h : P a b c) : G3 (some (a, b, c)) P := ⟨a, b, c, rfl, h⟩
theorem G1.of {α : Type} {x : Option α} {a : α} {P : α → Prop} (e : x = Option.some a) (h : P a) : G1 x P := ⟨a, e, h⟩
theorem G2.of {α β : Type} {x : Option (α × β)} {a : α} {b : β} {P : α → β → Prop} (e : x = Option.some (a, b)) (h : P a b) : G2 x P := ⟨a, b, e, h⟩
theorem G2.mono {α β : Type} {x : Option (α × β)} {P Q : α → β → Prop} (h : G2 x P) (q : ∀ a b, P a b → Q a b) : G2 x Q := let ⟨a, b, e, p⟩ := h; ⟨a, b, e, q a b p⟩
theorem G3.mono {α β γ : Type} {x : Option (α × β × γ)} {P Q : α → β → γ → Prop} (h : G3 x P) (q : ∀ a b c, P a b c → Q a b c) : G3 x Q := let ⟨a, b, c, e, p⟩ := h; ⟨a, b, c, e, q a b c p⟩
theorem G2.eq {α β : Type} {x : Option (α × β)} {a : α} {b : β} (h : G2 x fun a' b' => a' = a ∧ b' = b) : x = Option.some (a, b) := by
  obtain ⟨a', b', e, rfl, rfl⟩ := h
  exact e
theorem G1.eq {α : Type} {x : Option α} {a : α} (h : G1 x fun a' => a' = a) : x = Option.some a := by
  obtain ⟨a', e, rfl⟩ := h
  exact e
section
variable {ρ : Rho} {S : Sto} {i : Nat} {v : Val} {d : D} {c : Cell} {a b e f fo fi f' : EvF} {g g' : TgF} {s t : StF} {k k' : Bool} {P : Res → Sto → Prop} {Q : Val → Sto → Prop} {R : Flw → Rho → Sto → Prop} {T : Rho → Sto → Prop} {U : Bool → Sto → Prop} {L : List D → Sto → Prop} {LV : List Val → Sto → Prop} {PD : D → Sto → Prop} {P1 : D → Prop} {PO : O1 → Prop}
def seqR (t : StF) (o : Flw) (ρ : Rho) (S : Sto) : Option (Flw × Rho × Sto) := match o with
  | .nx => t ρ S
  | o => some (o, ρ, S)
def loopR (t : StF) (o : Flw) (ρ : Rho) (S : Sto) : Option (Flw × Rho × Sto) := match o with
  | .nx => t ρ S
  | .ct => t ρ S
  | .bk => some (.nx, ρ, S)
  | .rt r => some (.rt r, ρ, S)
/-! values -/
theorem e_cst (h : P (.val (.d d)) S) : G2 (fCst d ρ S) P := .some h
theorem e_var (e : ρ[i]? = some (some v)) (h : P (.val v) S) : G2 (fVar i ρ S) P := by
  refine .of ?_ h
  unfold fVar
  rw [e]
theorem e_eV (h : G2 (f ρ S) fun r S => Q (Ev.settle r) S) : G2 (eV f ρ S) Q := by
  obtain ⟨r, S', e, h⟩ := h
  exact ⟨_, _, by unfold eV; rw [e]; rfl, h⟩
theorem e_eD (h : G2 (f ρ S) fun r S => G2 (toD (Ev.settle r) S) PD) : G2 (eD f ρ S) PD := by
  obtain ⟨r, S', e, d, S2, e2, h⟩ := h
  exact ⟨d, S2, by unfold eD eV; rw [e]; exact e2, h⟩
theorem e_eA (h : G2 (f ρ S) fun r S => Q (Ev.place k r S).1 (Ev.place k r S).2) : G2 (eA k f ρ S) Q := by
  obtain ⟨r, S', e, h⟩ := h
  exact ⟨_, _, by unfold eA; rw [e]; rfl, h⟩
theorem toD_sv (h : PD d S) : G2 (toD (Ev.settle (.val (.d d))) S) PD := .some h
theorem toD_sn (h : PD c.toD S) : G2 (toD (Ev.settle (.new c)) S) PD := .some h
theorem toD_sc (e : S[i]? = some c) (h : PD c.toD (S.set i (.frz c.toD))) : G2 (toD (Ev.settle (.val (.cell i))) S) PD := by
  refine .of ?_ h
  show (match S[i]? with | some c => some (c.toD, S.set i (.frz c.toD)) | none => none) = _
  rw [e]
theorem toD_d (h : PD d S) : G2 (toD (.d d) S) PD := .some h
theorem toD_c (e : S[i]? = some c) (h : PD c.toD (S.set i (.frz c.toD))) : G2 (toD (.cell i) S) PD := toD_sc e h
theorem toD_any {v : Val} (e : v = .d d) (h : PD d S) : G2 (toD v S) PD := by subst e; exact .some h
theorem pk_sv (h : P1 d) : G1 (pk (Ev.settle (.val (.d d))) S) P1 := .some h
theorem pk_sn (h : P1 c.toD) : G1 (pk (Ev.settle (.new c)) S) P1 := .some h
theorem pk_sc (e : S[i]? = some c) (h : P1 c.toD) : G1 (pk (Ev.settle (.val (.cell i))) S) P1 := .of (by show S[i]?.map Cell.toD = _; rw [e]; rfl) h
theorem pk_d' (h : P1 d) : G1 (pk (.d d) S) P1 := .some h
theorem pk_c' (e : S[i]? = some c) (h : P1 c.toD) : G1 (pk (.cell i) S) P1 := pk_sc e h
theorem e_two {X : (D × D) → Sto → Prop} (h : G2 (a ρ S) fun x S => G2 (b ρ S) fun y S => G1 (pk (Ev.settle x) S) fun dx => G1 (pk (Ev.settle y) S) fun dy => X (dx, dy) S) : G2 (two a b ρ S) X := by
  obtain ⟨x, S1, e1, y, S2, e2, dx, e3, dy, e4, h⟩ := h
  refine ⟨_, _, ?_, h⟩
  unfold two eV
  rw [e1]
  simp only [Option.map_some, Option.bind_some]
  rw [e2]
  simp only [Option.map_some, Option.bind_some]
  rw [e3, e4]
  rfl
theorem e_bop {o : Bop} (h : G2 (a ρ S) fun x S => G2 (b ρ S) fun y S => G1 (pk (Ev.settle x) S) fun dx => G1 (pk (Ev.settle y) S) fun dy => G1 (bopD o dx dy) fun r => P r.res S) : G2 (fBop o a b ρ S) P := by
  obtain ⟨⟨dx, dy⟩, S1, e1, r, e2, h⟩ := e_two (X := fun p S => G1 (bopD o p.1 p.2) fun r => P r.res S) h
  exact ⟨_, _, by unfold fBop; rw [e1]; simp only [Option.bind_some]; rw [e2]; rfl, h⟩
theorem e_cmp {o : Cop} (h : G2 (a ρ S) fun x S => G2 (b ρ S) fun y S => G1 (pk (Ev.settle x) S) fun dx => G1 (pk (Ev.settle y) S) fun dy => G1 (copD o dx dy) fun r => P (.val (.d (.bl r))) S) : G2 (fCmp o a b ρ S) P := by
  obtain ⟨⟨dx, dy⟩, S1, e1, r, e2, h⟩ := e_two (X := fun p S => G1 (copD o p.1 p.2) fun r => P (.val (.d (.bl r))) S) h
  exact ⟨_, _, by unfold fCmp; rw [e1]; simp only [Option.bind_some]; rw [e2]; rfl, h⟩
theorem e_idx (h : G2 (a ρ S) fun x S => G2 (b ρ S) fun y S => G1 (pk (Ev.settle x) S) fun dx => G1 (pk (Ev.settle y) S) fun dy => G1 (idxD dx dy) fun r => P (.val (.d r)) S) : G2 (fIdx a b ρ S) P := by
  obtain ⟨⟨dx, dy⟩, S1, e1, r, e2, h⟩ := e_two (X := fun p S => G1 (idxD p.1 p.2) fun r => P (.val (.d r)) S) h
  exact ⟨_, _, by unfold fIdx; rw [e1]; simp only [Option.bind_some]; rw [e2]; rfl, h⟩
theorem e_one {X : D → Sto → Prop} (h : G2 (a ρ S) fun x S => G1 (pk (Ev.settle x) S) fun dx => X dx S) : G2 (one a ρ S) X := by
  obtain ⟨x, S1, e1, dx, e3, h⟩ := h
  refine ⟨_, _, ?_, h⟩
  unfold one eV
  rw [e1]
  simp only [Option.map_some, Option.bind_some]
  rw [e3]
  rfl
theorem e_tst (h : G2 (a ρ S) fun x S => G1 (pk (Ev.settle x) S) fun dx => G1 (truD dx) fun k => U k S) : G2 (tst a ρ S) U := by
  obtain ⟨d, S1, e1, k, e2, h⟩ := e_one (X := fun d S => G1 (truD d) fun k => U k S) h
  exact ⟨_, _, by unfold tst; rw [e1]; simp only [Option.bind_some]; rw [e2]; rfl, h⟩
theorem e_not (h : G2 (tst a ρ S) fun k S => P (.val (.d (.bl (!k)))) S) : G2 (fNot a ρ S) P := by
  obtain ⟨k, S1, e1, h⟩ := h
  exact ⟨_, _, by unfold fNot; rw [e1]; rfl, h⟩
/-- and, or: by the first one's bool -/
theorem e_and (h : G2 (a ρ S) fun x S => ∃ k, Ev.settle x = .d (.bl k) ∧ (k = true → G2 (b ρ S) P) ∧ (k = false → P (.val (.d (.bl false))) S)) : G2 (fAnd a b ρ S) P := by
  obtain ⟨x, S1, e1, k, e2, h1, h2⟩ := h
  have e : fAnd a b ρ S = if k = true then b ρ S1 else some (.val (.d (.bl false)), S1) := by
    unfold fAnd eV
    rw [e1]
    simp only [Option.map_some, Option.bind_some]
    rw [e2]
    cases k <;> rfl
  cases k with
  | true => obtain ⟨r, S2, e3, h⟩ := h1 rfl; exact ⟨r, S2, by rw [e, if_pos rfl]; exact e3, h⟩
  | false => exact ⟨_, _, by rw [e, if_neg Bool.false_ne_true], h2 rfl⟩
theorem e_or (h : G2 (a ρ S) fun x S => ∃ k, Ev.settle x = .d (.bl k) ∧ (k = false → G2 (b ρ S) P) ∧ (k = true → P (.val (.d (.bl true))) S)) : G2 (fOr a b ρ S) P := by
  obtain ⟨x, S1, e1, k, e2, h1, h2⟩ := h
  have e : fOr a b ρ S = if k = true then some (.val (.d (.bl true)), S1) else b ρ S1 := by
    unfold fOr eV
    rw [e1]
    simp only [Option.map_some, Option.bind_some]
    rw [e2]
    cases k <;> rfl
  cases k with
  | false => obtain ⟨r, S2, e3, h⟩ := h1 rfl; exact ⟨r, S2, by rw [e, if_neg Bool.false_ne_true]; exact e3, h⟩
  | true => exact ⟨_, _, by rw [e, if_pos rfl], h2 rfl⟩
theorem e_ite (h : G2 (tst e ρ S) fun k S => (k = true → G2 (a ρ S) P) ∧ (k = false → G2 (b ρ S) P)) : G2 (fIte e a b ρ S) P := by
  obtain ⟨k, S1, e1, h1, h2⟩ := h
  have e2 : fIte e a b ρ S = if k = true then a ρ S1 else b ρ S1 := by unfold fIte; rw [e1]; rfl
  cases k with
  | true => rw [e2, if_pos rfl]; exact h1 rfl
  | false => rw [e2, if_neg Bool.false_ne_true]; exact h2 rfl
theorem e_isN (h : G2 (a ρ S) fun x S => P (.val (.d (.bl (if k then !isNon (Ev.settle x) else isNon (Ev.settle x))))) S) : G2 (fIsN k a ρ S) P := by
  obtain ⟨x, S1, e1, h⟩ := h
  exact ⟨_, _, by unfold fIsN eV; rw [e1]; rfl, h⟩
theorem e_neg {j : Int} (h : G2 (a ρ S) fun x S => ∃ j, Ev.settle x = .d (.int j) ∧ P (.val (.d (.int (-j)))) S) : G2 (fNeg a ρ S) P := by
  obtain ⟨x, S1, e1, j, e2, h⟩ := h
  exact ⟨_, _, by unfold fNeg eV; rw [e1]; simp only [Option.map_some, Option.bind_some]; rw [e2], h⟩
theorem e_evs_nil (h : L [] S) : G2 (evs [] ρ S) L := .some h
theorem e_evs_cons {es : List EvF} (h : G2 (eD e ρ S) fun d S => G2 (evs es ρ S) fun ds S => L (d :: ds) S) : G2 (evs (e :: es) ρ S) L := by
  obtain ⟨d, S1, e1, ds, S2, e2, h⟩ := h
  refine ⟨_, _, ?_, h⟩
  show (eD e ρ S).bind _ = _
  rw [e1]
  show (evs es ρ S1).map _ = _
  rw [e2]
  rfl
theorem e_tup {es : List EvF} (h : G2 (evs es ρ S) fun ds S => ds.length ≤ sizeLine ∧ P (.val (.d (.tup ds))) S) : G2 (fTup es ρ S) P := by
  obtain ⟨ds, S1, e1, h1, h2⟩ := h
  exact ⟨_, _, by unfold fTup; rw [e1]; exact if_pos h1, h2⟩
theorem e_lst {es : List EvF} (h : G2 (evs es ρ S) fun ds S => ds.length ≤ sizeLine ∧ P (.new (.lst ds)) S) : G2 (fLst es ρ S) P := by
  obtain ⟨ds, S1, e1, h1, h2⟩ := h
  exact ⟨_, _, by unfold fLst; rw [e1]; exact if_pos h1, h2⟩
theorem e_evas_nil (h : LV [] S) : G2 (evas [] ρ S) LV := .some h
theorem e_evas_cons {es : List (Bool × EvF)} (h : G2 (f ρ S) fun r S => G2 (evas es ρ (Ev.place k r S).2) fun vs S' => LV ((Ev.place k r S).1 :: vs) S') : G2 (evas ((k, f) :: es) ρ S) LV := by
  obtain ⟨r, S1, e1, vs, S2, e2, h⟩ := h
  refine ⟨_, _, ?_, h⟩
  show (eA k f ρ S).bind _ = _
  unfold eA
  rw [e1]
  show (evas es ρ (Ev.place k r S1).2).map _ = _
  rw [e2]
  rfl
theorem e_call {fn : FnF} {es : List (Bool × EvF)} (h : G2 (evas es ρ S) fun vs S => G2 (fn vs S) P) : G2 (fCall fn es ρ S) P := by
  obtain ⟨vs, S1, e1, r, S2, e2, h⟩ := h
  exact ⟨r, S2, by unfold fCall; rw [e1]; exact e2, h⟩
theorem e_callK {fn : FnF} {pm : List Nat} {es : List (Bool × EvF)} (h : G2 (evas es ρ S) fun vs S => G2 (fn (permL pm vs) S) P) : G2 (fCallK fn pm es ρ S) P := by
  obtain ⟨vs, S1, e1, r, S2, e2, h⟩ := h
  exact ⟨r, S2, by unfold fCallK; rw [e1]; exact e2, h⟩
theorem e_scp (h : G2 (f ρ S) fun r S' => G2 (trunc S.length r S') P) : G2 (fScp f ρ S) P := by
  obtain ⟨r, S1, e1, r2, S2, e2, h⟩ := h
  exact ⟨r2, S2, by unfold fScp; rw [e1]; exact e2, h⟩
theorem e_pks_nil {X : List D → Prop} (h : X []) : G1 (pks [] S) X := .some h
theorem e_pks_cons {X : List D → Prop} {vs : List Val} (h : G1 (pk v S) fun d => G1 (pks vs S) fun ds => X (d :: ds)) : G1 (pks (v :: vs) S) X := by
  obtain ⟨d, e1, ds, e2, h⟩ := h
  exact ⟨_, by show (pk v S).bind _ = _; rw [e1]; show (pks vs S).map _ = _; rw [e2]; rfl, h⟩
theorem e_bi {o : Bi} {es : List EvF} (h : G2 (evas (es.map fun e => (false, e)) ρ S) fun vs S => G1 (pks vs S) fun ds => G1 (biD o ds) fun r => P r.res S) : G2 (fBi o es ρ S) P := by
  obtain ⟨vs, S1, e1, ds, e2, r, e3, h⟩ := h
  exact ⟨_, _, by unfold fBi; rw [e1]; simp only [Option.bind_some]; rw [e2]; simp only [Option.bind_some]; rw [e3]; rfl, h⟩
theorem e_bi1 {o : Bi} (h : G2 (a ρ S) fun x S => G1 (pk (Ev.settle x) S) fun d => G1 (biD o [d]) fun r => P r.res S) : G2 (fBi o [a] ρ S) P := by
  obtain ⟨x, S1, e1, d, e2, r, e3, h⟩ := h
  have e4 : Ev.place false x S1 = (Ev.settle x, S1) := by cases x <;> rfl
  refine ⟨_, _, ?_, h⟩
  unfold fBi
  simp only [List.map_cons, List.map_nil, evas, eA, e1, Option.map_some, Option.bind_some, e4, pks, e2, e3]
theorem e_bi2 {o : Bi} (h : G2 (a ρ S) fun x S => G2 (b ρ S) fun y S => G1 (pk (Ev.settle x) S) fun d => G1 (pk (Ev.settle y) S) fun d' => G1 (biD o [d, d']) fun r => P r.res S) : G2 (fBi o [a, b] ρ S) P := by
  obtain ⟨x, S1, e1, y, S2, e1', d, e2, d', e2', r, e3, h⟩ := h
  have e4 : Ev.place false x S1 = (Ev.settle x, S1) := by cases x <;> rfl
  have e4' : Ev.place false y S2 = (Ev.settle y, S2) := by cases y <;> rfl
  refine ⟨_, _, ?_, h⟩
  unfold fBi
  simp only [List.map_cons, List.map_nil, evas, eA, e1, e1', Option.map_some, Option.bind_some, e4, e4', pks, e2, e2', e3]
theorem e_isi {tab : List (String × Bool)} (h : G2 (a ρ S) fun x S => G1 (pk (Ev.settle x) S) fun d => G1 (tagD d) fun t => G1 (tab.lookup t) fun r => P (.val (.d (.bl r))) S) : G2 (fIsi tab a ρ S) P := by
  obtain ⟨d, S1, e1, t, e2, r, e3, h⟩ := e_one (X := fun d S => G1 (tagD d) fun t => G1 (tab.lookup t) fun r => P (.val (.d (.bl r))) S) h
  exact ⟨_, _, by unfold fIsi; rw [e1]; simp only [Option.bind_some]; rw [e2]; simp only [Option.bind_some]; rw [e3]; rfl, h⟩
theorem e_isiC {n : Str} (h : G2 (a ρ S) fun x S => ∃ fs, pk (Ev.settle x) S = some (.ins n fs) ∧ P (.val (.d (.bl true))) S) : G2 (fIsiC n a ρ S) P := by
  obtain ⟨x, S1, e1, fs, e2, h⟩ := h
  obtain ⟨d, S2, e3, rfl, h⟩ := e_one (a := a) (ρ := ρ) (S := S) (X := fun d S => d = .ins n fs ∧ P (.val (.d (.bl true))) S) ⟨x, S1, e1, _, e2, rfl, h⟩
  exact ⟨_, _, by unfold fIsiC; rw [e3]; exact if_pos rfl, h⟩
theorem e_fld {n x : Str} (h : G2 (a ρ S) fun y S => G1 (pk (Ev.settle y) S) fun d => G1 (fldC n d x) fun r => P (.val (.d r)) S) : G2 (fFldC n a x ρ S) P := by
  obtain ⟨d, S1, e1, r, e3, h⟩ := e_one (X := fun d S => G1 (fldC n d x) fun r => P (.val (.d r)) S) h
  exact ⟨_, _, by unfold fFldC; rw [e1]; simp only [Option.bind_some]; rw [e3]; rfl, h⟩
theorem e_rev (h : G2 (a ρ S) fun y S => G1 (pk (Ev.settle y) S) fun d => G1 (revD d) fun r => P r.res S) : G2 (fRev a ρ S) P := by
  obtain ⟨d, S1, e1, r, e3, h⟩ := e_one (X := fun d S => G1 (revD d) fun r => P r.res S) h
  exact ⟨_, _, by unfold fRev; rw [e1]; simp only [Option.bind_some]; rw [e3]; rfl, h⟩
theorem e_sortSet (h : G2 (eD a ρ S) fun d S => G1 (sortSet d) fun ds => P (.new (.lst ds)) S) : G2 (fSortSet a ρ S) P := by
  obtain ⟨d, S1, e1, r, e3, h⟩ := h
  exact ⟨_, _, by unfold fSortSet; rw [e1]; simp only [Option.bind_some]; rw [e3]; rfl, h⟩
theorem e_join (h : G2 (eD a ρ S) fun x S => G2 (b ρ S) fun y S => G1 (pk (Ev.settle y) S) fun d => ∃ z ds ys, x = .str z ∧ seqOf d = some ds ∧ strsOf ds = some ys ∧ (ys.map (·.length)).sum + ys.length * z.length ≤ 16777216 ∧ P (.val (.d (.str (Txt.join z ys)))) S) : G2 (fJoin a b ρ S) P := by
  obtain ⟨x, S1, e1, y, S2, e2, d, e3, z, ds, ys, rfl, e4, e5, h1, h⟩ := h
  refine ⟨_, _, ?_, h⟩
  unfold fJoin eV
  rw [e1]
  simp only [Option.bind_some]
  rw [e2]
  simp only [Option.map_some, Option.bind_some]
  rw [e3]
  simp only [Option.bind_some]
  rw [e4]
  simp only [Option.bind_some]
  rw [e5]
  exact if_pos h1
theorem e_slc_some {lo : EvF} (h : G2 (a ρ S) fun x S => G2 (lo ρ S) fun y S => ∃ j, Ev.settle y = .d (.int j) ∧ G1 (pk (Ev.settle x) S) fun d => G1 (slcD d (some j) none) fun r => P r.res S) : G2 (fSlc a (some lo) none ρ S) P := by
  obtain ⟨x, S1, e1, y, S2, e2, j, e3, d, e4, r, e5, h⟩ := h
  refine ⟨_, _, ?_, h⟩
  unfold fSlc part eV
  rw [e1]
  simp only [Option.map_some, Option.bind_some]
  rw [e2]
  simp only [Option.map_some, Option.bind_some]
  rw [e3]
  simp only [Option.map_some, Option.bind_some]
  rw [e4]
  simp only [Option.bind_some]
  rw [e5]
  rfl
theorem e_slc_none {hi : EvF} (h : G2 (a ρ S) fun x S => G2 (hi ρ S) fun y S => ∃ j, Ev.settle y = .d (.int j) ∧ G1 (pk (Ev.settle x) S) fun d => G1 (slcD d none (some j)) fun r => P r.res S) : G2 (fSlc a none (some hi) ρ S) P := by
  obtain ⟨x, S1, e1, y, S2, e2, j, e3, d, e4, r, e5, h⟩ := h
  refine ⟨_, _, ?_, h⟩
  unfold fSlc part eV
  rw [e1]
  simp only [Option.map_some, Option.bind_some]
  rw [e2]
  simp only [Option.map_some, Option.bind_some]
  rw [e3]
  simp only [Option.map_some, Option.bind_some]
  rw [e4]
  simp only [Option.bind_some]
  rw [e5]
  rfl
/-! lists that change -/
theorem lstAt_of {xs : List D} (e : S[i]? = some (.lst xs)) : lstAt (.cell i) S = some (i, xs) := by
  show (match S[i]? with | some (.lst xs) => some (i, xs) | _ => none) = _
  rw [e]
theorem e_append (h : G2 (a ρ S) fun x S => ∃ i xs0, Ev.settle x = .cell i ∧ S[i]? = some (.lst xs0) ∧ G2 (eD b ρ S) fun d S => ∃ xs, S[i]? = some (.lst xs) ∧ xs.length < sizeLine ∧ P (.val (.d .non)) (S.set i (.lst (xs ++ [d])))) : G2 (fAppend a b ρ S) P := by
  obtain ⟨x, S1, e1, i, xs0, e2, e3, d, S2, e4, xs, e5, h1, h⟩ := h
  refine ⟨_, _, ?_, h⟩
  unfold fAppend eV
  rw [e1]
  simp only [Option.map_some, Option.bind_some]
  rw [e2, lstAt_of e3]
  simp only [Option.bind_some]
  rw [e4]
  simp only [Option.bind_some]
  rw [lstAt_of e5]
  exact if_pos h1
theorem e_popAt (h : G2 (a ρ S) fun x S => ∃ i xs0, Ev.settle x = .cell i ∧ S[i]? = some (.lst xs0) ∧ G2 (b ρ S) fun y S => ∃ j xs n d, Ev.settle y = .d (.int j) ∧ S[i]? = some (.lst xs) ∧ (-(2 ^ 63) ≤ j ∧ j < 2 ^ 63) ∧ seqIndex? j xs.length = some n ∧ xs[n]? = some d ∧ P (.val (.d d)) (S.set i (.lst (xs.eraseIdx n)))) :
    G2 (fPopAt a b ρ S) P := by
  obtain ⟨x, S1, e1, i, xs0, e2, e3, y, S2, e4, j, xs, n, d, e5, e6, h1, e7, e8, h⟩ := h
  refine ⟨_, _, ?_, h⟩
  unfold fPopAt eV
  rw [e1]
  simp only [Option.map_some, Option.bind_some]
  rw [e2, lstAt_of e3]
  simp only [Option.bind_some]
  rw [e4]
  simp only [Option.map_some, Option.bind_some]
  rw [lstAt_of e6]
  simp only [Option.bind_some]
  rw [e5]
  show (if -(2 ^ 63) ≤ j ∧ j < 2 ^ 63 then _ else none) = _
  rw [if_pos h1, e7]
  simp only [Option.bind_some]
  rw [e8]
  rfl
theorem e_lm {o : Lm} (h : G2 (a ρ S) fun x S => ∃ xs0, (pk (Ev.settle x) S).bind listOf = some xs0 ∧ G2 (b ρ S) fun y S => ∃ xs z d, (pk (Ev.settle x) S).bind listOf = some xs ∧ pk (Ev.settle y) S = some z ∧ lmD o z xs = some d ∧ P (.val (.d d)) S) : G2 (fLm o a b ρ S) P := by
  obtain ⟨x, S1, e1, xs0, e2, y, S2, e3, xs, z, d, e4, e5, e6, h⟩ := h
  refine ⟨_, _, ?_, h⟩
  unfold fLm eV
  rw [e1]
  simp only [Option.map_some, Option.bind_some]
  rw [e2]
  simp only [Option.bind_some]
  rw [e3]
  simp only [Option.map_some, Option.bind_some]
  rw [e4]
  simp only [Option.bind_some]
  rw [e5]
  simp only [Option.bind_some]
  rw [e6]
  rfl
/-- len of data that is no instance -/
theorem e_len {n : Str} {fn : FnF} (h : G2 (a ρ S) fun x S => G1 (pk (Ev.settle x) S) fun d => (∀ c fs, d ≠ .ins c fs) ∧ G1 (lenD d) fun m => P (.val (.d (.int (m : Int)))) S) : G2 (fLenO n fn a ρ S) P := by
  obtain ⟨x, S1, e1, d, e2, hd, m, e3, h⟩ := h
  refine ⟨_, _, ?_, h⟩
  unfold fLenO eV
  rw [e1]
  simp only [Option.map_some, Option.bind_some]
  rw [e2]
  cases d with
  | ins c fs => exact absurd rfl (hd c fs)
  | _ => simp only [Option.bind_some]; rw [e3]; rfl
theorem e_lenI {n : Str} {fn : FnF} (h : G2 (a ρ S) fun x S => ∃ fs, pk (Ev.settle x) S = some (.ins n fs) ∧ G2 (fn [Ev.settle x] S) fun r S => ∃ m : Int, r = .val (.d (.int m)) ∧ (0 ≤ m ∧ m < 2 ^ 63) ∧ P (.val (.d (.int m))) S) : G2 (fLenO n fn a ρ S) P := by
  obtain ⟨x, S1, e1, fs, e2, r, S2, e3, m, rfl, hm, h⟩ := h
  refine ⟨_, _, ?_, h⟩
  unfold fLenO eV
  rw [e1]
  simp only [Option.map_some, Option.bind_some]
  rw [e2]
  show (if n = n then _ else none) = _
  rw [if_pos rfl, e3]
  exact if_pos hm
/-! statements -/
theorem s_seq' (h : G3 (s ρ S) fun o ρ S => (o = .nx → G3 (t ρ S) R) ∧ (o ≠ .nx → R o ρ S)) : G3 (sSeq s t ρ S) R := by
  obtain ⟨o, ρ1, S1, e1, h1, h2⟩ := h
  have e : sSeq s t ρ S = seqR t o ρ1 S1 := by unfold sSeq; rw [e1]; rfl
  cases o with
  | nx => obtain ⟨o2, ρ2, S2, e3, h⟩ := h1 rfl; exact ⟨o2, ρ2, S2, by rw [e]; exact e3, h⟩
  | bk => exact ⟨_, _, _, e, h2 (fun z => nomatch z)⟩
  | ct => exact ⟨_, _, _, e, h2 (fun z => nomatch z)⟩
  | rt r => exact ⟨_, _, _, e, h2 (fun z => nomatch z)⟩
theorem sq_nx {t : StF} (h : G3 (t ρ S) R) : (Flw.nx = Flw.nx → G3 (t ρ S) R) ∧ (Flw.nx ≠ Flw.nx → R .nx ρ S) := ⟨fun _ => h, fun z => absurd rfl z⟩
theorem sq_rt {t : StF} {r : Res} (h : R (.rt r) ρ S) : (Flw.rt r = Flw.nx → G3 (t ρ S) R) ∧ (Flw.rt r ≠ Flw.nx → R (.rt r) ρ S) := ⟨fun z => (nomatch z), fun _ => h⟩
theorem s_nx' (h : R .nx ρ S) : G3 (sNx ρ S) R := .some h
theorem s_ret' (h : G2 (f ρ S) fun r S => R (.rt r) ρ S) : G3 (sRet f ρ S) R := by
  obtain ⟨r, S1, e1, h⟩ := h
  exact ⟨_, _, _, by unfold sRet; rw [e1]; rfl, h⟩
theorem s_exp' (h : G2 (f ρ S) fun _ S => R .nx ρ S) : G3 (sExp f ρ S) R := by
  obtain ⟨r, S1, e1, h⟩ := h
  exact ⟨_, _, _, by unfold sExp; rw [e1]; rfl, h⟩
theorem s_if' (h : G2 (tst e ρ S) fun k S => (k = true → G3 (s ρ S) R) ∧ (k = false → G3 (t ρ S) R)) : G3 (sIf e s t ρ S) R := by
  obtain ⟨k, S1, e1, h1, h2⟩ := h
  have e2 : sIf e s t ρ S = if k = true then s ρ S1 else t ρ S1 := by unfold sIf; rw [e1]; rfl
  cases k with
  | true => rw [e2, if_pos rfl]; exact h1 rfl
  | false => rw [e2, if_neg Bool.false_ne_true]; exact h2 rfl
theorem s_asg' (h : G2 (f ρ S) fun r S => G2 (g (Ev.place k r S).1 ρ (Ev.place k r S).2) fun ρ S => R .nx ρ S) : G3 (sAsg k f g ρ S) R := by
  obtain ⟨r, S1, e1, ρ2, S2, e2, h⟩ := h
  refine ⟨_, _, _, ?_, h⟩
  unfold sAsg eA
  rw [e1]
  simp only [Option.map_some, Option.bind_some]
  rw [e2]
  rfl
theorem s_par' (h : G2 (f ρ S) fun r S => G2 (f' ρ (Ev.place k r S).2) fun r' S' => G2 (g (Ev.place k r S).1 ρ (Ev.place k' r' S').2) fun ρ2 S2 => G2 (g' (Ev.place k' r' S').1 ρ2 S2) fun ρ3 S3 => R .nx ρ3 S3) : G3 (sPar k k' f f' g g' ρ S) R := by
  obtain ⟨r, S1, e1, r', S2, e2, ρ2, S3, e3, ρ3, S4, e4, h⟩ := h
  refine ⟨_, _, _, ?_, h⟩
  unfold sPar eA
  rw [e1]
  simp only [Option.map_some, Option.bind_some]
  rw [e2]
  simp only [Option.map_some, Option.bind_some]
  rw [e3]
  simp only [Option.bind_some]
  rw [e4]
  rfl
theorem g_nm' (h : T (ρ.set i (some v)) S) : G2 (gNm i v ρ S) T := .some h
theorem g_tp' {gs : List TgF} (h : G1 (pk v S) fun d => ∃ ds, d = .tup ds ∧ ds.length = gs.length ∧ G2 (gEach gs ds ρ S) T) : G2 (gTp gs v ρ S) T := by
  obtain ⟨d, e1, ds, rfl, hl, ρ2, S2, e2, h⟩ := h
  refine ⟨ρ2, S2, ?_, h⟩
  unfold gTp
  rw [e1]
  show (if ds.length = gs.length then _ else none) = _
  rw [if_pos hl]
  exact e2
theorem g_tpS {gs : List TgF} (h : G1 (pk v S) fun d => ∃ z, d = .str z ∧ z.cps.size = gs.length ∧ G2 (gEach gs (signs z) ρ S) T) : G2 (gTp gs v ρ S) T := by
  obtain ⟨d, e1, z, rfl, hl, ρ2, S2, e2, h⟩ := h
  refine ⟨ρ2, S2, ?_, h⟩
  unfold gTp
  rw [e1]
  show (if z.cps.size = gs.length then _ else none) = _
  rw [if_pos hl]
  exact e2
theorem g_each_nil (h : T ρ S) : G2 (gEach [] [] ρ S) T := .some h
theorem g_each_cons {gs : List TgF} {ds : List D} (h : G2 (g (.d d) ρ S) fun ρ S => G2 (gEach gs ds ρ S) T) : G2 (gEach (g :: gs) (d :: ds) ρ S) T := by
  obtain ⟨ρ1, S1, e1, ρ2, S2, e2, h⟩ := h
  exact ⟨ρ2, S2, by show (g (.d d) ρ S).bind _ = _; rw [e1]; exact e2, h⟩
theorem g_sb' (h : G2 (fo ρ S) fun x S => G2 (fi ρ S) fun y S => G2 (toD v S) fun d S => ∃ i xs j n, Ev.settle x = .cell i ∧ S[i]? = some (.lst xs) ∧ Ev.settle y = .d (.int j) ∧ ixN xs.length j = some n ∧ T ρ (S.set i (.lst (xs.set n d)))) : G2 (gSb fo fi v ρ S) T := by
  obtain ⟨x, S1, e1, y, S2, e2, d, S3, e3, i, xs, j, n, e4, e5, e6, e7, h⟩ := h
  refine ⟨_, _, ?_, h⟩
  unfold gSb eV
  rw [e1]
  simp only [Option.map_some, Option.bind_some]
  rw [e2]
  simp only [Option.map_some, Option.bind_some]
  rw [e3]
  simp only [Option.bind_some]
  rw [e4, lstAt_of e5]
  simp only [Option.bind_some]
  rw [e6]
  show (ixN xs.length j).map _ = _
  rw [e7]
  rfl
theorem s_fld' {n x : Str} (h : G2 (eD f ρ S) fun d S => G2 (fo ρ S) fun y S => ∃ i fs, Ev.settle y = .cell i ∧ S[i]? = some (.ins n fs) ∧ fs.length < 1000 ∧ R .nx ρ (S.set i (.ins n (putD x d fs)))) : G3 (sFldC n fo f x ρ S) R := by
  obtain ⟨d, S1, e1, y, S2, e2, i, fs, e3, e4, hl, h⟩ := h
  refine ⟨_, _, _, ?_, h⟩
  unfold sFldC eV
  rw [e1]
  simp only [Option.bind_some]
  rw [e2]
  simp only [Option.map_some, Option.bind_some]
  rw [e3]
  have e5 : insAt n (.cell i) S2 = some (i, fs) := by
    show (match S2[i]? with | some (.ins c' fs) => if c' = n then some (i, fs) else none | _ => none) = _
    rw [e4]
    exact if_pos rfl
  rw [e5]
  exact if_pos hl
/-! what is walked; loops -/
theorem i_seq' (h : G2 (eD f ρ S) fun d S => G1 (itemsOf d) fun ds => L ds S) : G2 (iSeq f ρ S) L := by
  obtain ⟨d, S1, e1, ds, e2, h⟩ := h
  exact ⟨_, _, by unfold iSeq; rw [e1]; simp only [Option.bind_some]; rw [e2]; rfl, h⟩
theorem i_enum' (h : G2 (eD f ρ S) fun d S => G1 (itemsOf d) fun ds => L (enumL 0 ds) S) : G2 (iEnum f ρ S) L := by
  obtain ⟨d, S1, e1, ds, e2, h⟩ := h
  exact ⟨_, _, by unfold iEnum; rw [e1]; simp only [Option.bind_some]; rw [e2]; rfl, h⟩
theorem i_zip' (h : G2 (eD f ρ S) fun d S => G2 (eD f' ρ S) fun d' S => G1 (itemsOf d) fun ds => G1 (itemsOf d') fun es => L (zipL ds es) S) : G2 (iZip f f' ρ S) L := by
  obtain ⟨d, S1, e1, d', S2, e2, ds, e3, es, e4, h⟩ := h
  exact ⟨_, _, by unfold iZip; rw [e1]; simp only [Option.bind_some]; rw [e2]; simp only [Option.bind_some]; rw [e3]; simp only [Option.bind_some]; rw [e4]; rfl, h⟩
theorem i_rng' (h : G2 (f ρ S) fun x S => ∃ j, Ev.settle x = .d (.int j) ∧ small62 j ∧ L (rgL 0 j) S) : G2 (iRng1 f ρ S) L := by
  obtain ⟨x, S1, e1, j, e2, hj, h⟩ := h
  refine ⟨_, _, ?_, h⟩
  unfold iRng1 eV
  rw [e1]
  simp only [Option.map_some, Option.bind_some]
  rw [e2]
  exact if_pos hj
theorem s_for' {ι : ItF} (h : G2 (ι ρ S) fun ds S => G3 (loopF g s ds ρ S) R) : G3 (sFor ι g s ρ S) R := by
  obtain ⟨ds, S1, e1, o, ρ2, S2, e2, h⟩ := h
  exact ⟨o, ρ2, S2, by unfold sFor; rw [e1]; exact e2, h⟩
/-- a loop by an invariant over what is left -/
theorem loop_inv {ds : List D} (I : List D → Rho → Sto → Prop) (h0 : I ds ρ S) (hs : ∀ d ds ρ S, I (d :: ds) ρ S → G2 (g (.d d) ρ S) fun ρ S => G3 (s ρ S) fun o ρ S => ((o = .nx ∨ o = .ct) ∧ I ds ρ S) ∨ (∃ r, o = .rt r ∧ R (.rt r) ρ S)) (hd : ∀ ρ S, I [] ρ S → R .nx ρ S) : G3 (loopF g s ds ρ S) R := by
  induction ds generalizing ρ S with
  | nil => exact .some (hd ρ S h0)
  | cons d ds ih =>
    obtain ⟨ρ1, S1, e1, o, ρ2, S2, e2, h⟩ := hs d ds ρ S h0
    have e : loopF g s (d :: ds) ρ S = loopR (loopF g s ds) o ρ2 S2 := by
      show (g (.d d) ρ S).bind _ = _
      rw [e1]
      show (s ρ1 S1).bind _ = _
      rw [e2]
      rfl
    rcases h with ⟨ho, h⟩ | ⟨r, rfl, h⟩
    · obtain ⟨o3, ρ3, S3, e3, h3⟩ := ih h
      rcases ho with rfl | rfl
      · exact ⟨o3, ρ3, S3, by rw [e]; exact e3, h3⟩
      · exact ⟨o3, ρ3, S3, by rw [e]; exact e3, h3⟩
    · exact ⟨_, _, _, e, h⟩
/-- while, by an invariant and a measure -/
theorem while_inv {n : Nat} (I : Nat → Rho → Sto → Prop) (h0 : I n ρ S) (hs : ∀ m ρ S, I m ρ S → G2 (tst e ρ S) fun k S => (k = true → G3 (s ρ S) fun o ρ S => ((o = .nx ∨ o = .ct) ∧ ∃ m', m = m' + 1 ∧ I m' ρ S) ∨ (∃ r, o = .rt r ∧ 0 < m ∧ R (.rt r) ρ S)) ∧ (k = false → 0 < m ∧ R .nx ρ S)) :
    G3 (sWhl e s n ρ S) R := by
  unfold sWhl
  induction n generalizing ρ S with
  | zero =>
    obtain ⟨k, S1, e1, h1, h2⟩ := hs 0 ρ S h0
    cases k with
    | false => exact absurd (h2 rfl).1 (Nat.lt_irrefl 0)
    | true =>
      obtain ⟨o, ρ2, S2, e2, h⟩ := h1 rfl
      rcases h with ⟨_, m', e, _⟩ | ⟨r, _, h, _⟩
      · omega
      · exact absurd h (Nat.lt_irrefl 0)
  | succ n ih =>
    obtain ⟨k, S1, e1, h1, h2⟩ := hs (n + 1) ρ S h0
    cases k with
    | false =>
      refine ⟨.nx, ρ, S1, ?_, (h2 rfl).2⟩
      show (tst e ρ S).bind _ = _
      rw [e1]
      rfl
    | true =>
      obtain ⟨o, ρ2, S2, e2, h⟩ := h1 rfl
      have ee : whileF e s (n + 1) ρ S = loopR (whileF e s n) o ρ2 S2 := by
        show (tst e ρ S).bind _ = _
        rw [e1]
        show (s ρ S1).bind _ = _
        rw [e2]
        rfl
      rcases h with ⟨ho, m', em, h⟩ | ⟨r, rfl, _, h⟩
      · have : m' = n := by omega
        subst this
        obtain ⟨o3, ρ3, S3, e3, h3⟩ := ih h
        rcases ho with rfl | rfl
        · exact ⟨o3, ρ3, S3, by rw [ee]; exact e3, h3⟩
        · exact ⟨o3, ρ3, S3, by rw [ee]; exact e3, h3⟩
      · exact ⟨_, _, _, ee, h⟩
theorem e_lc {ι : ItF} {o : Option EvF} {vs : List Nat} (h : G2 (ι ρ S) fun ds S => G2 (compF g o e ds [] (wipeR ρ vs) S) fun xs S => P (.new (.lst xs)) S) : G2 (fLc ι g o e vs ρ S) P := by
  obtain ⟨ds, S1, e1, xs, S2, e2, h⟩ := h
  exact ⟨_, _, by unfold fLc; rw [e1]; simp only [Option.bind_some]; rw [e2]; rfl, h⟩
/-- a comprehension that changes nothing: each item's place, test, value -/
theorem comp_pure {ds acc : List D} {φ : D → D} (hl : acc.length + ds.length ≤ sizeLine) (hs : ∀ d ∈ ds, G2 (g (.d d) ρ S) fun ρ2 S2 => S2 = S ∧ G2 (eD e ρ2 S) fun x S3 => x = φ d ∧ S3 = S) : compF g none e ds acc ρ S = some (acc ++ ds.map φ, S) := by
  induction ds generalizing acc with
  | nil => simp [compF]
  | cons d ds ih =>
    obtain ⟨ρ2, S2, e1, rfl, x, S3, e2, rfl, rfl⟩ := hs d List.mem_cons_self
    rw [List.length_cons] at hl
    show (g (.d d) ρ S3).bind _ = _
    rw [e1]
    simp only [Option.bind_some]
    show (eD e ρ2 S3).bind _ = _
    rw [e2]
    simp only [Option.bind_some]
    rw [if_pos (by omega), ih (by rw [List.length_append, List.length_singleton]; omega) fun d hd => hs d (List.mem_cons_of_mem _ hd)]
    simp
theorem comp_filter {ds acc : List D} {p : D → Bool} {φ : D → D} {te : EvF} (hl : acc.length + ds.length ≤ sizeLine) (hs : ∀ d ∈ ds, G2 (g (.d d) ρ S) fun ρ2 S2 => S2 = S ∧ G2 (tst te ρ2 S) fun k S3 => k = p d ∧ S3 = S ∧ (p d = true → G2 (eD e ρ2 S) fun x S3 => x = φ d ∧ S3 = S)) :
    compF g (some te) e ds acc ρ S = some (acc ++ (ds.filter p).map φ, S) := by
  induction ds generalizing acc with
  | nil => simp [compF]
  | cons d ds ih =>
    obtain ⟨ρ2, S2, e1, rfl, k, S3, e2, rfl, rfl, h⟩ := hs d List.mem_cons_self
    rw [List.length_cons] at hl
    have ih' := fun acc hl => ih (acc := acc) hl fun d hd => hs d (List.mem_cons_of_mem _ hd)
    show (g (.d d) ρ S3).bind _ = _
    rw [e1]
    simp only [Option.bind_some]
    rw [e2]
    simp only [Option.bind_some]
    cases hp : p d with
    | true =>
      obtain ⟨x, S4, e3, rfl, rfl⟩ := h hp
      rw [if_pos rfl, e3]
      simp only [Option.bind_some]
      rw [if_pos (by omega), ih' _ (by rw [List.length_append, List.length_singleton]; omega)]
      simp [hp]
    | false =>
      rw [if_neg Bool.false_ne_true, ih' _ (by omega)]
      simp [hp]
/-! defs -/
theorem f_of {N : Nat} {xs : List Val} (h : G3 (s (startR N xs) S) fun o _ S' => ∃ r, (o = .rt r ∨ (o = .nx ∧ r = .val (.d .non))) ∧ G2 (trunc S.length r S') P) : G2 (fnOf N s xs S) P := by
  obtain ⟨o, ρ', S1, e1, r, ho, r', S2, e2, h⟩ := h
  refine ⟨r', S2, ?_, h⟩
  unfold fnOf
  rw [e1]
  rcases ho with rfl | ⟨rfl, rfl⟩
  · exact e2
  · exact e2
theorem rt_of {k : Nat} {r : Res} (h : G2 (trunc k r S) P) : ∃ r', (Flw.rt r = .rt r' ∨ (Flw.rt r = .nx ∧ r' = .val (.d .non))) ∧ G2 (trunc k r' S) P := ⟨r, .inl rfl, h⟩
theorem nx_of {k : Nat} (h : G2 (trunc k (.val (.d .non)) S) P) : ∃ r', (Flw.nx = .rt r' ∨ (Flw.nx = .nx ∧ r' = .val (.d .non))) ∧ G2 (trunc k r' S) P := ⟨_, .inr ⟨rfl, rfl⟩, h⟩
theorem trunc_d {k : Nat} (h : P (.val (.d d)) (S.take k)) : G2 (trunc k (.val (.d d)) S) P := .some h
theorem trunc_n {k : Nat} (h : P (.new c) (S.take k)) : G2 (trunc k (.new c) S) P := .some h
theorem trunc_c {k j : Nat} {xs : List D} (hj : k ≤ j) (e : S[j]? = some (.lst xs)) (h : P (.new (.lst xs)) (S.take k)) : G2 (trunc k (.val (.cell j)) S) P := by
  refine .of ?_ h
  unfold trunc
  simp only
  rw [if_neg (by omega), e]
end
end Ev
set_option Elab.async false
set_option linter.all false
set_option maxRecDepth 100000
/-! Own text: the steps as one tactic; operators on shapes. -/
namespace Ev
open PySem L2
section
variable {P : O1 → Prop} {U : Bool → Prop} {PD : D → Prop} {i j : Int} {S : Sto} {z : Str} {xs : List D}
theorem o_mulL (h1 : -(2 ^ 64) < i ∧ i < 2 ^ 64) (h : P (.d (.int (i * j)))) : G1 (bopD .mul (.int i) (.int j)) P := .of (if_pos (.inl (.inl h1))) h
theorem o_mulR (h1 : -(2 ^ 64) < j ∧ j < 2 ^ 64) (h : P (.d (.int (i * j)))) : G1 (bopD .mul (.int i) (.int j)) P := .of (if_pos (.inl (.inr h1))) h
theorem o_fdiv (h1 : 0 < j ∧ j < 1073741824) (h : P (.d (.int (i / j)))) : G1 (bopD .fdiv (.int i) (.int j)) P := by
  refine .of ?_ h
  show (if (j ≠ 0 ∧ j.natAbs < 1073741824) ∨ (0 < j ∧ j.natAbs.log2 < 9000) then some (O1.d (.int (i.fdiv j))) else none) = _
  rw [if_pos (.inl ⟨by omega, by omega⟩), Int.fdiv_eq_ediv_of_nonneg i (by omega)]
theorem o_mulW (h1 : i.natAbs.log2 + j.natAbs.log2 < 1000000) (h : P (.d (.int (i * j)))) : G1 (bopD .mul (.int i) (.int j)) P := .of (if_pos (.inr h1)) h
theorem o_fdivW (h1 : 0 < j ∧ j.natAbs.log2 < 9000) (h : P (.d (.int (i / j)))) : G1 (bopD .fdiv (.int i) (.int j)) P := by
  refine .of ?_ h
  show (if (j ≠ 0 ∧ j.natAbs < 1073741824) ∨ (0 < j ∧ j.natAbs.log2 < 9000) then some (O1.d (.int (i.fdiv j))) else none) = _
  rw [if_pos (.inr h1), Int.fdiv_eq_ediv_of_nonneg i (by omega)]
theorem o_mod (h1 : 0 < j) (h : P (.d (.int (i % j)))) : G1 (bopD .mod (.int i) (.int j)) P := by
  refine .of ?_ h
  show (if j ≠ 0 then some (O1.d (.int (i.fmod j))) else none) = _
  rw [if_pos (by omega), Int.fmod_eq_emod_of_nonneg i (by omega)]
theorem o_divmod (h1 : 0 < j ∧ j < 1073741824) (h : P (.d (.tup [.int (i / j), .int (i % j)]))) : G1 (biD .divmod [.int i, .int j]) P := .of (if_pos h1) h
theorem o_lenStr {M : Nat → Prop} (h1 : z.length ≤ sizeLine) (h : M z.length) : G1 (lenD (.str z)) M := .of (if_pos h1) h
theorem o_eqne {a b : D} {k : Bool} (e : eqD a b = some k) (h : U (!k)) : G1 (copD .ne a b) U := .of (by show (eqD a b).map _ = _; rw [e]; rfl) h
theorem o_nin {a b : D} {k : Bool} (e : inD a b = some k) (h : U (!k)) : G1 (copD .nin a b) U := .of (by show (inD a b).map _ = _; rw [e]; rfl) h
end

end Ev
open PySem L2 Ev
local macro_rules | `(tactic| fail "ev1") => `(tactic| first
  | (with_reducible refine e_cst ?_)
  | ((with_reducible apply e_var); rfl)
  | (with_reducible refine pk_sv ?_)
  | ((with_reducible apply pk_sc); rfl)
  | (with_reducible refine pk_sn ?_)
  | (with_reducible refine e_bop ?_)
  | (with_reducible refine e_cmp ?_)
  | (with_reducible refine e_idx ?_)
  | (with_reducible refine e_bi1 ?_)
  | (with_reducible refine e_bi2 ?_)
  | (with_reducible refine e_eD ?_)
  | (with_reducible refine toD_sv ?_)
  | (with_reducible refine toD_sn ?_)
  | (with_reducible refine toD_d ?_)
  | (with_reducible refine s_seq' ?_)
  | (with_reducible refine sq_nx ?_)
  | (with_reducible refine sq_rt ?_)
  | (with_reducible refine s_asg' ?_)
  | (with_reducible refine g_nm' ?_)
  | (with_reducible refine s_exp' ?_)
  | (with_reducible refine s_ret' ?_)
  | (with_reducible refine s_nx' ?_)
  | (with_reducible refine e_call ?_)
  | (with_reducible refine e_callK ?_)
  | (with_reducible refine e_scp ?_)
  | (with_reducible refine e_evas_nil ?_)
  | (with_reducible refine e_evas_cons ?_)
  | (with_reducible refine s_par' ?_)
  | (with_reducible refine e_tst ?_)
  | (with_reducible refine s_if' ?_)
  | (with_reducible refine e_ite ?_)
  | (with_reducible refine e_and ?_)
  | (with_reducible refine e_or ?_)
  | (with_reducible refine e_not ?_)
  | (with_reducible refine e_one ?_)
  | (with_reducible refine e_two ?_)
  | (with_reducible refine e_tup ?_)
  | (with_reducible refine e_lst ?_)
  | (with_reducible refine e_evs_nil ?_)
  | (with_reducible refine e_evs_cons ?_)
  | (with_reducible refine e_fld ?_)
  | (with_reducible refine e_isi ?_)
  | (with_reducible refine e_isN ?_)
  | (with_reducible refine e_rev ?_)
  | (with_reducible refine e_sortSet ?_)
  | (with_reducible refine i_seq' ?_)
  | (with_reducible refine i_enum' ?_)
  | (with_reducible refine i_zip' ?_)
  | (with_reducible refine i_rng' ?_)
  | (with_reducible refine s_for' ?_)
  | (with_reducible refine g_tp' ?_)
  | (with_reducible refine g_each_nil ?_)
  | (with_reducible refine g_each_cons ?_)
  | (with_reducible refine g_sb' ?_)
  | (with_reducible refine pk_d' ?_)
  | ((with_reducible apply pk_c'); rfl)
  | (with_reducible refine f_of ?_)
  | (with_reducible refine rt_of ?_)
  | (with_reducible refine nx_of ?_)
  | (with_reducible refine trunc_d ?_)
  | (with_reducible refine trunc_n ?_)
  | ((with_reducible refine o_mulL ?_ ?_); omega)
  | ((with_reducible refine o_mulR ?_ ?_); omega)
  | ((with_reducible refine o_fdiv ?_ ?_); omega)
  | ((with_reducible refine o_mod ?_ ?_); omega)
  | ((with_reducible refine o_divmod ?_ ?_); omega)
  | ((with_reducible apply toD_any); rfl)
  | (refine G1.of rfl ?_)
  | (with_reducible refine ⟨_, _, _, _, rfl, rfl, rfl, rfl, ?_⟩))
namespace Ev
open PySem L2
end Ev
open PySem L2 Ev
local macro_rules | `(tactic| fail "evz") => `(tactic| repeat fail "ev1")
namespace Ev
open PySem L2
end Ev
set_option Elab.async false
set_option linter.all false
set_option maxRecDepth 100000
/-! Own text: texts as lists of signs. -/
namespace Ev
open PySem L2
/-- the text with these signs -/
def tx (l : List Nat) : Str := ⟨l.toArray⟩
/-- a sign -/
def lt (c : Nat) : D := .str (tx [c])
theorem tx_len (l : List Nat) : (tx l).length = l.length := by unfold tx Str.length; simp
theorem tx_cps (l : List Nat) : (tx l).cps.toList = l := rfl
theorem tx_size (l : List Nat) : (tx l).cps.size = l.length := by unfold tx; simp
theorem tx_signs (l : List Nat) : signs (tx l) = l.map lt := rfl
theorem tx_inj {l m : List Nat} : tx l = tx m ↔ l = m := by
  constructor
  · intro h
    have := congrArg (fun z : Str => z.cps.toList) h
    exact this
  · rintro rfl; rfl
theorem lt_inj {a b : Nat} : lt a = lt b ↔ a = b := by
  constructor
  · intro h
    have h : tx [a] = tx [b] := by injection h
    simpa using tx_inj.mp h
  · rintro rfl; rfl
theorem tx_of (z : Str) : tx z.cps.toList = z := by cases z; rfl
theorem tx_app (l m : List Nat) : tx l ++ tx m = tx (l ++ m) := by
  show Str.append _ _ = _ <;> (unfold tx; simp [Str.append])
theorem sizeLine_val : sizeLine = 16777216 := by decide
theorem o_len {M : Nat → Prop} {l : List Nat} (h1 : l.length ≤ 16777216) (h : M l.length) : G1 (lenD (.str (tx l))) M := by
  refine o_lenStr (by rw [tx_len, sizeLine_val]; exact h1) ?_
  rw [tx_len]; exact h
theorem atI_nat {α : Type} {l : List α} {i : Int} {n : Nat} (h : i = (n : Int)) (hn : n < l.length) : atI l i = l[n]? := by
  subst h
  unfold atI ixN
  rw [if_pos (by omega), if_pos (by omega)]
  simp
theorem o_idxStr {P : D → Prop} {l : List Nat} {i : Int} {n : Nat} (h1 : l.length ≤ 16777216) (hi : i = (n : Int)) (hn : n < l.length) (h : P (lt l[n])) : G1 (idxD (.str (tx l)) (.int i)) P := by
  refine .of ?_ h
  show (if (tx l).length ≤ sizeLine then (atI (tx l).cps.toList i).map fun c => D.str ⟨#[c]⟩ else none) = _
  rw [if_pos (by rw [tx_len, sizeLine_val]; exact h1), tx_cps, atI_nat hi hn, List.getElem?_eq_getElem hn]
  rfl
theorem o_idxLst {P : D → Prop} {l : List D} {i : Int} {n : Nat} (hi : i = (n : Int)) (hn : n < l.length) (h : P l[n]) : G1 (idxD (.lst l) (.int i)) P := by
  refine .of ?_ h
  show atI l i = _
  rw [atI_nat hi hn, List.getElem?_eq_getElem hn]
theorem o_idxTup {P : D → Prop} {l : List D} {i : Int} {n : Nat} (hi : i = (n : Int)) (hn : n < l.length) (h : P l[n]) : G1 (idxD (.tup l) (.int i)) P := by
  refine .of ?_ h
  show atI l i = _
  rw [atI_nat hi hn, List.getElem?_eq_getElem hn]
theorem strs_lt (l : List Nat) : strsOf (l.map lt) = some (l.map fun c => tx [c]) := by
  induction l with
  | nil => rfl
  | cons a l ih => rw [List.map_cons, List.map_cons]; show (strsOf (l.map lt)).map _ = _; rw [ih]; rfl
theorem take_full {α : Type} {x y : α} {T : List α} : (x :: T).take (y :: T).length = x :: T := by simp
end Ev
open PySem L2 Ev
local macro_rules | `(tactic| fail "evn") => `(tactic| repeat (first | fail "ev1" | (with_reducible refine e_len ?_) | (refine ⟨(fun _ _ z => nomatch z), ?_⟩) | ((with_reducible refine o_len ?_ ?_); (first | assumption | omega))))
namespace Ev
open PySem L2
end Ev
set_option Elab.async false
set_option linter.all false
set_option maxRecDepth 100000
/-! Own text: lists of numbers and of signs as data: in, index, count, sorted, equal, join. -/
namespace Ev
open PySem L2
/-- a number -/
def nt (n : Nat) : D := .int (n : Int)
theorem nt_inj {a b : Nat} : nt a = nt b ↔ a = b := by
  constructor
  · intro h
    have h : (a : Int) = b := by injection h
    omega
  · rintro rfl; rfl
theorem flat_nt (l : List Nat) : (l.map nt).all flatD = true := by
  rw [List.all_map]; exact List.all_eq_true.mpr fun _ _ => rfl
theorem flat_lt (l : List Nat) : (l.map lt).all flatD = true := by
  rw [List.all_map]; exact List.all_eq_true.mpr fun _ _ => rfl
theorem eqF_nt (a b : Nat) : eqF (nt a) (nt b) = decide (a = b) := by
  show decide ((a : Int) = b) = _
  exact decide_eq_decide.mpr (by omega)
theorem eqF_lt (a b : Nat) : eqF (lt a) (lt b) = decide (a = b) := by
  show decide (tx [a] = tx [b]) = _
  exact decide_eq_decide.mpr (by rw [tx_inj]; simp)
theorem inL_nt {k : Bool} {a : Nat} {l : List Nat} : inL k (nt a) (l.map nt) = some (decide (a ∈ l)) := by
  unfold inL
  rw [if_pos ⟨rfl, flat_nt l⟩, List.any_map]
  refine congrArg some (Bool.eq_iff_iff.mpr ?_)
  simp only [List.any_eq_true, Function.comp, eqF_nt, decide_eq_true_eq]
  exact ⟨fun ⟨x, hx, e⟩ => e ▸ hx, fun h => ⟨a, h, rfl⟩⟩
theorem inL_lt {k : Bool} {a : Nat} {l : List Nat} : inL k (lt a) (l.map lt) = some (decide (a ∈ l)) := by
  unfold inL
  rw [if_pos ⟨rfl, flat_lt l⟩, List.any_map]
  refine congrArg some (Bool.eq_iff_iff.mpr ?_)
  simp only [List.any_eq_true, Function.comp, eqF_lt, decide_eq_true_eq]
  exact ⟨fun ⟨x, hx, e⟩ => e ▸ hx, fun h => ⟨a, h, rfl⟩⟩
section
variable {U : Bool → Prop}
theorem in_lt {c : Nat} {l : List Nat} : inD (lt c) (.str (tx l)) = some (decide (c ∈ l)) := by
  show some (!(Builtin.Str.occurrences (tx l) ⟨#[c]⟩ 0 (tx l).length 1).isEmpty) = _
  refine congrArg some (Bool.eq_iff_iff.mpr ?_)
  rw [StrLaws.found_iff, decide_eq_true_eq, List.mem_iff_getElem?]
  constructor
  · rintro ⟨i, h⟩
    exact ⟨i, (StrLaws.subAt_one _ _ _).mp h⟩
  · rintro ⟨i, h⟩
    exact ⟨i, (StrLaws.subAt_one _ _ _).mpr h⟩
theorem o_inStr {c : Nat} {l : List Nat} (h : U (decide (c ∈ l))) : G1 (copD .inn (lt c) (.str (tx l))) U := .of in_lt h
theorem o_inLst {a : Nat} {l : List Nat} (h : U (decide (a ∈ l))) : G1 (copD .inn (nt a) (.lst (l.map nt))) U := .of inL_nt h
theorem o_inTup {a : Nat} {l : List Nat} (h : U (decide (a ∈ l))) : G1 (copD .inn (nt a) (.tup (l.map nt))) U := .of inL_nt h
theorem o_inLt {a : Nat} {l : List Nat} (h : U (decide (a ∈ l))) : G1 (copD .inn (lt a) (.lst (l.map lt))) U := .of inL_lt h
theorem o_ninLst {a : Nat} {l : List Nat} (h : U (!decide (a ∈ l))) : G1 (copD .nin (nt a) (.lst (l.map nt))) U := o_nin inL_nt h
theorem o_eqInt {i j : Int} (h : U (decide (i = j))) : G1 (copD .eq (.int i) (.int j)) U := .of rfl h
theorem o_neInt {i j : Int} (h : U (!decide (i = j))) : G1 (copD .ne (.int i) (.int j)) U := .of rfl h
theorem o_eqStr {i j : List Nat} (h : U (decide (i = j))) : G1 (copD .eq (.str (tx i)) (.str (tx j))) U := by
  refine .of ?_ h
  show some (decide (tx i = tx j)) = _
  exact congrArg some (decide_eq_decide.mpr tx_inj)
theorem o_eqLt {i j : Nat} (h : U (decide (i = j))) : G1 (copD .eq (lt i) (lt j)) U := o_eqStr (by simpa using h)
theorem o_neLt {i j : Nat} (h : U (!decide (i = j))) : G1 (copD .ne (lt i) (lt j)) U := o_eqne (k := decide (i = j)) (by
  show some (decide (tx [i] = tx [j])) = _
  exact congrArg some (decide_eq_decide.mpr (by rw [tx_inj]; simp))) h
end
/-! index, count -/
theorem idx_lt {a : Nat} : ∀ {l : List Nat}, a ∈ l → ∃ j : Nat, idxF (lt a) (l.map lt) = some j ∧ l[j]? = some a
  | b :: l, h => by
    rw [List.map_cons]
    unfold idxF
    rw [eqF_lt]
    by_cases e : b = a
    · subst e; exact ⟨0, by simp, rfl⟩
    · obtain ⟨j, e1, e2⟩ := idx_lt (l := l) ((List.mem_cons.mp h).resolve_left fun z => e z.symm)
      exact ⟨j + 1, by rw [e1]; simp [e], e2⟩
theorem lm_idx {a : Nat} {l : List Nat} (h : a ∈ l) : ∃ j : Nat, lmD .index (lt a) (l.map lt) = some (.int (j : Int)) ∧ l[j]? = some a := by
  obtain ⟨j, e1, e2⟩ := idx_lt h
  refine ⟨j, ?_, e2⟩
  show (if _ then (idxF (lt a) (l.map lt)).map fun j => D.int (j : Nat) else none) = _
  rw [if_pos ⟨rfl, flat_lt l⟩, e1]
  rfl
theorem lm_cnt {a : Nat} {l : List Nat} : lmD .count (lt a) (l.map lt) = some (nt (l.countP fun x => x == a)) := by
  show (if _ then some (D.int (countF (lt a) (l.map lt) : Nat)) else none) = _
  rw [if_pos ⟨rfl, flat_lt l⟩]
  unfold countF
  rw [List.countP_map]
  refine congrArg (fun n : Nat => some (nt n)) ?_
  refine List.countP_congr fun x _ => ?_
  simp [Function.comp, eqF_lt]
/-! sorted -/
theorem ints_nt (l : List Nat) : intsOf (l.map nt) = some (l.map fun n : Nat => (n : Int)) := by
  induction l with
  | nil => rfl
  | cons a l ih => rw [List.map_cons, List.map_cons]; show (intsOf (l.map nt)).map _ = _; rw [ih]; rfl
theorem of_pos {l : List Nat} {is : List Int} (h : is.Perm (l.map fun n : Nat => (n : Int))) : ∃ m : List Nat, is = m.map (fun n : Nat => (n : Int)) ∧ m.Perm l := by
  refine ⟨is.map Int.toNat, ?_, ?_⟩
  · rw [List.map_map]
    symm
    refine (List.map_congr_left (g := id) fun i hi => ?_).trans (List.map_id _)
    obtain ⟨n, _, e⟩ := List.mem_map.mp (h.mem_iff.mp hi)
    show ((i.toNat : Nat) : Int) = i
    omega
  · have := h.map Int.toNat
    rw [List.map_map] at this
    refine this.trans ?_
    have e : (l.map (Int.toNat ∘ fun n : Nat => (n : Int))) = l := (List.map_congr_left (g := id) fun i hi => by simp [Function.comp]).trans (List.map_id _)
    rw [e]
theorem sort_nt (l : List Nat) : ∃ m : List Nat, sortL (l.map nt) = some (m.map nt) ∧ m.Perm l ∧ (l.Nodup → m.Pairwise (· < ·)) := by
  obtain ⟨m, e, hp⟩ := of_pos (isort_perm (le := leI) (l.map fun n : Nat => (n : Int)))
  refine ⟨m, ?_, hp, fun hn => ?_⟩
  · unfold sortL
    rw [ints_nt]
    show some ((isort leI _).map D.int) = _
    rw [e, List.map_map]
    rfl
  · have h1 : (l.map fun n : Nat => (n : Int)).Nodup := by
      unfold List.Nodup
      rw [List.pairwise_map]
      exact hn.imp fun h e => h (by omega)
    have h2 := isort_lt h1
    rw [e, List.pairwise_map] at h2
    exact h2.imp fun h => by omega
theorem perm_lt {l m : List Nat} (hp : l.Perm m) (h1 : l.Pairwise (· < ·)) (h2 : m.Pairwise (· < ·)) : l = m :=
  hp.eq_of_pairwise (fun a b _ _ h h' => by omega) h1 h2
theorem ded_nt {l : List Nat} (hn : l.Nodup) : dedI (l.map fun n : Nat => (n : Int)) = l.map fun n : Nat => (n : Int) := by
  induction l with
  | nil => rfl
  | cons a l ih =>
    rw [List.nodup_cons] at hn
    rw [List.map_cons]
    unfold dedI
    rw [if_neg, ih hn.2]
    intro h
    obtain ⟨b, hb, e⟩ := List.mem_map.mp h
    have : b = a := by omega
    exact hn.1 (this ▸ hb)
theorem sortSet_nt {l : List Nat} (h : l.Pairwise (· < ·)) (hl : l.length < 64) : sortSet (.tup (l.map nt)) = some (l.map nt) := by
  have hn : l.Nodup := h.imp fun h => by omega
  obtain ⟨m, e, hp, hs⟩ := sort_nt l
  have := perm_lt hp (hs hn) h
  subst this
  show (intsOf (m.map nt)).bind _ = _
  rw [ints_nt]
  show (if _ then some ((isort leI (dedI _)).map D.int) else none) = _
  rw [ded_nt hn, if_pos (by simpa using hl)]
  unfold sortL at e
  rw [ints_nt] at e
  exact e
theorem leS_lt (a b : Nat) : leS (tx [a]) (tx [b]) = decide (a ≤ b) := by
  show (!decide ([b] < [a])) = _
  rw [← decide_not]
  refine decide_eq_decide.mpr ?_
  rw [List.not_lt]
  constructor
  · intro h
    rcases Nat.lt_or_ge b a with hc | hc
    · exact absurd (List.cons_lt_cons_iff.mpr (.inl hc)) (List.not_lt.mpr h)
    · exact hc
  · intro h
    refine List.not_lt.mp fun hc => ?_
    rcases List.cons_lt_cons_iff.mp hc with hc | ⟨_, hc⟩
    · omega
    · exact absurd hc (List.not_lt_nil _)
theorem of_sg {l : List Nat} {is : List Str} (h : is.Perm (l.map fun c => tx [c])) : ∃ m : List Nat, is = m.map (fun c => tx [c]) ∧ m.Perm l := by
  refine ⟨is.map fun z => z.cps.toList.headD 0, ?_, ?_⟩
  · rw [List.map_map]
    symm
    refine (List.map_congr_left (g := id) fun i hi => ?_).trans (List.map_id _)
    obtain ⟨n, _, e⟩ := List.mem_map.mp (h.mem_iff.mp hi)
    subst e
    rfl
  · have := h.map fun z : Str => z.cps.toList.headD 0
    rw [List.map_map] at this
    refine this.trans ?_
    have e : (l.map ((fun z : Str => z.cps.toList.headD 0) ∘ fun c => tx [c])) = l := (List.map_congr_left (g := id) fun i hi => rfl).trans (List.map_id _)
    rw [e]
theorem sort_lt (l : List Nat) : ∃ m : List Nat, sortL (l.map lt) = some (m.map lt) ∧ m.Perm l ∧ (l.Nodup → m.Pairwise (· < ·)) := by
  obtain ⟨m, e, hp⟩ := of_sg (isort_perm (le := leS) (l.map fun c => tx [c]))
  refine ⟨m, ?_, hp, fun hn => ?_⟩
  · cases l with
    | nil => have := hp.length_eq; cases m with | nil => rfl | cons => cases this
    | cons a l =>
      unfold sortL
      rw [show intsOf ((a :: l).map lt) = none from rfl, strs_lt]
      show some ((isort leS _).map D.str) = _
      rw [e, List.map_map]
      rfl
  · have h2 := isort_pair (le := leS) leS_tot leS_tr (l.map fun c => tx [c])
    rw [e, List.pairwise_map] at h2
    have hm : m.Nodup := hp.nodup_iff.mpr hn
    exact (h2.and hm).imp fun {a b} h => by
      have h1 := h.1
      rw [leS_lt, decide_eq_true_eq] at h1
      have := h.2
      omega
/-! equal -/
theorem toPs_nt (l : List Nat) : toPs (l.map nt) = some (l.map fun n : Nat => PyData.int n) := by
  induction l with
  | nil => rfl
  | cons a l ih => rw [List.map_cons, List.map_cons]; show (match toP (nt a), toPs (l.map nt) with | some p, some ps => some (p :: ps) | _, _ => none) = _; rw [ih]; rfl
theorem lay_nt (l : List Nat) : PyData.canLayAll0 (l.map fun n : Nat => PyData.int n) = true := by
  induction l with
  | nil => rfl
  | cons a l ih => rw [List.map_cons]; show (true && _) = true; rw [ih]; rfl
theorem dep_nt (l : List Nat) : PyData.depthAll (l.map fun n : Nat => PyData.int n) = 0 := by
  induction l with
  | nil => rfl
  | cons a l ih => rw [List.map_cons]; show max 0 _ = 0; rw [ih]; rfl
theorem eqv_nt (l m : List Nat) : PyData.eqvAll (l.map fun n : Nat => PyData.int n) (m.map fun n : Nat => PyData.int n) = decide (l = m) := by
  induction l generalizing m with
  | nil => cases m <;> rfl
  | cons a l ih =>
    cases m with
    | nil => rfl
    | cons b m =>
      rw [List.map_cons, List.map_cons]
      show (((a : Int) == (b : Int)) && _) = _
      rw [ih, Bool.eq_iff_iff]
      simp
      intro _
      exact Int.ofNat_inj
theorem eq_tup (l m : List Nat) : eqD (.tup (l.map nt)) (.tup (m.map nt)) = some (decide (l = m)) := by
  show (match (toPs (l.map nt)).map PyData.tuple, (toPs (m.map nt)).map PyData.tuple with | some p, some q => if SeqAt.shaped p = true ∧ SeqAt.shaped q = true then some (PyData.eqv p q) else none | _, _ => none) = _
  rw [toPs_nt, toPs_nt]
  have hs : ∀ l : List Nat, SeqAt.shaped (PyData.tuple (l.map fun n : Nat => PyData.int n)) = true := by
    intro l
    show (PyData.canLayAll0 _ && decide (PyData.depthAll _ + 1 ≤ 64)) = true
    rw [lay_nt, dep_nt]; rfl
  show (if _ then some (PyData.eqvAll _ _) else none) = _
  rw [if_pos ⟨hs l, hs m⟩, eqv_nt]
theorem eq_lst (l m : List Nat) : eqD (.lst (l.map nt)) (.lst (m.map nt)) = some (decide (l = m)) := by
  show (match (toPs (l.map nt)).map PyData.list, (toPs (m.map nt)).map PyData.list with | some p, some q => if SeqAt.shaped p = true ∧ SeqAt.shaped q = true then some (PyData.eqv p q) else none | _, _ => none) = _
  rw [toPs_nt, toPs_nt]
  have hs : ∀ l : List Nat, SeqAt.shaped (PyData.list (l.map fun n : Nat => PyData.int n)) = true := by
    intro l
    show (PyData.canLayAll0 _ && decide (PyData.depthAll _ + 1 ≤ 64)) = true
    rw [lay_nt, dep_nt]; rfl
  show (if _ then some (PyData.eqvAll _ _) else none) = _
  rw [if_pos ⟨hs l, hs m⟩, eqv_nt]
/-! join -/
theorem join_lt (l : List Nat) : Txt.join ⟨#[]⟩ (l.map fun c => tx [c]) = tx l := by
  rw [show Txt.join ⟨#[]⟩ (l.map fun c => tx [c]) = Str.join ⟨#[]⟩ (l.map fun c => tx [c]) from StrLaws.glued_eq_join _ _]
  induction l with
  | nil => rfl
  | cons a l ih =>
    cases l with
    | nil => rfl
    | cons b l =>
      rw [List.map_cons, List.map_cons]
      show tx [a] ++ tx [] ++ Str.join ⟨#[]⟩ (tx [b] :: l.map fun c => tx [c]) = _
      rw [← List.map_cons (f := fun c => tx [c]), ih, tx_app, tx_app]
      rfl
end Ev
namespace Ev
open PySem L2
theorem seqIx {x : Int} {n : Nat} (h : 0 ≤ x) (h2 : x < n) : seqIndex? x n = some x.toNat := by
  unfold seqIndex?
  rw [if_neg (show ¬ x < 0 by omega)]
  show (if (decide (0 ≤ x) && decide (x < n)) = true then some x.toNat else none) = _
  rw [if_pos (by simp; omega)]
theorem sum_tx (ps : List Nat) : (ps.map ((fun z : Str => z.length) ∘ fun c => tx [c])).sum = ps.length := by
  induction ps with
  | nil => rfl
  | cons a l ih => rw [List.map_cons, List.sum_cons, ih, List.length_cons]; show 1 + _ = _; omega
theorem e_joinLt {b : EvF} {ρ : Rho} {S : Sto} {P : Res → Sto → Prop} (h : G2 (b ρ S) fun y S => G1 (pk (Ev.settle y) S) fun d => ∃ l : List Nat, seqOf d = some (l.map lt) ∧ l.length ≤ 16777216 ∧ P (.val (.d (.str (tx l)))) S) : G2 (fJoin (fCst (.str "")) b ρ S) P := by
  obtain ⟨y, S1, e1, d, e2, l, e3, hl, h⟩ := h
  refine e_join (e_eD (e_cst (toD_sv ⟨y, S1, e1, d, e2, _, _, _, rfl, e3, strs_lt l, ?_, ?_⟩)))
  · rw [List.map_map, List.length_map, sum_tx]
    show l.length + l.length * 0 ≤ _
    omega
  · rw [show Txt.join (Str.ofString "") (l.map fun c => tx [c]) = tx l from join_lt l]
    exact h
theorem bi_min {a b : Nat} : biD .min [lt a, lt b] = some (.d (lt (min a b))) := by
  show some (O1.d (D.str (if [b] < [a] then tx [b] else tx [a]))) = _
  have : [b] < [a] ↔ b < a := by rw [List.cons_lt_cons_iff]; simp
  by_cases h : b < a
  · rw [if_pos (this.mpr h), Nat.min_eq_right (by omega)]; rfl
  · rw [if_neg fun z => h (this.mp z), Nat.min_eq_left (by omega)]; rfl
theorem bi_max {a b : Nat} : biD .max [lt a, lt b] = some (.d (lt (max a b))) := by
  show some (O1.d (D.str (if [a] < [b] then tx [b] else tx [a]))) = _
  have : [a] < [b] ↔ a < b := by rw [List.cons_lt_cons_iff]; simp
  by_cases h : a < b
  · rw [if_pos (this.mpr h), Nat.max_eq_right (by omega)]; rfl
  · rw [if_neg fun z => h (this.mp z), Nat.max_eq_left (by omega)]; rfl
theorem bop_lt {a b : Nat} : bopD .add (lt a) (lt b) = some (.d (.str (tx [a, b]))) := by
  show (if 1 + 1 ≤ sizeLine then some (O1.d (D.str (tx [a] ++ tx [b]))) else none) = _
  rw [if_pos (by rw [sizeLine_val]; omega), tx_app]
  rfl
theorem lenC {xs : List D} {X : Prop} (h1 : xs.length ≤ 16777216) (h : X) : xs.length ≤ sizeLine ∧ X := ⟨by rw [sizeLine_val]; exact h1, h⟩
theorem rep_flat (n : Nat) (d : D) : (List.replicate n [d]).flatten = List.replicate n d := by
  induction n with
  | zero => rfl
  | succ n ih => rw [List.replicate_succ, List.flatten_cons, ih]; rfl
theorem bop_zeros (n : Nat) (h : n ≤ 1000) : bopD .mul (.lst [.int 0]) (.int (n : Int)) = some (.new (.lst ((List.replicate n (0 : Int)).map .int))) := by
  have e : ((n : Int).toNat) = n := by omega
  have c : -(2 ^ 63) ≤ (n : Int) ∧ (n : Int) < 2 ^ 63 ∧ [D.int 0].length * (n : Int).toNat ≤ sizeLine := by
    refine ⟨by omega, by omega, ?_⟩
    rw [e, sizeLine_val, List.length_singleton]; omega
  have r : bopD .mul (.lst [.int 0]) (.int (n : Int)) = if -(2 ^ 63) ≤ (n : Int) ∧ (n : Int) < 2 ^ 63 ∧ [D.int 0].length * (n : Int).toNat ≤ sizeLine then some (O1.new (.lst (List.replicate (n : Int).toNat [D.int 0]).flatten)) else none := rfl
  rw [r, if_pos c, e, rep_flat, List.map_replicate]
theorem o_zeros {n : Nat} {P : O1 → Prop} (h1 : n ≤ 1000) (h : P (.new (.lst ((List.replicate n (0 : Int)).map .int)))) : G1 (bopD .mul (.lst [.int 0]) (.int (n : Int))) P := .of (bop_zeros n h1) h
end Ev
open PySem L2 Ev
local macro_rules | `(tactic| fail "evo1") => `(tactic| (first
  | ((with_reducible refine o_zeros ?_ ?_); (first | omega | (simp only [List.length_map]; omega)))
  | (with_reducible refine o_inStr ?_)
  | (with_reducible refine o_inLst ?_)
  | (with_reducible refine o_inTup ?_)
  | (with_reducible refine o_inLt ?_)
  | (with_reducible refine o_ninLst ?_)
  | (with_reducible refine o_eqLt ?_)
  | (with_reducible refine o_neLt ?_)
  | (with_reducible refine o_eqStr ?_)
  | (with_reducible refine o_neInt ?_)
  | fail "ev1"
  | (with_reducible refine e_len ?_)
  | (refine ⟨(fun _ _ z => nomatch z), ?_⟩)
  | ((with_reducible refine o_len ?_ ?_); (first | assumption | omega))
  | ((with_reducible refine lenC ?_ ?_); (first | decide | assumption | omega | (simp; done) | (simp; omega) | (simp only [List.length_cons, List.length_nil]; omega)))))
namespace Ev
open PySem L2
end Ev
open PySem L2 Ev
local macro_rules | `(tactic| fail "evo") => `(tactic| repeat fail "evo1")
namespace Ev
open PySem L2
end Ev
set_option Elab.async false
set_option linter.all false
set_option maxRecDepth 100000
/-! Own text: comprehensions over mapped lists; dicts; all; chains. -/
namespace Ev
open PySem L2
section
variable {α : Type} {ρ : Rho} {S : Sto} {g : TgF} {e te fk fv a b c : EvF} {P : Res → Sto → Prop} {Q : List D → Sto → Prop}
theorem comp_map {l : List α} {em va : α → D} {acc : List D} (hl : acc.length + l.length ≤ 16777216) (hs : ∀ x ∈ l, G2 (g (.d (em x)) ρ S) fun ρ2 S2 => S2 = S ∧ G2 (eD e ρ2 S) fun y S3 => y = va x ∧ S3 = S) :
    compF g none e (l.map em) acc ρ S = some (acc ++ l.map va, S) := by
  induction l generalizing acc with
  | nil => simp [compF]
  | cons d ds ih =>
    obtain ⟨ρ2, S2, e1, rfl, x, S3, e2, rfl, rfl⟩ := hs d List.mem_cons_self
    rw [List.length_cons] at hl
    show (g (.d (em d)) ρ S3).bind _ = _
    rw [e1]
    simp only [Option.bind_some]
    show (eD e ρ2 S3).bind _ = _
    rw [e2]
    simp only [Option.bind_some]
    rw [if_pos (by rw [sizeLine_val]; omega), ih (by rw [List.length_append, List.length_singleton]; omega) fun d hd => hs d (List.mem_cons_of_mem _ hd)]
    simp
theorem comp_filt {l : List α} {em va : α → D} {p : α → Bool} {acc : List D} (hl : acc.length + l.length ≤ 16777216) (hs : ∀ x ∈ l, G2 (g (.d (em x)) ρ S) fun ρ2 S2 => S2 = S ∧ G2 (tst te ρ2 S) fun k S3 => k = p x ∧ S3 = S ∧ (p x = true → G2 (eD e ρ2 S) fun y S3 => y = va x ∧ S3 = S)) :
    compF g (some te) e (l.map em) acc ρ S = some (acc ++ (l.filter p).map va, S) := by
  induction l generalizing acc with
  | nil => simp [compF]
  | cons d ds ih =>
    obtain ⟨ρ2, S2, e1, rfl, k, S3, e2, rfl, rfl, h⟩ := hs d List.mem_cons_self
    rw [List.length_cons] at hl
    have ih' := fun acc hl => ih (acc := acc) hl fun d hd => hs d (List.mem_cons_of_mem _ hd)
    show (g (.d (em d)) ρ S3).bind _ = _
    rw [e1]
    simp only [Option.bind_some]
    rw [e2]
    simp only [Option.bind_some]
    cases hp : p d with
    | true =>
      obtain ⟨x, S4, e3, rfl, rfl⟩ := h hp
      rw [if_pos rfl, e3]
      simp only [Option.bind_some]
      rw [if_pos (by rw [sizeLine_val]; omega), ih' _ (by rw [List.length_append, List.length_singleton]; omega)]
      simp [hp]
    | false =>
      rw [if_neg Bool.false_ne_true, ih' _ (by omega)]
      simp [hp]
/-- the comprehension's whole step, by each item -/
theorem e_lcMap {ι : ItF} {vs : List Nat} {l : List α} {em va : α → D} (hi : ι ρ S = some (l.map em, S)) (hl : l.length ≤ 16777216) (hs : ∀ x ∈ l, G2 (g (.d (em x)) (wipeR ρ vs) S) fun ρ2 S2 => S2 = S ∧ G2 (eD e ρ2 S) fun y S3 => y = va x ∧ S3 = S)
    (h : P (.new (.lst (l.map va))) S) : G2 (fLc ι g none e vs ρ S) P :=
  e_lc (.of hi (.of (comp_map (by simpa using hl) hs) h))
theorem e_lcFilt {ι : ItF} {vs : List Nat} {l : List α} {em va : α → D} {p : α → Bool} (hi : ι ρ S = some (l.map em, S)) (hl : l.length ≤ 16777216) (hs : ∀ x ∈ l, G2 (g (.d (em x)) (wipeR ρ vs) S) fun ρ2 S2 => S2 = S ∧ G2 (tst te ρ2 S) fun k S3 => k = p x ∧ S3 = S ∧ (p x = true → G2 (eD e ρ2 S) fun y S3 => y = va x ∧ S3 = S))
    (h : P (.new (.lst ((l.filter p).map va))) S) : G2 (fLc ι g (some te) e vs ρ S) P :=
  e_lc (.of hi (.of (comp_filt (by simpa using hl) hs) h))
theorem comp_inv {ds acc : List D} (I : List D → List D → Sto → Prop) (h0 : I ds acc S) (hs : ∀ d ds acc S, I (d :: ds) acc S → G2 (g (.d d) ρ S) fun ρ2 S2 => G2 (eD e ρ2 S2) fun x S4 => acc.length < sizeLine ∧ I ds (acc ++ [x]) S4)
    (hd : ∀ acc S, I [] acc S → Q acc S) : G2 (compF g none e ds acc ρ S) Q := by
  induction ds generalizing acc S with
  | nil => exact .some (hd _ _ h0)
  | cons d ds ih =>
    obtain ⟨ρ2, S2, e1, x, S3, e2, h1, h2⟩ := hs d ds acc S h0
    obtain ⟨xs, S4, e3, h⟩ := ih h2
    refine ⟨xs, S4, ?_, h⟩
    show (g (.d d) ρ S).bind _ = _
    rw [e1]
    simp only [Option.bind_some]
    show (eD e ρ2 S2).bind _ = _
    rw [e2]
    simp only [Option.bind_some]
    rw [if_pos h1]
    exact e3
theorem comp_invT {ds acc : List D} (I : List D → List D → Sto → Prop) (h0 : I ds acc S) (hs : ∀ d ds acc S, I (d :: ds) acc S → G2 (g (.d d) ρ S) fun ρ2 S2 => G2 (tst te ρ2 S2) fun k S3 => (k = true → G2 (eD e ρ2 S3) fun x S4 => acc.length < sizeLine ∧ I ds (acc ++ [x]) S4) ∧ (k = false → I ds acc S3))
    (hd : ∀ acc S, I [] acc S → Q acc S) : G2 (compF g (some te) e ds acc ρ S) Q := by
  induction ds generalizing acc S with
  | nil => exact .some (hd _ _ h0)
  | cons d ds ih =>
    obtain ⟨ρ2, S2, e1, k, S3, e2, h1, h2⟩ := hs d ds acc S h0
    cases k with
    | true =>
      obtain ⟨x, S4, e4, h3, h4⟩ := h1 rfl
      obtain ⟨xs, S5, e3, h⟩ := ih h4
      refine ⟨xs, S5, ?_, h⟩
      show (g (.d d) ρ S).bind _ = _
      rw [e1]
      simp only [Option.bind_some]
      rw [e2]
      simp only [Option.bind_some]
      rw [if_true, e4]
      simp only [Option.bind_some]
      rw [if_pos h3]
      exact e3
    | false =>
      obtain ⟨xs, S5, e3, h⟩ := ih (h2 rfl)
      refine ⟨xs, S5, ?_, h⟩
      show (g (.d d) ρ S).bind _ = _
      rw [e1]
      simp only [Option.bind_some]
      rw [e2]
      simp only [Option.bind_some]
      rw [if_neg Bool.false_ne_true]
      exact e3
/-- a dict of signs -/
theorem comp_dc {l : List Nat} {v : D} {acc : List (Key × D)} (hn : l.Nodup) (hl : acc.length + l.length ≤ 16777216) (ha : ∀ kv ∈ acc, ∀ x ∈ l, kv.1 ≠ .inr (tx [x]))
    (hs : ∀ x ∈ l, G2 (g (.d (lt x)) ρ S) fun ρ2 S2 => S2 = S ∧ G2 (eD fk ρ2 S) fun y S3 => y = lt x ∧ S3 = S ∧ G2 (eD fv ρ2 S) fun y S3 => y = v ∧ S3 = S) :
    ∃ kvs, compDF g fk fv (l.map lt) acc ρ S = some (kvs, S) ∧ kvs.length = acc.length + l.length := by
  induction l generalizing acc with
  | nil => exact ⟨acc, rfl, rfl⟩
  | cons d ds ih =>
    obtain ⟨ρ2, S2, e1, rfl, x, S3, e2, rfl, rfl, y, S4, e3, rfl, rfl⟩ := hs d List.mem_cons_self
    rw [List.nodup_cons] at hn
    rw [List.length_cons] at hl
    have hp : putKD acc (.inr (tx [d])) y = acc ++ [(.inr (tx [d]), y)] := by
      unfold putKD
      rw [if_neg]
      rw [List.any_eq_true]
      rintro ⟨kv, hk, e⟩
      exact ha kv hk d List.mem_cons_self (of_decide_eq_true e)
    obtain ⟨kvs, e4, e5⟩ := ih (acc := acc ++ [(.inr (tx [d]), y)]) hn.2 (by rw [List.length_append, List.length_singleton]; omega) (by
      intro kv hk x hx
      rcases List.mem_append.mp hk with hk | hk
      · exact ha kv hk x (List.mem_cons_of_mem _ hx)
      · rw [List.mem_singleton] at hk
        subst hk
        intro e
        have e : tx [d] = tx [x] := by injection e
        have : d = x := by simpa using tx_inj.mp e
        exact hn.1 (this ▸ hx)) fun d hd => hs d (List.mem_cons_of_mem _ hd)
    refine ⟨kvs, ?_, by rw [e5, List.length_append, List.length_singleton, List.length_cons]; omega⟩
    show (g (.d (lt d)) ρ S4).bind _ = _
    rw [e1]
    simp only [Option.bind_some]
    rw [e2]
    simp only [Option.bind_some]
    rw [e3]
    simp only [Option.bind_some]
    show (if acc.length < sizeLine then compDF g fk fv (ds.map lt) (putKD acc (.inr (tx [d])) y) ρ S4 else none) = _
    rw [if_pos (by rw [sizeLine_val]; omega), hp]
    exact e4
theorem e_dc {ι : ItF} {vs : List Nat} (h : G2 (ι ρ S) fun ds S => G2 (compDF g fk fv ds [] (wipeR ρ vs) S) fun kvs S => P (.new (.dct kvs)) S) : G2 (fDc ι g fk fv vs ρ S) P := by
  obtain ⟨ds, S1, e1, kvs, S2, e2, h⟩ := h
  exact ⟨_, _, by unfold fDc; rw [e1]; simp only [Option.bind_some]; rw [e2]; rfl, h⟩
theorem e_chain {o o' : Cop} (h : G2 (a ρ S) fun x S => G2 (b ρ S) fun y S => G1 (pk (Ev.settle x) S) fun dx => G1 (pk (Ev.settle y) S) fun dy => G1 (copD o dx dy) fun k =>
    (k = true → G2 (c ρ S) fun z S => G1 (pk (Ev.settle y) S) fun dy => G1 (pk (Ev.settle z) S) fun dz => G1 (copD o' dy dz) fun k => P (.val (.d (.bl k))) S) ∧ (k = false → P (.val (.d (.bl false))) S)) : G2 (fChain o o' a b c ρ S) P := by
  obtain ⟨x, S1, e1, y, S2, e2, dx, e3, dy, e4, k, e5, h1, h2⟩ := h
  unfold fChain eV
  rw [e1]
  simp only [Option.map_some, Option.bind_some]
  rw [e2]
  simp only [Option.map_some, Option.bind_some]
  rw [e3]
  simp only [Option.bind_some]
  rw [e4]
  simp only [Option.bind_some]
  rw [e5]
  simp only [Option.bind_some]
  cases k with
  | false => rw [if_neg Bool.false_ne_true]; exact .some (h2 rfl)
  | true =>
    obtain ⟨z, S3, e6, dy', e7, dz, e8, k', e9, h⟩ := h1 rfl
    rw [if_pos rfl, e6]
    simp only [Option.map_some, Option.bind_some]
    rw [e7]
    simp only [Option.bind_some]
    rw [e8]
    simp only [Option.bind_some]
    rw [e9]
    exact .some h
theorem bools_map {l : List α} {p : α → Bool} : boolsOf (l.map fun x => .bl (p x)) = some (l.map p) := by
  induction l with
  | nil => rfl
  | cons a l ih => rw [List.map_cons, List.map_cons]; show (boolsOf _).map _ = _; rw [ih]; rfl
theorem bi_all {l : List α} {p : α → Bool} : biD .all [.lst (l.map fun x => .bl (p x))] = some (.d (.bl (l.all p))) := by
  show (boolsOf _).map _ = _
  rw [bools_map]
  show some (O1.d (D.bl ((l.map p).all id))) = _
  rw [List.all_map]
  rfl
end
theorem i_str {ρ : Rho} {S : Sto} {i : Nat} {l : List Nat} (e : ρ[i]? = some (some (.d (.str (tx l))))) (hl : l.length ≤ 16777216) : iSeq (fVar i) ρ S = some (l.map lt, S) := by
  have h : G2 (iSeq (fVar i) ρ S) fun a b => a = l.map lt ∧ b = S := by
    refine i_seq' (e_eD (e_var e (toD_sv ?_)))
    refine .of (a := l.map lt) ?_ ⟨rfl, rfl⟩
    show (if (tx l).cps.size ≤ sizeLine then some (signs (tx l)) else none) = _
    rw [if_pos (by rw [tx_size, sizeLine_val]; exact hl)]
    rfl
  exact h.eq
theorem i_lst {ρ : Rho} {S : Sto} {i : Nat} {l : List D} (e : ρ[i]? = some (some (.d (.lst l)))) : iSeq (fVar i) ρ S = some (l, S) :=
  (i_seq' (e_eD (e_var e (toD_sv (.of rfl ⟨rfl, rfl⟩)))) : G2 (iSeq (fVar i) ρ S) fun a b => a = l ∧ b = S).eq
theorem i_tup {ρ : Rho} {S : Sto} {i : Nat} {l : List D} (e : ρ[i]? = some (some (.d (.tup l)))) : iSeq (fVar i) ρ S = some (l, S) :=
  (i_seq' (e_eD (e_var e (toD_sv (.of rfl ⟨rfl, rfl⟩)))) : G2 (iSeq (fVar i) ρ S) fun a b => a = l ∧ b = S).eq
end Ev
set_option Elab.async false
set_option linter.all false
set_option maxRecDepth 100000
/-! Own text: lists of integers as data; places in lists; ranges; stores. -/
namespace Ev
open PySem L2
theorem rgL_nat (n : Nat) : rgL 0 (n : Int) = (List.range n).map nt := by
  unfold rgL
  rw [show ((n : Int) - 0).toNat = n by omega]
  refine List.map_congr_left fun i _ => ?_
  rw [Int.zero_add]; rfl
theorem map_range {α β : Type} {m : List α} {d : α} {f : α → β} {n : Nat} (h : m.length = n) : (List.range n).map (fun k => f (m.getD k d)) = m.map f := by
  subst h
  apply List.ext_getElem
  · simp
  · intro i h1 h2
    simp at h1
    simp [List.getElem?_eq_getElem h1]
theorem enum_map {α : Type} {f : α → D} {m : List α} (i : Nat) : enumL i (m.map f) = (m.zipIdx i).map fun p => .tup [nt p.2, f p.1] := by
  induction m generalizing i with
  | nil => rfl
  | cons a m ih =>
    rw [List.map_cons, List.zipIdx_cons, List.map_cons, ← ih]
    rfl
theorem ix_tup' {α : Type} {f : α → D} {m : List α} {k : Nat} {i : Int} (e : i = (k : Int)) (hk : k < m.length) : idxD (.tup (m.map f)) (.int i) = some (f m[k]) := by
  subst e
  show atI (m.map f) (k : Int) = _
  rw [atI_nat rfl (by rw [List.length_map]; exact hk), List.getElem?_map, List.getElem?_eq_getElem hk]
  rfl
theorem ix_lst' {α : Type} {f : α → D} {m : List α} {k : Nat} {i : Int} (e : i = (k : Int)) (hk : k < m.length) : idxD (.lst (m.map f)) (.int i) = some (f m[k]) := by
  subst e
  show atI (m.map f) (k : Int) = _
  rw [atI_nat rfl (by rw [List.length_map]; exact hk), List.getElem?_map, List.getElem?_eq_getElem hk]
  rfl
theorem at_end {α : Type} (S : List α) (c : α) : (S ++ [c])[S.length]? = some c := by simp
theorem set_end {α : Type} (S : List α) (c c' : α) : (S ++ [c]).set S.length c' = S ++ [c'] := by simp
theorem take_full' {α : Type} {n : Nat} {S : List α} (h : S.length = n) : S.take n = S := h ▸ List.take_length
theorem ints_I (l : List Int) : intsOf (l.map .int) = some l := by
  induction l with
  | nil => rfl
  | cons a l ih => rw [List.map_cons]; show (intsOf (l.map .int)).map _ = _; rw [ih]; rfl
theorem bi_sumL (l : List Int) : biD .sum [.lst (l.map .int)] = some (.d (.int l.sum)) := by
  show (intsOf _).map _ = _
  rw [ints_I]; rfl
theorem bi_sumT (l : List Int) : biD .sum [.tup (l.map .int)] = some (.d (.int l.sum)) := by
  show (intsOf _).map _ = _
  rw [ints_I]; rfl
theorem toPs_I (l : List Int) : toPs (l.map .int) = some (l.map PyData.int) := by
  induction l with
  | nil => rfl
  | cons a l ih => rw [List.map_cons, List.map_cons]; show (match toP (.int a), toPs (l.map .int) with | some p, some ps => some (p :: ps) | _, _ => none) = _; rw [ih]; rfl
theorem lay_I (l : List Int) : PyData.canLayAll0 (l.map PyData.int) = true := by
  induction l with
  | nil => rfl
  | cons a l ih => rw [List.map_cons]; show (true && _) = true; rw [ih]; rfl
theorem dep_I (l : List Int) : PyData.depthAll (l.map PyData.int) = 0 := by
  induction l with
  | nil => rfl
  | cons a l ih => rw [List.map_cons]; show max 0 _ = 0; rw [ih]; rfl
theorem eqv_I (l m : List Int) : PyData.eqvAll (l.map PyData.int) (m.map PyData.int) = decide (l = m) := by
  induction l generalizing m with
  | nil => cases m <;> rfl
  | cons a l ih =>
    cases m with
    | nil => rfl
    | cons b m =>
      rw [List.map_cons, List.map_cons]
      show ((a == b) && _) = _
      rw [ih, Bool.eq_iff_iff]
      simp
theorem eq_tupI (l m : List Int) : eqD (.tup (l.map .int)) (.tup (m.map .int)) = some (decide (l = m)) := by
  show (match (toPs (l.map .int)).map PyData.tuple, (toPs (m.map .int)).map PyData.tuple with | some p, some q => if SeqAt.shaped p = true ∧ SeqAt.shaped q = true then some (PyData.eqv p q) else none | _, _ => none) = _
  rw [toPs_I, toPs_I]
  have hs : ∀ l : List Int, SeqAt.shaped (PyData.tuple (l.map PyData.int)) = true := by
    intro l
    show (PyData.canLayAll0 _ && decide (PyData.depthAll _ + 1 ≤ 64)) = true
    rw [lay_I, dep_I]; rfl
  show (if _ then some (PyData.eqvAll _ _) else none) = _
  rw [if_pos ⟨hs l, hs m⟩, eqv_I]
/-- a pair of tuples of integers -/
def pairI (l m : List Int) : D := .tup [.tup (l.map .int), .tup (m.map .int)]
theorem toP_pair (l m : List Int) : toP (pairI l m) = some (.tuple [.tuple (l.map .int), .tuple (m.map .int)]) := by
  have e : ∀ l : List Int, toP (.tup (l.map .int)) = some (.tuple (l.map .int)) := fun l => by
    show (toPs _).map PyData.tuple = _
    rw [toPs_I]; rfl
  show (match toP (.tup (l.map .int)), toPs [.tup (m.map .int)] with | some p, some ps => some (p :: ps) | _, _ => none).map PyData.tuple = _
  rw [e]
  show (match some (PyData.tuple (l.map .int)), (match toP (.tup (m.map .int)), toPs [] with | some p, some ps => some (p :: ps) | _, _ => none) with | some p, some ps => some (p :: ps) | _, _ => none).map PyData.tuple = _
  rw [e]
  rfl
theorem eq_pair (l m l' m' : List Int) : eqD (pairI l m) (pairI l' m') = some (decide (l = l' ∧ m = m')) := by
  show (match toP (pairI l m), toP (pairI l' m') with | some p, some q => if SeqAt.shaped p = true ∧ SeqAt.shaped q = true then some (PyData.eqv p q) else none | _, _ => none) = _
  rw [toP_pair, toP_pair]
  have hs : ∀ l m : List Int, SeqAt.shaped (PyData.tuple [.tuple (l.map .int), .tuple (m.map .int)]) = true := by
    intro l m
    show ((PyData.canLayAll0 (l.map .int) && (PyData.canLayAll0 (m.map .int) && true)) && decide (max (PyData.depthAll (l.map .int) + 1) (max (PyData.depthAll (m.map .int) + 1) 0) + 1 ≤ 64)) = true
    rw [lay_I, dep_I, lay_I, dep_I]; rfl
  show (if _ then some (PyData.eqvAll (l.map .int) (l'.map .int) && (PyData.eqvAll (m.map .int) (m'.map .int) && true)) else none) = _
  rw [if_pos ⟨hs l m, hs l' m'⟩, eqv_I, eqv_I, Bool.and_true, Bool.decide_and]
theorem seqOf_lst {xs : List D} : seqOf (.lst xs) = some xs := rfl
theorem bi_tup {xs : List D} : biD .tuple [.lst xs] = some (.d (.tup xs)) := rfl
theorem sq_nxG {s t : StF} {ρ : Rho} {S : Sto} {R : Flw → Rho → Sto → Prop} (I : Rho → Sto → Prop) (h : G3 (s ρ S) fun o ρ S => o = .nx ∧ I ρ S) (h2 : ∀ ρ S, I ρ S → G3 (t ρ S) R) : G3 (sSeq s t ρ S) R :=
  s_seq' (h.mono fun o ρ S ⟨e, hI⟩ => by subst e; exact sq_nx (h2 ρ S hI))
theorem items_tx {l : List Nat} (h : l.length ≤ 16777216) : itemsOf (.str (tx l)) = some (l.map lt) := by
  show (if (tx l).cps.size ≤ sizeLine then some (signs (tx l)) else none) = _
  rw [if_pos (by rw [tx_size, sizeLine_val]; exact h), tx_signs]
theorem zip_map {α β : Type} (f : α → D) (g : β → D) (l : List α) (m : List β) : zipL (l.map f) (m.map g) = (l.zip m).map fun p => .tup [f p.1, g p.2] := by
  induction l generalizing m with
  | nil => rfl
  | cons a l ih =>
    cases m with
    | nil => rfl
    | cons b m =>
      rw [List.map_cons, List.map_cons, List.zip_cons_cons, List.map_cons, ← ih]
      rfl
theorem bi_any {α : Type} {l : List α} {p : α → Bool} : biD .any [.lst (l.map fun x => .bl (p x))] = some (.d (.bl (l.any p))) := by
  show (boolsOf _).map _ = _
  rw [bools_map]
  show some (O1.d (D.bl ((l.map p).any id))) = _
  rw [List.any_map]
  rfl
theorem in_pair (p a b : Nat) : decide (p ∈ [a, b]) = decide (p = a ∨ p = b) := decide_eq_decide.mpr (by simp)
theorem lenF {α : Type} {l : List α} {p : α → Bool} {f : α → D} : ((l.filter p).map f).length = l.countP p := by rw [List.length_map, List.countP_eq_length_filter]
section
variable {ρ : Rho} {S : Sto} {fo fi fe : EvF} {R : Flw → Rho → Sto → Prop} {sub : Bool}
theorem s_aug' (h : G2 (fo ρ S) fun x S => G2 (fi ρ S) fun y S => ∃ i xs j a, Ev.settle x = .cell i ∧ S[i]? = some (.lst xs) ∧ Ev.settle y = .d (.int j) ∧ 0 ≤ j ∧ xs[j.toNat]? = some (.int a) ∧ G2 (fe ρ S) fun z S => ∃ c ys n, Ev.settle z = .d (.int c) ∧ S[i]? = some (.lst ys) ∧ ixN ys.length j = some n ∧ R .nx ρ (S.set i (.lst (ys.set n (.int (augI sub a c)))))) :
    G3 (sAugS sub fo fi fe ρ S) R := by
  obtain ⟨x, S1, e1, y, S2, e2, i, xs, j, a, e3, e4, e5, h0, e6, z, S3, e7, c, ys, n, e8, e9, e10, h⟩ := h
  refine ⟨_, _, _, ?_, h⟩
  unfold sAugS eV
  rw [e1]
  simp only [Option.map_some, Option.bind_some]
  rw [e2]
  simp only [Option.map_some, Option.bind_some]
  have e11 : atL (Ev.settle x) (Ev.settle y) S2 = some (j, .int a) := by
    unfold atL
    rw [e3, lstAt_of e4, e5]
    simp only [Option.bind_some]
    rw [if_pos h0, e6]; rfl
  rw [e11]
  simp only [Option.bind_some]
  rw [e7]
  simp only [Option.map_some, Option.bind_some]
  rw [e8]
  show (some (D.int (augI sub a c))).bind _ = _
  simp only [Option.bind_some]
  rw [e3, lstAt_of e9]
  simp only [Option.bind_some]
  rw [e10]
  rfl
theorem ixN_nat {n k : Nat} {i : Int} (e : i = (k : Int)) (h : k < n) : ixN n i = some k := by
  subst e
  unfold ixN
  rw [if_pos (by omega), if_pos (by omega)]
  rfl
theorem i_rngX {fn : FnF} {i : Nat} {nm : Str} {d : D} {n : Nat} (e : ρ[i]? = some (some (.d d))) (hl : lenD d = some n) (hn : n ≤ 1000000) (hi : ∀ c fs, d ≠ .ins c fs) : iRng1 (fLenO nm fn (fVar i)) ρ S = some ((List.range n).map nt, S) := by
  refine G2.eq ?_
  refine i_rng' (e_len (e_var e (pk_sv ⟨hi, .of hl ⟨_, rfl, ?_, ?_, rfl⟩⟩)))
  · unfold small62; omega
  · rw [rgL_nat]
end
/-! texts in lists -/
theorem strs_tx (hs : List (List Nat)) : strsOf (hs.map fun h => .str (tx h)) = some (hs.map tx) := by
  induction hs with
  | nil => rfl
  | cons a l ih => rw [List.map_cons, List.map_cons]; show (strsOf _).map _ = _; rw [ih]; rfl
theorem join_tx (hs : List (List Nat)) : Txt.join ⟨#[]⟩ (hs.map tx) = tx hs.flatten := by
  rw [show Txt.join ⟨#[]⟩ (hs.map tx) = Str.join ⟨#[]⟩ (hs.map tx) from StrLaws.glued_eq_join _ _]
  induction hs with
  | nil => rfl
  | cons a l ih =>
    cases l with
    | nil => show tx a = _; simp
    | cons b l =>
      rw [List.map_cons, List.map_cons]
      show tx a ++ tx [] ++ Str.join ⟨#[]⟩ (tx b :: l.map tx) = _
      rw [← List.map_cons, ih, tx_app, tx_app, List.append_nil, ← List.flatten_cons]
theorem sum_tx' (hs : List (List Nat)) : ((hs.map tx).map fun z : Str => z.length).sum = hs.flatten.length := by
  induction hs with
  | nil => rfl
  | cons a l ih => rw [List.map_cons, List.map_cons, List.sum_cons, ih, List.flatten_cons, List.length_append, tx_len]
theorem e_joinTx {b : EvF} {ρ : Rho} {S : Sto} {P : Res → Sto → Prop} (h : G2 (b ρ S) fun y S => G1 (pk (Ev.settle y) S) fun d => ∃ hs : List (List Nat), seqOf d = some (hs.map fun h => .str (tx h)) ∧ hs.flatten.length ≤ 16777216 ∧ P (.val (.d (.str (tx hs.flatten)))) S) : G2 (fJoin (fCst (.str "")) b ρ S) P := by
  obtain ⟨y, S1, e1, d, e2, hs, e3, hl, h⟩ := h
  refine e_join (e_eD (e_cst (toD_sv ⟨y, S1, e1, d, e2, _, _, _, rfl, e3, strs_tx hs, ?_, ?_⟩)))
  · have := sum_tx' hs
    rw [this]
    show hs.flatten.length + (hs.map tx).length * 0 ≤ _
    omega
  · rw [show Txt.join (Str.ofString "") (hs.map tx) = tx hs.flatten from join_tx hs]
    exact h
theorem eqF_tx (a b : List Nat) : eqF (.str (tx a)) (.str (tx b)) = decide (a = b) := decide_eq_decide.mpr tx_inj
theorem flat_tx (hs : List (List Nat)) : (hs.map fun h => D.str (tx h)).all flatD = true := by
  rw [List.all_map]; exact List.all_eq_true.mpr fun _ _ => rfl
theorem inL_tx {k : Bool} {a : List Nat} {hs : List (List Nat)} : inL k (.str (tx a)) (hs.map fun h => .str (tx h)) = some (decide (a ∈ hs)) := by
  unfold inL
  rw [if_pos ⟨rfl, flat_tx hs⟩, List.any_map]
  refine congrArg some (Bool.eq_iff_iff.mpr ?_)
  simp only [List.any_eq_true, Function.comp, eqF_tx, decide_eq_true_eq]
  exact ⟨fun ⟨x, hx, e⟩ => e ▸ hx, fun h => ⟨a, h, rfl⟩⟩
theorem nin_tx {a : List Nat} {hs : List (List Nat)} : copD .nin (.str (tx a)) (.lst (hs.map fun h => .str (tx h))) = some (!decide (a ∈ hs)) := by
  show (inL true _ _).map _ = _
  rw [inL_tx]; rfl
/-- texts sorted -/
theorem sort_tx (hs : List (List Nat)) : ∃ gs : List (List Nat), sortL (hs.map fun h => .str (tx h)) = some (gs.map fun h => .str (tx h)) ∧ gs.Perm hs := by
  cases hs with
  | nil => exact ⟨[], rfl, .refl _⟩
  | cons a l =>
    have hp := isort_perm (le := leS) ((a :: l).map tx)
    refine ⟨(isort leS ((a :: l).map tx)).map fun z => z.cps.toList, ?_, ?_⟩
    · unfold sortL
      rw [show intsOf ((a :: l).map fun h => D.str (tx h)) = none from rfl, strs_tx, List.map_map]
      show some ((isort leS _).map D.str) = _
      congr 2
    · have := hp.map fun z : Str => z.cps.toList
      rw [List.map_map] at this
      refine this.trans ?_
      have e : (a :: l).map ((fun z : Str => z.cps.toList) ∘ tx) = a :: l := (List.map_congr_left (g := id) fun i _ => rfl).trans (List.map_id _)
      rw [e]
theorem perm_of_map {α β : Type} {f : α → β} {m n : List β} (h : m.Perm n) : ∀ {l : List α}, n = l.map f → ∃ l' : List α, m = l'.map f ∧ l'.Perm l := by
  induction h with
  | nil => intro l e; exact ⟨l, e, .refl _⟩
  | cons x _ ih =>
    intro l e
    cases l with
    | nil => cases e
    | cons a l =>
      obtain ⟨e1, e2⟩ := List.cons.inj e
      obtain ⟨l', e3, h⟩ := ih e2
      exact ⟨a :: l', by rw [e1, e3]; rfl, h.cons a⟩
  | swap x y r =>
    intro l e
    match l, e with
    | a :: b :: l, e =>
      obtain ⟨e1, e2⟩ := List.cons.inj e
      obtain ⟨e3, e4⟩ := List.cons.inj e2
      exact ⟨b :: a :: l, by rw [e1, e3, e4]; rfl, List.Perm.swap a b l⟩
  | trans _ _ ih1 ih2 =>
    intro l e
    obtain ⟨l1, e1, h1⟩ := ih2 e
    obtain ⟨l2, e2, h2⟩ := ih1 e1
    exact ⟨l2, e2, h2.trans h1⟩
theorem cut_take {xs : List D} {n : Nat} {i : Int} (e : i = (n : Int)) (h : n ≤ xs.length) : cutD xs none (some i) = xs.take n := by
  subst e
  unfold cutD
  rw [HT.sIx_nat, Nat.min_eq_left h]
  show (xs.drop 0).take (n - 0) = _
  rw [List.drop_zero, Nat.sub_zero]
theorem cut_drop' {xs : List D} {j : Nat} {i : Int} (e : i = (j : Int)) (h : j ≤ xs.length) : cutD xs (some i) none = xs.drop j := by
  subst e
  unfold cutD
  rw [HT.sIx_nat, Nat.min_eq_left h]
  show (xs.drop j).take (xs.length - j) = _
  rw [← List.length_drop, List.take_length]
theorem rgL_from {a n : Nat} : rgL (a : Int) ((a + n : Nat) : Int) = (List.range n).map fun i => nt (a + i) := by
  unfold rgL
  rw [show (((a + n : Nat) : Int) - (a : Int)).toNat = n by omega]
  refine List.map_congr_left fun i _ => ?_
  show D.int _ = D.int _
  congr 1
theorem i_rng2' {f g : EvF} {ρ : Rho} {S : Sto} {L : List D → Sto → Prop} (h : G2 (f ρ S) fun x S => G2 (g ρ S) fun y S => ∃ a b, Ev.settle x = .d (.int a) ∧ Ev.settle y = .d (.int b) ∧ (small62 a ∧ small62 b) ∧ L (rgL a b) S) : G2 (iRng2 f g ρ S) L := by
  obtain ⟨x, S1, e1, y, S2, e2, a, b, e3, e4, hs, h⟩ := h
  refine ⟨_, _, ?_, h⟩
  unfold iRng2 eV
  rw [e1]
  simp only [Option.map_some, Option.bind_some]
  rw [e2]
  simp only [Option.map_some, Option.bind_some]
  rw [e3, e4]
  exact if_pos hs
end Ev
set_option Elab.async false
set_option linter.all false
set_option maxRecDepth 100000
set_option maxHeartbeats 400000
/-! Own text: repr, index in texts, three names at once. -/
namespace Ev
open PySem L2
section
variable {ρ : Rho} {S : Sto} {f g e : EvF} {P : Res → Sto → Prop} {R : Flw → Rho → Sto → Prop}
theorem e_repr (h : G2 (f ρ S) fun x S => G1 (pk (Ev.settle x) S) fun d => ∃ z, reprD d = some z ∧ P (.val (.d (.str z))) S) : G2 (fRepr f ρ S) P := by
  obtain ⟨x, S1, e1, d, e2, z, e3, h⟩ := h
  refine ⟨_, _, ?_, h⟩
  unfold fRepr one eV
  rw [e1]
  simp only [Option.map_some, Option.bind_some]
  rw [e2]
  simp only [Option.map_some, Option.bind_some]
  rw [e3]
  rfl
theorem e_sm {o : Sm} (h : G2 (f ρ S) fun x S => G2 (g ρ S) fun y S => ∃ a b d, Ev.settle x = .d (.str a) ∧ Ev.settle y = .d (.str b) ∧ smD o a b = some d ∧ P (.val (.d d)) S) : G2 (fSm o f g ρ S) P := by
  obtain ⟨x, S1, e1, y, S2, e2, a, b, d, e3, e4, e5, h⟩ := h
  refine ⟨_, _, ?_, h⟩
  unfold fSm eV
  rw [e1]
  simp only [Option.map_some, Option.bind_some]
  rw [e2]
  simp only [Option.map_some, Option.bind_some]
  rw [e3, e4]
  simp only
  rw [e5]
  rfl
theorem s_par3' {c1 c2 c3 : Bool} {i j l : Nat} (h : G2 (f ρ S) fun r S => G2 (g ρ (Ev.place c1 r S).2) fun r' S' => G2 (e ρ (Ev.place c2 r' S').2) fun r3 S3 => R .nx (((ρ.set i (some (Ev.place c1 r S).1)).set j (some (Ev.place c2 r' S').1)).set l (some (Ev.place c3 r3 S3).1)) (Ev.place c3 r3 S3).2) :
    G3 (sPar3 c1 c2 c3 f g e i j l ρ S) R := by
  obtain ⟨r, S1, e1, r', S2, e2, r3, S3, e3, h⟩ := h
  refine ⟨_, _, _, ?_, h⟩
  unfold sPar3 eA
  rw [e1]
  simp only [Option.map_some, Option.bind_some]
  rw [e2]
  simp only [Option.map_some, Option.bind_some]
  rw [e3]
  rfl
end
theorem shown_ints : ∀ {l : List Int}, (∀ x ∈ l, x.natAbs < 10 ^ 9) → ((PyData.shownAll (l.map PyData.int)).map (·.length)).sum ≤ 10 * l.length ∧ (PyData.shownAll (l.map PyData.int)).length = l.length ∧ PyData.showableAll (l.map PyData.int) = true
  | [], _ => ⟨Nat.le_refl _, rfl, rfl⟩
  | x :: l, h => by
    obtain ⟨h1, h2, h3⟩ := shown_ints (l := l) fun y hy => h y (List.mem_cons_of_mem _ hy)
    have hx := h x List.mem_cons_self
    have e := int_text_length_le10 (k := 9) (by omega) hx
    have e2 : (PyData.shown (.int x)).length ≤ 10 := by
      show (Str.ofString (toString x)).length ≤ 10
      rw [PySem.ofString_length]
      exact e
    refine ⟨?_, ?_, ?_⟩
    · show (PyData.shown (.int x)).length + ((PyData.shownAll (l.map PyData.int)).map (·.length)).sum ≤ 10 * (l.length + 1)
      omega
    · show (PyData.shownAll (l.map PyData.int)).length + 1 = l.length + 1
      omega
    · show (decide (x.natAbs.log2 < 1920) && PyData.showableAll (l.map PyData.int)) = true
      rw [h3, Bool.and_true, decide_eq_true]
      by_cases z : x.natAbs = 0
      · rw [z]; decide
      · have : x.natAbs.log2 < 30 := (Nat.log2_lt z).mpr (Nat.lt_of_lt_of_le hx (by decide))
        omega
theorem repr_pairs {l m : List Int} (h1 : l.length ≤ 4) (h2 : m.length ≤ 4) (b1 : ∀ x ∈ l, x.natAbs < 10 ^ 9) (b2 : ∀ x ∈ m, x.natAbs < 10 ^ 9) : ∃ z, reprD (.lst [pairI l m, pairI l m]) = some z := by
  obtain ⟨a1, a2, a3⟩ := shown_ints b1
  obtain ⟨c1, c2, c3⟩ := shown_ints b2
  have e : toP (.lst [pairI l m, pairI l m]) = some (.list [.tuple [.tuple (l.map .int), .tuple (m.map .int)], .tuple [.tuple (l.map .int), .tuple (m.map .int)]]) := by
    show (match toP (pairI l m), (match toP (pairI l m), toPs [] with | some p, some ps => some (p :: ps) | _, _ => none) with | some p, some ps => some (p :: ps) | _, _ => none).map PyData.list = _
    rw [toP_pair]; rfl
  have t1 := tupleText_len_le (PyData.shownAll (l.map PyData.int))
  have t2 := tupleText_len_le (PyData.shownAll (m.map PyData.int))
  have t3 := tupleText_len_le [tupleText (PyData.shownAll (l.map PyData.int)), tupleText (PyData.shownAll (m.map PyData.int))]
  have t4 := listText_len_le [tupleText [tupleText (PyData.shownAll (l.map PyData.int)), tupleText (PyData.shownAll (m.map PyData.int))], tupleText [tupleText (PyData.shownAll (l.map PyData.int)), tupleText (PyData.shownAll (m.map PyData.int))]]
  simp only [List.map_cons, List.map_nil, List.sum_cons, List.sum_nil, List.length_cons, List.length_nil] at t3 t4
  refine ⟨PyData.shown (.list [.tuple [.tuple (l.map .int), .tuple (m.map .int)], .tuple [.tuple (l.map .int), .tuple (m.map .int)]]), ?_⟩
  unfold reprD
  rw [e, Option.bind_some]
  refine if_pos ⟨?_, ?_, ?_⟩
  · show ((PyData.showableAll (l.map PyData.int) && (PyData.showableAll (m.map PyData.int) && true)) && ((PyData.showableAll (l.map PyData.int) && (PyData.showableAll (m.map PyData.int) && true)) && true)) = true
    rw [a3, c3]; rfl
  · rw [sizeLine_val]
    refine Nat.le_trans t4 ?_
    omega
  · have e1 := dep_I l
    have e2 := dep_I m
    show max (max (PyData.depthAll (l.map .int) + 1) (max (PyData.depthAll (m.map .int) + 1) 0) + 1) (max (max (PyData.depthAll (l.map .int) + 1) (max (PyData.depthAll (m.map .int) + 1) 0) + 1) 0) + 1 ≤ 60
    rw [e1, e2]; decide
def subs : List Nat → List (List Nat)
  | [] => [[]]
  | a :: l => subs l ++ (subs l).map (a :: ·)
theorem nil_subs : ∀ l : List Nat, [] ∈ subs l
  | [] => List.mem_singleton.mpr rfl
  | _ :: l => List.mem_append_left _ (nil_subs l)
theorem mem_subs : ∀ {l ps : List Nat}, l.Pairwise (· < ·) → ps.Pairwise (· < ·) → (∀ p ∈ ps, p ∈ l) → ps ∈ subs l
  | l, [], _, _, _ => nil_subs l
  | [], p :: _, _, _, h => nomatch h p List.mem_cons_self
  | a :: l, p :: ps, hl, hp, h => by
    rw [List.pairwise_cons] at hl hp
    by_cases e : p = a
    · subst e
      refine List.mem_append_right _ (List.mem_map.mpr ⟨ps, mem_subs hl.2 hp.2 fun q hq => ?_, rfl⟩)
      have h1 := hp.1 q hq
      rcases List.mem_cons.mp (h q (List.mem_cons_of_mem _ hq)) with rfl | h2
      · omega
      · exact h2
    · refine List.mem_append_left _ (mem_subs hl.2 (List.pairwise_cons.mpr hp) fun q hq => ?_)
      have hp' : p ∈ l := by
        rcases List.mem_cons.mp (h p List.mem_cons_self) with h2 | h2
        · exact absurd h2 e
        · exact h2
      have ha := hl.1 p hp'
      rcases List.mem_cons.mp (h q hq) with rfl | h2
      · rcases List.mem_cons.mp hq with rfl | hq
        · exact absurd rfl e
        · have := hp.1 q hq; omega
      · exact h2
theorem occ_dec : ((subs [97, 98, 99, 100, 101, 102, 103, 104]).all fun ps => decide (4 < ps.length) || (List.range ps.length).all fun k => Builtin.Str.occurrences (tx ps) (tx [ps.getD k 0]) 0 (tx ps).length 1 == [k]) = true := by
  decide +kernel
theorem index_ok {ps : List Nat} {k : Nat} (h1 : ps.Pairwise (· < ·)) (h2 : ∀ p ∈ ps, p ∈ [97, 98, 99, 100, 101, 102, 103, 104]) (h4 : ps.length ≤ 4) (hk : k < ps.length) : smD .index (tx ps) (tx [ps.getD k 0]) = some (.int (k : Nat)) := by
  have h := List.all_eq_true.mp occ_dec ps (mem_subs (by decide) h1 h2)
  rw [decide_eq_false (by omega), Bool.false_or] at h
  have h := eq_of_beq (List.all_eq_true.mp h k (List.mem_range.mpr hk))
  unfold smD
  simp only
  rw [h]
end Ev
set_option Elab.async false
set_option linter.all false
set_option maxRecDepth 100000
set_option maxHeartbeats 400000
/-! Own text: steps for rows of numbers, insert, dicts, sorted tuples, counted texts. -/
namespace Ev
open PySem L2
section
variable {ρ : Rho} {S : Sto} {f g e a : EvF} {P : Res → Sto → Prop} {R : Flw → Rho → Sto → Prop}
theorem e_rgX {tup : Bool} (h : G2 (a ρ S) fun x S => ∃ n : Nat, Ev.settle x = .d (.int (n : Int)) ∧ n ≤ 16777216 ∧ P (if tup then .val (.d (.tup ((List.range n).map nt))) else .new (.lst ((List.range n).map nt))) S) : G2 (fRgX tup a ρ S) P := by
  obtain ⟨x, S1, e1, n, e2, hn, h⟩ := h
  refine ⟨_, _, ?_, h⟩
  unfold fRgX eV
  rw [e1]
  simp only [Option.map_some, Option.bind_some]
  rw [e2]
  simp only
  rw [if_pos ⟨by omega, by omega⟩, rgL_nat]
theorem e_ins (h : G2 (f ρ S) fun x S => ∃ i xs0, Ev.settle x = .cell i ∧ S[i]? = some (.lst xs0) ∧ G2 (g ρ S) fun y S => G2 (eD e ρ S) fun d S => ∃ xs j, S[i]? = some (.lst xs) ∧ Ev.settle y = .d (.int j) ∧ xs.length < sizeLine ∧ 0 ≤ j ∧ j < 2 ^ 63 ∧ P (.val (.d .non)) (S.set i (.lst (xs.take j.toNat ++ [d] ++ xs.drop j.toNat)))) : G2 (fIns f g e ρ S) P := by
  obtain ⟨x, S1, e1, i, xs0, e2, e3, y, S2, e4, d, S3, e5, xs, j, e6, e7, h1, h2, h3, h⟩ := h
  refine ⟨_, _, ?_, h⟩
  unfold fIns eV
  rw [e1]
  simp only [Option.map_some, Option.bind_some]
  rw [e2]
  have l1 : lstAt (.cell i) S1 = some (i, xs0) := by unfold lstAt; simp only; rw [e3]
  rw [l1]
  simp only [Option.bind_some]
  rw [e4]
  simp only [Option.map_some, Option.bind_some]
  rw [e5]
  simp only [Option.bind_some]
  have l2 : lstAt (.cell i) S3 = some (i, xs) := by unfold lstAt; simp only; rw [e6]
  rw [l2]
  simp only [Option.bind_some]
  rw [e7]
  simp only
  rw [if_pos ⟨h1, h2, h3⟩]
theorem e_dget (h : G2 (f ρ S) fun x S => G2 (g ρ S) fun y S => ∃ kvs dy k d, pk (Ev.settle x) S = some (.dct kvs) ∧ Ev.settle y = .d dy ∧ keyD dy = some k ∧ valD kvs k = some d ∧ P (.val (.d d)) S) : G2 (fDGet f g ρ S) P := by
  obtain ⟨x, S1, e1, y, S2, e2, kvs, dy, k, d, e3, e4, e5, e6, h⟩ := h
  refine ⟨_, _, ?_, h⟩
  unfold fDGet eV
  rw [e1]
  simp only [Option.map_some, Option.bind_some]
  rw [e2]
  simp only [Option.map_some, Option.bind_some]
  rw [e3]
  simp only [Option.bind_some]
  rw [e4]
  simp only
  rw [e5]
  simp only [Option.bind_some]
  rw [e6]
  rfl
theorem s_dput' (h : G2 (eD e ρ S) fun d S => G2 (f ρ S) fun x S => G2 (g ρ S) fun y S => ∃ i kvs dy k, Ev.settle x = .cell i ∧ S[i]? = some (.dct kvs) ∧ Ev.settle y = .d dy ∧ keyD dy = some k ∧ kvs.length < sizeLine ∧ R .nx ρ (S.set i (.dct (putD2 kvs k d)))) : G3 (sDPut2 f g e ρ S) R := by
  obtain ⟨d, S1, e1, x, S2, e2, y, S3, e3, i, kvs, dy, k, e4, e5, e6, e7, hl, h⟩ := h
  refine ⟨_, _, _, ?_, h⟩
  unfold sDPut2 eV
  rw [e1]
  simp only [Option.bind_some]
  rw [e2]
  simp only [Option.map_some, Option.bind_some]
  rw [e3]
  simp only [Option.map_some, Option.bind_some]
  rw [e4]
  have l : dctAt (.cell i) S3 = some (i, kvs) := by unfold dctAt; simp only; rw [e5]
  rw [l]
  simp only [Option.bind_some]
  rw [e6]
  simp only
  rw [e7]
  simp only [Option.bind_some]
  rw [if_pos hl]
theorem e_dictP (h : G2 (a ρ S) fun x S => ∃ ds kvs, pk (Ev.settle x) S = some (.lst ds) ∧ pairsD ds = some kvs ∧ P (.new (.dct (mergeD [] kvs))) S) : G2 (fDictP a ρ S) P := by
  obtain ⟨x, S1, e1, ds, kvs, e2, e3, h⟩ := h
  refine ⟨_, _, ?_, h⟩
  unfold fDictP eV
  rw [e1]
  simp only [Option.map_some, Option.bind_some]
  rw [e2]
  simp only [Option.bind_some]
  rw [e3]
  rfl
theorem e_lenSet (h : G2 (a ρ S) fun x S => ∃ ds xs, pk (Ev.settle x) S = some (.lst ds) ∧ strsOf ds = some xs ∧ xs.length < 64 ∧ P (.val (.d (.int (cntS xs xs.length : Nat)))) S) : G2 (fLenSet a ρ S) P := by
  obtain ⟨x, S1, e1, ds, xs, e2, e3, hl, h⟩ := h
  refine ⟨_, _, ?_, h⟩
  unfold fLenSet eV
  rw [e1]
  simp only [Option.map_some, Option.bind_some]
  rw [e2]
  simp only [Option.bind_some]
  rw [e3]
  simp only [Option.bind_some]
  rw [if_pos hl]
theorem e_sortT (h : G2 (a ρ S) fun x S => ∃ ds out, pk (Ev.settle x) S = some (.lst ds) ∧ tupsD ds = some out ∧ P (.new (.lst out)) S) : G2 (fSortT a ρ S) P := by
  obtain ⟨x, S1, e1, ds, out, e2, e3, h⟩ := h
  refine ⟨_, _, ?_, h⟩
  unfold fSortT one eV
  rw [e1]
  simp only [Option.map_some, Option.bind_some]
  rw [e2]
  simp only [Option.map_some, Option.bind_some]
  rw [e3]
  rfl
end
theorem st2 {f : FnF} {xs xs' : List Val} {S S' : Sto} {R : Res → Sto → Prop} (e1 : xs = xs') (e : S = S') (h : G2 (f xs' S') R) : G2 (f xs S) R := by rw [e1, e]; exact h
theorem st3 {s : StF} {ρ ρ' : Rho} {S S' : Sto} {R : Flw → Rho → Sto → Prop} (e1 : ρ = ρ') (e : S = S') (h : G3 (s ρ' S') R) : G3 (s ρ S) R := by rw [e1, e]; exact h
end Ev
set_option Elab.async false
set_option linter.all false
set_option maxRecDepth 100000
set_option maxHeartbeats 400000
/-! Own text: steps for lists of lists that change, several places at once. -/
namespace Ev
open PySem L2
section
variable {ρ : Rho} {S : Sto} {f g e a b : EvF} {tg : TgF} {P : Res → Sto → Prop} {R : Flw → Rho → Sto → Prop} {T : Rho → Sto → Prop}
/-- rows as cells -/
def rowsC (xss : List (List D)) : Sto := xss.map Cell.lst
theorem comp_grd {xs : List D} {ds : List D} {acc : List Nat} (hl : acc.length + ds.length ≤ sizeLine) (hs : ∀ d ∈ ds, ∀ S2, G2 (tg (.d d) ρ S2) fun ρ2 S3 => S3 = S2 ∧ G2 (e ρ2 S2) fun r S4 => r = .new (.lst xs) ∧ S4 = S2) :
    compG tg e ds acc ρ S = some (acc ++ List.range' S.length ds.length, S ++ List.replicate ds.length (.lst xs)) := by
  induction ds generalizing acc S with
  | nil => simp [compG]
  | cons d ds ih =>
    obtain ⟨ρ2, S2, e1, rfl, r, S4, e2, rfl, rfl⟩ := hs d List.mem_cons_self S
    rw [List.length_cons] at hl
    show (tg (.d d) ρ S4).bind _ = _
    rw [e1]
    simp only [Option.bind_some]
    unfold eA
    rw [e2]
    show (if acc.length < sizeLine then _ else none) = _
    rw [if_pos (by omega)]
    show compG tg e ds (acc ++ [S4.length]) ρ (S4 ++ [.lst xs]) = _
    rw [ih (by rw [List.length_append, List.length_singleton]; omega) fun d hd => hs d (List.mem_cons_of_mem _ hd)]
    rw [List.length_append, List.length_singleton, List.length_cons, List.range'_succ, List.replicate_succ]
    simp
theorem e_grd {ι : ItF} {vs : List Nat} {xs : List D} (h : G2 (ι ρ S) fun ds S1 => ds.length ≤ sizeLine ∧ (∀ d ∈ ds, ∀ S2, G2 (tg (.d d) (wipeR ρ vs) S2) fun ρ2 S3 => S3 = S2 ∧ G2 (e ρ2 S2) fun r S4 => r = .new (.lst xs) ∧ S4 = S2) ∧
    P (.val (.grd (List.range' S1.length ds.length))) (S1 ++ List.replicate ds.length (.lst xs))) : G2 (fGrd ι tg e vs ρ S) P := by
  obtain ⟨ds, S1, e1, hl, hs, h⟩ := h
  refine ⟨_, _, ?_, h⟩
  unfold fGrd
  rw [e1]
  simp only [Option.bind_some]
  rw [comp_grd (acc := []) (by simpa using hl) hs]
  rfl
theorem e_gix (h : G2 (a ρ S) fun x S => G2 (b ρ S) fun y S => ∃ ks i k, Ev.settle x = .grd ks ∧ Ev.settle y = .d (.int i) ∧ atI ks i = some k ∧ P (.val (.cell k)) S) : G2 (fGIx a b ρ S) P := by
  obtain ⟨x, S1, e1, y, S2, e2, ks, i, k, e3, e4, e5, h⟩ := h
  refine ⟨_, _, ?_, h⟩
  unfold fGIx eV
  rw [e1]
  simp only [Option.map_some, Option.bind_some]
  rw [e2]
  simp only [Option.map_some, Option.bind_some]
  rw [e3, e4]
  simp only
  rw [e5]
  rfl
theorem at_range' {n m i : Nat} {j : Int} (e : j = (i : Int)) (h : i < m) : atI (List.range' n m) j = some (n + i) := by
  rw [atI_nat e (by rw [List.length_range']; exact h), List.getElem?_range' h, Nat.one_mul]
theorem cells_range' : ∀ {cs : List Cell} {S : Sto}, cellsAt (List.range' S.length cs.length) (S ++ cs) = some cs
  | [], _ => rfl
  | c :: cs, S => by
    rw [List.length_cons, List.range'_succ]
    show ((S ++ c :: cs)[S.length]?).bind _ = _
    rw [List.getElem?_append_right (Nat.le_refl _), Nat.sub_self]
    have := cells_range' (cs := cs) (S := S ++ [c])
    rw [List.length_append, List.length_singleton, List.append_assoc, List.singleton_append] at this
    show (cellsAt (List.range' (S.length + 1) cs.length) (S ++ c :: cs)).map _ = _
    rw [this]
    rfl
theorem trunc_g {cs : List Cell} {n : Nat} (hn : n = cs.length) (h : P (.val (.grd (List.range' S.length n))) (S ++ cs)) : G2 (trunc S.length (.val (.grd (List.range' S.length n))) (S ++ cs)) P := by
  subst hn
  refine .of ?_ h
  show (if (List.range' S.length cs.length).all (fun j => decide (S.length ≤ j)) = true ∧ (List.range' S.length cs.length).Nodup then (cellsAt (List.range' S.length cs.length) (S ++ cs)).map fun c => (Res.val (.grd (List.range' S.length (List.range' S.length cs.length).length)), (S ++ cs).take S.length ++ c) else none) = _
  rw [if_pos ⟨List.all_eq_true.mpr fun j hj => decide_eq_true (by rw [List.mem_range'] at hj; omega), List.nodup_range'⟩, cells_range', List.length_range', List.take_left' rfl]
  rfl
theorem frz_range' : ∀ {xss : List (List D)} {S : Sto}, frzs (List.range' S.length xss.length) (S ++ rowsC xss) = some (xss.map D.lst, S ++ xss.map fun xs => .frz (.lst xs))
  | [], S => rfl
  | xs :: xss, S => by
    rw [List.length_cons, List.range'_succ]
    have e1 : (S ++ rowsC (xs :: xss))[S.length]? = some (.lst xs) := by
      rw [List.getElem?_append_right (Nat.le_refl _), Nat.sub_self]; rfl
    have e2 : (S ++ rowsC (xs :: xss)).set S.length (.frz (.lst xs)) = (S ++ [.frz (.lst xs)]) ++ rowsC xss := by
      rw [List.set_append_right _ _ (Nat.le_refl _), Nat.sub_self, List.append_assoc]; rfl
    have ih := frz_range' (xss := xss) (S := S ++ [.frz (.lst xs)])
    rw [List.length_append, List.length_singleton] at ih
    show (match (S ++ rowsC (xs :: xss))[S.length]? with
      | some c => some (c.toD, (S ++ rowsC (xs :: xss)).set S.length (.frz c.toD))
      | none => none : Option (D × Sto)).bind _ = _
    rw [e1]
    show (frzs (List.range' (S.length + 1) xss.length) ((S ++ rowsC (xs :: xss)).set S.length (.frz (.lst xs)))).map _ = _
    rw [e2, ih]
    simp
theorem toD_g {xss : List (List D)} {n : Nat} {PD : D → Sto → Prop} (hn : n = xss.length) (h : PD (.lst (xss.map D.lst)) (S ++ xss.map fun xs => .frz (.lst xs))) : G2 (toD (Ev.settle (.val (.grd (List.range' S.length n)))) (S ++ rowsC xss)) PD := by
  subst hn
  refine .of ?_ h
  show (frzs (List.range' S.length xss.length) (S ++ rowsC xss)).map _ = _
  rw [frz_range']
  rfl
/-- several places at once -/
theorem s_parN' {fs : List (Bool × EvF)} {gs : List TgF} (h : G2 (evas fs ρ S) fun vs S => G2 (gEachV gs vs ρ S) fun ρ S => R .nx ρ S) : G3 (sParN fs gs ρ S) R := by
  obtain ⟨vs, S1, e1, ρ2, S2, e2, h⟩ := h
  refine ⟨_, _, _, ?_, h⟩
  unfold sParN
  rw [e1]
  simp only [Option.bind_some]
  rw [e2]
  rfl
theorem g_eachV_nil (h : T ρ S) : G2 (gEachV [] [] ρ S) T := .some h
theorem g_eachV_cons {gs : List TgF} {v : Val} {vs : List Val} (h : G2 (tg v ρ S) fun ρ S => G2 (gEachV gs vs ρ S) T) : G2 (gEachV (tg :: gs) (v :: vs) ρ S) T := by
  obtain ⟨ρ1, S1, e1, ρ2, S2, e2, h⟩ := h
  exact ⟨ρ2, S2, by show (tg v ρ S).bind _ = _; rw [e1]; exact e2, h⟩
end
/-! tables of numbers -/
def tabL (a b : Nat) (f : Nat → Nat → Nat) : List (List D) := (List.range a).map fun i => (List.range b).map fun j => nt (f i j)
theorem tabL_len {a b : Nat} {f : Nat → Nat → Nat} : (tabL a b f).length = a := by unfold tabL; simp
theorem tab_get {a b : Nat} {f : Nat → Nat → Nat} {S : Sto} {i : Nat} (h : i < a) : (S ++ rowsC (tabL a b f))[S.length + i]? = some (.lst ((List.range b).map fun j => nt (f i j))) := by
  rw [List.getElem?_append_right (by omega), Nat.add_sub_cancel_left]
  unfold rowsC tabL
  rw [List.getElem?_map, List.getElem?_map, List.getElem?_range h]
  rfl
theorem tab_set {a b : Nat} {f : Nat → Nat → Nat} {S : Sto} {i j : Nat} {v : Nat} (h : i < a) (hj : j < b) (hv : v = f i j + 1) :
    (S ++ rowsC (tabL a b f)).set (S.length + i) (.lst (((List.range b).map fun j => nt (f i j)).set j (nt v))) = S ++ rowsC (tabL a b fun x y => f x y + if x = i ∧ y = j then 1 else 0) := by
  subst hv
  rw [List.set_append_right _ _ (by omega), Nat.add_sub_cancel_left]
  congr 1
  refine List.ext_getElem? fun x => ?_
  unfold rowsC tabL
  rw [List.getElem?_set]
  simp only [List.length_map, List.length_range, List.getElem?_map]
  by_cases hx : x < a
  · rw [List.getElem?_range hx]
    by_cases e : i = x
    · subst e
      rw [if_pos rfl, if_pos h]
      simp only [Option.map_some]
      congr 2
      refine List.ext_getElem? fun y => ?_
      rw [List.getElem?_set]
      simp only [List.length_map, List.length_range, List.getElem?_map]
      by_cases hy : y < b
      · rw [List.getElem?_range hy]
        by_cases e2 : j = y
        · subst e2; rw [if_pos rfl, if_pos hj]; simp
        · rw [if_neg e2]; simp [show ¬ y = j from fun z => e2 z.symm]
      · rw [List.getElem?_eq_none (by simp; omega), if_neg (by omega)]; rfl
    · rw [if_neg e]
      simp [show ¬ x = i from fun z => e z.symm]
  · rw [List.getElem?_eq_none (by simp; omega), if_neg (by omega)]; rfl
end Ev
open PySem L2 Ev
local macro_rules | `(tactic| fail "evp") => `(tactic| repeat (first
  | (with_reducible refine s_parN' ?_)
  | (with_reducible refine g_eachV_nil ?_)
  | (with_reducible refine g_eachV_cons ?_)
  | fail "evo1"))
namespace Ev
open PySem L2
end Ev
set_option Elab.async false
set_option linter.all false
set_option maxRecDepth 100000
set_option maxHeartbeats 400000
/-! Own text: steps for locked dicts. -/
namespace Ev
open PySem L2
section
variable {ρ : Rho} {S : Sto} {f g e a b fk fv : EvF} {tg : TgF} {P : Res → Sto → Prop} {R : Flw → Rho → Sto → Prop} {L : List D → Sto → Prop}
theorem e_dgetL (h : G2 (f ρ S) fun x S => G2 (g ρ S) fun y S => ∃ kvs dy k d, pk (Ev.settle x) S = some (.dcl kvs) ∧ Ev.settle y = .d dy ∧ keyD dy = some k ∧ valD kvs k = some d ∧ P (.val (.d d)) S) : G2 (fDGet f g ρ S) P := by
  obtain ⟨x, S1, e1, y, S2, e2, kvs, dy, k, d, e3, e4, e5, e6, h⟩ := h
  refine ⟨_, _, ?_, h⟩
  unfold fDGet eV
  rw [e1]
  simp only [Option.map_some, Option.bind_some]
  rw [e2]
  simp only [Option.map_some, Option.bind_some]
  rw [e3]
  simp only [Option.bind_some]
  rw [e4]
  simp only
  rw [e5]
  simp only [Option.bind_some]
  rw [e6]
  rfl
theorem e_lk (h : G2 (f ρ S) fun r S => ∃ kvs, r = .new (.dct kvs) ∧ P (.val (.d (.dcl kvs))) S) : G2 (fLk f ρ S) P := by
  obtain ⟨r, S1, e1, kvs, rfl, h⟩ := h
  refine ⟨_, _, ?_, h⟩
  unfold fLk
  rw [e1]
  rfl
theorem i_itm (h : G2 (f ρ S) fun r S => ∃ kvs, r = .val (.d (.dcl kvs)) ∧ L (itemsK kvs) S) : G2 (iItm f ρ S) L := by
  obtain ⟨r, S1, e1, kvs, rfl, h⟩ := h
  refine ⟨_, _, ?_, h⟩
  unfold iItm eD eV
  rw [e1]
  rfl
theorem comp_dcG {α : Type} {l : List α} {em va : α → D} {ke : α → Key} {acc : List (Key × D)} (hn : (acc.map (·.1) ++ l.map ke).Nodup) (hl : acc.length + l.length ≤ 16777216)
    (hs : ∀ x ∈ l, G2 (tg (.d (em x)) ρ S) fun ρ2 S2 => S2 = S ∧ G2 (eD fk ρ2 S) fun y S3 => keyD y = some (ke x) ∧ S3 = S ∧ G2 (eD fv ρ2 S) fun y S3 => y = va x ∧ S3 = S) :
    compDF tg fk fv (l.map em) acc ρ S = some (acc ++ l.map (fun x => (ke x, va x)), S) := by
  induction l generalizing acc with
  | nil => simp [compDF]
  | cons d ds ih =>
    obtain ⟨ρ2, S2, e1, rfl, x, S3, e2, hk, rfl, y, S4, e3, rfl, rfl⟩ := hs d List.mem_cons_self
    rw [List.length_cons] at hl
    have hp : putKD acc (ke d) (va d) = acc ++ [(ke d, va d)] := by
      unfold putKD
      rw [if_neg]
      rw [List.any_eq_true]
      rintro ⟨kv, hkv, e⟩
      have e := of_decide_eq_true e
      exact (List.nodup_append.mp hn).2.2 kv.1 (List.mem_map_of_mem hkv) (ke d) (by simp) e
    have ih := ih (acc := acc ++ [(ke d, va d)]) (by simpa using hn) (by rw [List.length_append, List.length_singleton]; omega) fun d hd => hs d (List.mem_cons_of_mem _ hd)
    show (tg (.d (em d)) ρ S4).bind _ = _
    rw [e1]
    simp only [Option.bind_some]
    rw [e2]
    simp only [Option.bind_some]
    rw [e3]
    simp only [Option.bind_some]
    rw [hk]
    show (if acc.length < sizeLine then compDF tg fk fv (ds.map em) (putKD acc (ke d) (va d)) ρ S4 else none) = _
    rw [if_pos (by rw [sizeLine_val]; omega), hp, ih]
    simp
theorem e_dcG {α : Type} {ι : ItF} {vs : List Nat} {l : List α} {em va : α → D} {ke : α → Key} (hn : (l.map ke).Nodup) (hl : l.length ≤ 16777216) (hi : G2 (ι ρ S) fun ds S' => ds = l.map em ∧ S' = S)
    (hs : ∀ x ∈ l, G2 (tg (.d (em x)) (wipeR ρ vs) S) fun ρ2 S2 => S2 = S ∧ G2 (eD fk ρ2 S) fun y S3 => keyD y = some (ke x) ∧ S3 = S ∧ G2 (eD fv ρ2 S) fun y S3 => y = va x ∧ S3 = S)
    (h : P (.new (.dct (l.map fun x => (ke x, va x)))) S) : G2 (fDc ι tg fk fv vs ρ S) P := by
  obtain ⟨ds, S1, e1, rfl, rfl⟩ := hi
  refine ⟨_, _, ?_, h⟩
  unfold fDc
  rw [e1]
  simp only [Option.bind_some]
  rw [comp_dcG (acc := []) (by simpa using hn) (by simpa using hl) hs]
  rfl
end
theorem sort_two (a b : Nat) : sortL [lt a, lt b] = some [lt (min a b), lt (max a b)] := by
  obtain ⟨m, e, hp, hs⟩ := sort_lt [a, b]
  have e : sortL [lt a, lt b] = some (m.map lt) := e
  rw [e]
  have hl := hp.length_eq
  match m, hl with
  | [x, y], _ =>
    have hx : x ∈ [a, b] := hp.mem_iff.mp (by simp)
    have hy : y ∈ [a, b] := hp.mem_iff.mp (by simp)
    have ha : a ∈ [x, y] := hp.mem_iff.mpr (by simp)
    have hb : b ∈ [x, y] := hp.mem_iff.mpr (by simp)
    have hxy : a ≠ b → x < y := fun ne => by
      have := hs (by simp [ne])
      simpa using this
    simp at hx hy ha hb
    show some [lt x, lt y] = some [lt (min a b), lt (max a b)]
    have h1 : x = min a b := by omega
    have h2 : y = max a b := by omega
    rw [h1, h2]
end Ev
set_option Elab.async false
set_option linter.all false
/-! Own text: what ties join, in plain terms: labels, ranks, exchanges. -/
namespace Gr
/-- joined by ties -/
inductive Cn (ts : List (Nat × Nat)) : Nat → Nat → Prop
  | refl (p : Nat) : Cn ts p p
  | fwd {p q r : Nat} : Cn ts p q → (q, r) ∈ ts → Cn ts p r
  | bwd {p q r : Nat} : Cn ts p q → (r, q) ∈ ts → Cn ts p r
variable {ts us : List (Nat × Nat)} {p q r a b : Nat}
theorem Cn.trans (h1 : Cn ts p q) (h2 : Cn ts q r) : Cn ts p r := by
  induction h2 with
  | refl => exact h1
  | fwd _ m ih => exact .fwd ih m
  | bwd _ m ih => exact .bwd ih m
theorem Cn.symm (h : Cn ts p q) : Cn ts q p := by
  induction h with
  | refl => exact .refl _
  | fwd _ m ih => exact Cn.trans (.bwd (.refl _) m) ih
  | bwd _ m ih => exact Cn.trans (.fwd (.refl _) m) ih
theorem Cn.mono (hs : ∀ t ∈ ts, t ∈ us) (h : Cn ts p q) : Cn us p q := by
  induction h with
  | refl => exact .refl _
  | fwd _ m ih => exact .fwd ih (hs _ m)
  | bwd _ m ih => exact .bwd ih (hs _ m)
/-- ties that join nothing new -/
theorem Cn.absorb (hs : ∀ t ∈ us, Cn ts t.1 t.2) (h : Cn us p q) : Cn ts p q := by
  induction h with
  | refl => exact .refl _
  | fwd _ m ih => exact ih.trans (hs _ m)
  | bwd _ m ih => exact ih.trans (hs _ m).symm
theorem cn_nil (h : Cn [] p q) : p = q := by
  induction h with
  | refl => rfl
  | fwd _ m => cases m
  | bwd _ m => cases m
theorem cn_snoc : Cn (ts ++ [(a, b)]) p q ↔ Cn ts p q ∨ ((Cn ts p a ∨ Cn ts p b) ∧ (Cn ts q a ∨ Cn ts q b)) := by
  have up : ∀ {x y : Nat}, Cn ts x y → Cn (ts ++ [(a, b)]) x y := fun h => h.mono fun t ht => List.mem_append_left _ ht
  have ab : Cn (ts ++ [(a, b)]) a b := .fwd (.refl _) (List.mem_append_right _ (List.mem_singleton.mpr rfl))
  constructor
  · intro h
    induction h with
    | refl => exact .inl (.refl _)
    | @fwd q r _ m ih =>
      rcases List.mem_append.mp m with m | m
      · rcases ih with h | ⟨h1, h2⟩
        · exact .inl (.fwd h m)
        · exact .inr ⟨h1, h2.imp (fun h => Cn.trans (.bwd (.refl _) m) h) fun h => Cn.trans (.bwd (.refl _) m) h⟩
      · rw [List.mem_singleton] at m
        cases m
        rcases ih with h | ⟨h1, _⟩
        · exact .inr ⟨.inl h, .inr (.refl _)⟩
        · exact .inr ⟨h1, .inr (.refl _)⟩
    | @bwd q r _ m ih =>
      rcases List.mem_append.mp m with m | m
      · rcases ih with h | ⟨h1, h2⟩
        · exact .inl (.bwd h m)
        · exact .inr ⟨h1, h2.imp (fun h => Cn.trans (.fwd (.refl _) m) h) fun h => Cn.trans (.fwd (.refl _) m) h⟩
      · rw [List.mem_singleton] at m
        cases m
        rcases ih with h | ⟨h1, _⟩
        · exact .inr ⟨.inr h, .inl (.refl _)⟩
        · exact .inr ⟨h1, .inl (.refl _)⟩
  · rintro (h | ⟨h1, h2⟩)
    · exact up h
    · have k1 : Cn (ts ++ [(a, b)]) p a := h1.elim up fun h => (up h).trans ab.symm
      have k2 : Cn (ts ++ [(a, b)]) q a := h2.elim up fun h => (up h).trans ab.symm
      exact k1.trans k2.symm
/-- labels: the greater one gives way to the lesser one -/
def mg (f : Nat → Nat) (t : Nat × Nat) : Nat → Nat := fun p => if f p = max (f t.1) (f t.2) then min (f t.1) (f t.2) else f p
def lab (ts : List (Nat × Nat)) : Nat → Nat := ts.foldl mg id
theorem mg_ker {f : Nat → Nat} : mg f (a, b) p = mg f (a, b) q ↔ f p = f q ∨ ((f p = f a ∨ f p = f b) ∧ (f q = f a ∨ f q = f b)) := by
  unfold mg
  simp only
  split <;> split <;> omega
theorem lab_snoc (t : Nat × Nat) : lab (ts ++ [t]) = mg (lab ts) t := by unfold lab; rw [List.foldl_append]; rfl
theorem snoc_ind {P : List (Nat × Nat) → Prop} (h0 : P []) (hs : ∀ l t, P l → P (l ++ [t])) : ∀ l, P l := by
  intro l
  have : ∀ m : List (Nat × Nat), P m.reverse := by
    intro m
    induction m with
    | nil => exact h0
    | cons t m ih => rw [List.reverse_cons]; exact hs _ _ ih
  have := this l.reverse
  rwa [List.reverse_reverse] at this
theorem lab_ker : ∀ (ts : List (Nat × Nat)) (p q : Nat), lab ts p = lab ts q ↔ Cn ts p q := by
  intro ts
  induction ts using snoc_ind with
  | h0 => exact fun p q => ⟨fun h => (show p = q from h) ▸ .refl _, fun h => cn_nil h⟩
  | hs l t ih =>
    intro p q
    obtain ⟨a, b⟩ := t
    rw [lab_snoc, mg_ker, cn_snoc, ih, ih, ih, ih, ih]
/-- how many different ones -/
def dc : List Nat → Nat
  | [] => 0
  | a :: l => if a ∈ l then dc l else dc l + 1
theorem dc_le : ∀ l : List Nat, dc l ≤ l.length
  | [] => Nat.le_refl _
  | a :: l => by
    have := dc_le l
    unfold dc
    rw [List.length_cons]
    split <;> omega
theorem dc_ker {f g : Nat → Nat} : ∀ {ps : List Nat}, (∀ p ∈ ps, ∀ q ∈ ps, f p = f q ↔ g p = g q) → dc (ps.map f) = dc (ps.map g)
  | [], _ => rfl
  | p :: ps, h => by
    have ih := dc_ker (f := f) (g := g) (ps := ps) fun x hx y hy => h x (List.mem_cons_of_mem _ hx) y (List.mem_cons_of_mem _ hy)
    rw [List.map_cons, List.map_cons]
    unfold dc
    have e : f p ∈ ps.map f ↔ g p ∈ ps.map g := by
      rw [List.mem_map, List.mem_map]
      constructor
      · rintro ⟨q, hq, e⟩
        exact ⟨q, hq, (h q (List.mem_cons_of_mem _ hq) p List.mem_cons_self).mp e⟩
      · rintro ⟨q, hq, e⟩
        exact ⟨q, hq, (h q (List.mem_cons_of_mem _ hq) p List.mem_cons_self).mpr e⟩
    by_cases z : f p ∈ ps.map f
    · rw [if_pos z, if_pos (e.mp z), ih]
    · rw [if_neg z, if_neg fun y => z (e.mpr y), ih]
/-- the same ones, each once -/
def dd : List Nat → List Nat
  | [] => []
  | a :: l => if a ∈ l then dd l else a :: dd l
theorem dd_len : ∀ l : List Nat, (dd l).length = dc l
  | [] => rfl
  | a :: l => by unfold dd dc; split <;> simp [dd_len l]
theorem dd_mem {x : Nat} : ∀ {l : List Nat}, x ∈ dd l ↔ x ∈ l
  | [] => Iff.rfl
  | a :: l => by
    unfold dd
    split
    · rename_i h
      rw [dd_mem, List.mem_cons]
      exact ⟨.inr, fun z => z.elim (fun e => by rw [e]; exact h) id⟩
    · rw [List.mem_cons, List.mem_cons, dd_mem]
theorem dd_nodup : ∀ l : List Nat, (dd l).Nodup
  | [] => .nil
  | a :: l => by
    unfold dd
    split
    · exact dd_nodup l
    · rename_i h
      exact List.nodup_cons.mpr ⟨fun z => h (dd_mem.mp z), dd_nodup l⟩
theorem len_sub : ∀ {l m : List Nat}, l.Nodup → (∀ x ∈ l, x ∈ m) → l.length ≤ m.length
  | [], _, _, _ => Nat.zero_le _
  | a :: l, m, h, hs => by
    obtain ⟨h1, h2⟩ := List.nodup_cons.mp h
    have ha := hs a List.mem_cons_self
    have := len_sub (l := l) (m := m.erase a) h2 fun x hx => (List.mem_erase_of_ne (show x ≠ a from fun e => h1 (by rw [← e]; exact hx))).mpr (hs x (List.mem_cons_of_mem _ hx))
    rw [List.length_erase_of_mem ha] at this
    have : 0 < m.length := List.length_pos_of_mem ha
    rw [List.length_cons]
    omega
theorem dc_same {l m : List Nat} (h : ∀ x, x ∈ l ↔ x ∈ m) : dc l = dc m := by
  rw [← dd_len, ← dd_len]
  exact Nat.le_antisymm (len_sub (dd_nodup l) fun x hx => dd_mem.mpr ((h x).mp (dd_mem.mp hx))) (len_sub (dd_nodup m) fun x hx => dd_mem.mpr ((h x).mpr (dd_mem.mp hx)))
/-- one label gives way -/
theorem dc_way {l : List Nat} {lo hi : Nat} (h1 : hi ∈ l) (h2 : lo ∈ l) (ne : hi ≠ lo) : dc (l.map fun x => if x = hi then lo else x) + 1 = dc l := by
  have e : dc (l.map fun x => if x = hi then lo else x) = ((dd l).erase hi).length := by
    rw [← dd_len]
    have m1 : ∀ x, x ∈ dd (l.map fun x => if x = hi then lo else x) ↔ x ∈ (dd l).erase hi := by
      intro x
      rw [dd_mem, List.mem_map, (dd_nodup l).mem_erase_iff, dd_mem]
      constructor
      · rintro ⟨y, hy, rfl⟩
        by_cases z : y = hi
        · rw [if_pos z]; exact ⟨fun z => ne z.symm, h2⟩
        · rw [if_neg z]; exact ⟨z, hy⟩
      · rintro ⟨z, hx⟩
        exact ⟨x, hx, if_neg z⟩
    have n2 : ((dd l).erase hi).Nodup := (dd_nodup l).erase hi
    exact Nat.le_antisymm (len_sub (dd_nodup _) fun x hx => (m1 x).mp hx) (len_sub n2 fun x hx => (m1 x).mpr hx)
  have hm : hi ∈ dd l := dd_mem.mpr h1
  rw [e, List.length_erase_of_mem hm, ← dd_len]
  have : 0 < (dd l).length := List.length_pos_of_mem hm
  omega
/-- the rank -/
def rk (ps : List Nat) (ts : List (Nat × Nat)) : Nat := ps.length - dc (ps.map (lab ts))
variable {ps : List Nat}
theorem rk_same (h : ∀ p ∈ ps, ∀ q ∈ ps, Cn ts p q ↔ Cn us p q) : rk ps ts = rk ps us := by
  unfold rk
  rw [dc_ker (f := lab ts) (g := lab us) fun p hp q hq => by rw [lab_ker, lab_ker]; exact h p hp q hq]
theorem rk_mem (h : ∀ t, t ∈ ts ↔ t ∈ us) : rk ps ts = rk ps us := rk_same fun p _ q _ => ⟨fun c => c.mono fun t ht => (h t).mp ht, fun c => c.mono fun t ht => (h t).mpr ht⟩
theorem rk_snoc_in (h : Cn ts a b) : rk ps (ts ++ [(a, b)]) = rk ps ts := rk_same fun p _ q _ => by
  refine ⟨fun c => c.absorb fun t ht => ?_, fun c => c.mono fun t ht => List.mem_append_left _ ht⟩
  rcases List.mem_append.mp ht with ht | ht
  · exact .fwd (.refl _) ht
  · rw [List.mem_singleton] at ht; subst ht; exact h
theorem rk_snoc_out (ha : a ∈ ps) (hb : b ∈ ps) (h : ¬ Cn ts a b) : rk ps (ts ++ [(a, b)]) = rk ps ts + 1 := by
  unfold rk
  have ne : lab ts a ≠ lab ts b := fun e => h ((lab_ker ts a b).mp e)
  have e : ps.map (lab (ts ++ [(a, b)])) = (ps.map (lab ts)).map fun x => if x = max (lab ts a) (lab ts b) then min (lab ts a) (lab ts b) else x := by
    rw [lab_snoc, List.map_map]; rfl
  have h1 : max (lab ts a) (lab ts b) ∈ ps.map (lab ts) := by
    rcases Nat.le_total (lab ts a) (lab ts b) with z | z
    · rw [Nat.max_eq_right z]; exact List.mem_map_of_mem hb
    · rw [Nat.max_eq_left z]; exact List.mem_map_of_mem ha
  have h2 : min (lab ts a) (lab ts b) ∈ ps.map (lab ts) := by
    rcases Nat.le_total (lab ts a) (lab ts b) with z | z
    · rw [Nat.min_eq_left z]; exact List.mem_map_of_mem ha
    · rw [Nat.min_eq_right z]; exact List.mem_map_of_mem hb
  have := dc_way h1 h2 (by omega)
  rw [e]
  have := dc_le (ps.map (lab ts))
  rw [List.length_map] at this
  omega
theorem rk_nil (hn : ps.Nodup) : rk ps [] = 0 := by
  unfold rk
  have e : ps.map (lab []) = ps := List.map_id _
  have : dc ps = ps.length := by
    have h : dd ps = ps := by
      clear e
      induction ps with
      | nil => rfl
      | cons a l ih =>
        obtain ⟨h1, h2⟩ := List.nodup_cons.mp hn
        unfold dd
        rw [if_neg h1, ih h2]
    rw [← dd_len, h]
  rw [e, this]; omega
/-- ties of places -/
def On (ps : List Nat) (ts : List (Nat × Nat)) : Prop := ∀ t ∈ ts, t.1 ∈ ps ∧ t.2 ∈ ps
theorem rk_app_le (hu : On ps us) : rk ps ts ≤ rk ps (ts ++ us) ∧ rk ps (ts ++ us) ≤ rk ps ts + us.length := by
  induction us using snoc_ind with
  | h0 => rw [List.append_nil]; exact ⟨Nat.le_refl _, Nat.le_add_right _ _⟩
  | hs l t ih =>
    have ih := ih fun x hx => hu x (List.mem_append_left _ hx)
    obtain ⟨h1, h2⟩ := hu t (List.mem_append_right _ (List.mem_singleton.mpr rfl))
    obtain ⟨a, b⟩ := t
    rw [← List.append_assoc, List.length_append, List.length_singleton]
    by_cases z : Cn (ts ++ l) a b
    · rw [rk_snoc_in z]; omega
    · rw [rk_snoc_out h1 h2 z]; omega
theorem rk_len (hn : ps.Nodup) (hu : On ps us) : rk ps us ≤ us.length := by
  have := (rk_app_le (ts := []) hu).2
  rw [rk_nil hn, List.nil_append] at this
  omega
theorem rk_sub (hu : On ps us) (h : ∀ t ∈ ts, t ∈ us) : rk ps ts ≤ rk ps us := by
  have := (rk_app_le (ts := ts) hu).1
  rw [rk_mem (ts := ts ++ us) (us := us) fun t => ⟨fun ht => (List.mem_append.mp ht).elim (h t) id, fun ht => List.mem_append_right _ ht⟩] at this
  exact this
/-- what a lot of higher rank has that another one lacks -/
theorem more_out (hu : On ps us) (ho : On ps ts) (h : rk ps ts < rk ps us) : ∃ t ∈ us, ¬ Cn ts t.1 t.2 := by
  apply Classical.byContradiction
  intro z
  have hc : ∀ t ∈ us, Cn ts t.1 t.2 := fun t ht => Classical.byContradiction fun y => z ⟨t, ht, y⟩
  have e1 := (rk_app_le (ps := ps) (ts := ts) hu).1
  have e2 : rk ps (ts ++ us) = rk ps ts := rk_same fun p _ q _ => by
    refine ⟨fun c => c.absorb fun t ht => ?_, fun c => c.mono fun t ht => List.mem_append_left _ ht⟩
    rcases List.mem_append.mp ht with ht | ht
    · exact .fwd (.refl _) ht
    · exact hc t ht
  have e3 := (rk_app_le (ps := ps) (ts := us) ho).1
  rw [rk_mem (ts := us ++ ts) (us := ts ++ us) fun t => by simp [or_comm]] at e3
  omega
/-- a tree loses a tie, gets another one of another tree -/
theorem exchange {A B : List (Nat × Nat)} {x : Nat × Nat} {n : Nat} (hn : ps.Nodup) (hA : On ps A) (hB : On ps B) (hx : x.1 ∈ ps ∧ x.2 ∈ ps) (h1 : rk ps (A ++ [x]) = n + 1) (h2 : A.length = n) (h3 : rk ps B = n + 1) : ∃ y ∈ B, rk ps (A ++ [y]) = n + 1 := by
  have hl := rk_len hn hA
  have hk : rk ps A = n := by
    have := (rk_app_le (ps := ps) (ts := A) (us := [x]) fun t ht => by rw [List.mem_singleton] at ht; subst ht; exact hx).2
    rw [List.length_singleton] at this
    omega
  obtain ⟨y, hy, hc⟩ := more_out hB hA (show rk ps A < rk ps B by omega)
  refine ⟨y, hy, ?_⟩
  obtain ⟨a, b⟩ := y
  rw [rk_snoc_out (hB _ hy).1 (hB _ hy).2 hc, hk]
/-- herds that are what ties join have the rank's number -/
theorem herds_dc {f : Nat → Nat} : ∀ {hs : List (List Nat)}, (∀ h ∈ hs, h ≠ []) → (∀ h ∈ hs, ∀ p ∈ h, ∀ q ∈ h, f p = f q) → hs.Pairwise (fun h g => ∀ p ∈ h, ∀ q ∈ g, f p ≠ f q) → dc (hs.flatten.map f) = hs.length
  | [], _, _, _ => rfl
  | h :: hs, h1, h2, h3 => by
    rw [List.pairwise_cons] at h3
    have ih := herds_dc (f := f) (fun g hg => h1 g (List.mem_cons_of_mem _ hg)) (fun g hg => h2 g (List.mem_cons_of_mem _ hg)) h3.2
    obtain ⟨p0, hp0⟩ : ∃ p0, p0 ∈ h := by
      cases h with
      | nil => exact absurd rfl (h1 [] List.mem_cons_self)
      | cons p _ => exact ⟨p, List.mem_cons_self⟩
    have e : dc (f p0 :: hs.flatten.map f) = hs.length + 1 := by
      unfold dc
      rw [if_neg, ih]
      intro hm
      obtain ⟨q, hq, e⟩ := List.mem_map.mp hm
      obtain ⟨g, hg, hqg⟩ := List.mem_flatten.mp hq
      exact h3.1 g hg p0 hp0 q hqg e.symm
    rw [List.length_cons, ← e]
    refine dc_same fun x => ?_
    rw [List.flatten_cons, List.map_append, List.mem_append, List.mem_cons]
    constructor
    · rintro (hx | hx)
      · obtain ⟨p, hp, rfl⟩ := List.mem_map.mp hx
        exact .inl (h2 h List.mem_cons_self p hp p0 hp0)
      · exact .inr hx
    · rintro (rfl | hx)
      · exact .inl (List.mem_map_of_mem hp0)
      · exact .inr hx
end Gr
set_option Elab.async false
set_option linter.all false
/-! Own text: herds: lists of places that ties join. -/
namespace Gr
structure Herds (ps : List Nat) (hs : List (List Nat)) : Prop where
  perm : hs.flatten.Perm ps
  ne : ∀ h ∈ hs, h ≠ []
def Tog (hs : List (List Nat)) (p q : Nat) : Prop := ∃ h ∈ hs, p ∈ h ∧ q ∈ h
def near (hs : List (List Nat)) (p q : Nat) : List (List Nat) := hs.filter fun h => decide (p ∈ h) || decide (q ∈ h)
def joinH (w : List Nat) (hs : List (List Nat)) (p q : Nat) : List (List Nat) := w :: hs.filter fun h => !decide (h ∈ near hs p q)
theorem near_mem {hs : List (List Nat)} {p q : Nat} {h : List Nat} : h ∈ near hs p q ↔ h ∈ hs ∧ (p ∈ h ∨ q ∈ h) := by
  unfold near
  rw [List.mem_filter]
  simp
/-- what stands while herds are joined -/
structure HOk (ps : List Nat) (ts : List (Nat × Nat)) (hs : List (List Nat)) : Prop where
  h : Herds ps hs
  to : ∀ t ∈ ts, Tog hs t.1 t.2
  of : ∀ p q, Tog hs p q → Cn ts p q
theorem HOk.start (ps : List Nat) : HOk ps [] (ps.map fun p => [p]) := by
  refine ⟨⟨?_, ?_⟩, (fun t ht => by cases ht), ?_⟩
  · have : (ps.map fun p => [p]).flatten = ps := by
      induction ps with
      | nil => rfl
      | cons a l ih => rw [List.map_cons, List.flatten_cons, ih]; rfl
    rw [this]
  · intro h hh
    obtain ⟨p, _, rfl⟩ := List.mem_map.mp hh
    simp
  · rintro p q ⟨h, hh, h1, h2⟩
    obtain ⟨x, _, rfl⟩ := List.mem_map.mp hh
    rw [List.mem_singleton] at h1 h2
    rw [h1, h2]
    exact .refl _
theorem HOk.join {ps : List Nat} {ts : List (Nat × Nat)} {hs : List (List Nat)} {w : List Nat} {p q : Nat} (H : HOk ps ts hs) (hp : p ∈ ps) (hq : q ∈ ps) (hw : w.Perm (near hs p q).flatten) : HOk ps (ts ++ [(p, q)]) (joinH w hs p q) := by
  have hpw : p ∈ w := by
    obtain ⟨h, h1, h2⟩ := List.mem_flatten.mp (H.h.perm.mem_iff.mpr hp)
    exact hw.mem_iff.mpr (List.mem_flatten.mpr ⟨h, near_mem.mpr ⟨h1, .inl h2⟩, h2⟩)
  have keep : ∀ x y, Tog hs x y → Tog (joinH w hs p q) x y := by
    rintro x y ⟨h, h1, h2, h3⟩
    by_cases z : h ∈ near hs p q
    · exact ⟨w, List.mem_cons_self, hw.mem_iff.mpr (List.mem_flatten.mpr ⟨h, z, h2⟩), hw.mem_iff.mpr (List.mem_flatten.mpr ⟨h, z, h3⟩)⟩
    · exact ⟨h, List.mem_cons_of_mem _ (List.mem_filter.mpr ⟨h1, by simp [z]⟩), h2, h3⟩
  have up : ∀ {x y : Nat}, Cn ts x y → Cn (ts ++ [(p, q)]) x y := fun h => h.mono fun t ht => List.mem_append_left _ ht
  refine ⟨⟨?_, ?_⟩, ?_, ?_⟩
  · refine List.Perm.trans ?_ H.h.perm
    unfold joinH
    rw [List.flatten_cons]
    have e : (hs.filter fun h => !decide (h ∈ near hs p q)) = hs.filter fun h => !(decide (p ∈ h) || decide (q ∈ h)) := List.filter_congr fun h hh => by
      congr 1
      rw [Bool.eq_iff_iff]
      simp only [decide_eq_true_eq, Bool.or_eq_true]
      rw [near_mem]
      exact ⟨fun z => z.2, fun z => ⟨hh, z⟩⟩
    rw [e]
    refine (hw.append_right _).trans ?_
    rw [← List.flatten_append]
    refine List.Perm.flatten ?_
    exact List.filter_append_perm _ _
  · intro h hh
    rcases List.mem_cons.mp hh with rfl | hh
    · intro e
      rw [e] at hpw
      cases hpw
    · exact H.h.ne h (List.mem_filter.mp hh).1
  · intro t ht
    rcases List.mem_append.mp ht with ht | ht
    · exact keep _ _ (H.to t ht)
    · rw [List.mem_singleton] at ht
      subst ht
      refine ⟨w, List.mem_cons_self, hpw, ?_⟩
      obtain ⟨h, h1, h2⟩ := List.mem_flatten.mp (H.h.perm.mem_iff.mpr hq)
      exact hw.mem_iff.mpr (List.mem_flatten.mpr ⟨h, near_mem.mpr ⟨h1, .inr h2⟩, h2⟩)
  · have inw : ∀ x, x ∈ w → Cn ts x p ∨ Cn ts x q := by
      intro x hx
      obtain ⟨h, h1, h2⟩ := List.mem_flatten.mp (hw.mem_iff.mp hx)
      obtain ⟨h3, h4⟩ := near_mem.mp h1
      exact h4.imp (fun h4 => H.of _ _ ⟨h, h3, h2, h4⟩) fun h4 => H.of _ _ ⟨h, h3, h2, h4⟩
    rintro x y ⟨h, hh, h1, h2⟩
    rcases List.mem_cons.mp hh with rfl | hh
    · exact cn_snoc.mpr (.inr ⟨inw x h1, inw y h2⟩)
    · exact up (H.of _ _ ⟨h, (List.mem_filter.mp hh).1, h1, h2⟩)
theorem herd_one {hs : List (List Nat)} (hn : hs.flatten.Nodup) {h h' : List Nat} {p : Nat} (m1 : h ∈ hs) (m2 : h' ∈ hs) (p1 : p ∈ h) (p2 : p ∈ h') : h = h' := by
  have hd := (List.pairwise_flatten.mp hn).2
  have key : ∀ {l : List (List Nat)}, l.Pairwise (fun a b => ∀ x ∈ a, ∀ y ∈ b, x ≠ y) → h ∈ l → h' ∈ l → h = h' := by
    intro l hl
    induction l with
    | nil => intro m; cases m
    | cons a l ih =>
      intro m1 m2
      rw [List.pairwise_cons] at hl
      rcases List.mem_cons.mp m1 with e1 | n1
      · rcases List.mem_cons.mp m2 with e2 | n2
        · rw [e1, e2]
        · exact absurd rfl (hl.1 _ n2 p (e1 ▸ p1) p p2)
      · rcases List.mem_cons.mp m2 with e2 | n2
        · exact absurd rfl (hl.1 _ n1 p (e2 ▸ p2) p p1)
        · exact ih hl.2 n1 n2
  exact key hd m1 m2
theorem HOk.count {ps : List Nat} {ts : List (Nat × Nat)} {hs : List (List Nat)} (hn : ps.Nodup) (ho : On ps ts) (H : HOk ps ts hs) : hs.length = ps.length - rk ps ts := by
  have hf : hs.flatten.Nodup := H.h.perm.nodup_iff.mpr hn
  have mem : ∀ x, x ∈ ps → ∃ h ∈ hs, x ∈ h := fun x hx => by
    obtain ⟨h, h1, h2⟩ := List.mem_flatten.mp (H.h.perm.mem_iff.mpr hx)
    exact ⟨h, h1, h2⟩
  -- joined places of the web are together
  have tog : ∀ {x y : Nat}, x ∈ ps → Cn ts x y → Tog hs x y := by
    intro x y hx c
    have step : ∀ {x y z : Nat}, Tog hs x y → Tog hs y z → Tog hs x z := by
      rintro x y z ⟨h, h1, h2, h3⟩ ⟨g, g1, g2, g3⟩
      have := herd_one hf h1 g1 h3 g2
      subst this
      exact ⟨h, h1, h2, g3⟩
    have sym : ∀ {x y : Nat}, Tog hs x y → Tog hs y x := fun ⟨h, h1, h2, h3⟩ => ⟨h, h1, h3, h2⟩
    induction c with
    | refl =>
      obtain ⟨h, h1, h2⟩ := mem x hx
      exact ⟨h, h1, h2, h2⟩
    | fwd _ m ih => exact step ih (H.to _ m)
    | bwd _ m ih => exact step ih (sym (H.to _ m))
  have key : dc (hs.flatten.map (lab ts)) = hs.length := by
    refine herds_dc H.h.ne (fun h hh p hp q hq => (lab_ker ts p q).mpr (H.of p q ⟨h, hh, hp, hq⟩)) ?_
    have hd := (List.pairwise_flatten.mp hf).2
    have all : ∀ h ∈ hs, ∀ p ∈ h, p ∈ ps := fun h hh p hp => H.h.perm.mem_iff.mp (List.mem_flatten.mpr ⟨h, hh, hp⟩)
    refine hd.imp_of_mem ?_
    intro h g hh hg hne p hp q hq e
    obtain ⟨k, k1, k2, k3⟩ := tog (all h hh p hp) ((lab_ker ts p q).mp e)
    have e1 := herd_one hf hh k1 hp k2
    subst e1
    exact hne q k3 q hq rfl
  have same : dc (hs.flatten.map (lab ts)) = dc (ps.map (lab ts)) := dc_same fun x => by
    rw [List.mem_map, List.mem_map]
    exact ⟨fun ⟨y, h1, h2⟩ => ⟨y, H.h.perm.mem_iff.mp h1, h2⟩, fun ⟨y, h1, h2⟩ => ⟨y, H.h.perm.mem_iff.mpr h1, h2⟩⟩
  have := dc_le (ps.map (lab ts))
  rw [List.length_map] at this
  unfold rk
  omega
theorem flat_len {hs : List (List Nat)} (h : ∀ x ∈ hs, x ≠ []) : hs.length ≤ hs.flatten.length := by
  induction hs with
  | nil => simp
  | cons a l ih =>
    have := ih fun x hx => h x (List.mem_cons_of_mem _ hx)
    have : 0 < a.length := List.length_pos_iff.mpr (h a List.mem_cons_self)
    rw [List.flatten_cons, List.length_append, List.length_cons]
    omega
theorem near_len (hs : List (List Nat)) (p q : Nat) : (near hs p q).flatten.length ≤ hs.flatten.length := by
  have := (List.filter_append_perm (fun h => decide (p ∈ h) || decide (q ∈ h)) hs).flatten.length_eq
  rw [List.flatten_append, List.length_append] at this
  unfold near
  omega
end Gr
set_option Elab.async false
set_option linter.all false
/-! Own text: early and late ties, counted in any order: plain terms. -/
namespace Gr
abbrev Tie := Nat × Nat
/-- a tie joins nothing new -/
def J (C : List Tie) (e : Tie) : Prop := Cn C e.1 e.2
section
variable {C D R : List Tie} {e f : Tie}
theorem J.mono (h : ∀ t ∈ C, t ∈ D) (j : J C e) : J D e := Cn.mono h j
theorem J.same (h : ∀ t, t ∈ C ↔ t ∈ D) : J C e ↔ J D e := ⟨J.mono fun t => (h t).mp, J.mono fun t => (h t).mpr⟩
theorem J.absorb (h : ∀ t ∈ D, J C t) (j : J D e) : J C e := Cn.absorb h j
theorem J.self (h : e ∈ C) : J C e := .fwd (.refl _) h
theorem J.exch (h : ¬ J C f) (j : J (C ++ [e]) f) : J (C ++ [f]) e := by
  obtain ⟨a, b⟩ := e
  obtain ⟨p, q⟩ := f
  unfold J at *
  simp only at *
  rw [cn_snoc] at j ⊢
  rcases j with j | ⟨j1, j2⟩
  · exact absurd j h
  · rcases j1 with j1 | j1 <;> rcases j2 with j2 | j2
    · exact absurd (j1.trans j2.symm) h
    · exact .inr ⟨.inl j1.symm, .inr j2.symm⟩
    · exact .inr ⟨.inr j2.symm, .inl j1.symm⟩
    · exact absurd (j1.trans j2.symm) h
theorem J.app (h : ∀ e, J C e ↔ J D e) (R : List Tie) (e : Tie) : J (C ++ R) e ↔ J (D ++ R) e := by
  constructor
  · refine J.absorb fun t ht => ?_
    rcases List.mem_append.mp ht with ht | ht
    · exact J.mono (fun t ht => List.mem_append_left _ ht) ((h t).mp (J.self ht))
    · exact J.self (List.mem_append_right _ ht)
  · refine J.absorb fun t ht => ?_
    rcases List.mem_append.mp ht with ht | ht
    · exact J.mono (fun t ht => List.mem_append_left _ ht) ((h t).mpr (J.self ht))
    · exact J.self (List.mem_append_right _ ht)
end
abbrev Tab := Nat → Nat → Nat
def shI (f : Tab) : Tab := fun i j => match i with | 0 => 0 | i + 1 => f i j
def shJ (f : Tab) : Tab := fun i j => match j with | 0 => 0 | j + 1 => f i j
def ad (f g : Tab) : Tab := fun i j => f i j + g i j
theorem shI_shJ (f : Tab) : shI (shJ f) = shJ (shI f) := by funext i j; cases i <;> cases j <;> rfl
theorem shI_ad (f g : Tab) : shI (ad f g) = ad (shI f) (shI g) := by funext i j; cases i <;> rfl
theorem shJ_ad (f g : Tab) : shJ (ad f g) = ad (shJ f) (shJ g) := by funext i j; cases j <;> rfl
theorem ad_comm (f g : Tab) : ad f g = ad g f := by funext i j; exact Nat.add_comm _ _
theorem ad_assoc (f g h : Tab) : ad (ad f g) h = ad f (ad g h) := by funext i j; exact Nat.add_assoc _ _ _
open Classical in
/-- trees by early and late ties (C: shut ties; the list: the greatest one first) -/
noncomputable def cnt : List Tie → List Tie → Tab
  | _, [] => fun i j => if i = 0 ∧ j = 0 then 1 else 0
  | C, e :: R => if J C e then shJ (cnt C R) else if J (C ++ R) e then ad (cnt C R) (cnt (C ++ [e]) R) else shI (cnt (C ++ [e]) R)
section
variable {C D R : List Tie} {e f : Tie}
theorem cnt_loop (h : J C e) : cnt C (e :: R) = shJ (cnt C R) := by rw [cnt, if_pos h]
theorem cnt_two (h : ¬ J C e) (h2 : J (C ++ R) e) : cnt C (e :: R) = ad (cnt C R) (cnt (C ++ [e]) R) := by rw [cnt, if_neg h, if_pos h2]
theorem cnt_brid (h : ¬ J (C ++ R) e) : cnt C (e :: R) = shI (cnt (C ++ [e]) R) := by
  rw [cnt, if_neg (fun z => h (z.mono fun t ht => List.mem_append_left _ ht)), if_neg h]
theorem cnt_congr : ∀ {R C D : List Tie}, (∀ e, J C e ↔ J D e) → cnt C R = cnt D R
  | [], _, _, _ => rfl
  | e :: R, C, D, h => by
    have h1 := h e
    have h2 := J.app h R e
    have i1 := cnt_congr (R := R) h
    have i2 := cnt_congr (R := R) (C := C ++ [e]) (D := D ++ [e]) (J.app h [e])
    by_cases a : J C e
    · rw [cnt_loop a, cnt_loop (h1.mp a), i1]
    · by_cases b : J (C ++ R) e
      · rw [cnt_two a b, cnt_two (fun z => a (h1.mpr z)) (h2.mp b), i1, i2]
      · rw [cnt_brid b, cnt_brid (fun z => b (h2.mpr z)), i2]
theorem cnt_mem (h : ∀ t, t ∈ C ↔ t ∈ D) : cnt C R = cnt D R := cnt_congr fun _ => J.same h
theorem cnt_brid' : ∀ {R C : List Tie}, ¬ J (C ++ R) e → cnt (C ++ [e]) R = cnt C R
  | [], _, _ => rfl
  | f :: R, C, h => by
    have a : J (C ++ [e]) f ↔ J C f := by
      refine ⟨fun j => Classical.byContradiction fun z => h ?_, J.mono fun t ht => List.mem_append_left _ ht⟩
      exact J.mono (fun t ht => by simp at ht ⊢ <;> grind) (J.exch z j)
    have b : J (C ++ [e] ++ R) f ↔ J (C ++ R) f := by
      refine ⟨fun j => Classical.byContradiction fun z => h ?_, J.mono fun t ht => by simp at ht ⊢ <;> grind⟩
      have j' : J (C ++ R ++ [e]) f := J.mono (fun t ht => by simp at ht ⊢ <;> grind) j
      exact J.mono (fun t ht => by simp at ht ⊢ <;> grind) (J.exch z j')
    have h0 : ¬ J (C ++ R) e := fun z => h (z.mono fun t ht => by simp at ht ⊢ <;> grind)
    have h1 : ¬ J (C ++ [f] ++ R) e := fun z => h (z.mono fun t ht => by simp at ht ⊢ <;> grind)
    have i1 := cnt_brid' h0
    have i2 := cnt_brid' h1
    have i3 : cnt (C ++ [e] ++ [f]) R = cnt (C ++ [f] ++ [e]) R := cnt_mem fun t => by simp; grind
    by_cases z : J C f
    · rw [cnt_loop (a.mpr z), cnt_loop z, i1]
    · by_cases y : J (C ++ R) f
      · rw [cnt_two (fun q => z (a.mp q)) (b.mpr y), cnt_two z y, i1, i3, i2]
      · rw [cnt_brid (fun q => y (b.mp q)), cnt_brid y, i3, i2]
/-- a loop first or second -/
theorem swap_loop (h : J C e) : cnt C (e :: f :: R) = cnt C (f :: e :: R) := by
  have he : ∀ D, (∀ t ∈ C, t ∈ D) → J D e := fun D hD => h.mono hD
  have same : J (C ++ e :: R) f ↔ J (C ++ R) f := by
    refine ⟨J.absorb fun t ht => ?_, J.mono fun t ht => by simp at ht ⊢ <;> grind⟩
    rcases List.mem_append.mp ht with ht | ht
    · exact J.self (List.mem_append_left _ ht)
    · rcases List.mem_cons.mp ht with rfl | ht
      · exact he _ fun t ht => List.mem_append_left _ ht
      · exact J.self (List.mem_append_right _ ht)
  have l1 : cnt C (e :: R) = shJ (cnt C R) := cnt_loop h
  have l2 : cnt (C ++ [f]) (e :: R) = shJ (cnt (C ++ [f]) R) := cnt_loop (he _ fun t ht => List.mem_append_left _ ht)
  rw [cnt_loop h]
  by_cases z : J C f
  · rw [cnt_loop z, cnt_loop z, l1]
  · by_cases y : J (C ++ R) f
    · rw [cnt_two z y, cnt_two z (same.mpr y), l1, l2, shJ_ad]
    · rw [cnt_brid y, cnt_brid (fun q => y (same.mp q)), l2, shI_shJ]
/-- a bridge first or second -/
theorem swap_brid (hf : ¬ J C f) (h : ¬ J (C ++ f :: R) e) : cnt C (e :: f :: R) = cnt C (f :: e :: R) := by
  have h0 : ¬ J (C ++ R) e := fun z => h (z.mono fun t ht => by simp at ht ⊢ <;> grind)
  have h1 : ¬ J (C ++ [f] ++ R) e := fun z => h (z.mono fun t ht => by simp at ht ⊢ <;> grind)
  have a : ¬ J (C ++ [e]) f := fun j => h (J.mono (fun t ht => by simp at ht ⊢ <;> grind) (J.exch hf j))
  have b : J (C ++ [e] ++ R) f ↔ J (C ++ R) f := by
    refine ⟨fun j => Classical.byContradiction fun z => h ?_, J.mono fun t ht => by simp at ht ⊢ <;> grind⟩
    have j' : J (C ++ R ++ [e]) f := J.mono (fun t ht => by simp at ht ⊢ <;> grind) j
    exact J.mono (fun t ht => by simp at ht ⊢ <;> grind) (J.exch z j')
  have b' : J (C ++ e :: R) f ↔ J (C ++ R) f := (J.same fun t => by simp <;> grind : J (C ++ e :: R) f ↔ J (C ++ [e] ++ R) f).trans b
  have i3 : cnt (C ++ [e] ++ [f]) R = cnt (C ++ [f] ++ [e]) R := cnt_mem fun t => by simp; grind
  rw [cnt_brid h]
  by_cases y : J (C ++ R) f
  · rw [cnt_two a (b.mpr y), cnt_two hf (b'.mpr y), cnt_brid h0, cnt_brid h1, shI_ad, i3]
  · rw [cnt_brid (fun q => y (b.mp q)), cnt_brid (fun q => y (b'.mp q)), cnt_brid h1, i3]
theorem cnt_swap : cnt C (e :: f :: R) = cnt C (f :: e :: R) := by
  by_cases l1 : J C e
  · exact swap_loop l1
  by_cases l2 : J C f
  · exact (swap_loop l2).symm
  by_cases b1 : J (C ++ f :: R) e
  case neg => exact swap_brid l2 b1
  by_cases b2 : J (C ++ e :: R) f
  case neg => exact (swap_brid l1 b2).symm
  rw [cnt_two l1 b1, cnt_two l2 b2]
  have i3 : cnt (C ++ [e] ++ [f]) R = cnt (C ++ [f] ++ [e]) R := cnt_mem fun t => by simp; grind
  have p1 : J (C ++ [e]) f ↔ J (C ++ [f]) e := ⟨J.exch l2, J.exch l1⟩
  have par : J (C ++ [e]) f → cnt (C ++ [e]) R = cnt (C ++ [f]) R := fun z => cnt_congr fun t => by
    have z' := p1.mp z
    refine ⟨J.absorb fun u hu => ?_, J.absorb fun u hu => ?_⟩
    · rcases List.mem_append.mp hu with hu | hu
      · exact J.self (List.mem_append_left _ hu)
      · rw [List.mem_singleton.mp hu]; exact z'
    · rcases List.mem_append.mp hu with hu | hu
      · exact J.self (List.mem_append_left _ hu)
      · rw [List.mem_singleton.mp hu]; exact z
  have c1 : J (C ++ [e] ++ R) f := b2.mono fun t ht => by simp at ht ⊢ <;> grind
  have c2 : J (C ++ [f] ++ R) e := b1.mono fun t ht => by simp at ht ⊢ <;> grind
  have s : J (C ++ R) f ↔ J (C ++ R) e := by
    constructor
    · intro z
      refine J.absorb (fun t ht => ?_) b1
      rcases List.mem_append.mp ht with ht | ht
      · exact J.self (List.mem_append_left _ ht)
      · rcases List.mem_cons.mp ht with rfl | ht
        · exact z
        · exact J.self (List.mem_append_right _ ht)
    · intro z
      refine J.absorb (fun t ht => ?_) b2
      rcases List.mem_append.mp ht with ht | ht
      · exact J.self (List.mem_append_left _ ht)
      · rcases List.mem_cons.mp ht with rfl | ht
        · exact z
        · exact J.self (List.mem_append_right _ ht)
  by_cases y : J (C ++ R) f
  · rw [cnt_two l2 y, cnt_two l1 (s.mp y)]
    by_cases z : J (C ++ [e]) f
    · rw [cnt_loop z, cnt_loop (p1.mp z), par z]
    · rw [cnt_two z c1, cnt_two (fun q => z (p1.mpr q)) c2, i3]
      funext i j
      unfold ad
      omega
  · have y' : ¬ J (C ++ R) e := fun q => y (s.mpr q)
    rw [cnt_brid y, cnt_brid y']
    have q1 := cnt_brid' y
    have q2 := cnt_brid' y'
    by_cases z : J (C ++ [e]) f
    · rw [cnt_loop z, cnt_loop (p1.mp z), par z]
    · rw [cnt_two z c1, cnt_two (fun q => z (p1.mpr q)) c2, i3, q1, q2]
theorem cnt_perm {L L' : List Tie} (h : L.Perm L') : ∀ C, cnt C L = cnt C L' := by
  induction h with
  | nil => exact fun _ => rfl
  | @cons e R R' hp ih =>
    intro C
    have hm : ∀ t, t ∈ C ++ R ↔ t ∈ C ++ R' := fun t => by rw [List.mem_append, List.mem_append, hp.mem_iff]
    by_cases a : J C e
    · rw [cnt_loop a, cnt_loop a, ih]
    · by_cases b : J (C ++ R) e
      · rw [cnt_two a b, cnt_two a ((J.same hm).mp b), ih, ih]
      · rw [cnt_brid b, cnt_brid (fun z => b ((J.same hm).mpr z)), ih]
  | swap x y R => exact fun C => cnt_swap
  | trans _ _ i1 i2 => exact fun C => (i1 C).trans (i2 C)
end
end Gr
set_option Elab.async false
set_option linter.all false
/-! Own text: trees by early and late ties, from the lots. -/
namespace Gr
/-- ties at indexes -/
def ta (ts : List Tie) (l : List Nat) : List Tie := l.map fun k => ts.getD k (0, 0)
/-- a lot joins all that ts join, over what C join -/
def isB (ps : List Nat) (C ts : List Tie) (l : List Nat) : Prop := l.length + rk ps C = rk ps (C ++ ts) ∧ rk ps (C ++ ta ts l) = rk ps (C ++ ts)
def swp (l : List Nat) (k o : Nat) : List Nat := l.filter (fun x => !decide (x = k)) ++ [o]
def Ear (ps : List Nat) (C ts : List Tie) (l : List Nat) (k : Nat) : Prop := ∀ o, o < ts.length → o ∉ l → isB ps C ts (swp l k o) → k < o
def Lat (ps : List Nat) (C ts : List Tie) (l : List Nat) (k : Nat) : Prop := ∀ o ∈ l, isB ps C ts (swp l o k) → k < o
open Classical in
noncomputable def nE (ps : List Nat) (C ts : List Tie) (l : List Nat) : Nat := (l.filter fun k => decide (Ear ps C ts l k)).length
open Classical in
noncomputable def nL (ps : List Nat) (C ts : List Tie) (l : List Nat) : Nat := ((List.range ts.length).filter fun k => decide (k ∉ l ∧ Lat ps C ts l k)).length
def lots : Nat → List (List Nat)
  | 0 => [[]]
  | n + 1 => lots n ++ (lots n).map (· ++ [n])
open Classical in
noncomputable def nT (ps : List Nat) (C ts : List Tie) : Tab := fun i j => (lots ts.length).countP fun l => decide (isB ps C ts l ∧ nE ps C ts l = i ∧ nL ps C ts l = j)
theorem lots_lt : ∀ {n : Nat} {l : List Nat}, l ∈ lots n → (∀ k ∈ l, k < n) ∧ l.Nodup
  | 0, l, h => by
    rw [show lots 0 = [[]] from rfl, List.mem_singleton] at h
    subst h
    exact ⟨(fun k hk => nomatch hk), .nil⟩
  | n + 1, l, h => by
    rcases List.mem_append.mp (show l ∈ lots n ++ (lots n).map (· ++ [n]) from h) with h | h
    · obtain ⟨h1, h2⟩ := lots_lt h
      exact ⟨fun k hk => Nat.lt_succ_of_lt (h1 k hk), h2⟩
    · obtain ⟨m, hm, rfl⟩ := List.mem_map.mp h
      obtain ⟨h1, h2⟩ := lots_lt hm
      refine ⟨fun k hk => ?_, List.nodup_append.mpr ⟨h2, by simp, fun a ha b hb e => ?_⟩⟩
      · rcases List.mem_append.mp hk with hk | hk
        · exact Nat.lt_succ_of_lt (h1 k hk)
        · rw [List.mem_singleton.mp hk]; exact Nat.lt_succ_self n
      · rw [List.mem_singleton] at hb
        have := h1 a ha
        omega
section
variable {ps : List Nat} {C ts : List Tie} {e : Tie} {l : List Nat} {k o : Nat}
theorem ta_mem {t : Tie} : t ∈ ta ts l ↔ ∃ k ∈ l, ts.getD k (0, 0) = t := List.mem_map
theorem ta_sub (hl : ∀ k ∈ l, k < ts.length) : ∀ t ∈ ta ts l, t ∈ ts := fun t ht => by
  obtain ⟨k, hk, rfl⟩ := ta_mem.mp ht
  rw [List.getD_eq_getElem?_getD, List.getElem?_eq_getElem (hl k hk)]
  exact List.getElem_mem _
theorem ta_old (hl : ∀ k ∈ l, k < ts.length) : ta (ts ++ [e]) l = ta ts l := List.map_congr_left fun k hk => by
  rw [List.getD_eq_getElem?_getD, List.getD_eq_getElem?_getD, List.getElem?_append_left (hl k hk)]
theorem ta_new (hl : ∀ k ∈ l, k < ts.length) : ta (ts ++ [e]) (l ++ [ts.length]) = ta ts l ++ [e] := by
  have := ta_old (e := e) hl
  unfold ta at this ⊢
  rw [List.map_append, this, List.map_cons, List.map_nil, List.getD_eq_getElem?_getD, List.getElem?_append_right (Nat.le_refl _), Nat.sub_self]
  rfl
theorem ta_app (l m : List Nat) : ta ts (l ++ m) = ta ts l ++ ta ts m := List.map_append
theorem isB_perm {m : List Nat} (h : l.Perm m) : isB ps C ts l ↔ isB ps C ts m := by
  unfold isB
  rw [h.length_eq, rk_mem (ts := C ++ ta ts l) (us := C ++ ta ts m) fun t => by rw [List.mem_append, List.mem_append, (show (ta ts l).Perm (ta ts m) from h.map _).mem_iff]]
theorem r_in (h : J C e) : rk ps (C ++ [e]) = rk ps C := rk_snoc_in h
theorem r_out (he : e.1 ∈ ps ∧ e.2 ∈ ps) (h : ¬ J C e) : rk ps (C ++ [e]) = rk ps C + 1 := rk_snoc_out he.1 he.2 h
theorem On.app {C ts : List Tie} (h1 : On ps C) (h2 : On ps ts) : On ps (C ++ ts) := fun t ht => (List.mem_append.mp ht).elim (h1 t) (h2 t)
theorem On.one (he : e.1 ∈ ps ∧ e.2 ∈ ps) : On ps [e] := fun t ht => by rw [List.mem_singleton.mp ht]; exact he
theorem On.ta (h : On ps ts) (hl : ∀ k ∈ l, k < ts.length) : On ps (ta ts l) := fun t ht => h t (ta_sub hl t ht)
theorem all_snoc (h : J (C ++ ts) e) : rk ps (C ++ (ts ++ [e])) = rk ps (C ++ ts) := by rw [← List.append_assoc]; exact r_in h
theorem all_snoc' (he : e.1 ∈ ps ∧ e.2 ∈ ps) (h : ¬ J (C ++ ts) e) : rk ps (C ++ (ts ++ [e])) = rk ps (C ++ ts) + 1 := by rw [← List.append_assoc]; exact r_out he h
theorem B_old (hl : ∀ k ∈ l, k < ts.length) (h : J (C ++ ts) e) : isB ps C (ts ++ [e]) l ↔ isB ps C ts l := by
  unfold isB
  rw [ta_old hl, all_snoc h]
theorem B_oldB (he : e.1 ∈ ps ∧ e.2 ∈ ps) (hC : On ps C) (ht : On ps ts) (hl : ∀ k ∈ l, k < ts.length) (h : ¬ J (C ++ ts) e) : ¬ isB ps C (ts ++ [e]) l := by
  rintro ⟨_, h2⟩
  rw [ta_old hl, all_snoc' he h] at h2
  have := rk_sub (ps := ps) (ts := C ++ ta ts l) (us := C ++ ts) (hC.app ht) fun t ht => (List.mem_append.mp ht).elim (List.mem_append_left _) fun z => List.mem_append_right _ (ta_sub hl t z)
  omega
theorem rk_swap (D E : List Tie) : rk ps (C ++ (D ++ E)) = rk ps (C ++ E ++ D) := rk_mem fun t => by simp only [List.mem_append]; grind
theorem B_new (he : e.1 ∈ ps ∧ e.2 ∈ ps) (hl : ∀ k ∈ l, k < ts.length) (h : ¬ J C e) : isB ps C (ts ++ [e]) (l ++ [ts.length]) ↔ isB ps (C ++ [e]) ts l := by
  unfold isB
  rw [ta_new hl, List.length_append, List.length_singleton, rk_swap ts [e], rk_swap (ta ts l) [e], r_out he h, show l.length + 1 + rk ps C = l.length + (rk ps C + 1) by omega]
theorem rk_le_len {D : List Tie} (hD : On ps D) : rk ps (C ++ D) ≤ rk ps C + D.length := (rk_app_le hD).2
theorem ta_len : (ta ts l).length = l.length := List.length_map _
theorem B_newL (ht : On ps ts) (hl : ∀ k ∈ l, k < ts.length) (h : J C e) : ¬ isB ps C (ts ++ [e]) (l ++ [ts.length]) := by
  rintro ⟨h1, h2⟩
  rw [ta_new hl, ← List.append_assoc, r_in (h.mono fun t ht => List.mem_append_left _ ht)] at h2
  have := rk_le_len (C := C) (ht.ta hl)
  rw [ta_len] at this
  rw [List.length_append, List.length_singleton] at h1
  omega
/-- from full rank: all is joined -/
theorem full_J (hC : On ps C) (ht : On ps ts) (hl : ∀ k ∈ l, k < ts.length) (he : e.1 ∈ ps ∧ e.2 ∈ ps) (hb : rk ps (C ++ ta ts l) = rk ps (C ++ ts)) (h : J (C ++ ts) e) : J (C ++ ta ts l) e := by
  apply Classical.byContradiction
  intro z
  have h1 := r_out he z
  have h2 := rk_sub (ps := ps) (ts := C ++ ta ts l ++ [e]) (us := C ++ ts ++ [e]) ((hC.app ht).app (On.one he)) fun t ht => by
    rcases List.mem_append.mp ht with ht | ht
    · refine List.mem_append_left _ ?_
      exact (List.mem_append.mp ht).elim (List.mem_append_left _) fun z => List.mem_append_right _ (ta_sub hl t z)
    · exact List.mem_append_right _ ht
  rw [r_in h] at h2
  omega
/-- the first one of a row that joins e -/
theorem first_J {D : List Tie} : ∀ {l : List Nat}, ¬ J D e → J (D ++ ta ts l) e → ∃ l1 o l2, l = l1 ++ o :: l2 ∧ ¬ J (D ++ ta ts l1) e ∧ J (D ++ ta ts l1 ++ [ts.getD o (0, 0)]) e := by
  intro l
  induction l generalizing D with
  | nil => intro h j; exact absurd (by rw [show ta ts [] = [] from rfl, List.append_nil] at j; exact j) h
  | cons o l ih =>
    intro h j
    by_cases z : J (D ++ [ts.getD o (0, 0)]) e
    · exact ⟨[], o, l, rfl, by rw [show ta ts [] = [] from rfl, List.append_nil]; exact h, by rw [show ta ts [] = [] from rfl, List.append_nil]; exact z⟩
    · have j' : J (D ++ [ts.getD o (0, 0)] ++ ta ts l) e := by
        rw [List.append_assoc]; exact j
      obtain ⟨l1, o', l2, e1, h1, h2⟩ := ih z j'
      refine ⟨o :: l1, o', l2, by rw [e1]; rfl, ?_, ?_⟩
      · rw [List.append_assoc] at h1; exact h1
      · rw [List.append_assoc D] at h2; exact h2
theorem filt_out {l1 l2 : List Nat} (hn : (l1 ++ o :: l2).Nodup) : (l1 ++ o :: l2).filter (fun x => !decide (x = o)) = l1 ++ l2 := by
  obtain ⟨h1, h2, h3⟩ := List.nodup_append.mp hn
  obtain ⟨h4, h5⟩ := List.nodup_cons.mp h2
  rw [List.filter_append, List.filter_cons, if_neg (by simp), List.filter_eq_self.mpr, List.filter_eq_self.mpr]
  · intro x hx
    have : x ≠ o := fun z => h4 (z ▸ hx)
    simp [this]
  · intro x hx
    have : x ≠ o := h3 x hx o List.mem_cons_self
    simp [this]
theorem ex_late (hC : On ps C) (ht : On ps ts) (hm : l ∈ lots ts.length) (he : e.1 ∈ ps ∧ e.2 ∈ ps) (hb : isB ps C ts l) (h : ¬ J C e) (hj : J (C ++ ts) e) : ∃ o ∈ l, isB ps C (ts ++ [e]) (swp l o ts.length) := by
  obtain ⟨hl, hn⟩ := lots_lt hm
  obtain ⟨l1, o, l2, rfl, a1, a2⟩ := first_J h (full_J hC ht hl he hb.2 hj)
  have a3 := J.exch a1 a2
  refine ⟨o, by simp, ?_⟩
  have hl' : ∀ k ∈ l1 ++ l2, k < ts.length := fun k hk => hl k (by
    rcases List.mem_append.mp hk with hk | hk
    · exact List.mem_append_left _ hk
    · exact List.mem_append_right _ (List.mem_cons_of_mem _ hk))
  obtain ⟨b1, b2⟩ := hb
  unfold swp isB
  rw [filt_out hn, ta_new hl', all_snoc hj]
  refine ⟨?_, ?_⟩
  · rw [← b1]; simp <;> omega
  · have ho : (ts.getD o (0, 0)).1 ∈ ps ∧ (ts.getD o (0, 0)).2 ∈ ps := ht.ta hl _ (ta_mem.mpr ⟨o, by simp, rfl⟩)
    have c1 : J (C ++ (ta ts (l1 ++ l2) ++ [e])) (ts.getD o (0, 0)) := a3.mono fun t ht => by
      rw [ta_app]; simp only [List.mem_append] at ht ⊢; grind
    have c2 : rk ps (C ++ ta ts (l1 ++ o :: l2)) ≤ rk ps (C ++ (ta ts (l1 ++ l2) ++ [e]) ++ [ts.getD o (0, 0)]) := rk_sub ((hC.app ((ht.ta hl').app (On.one he))).app (On.one ho)) fun t ht => by
      rw [ta_app] at ht ⊢
      rw [show ta ts (o :: l2) = ts.getD o (0, 0) :: ta ts l2 from rfl] at ht
      simp only [List.mem_append, List.mem_cons, List.mem_singleton] at ht ⊢
      grind
    rw [r_in c1] at c2
    have c3 : rk ps (C ++ (ta ts (l1 ++ l2) ++ [e])) ≤ rk ps (C ++ (ts ++ [e])) := rk_sub (hC.app (ht.app (On.one he))) fun t ht => by
      have := ta_sub hl' t
      simp only [List.mem_append] at ht ⊢
      grind
    rw [all_snoc hj] at c3
    omega
theorem ex_early (hC : On ps C) (ht : On ps ts) (hm : l ∈ lots ts.length) (he : e.1 ∈ ps ∧ e.2 ∈ ps) (hb : isB ps (C ++ [e]) ts l) (h : ¬ J C e) (hj : J (C ++ ts) e) : ∃ o, o < ts.length ∧ o ∉ l ∧ isB ps C (ts ++ [e]) (l ++ [o]) := by
  obtain ⟨hl, hn⟩ := lots_lt hm
  obtain ⟨b1, b2⟩ := hb
  have r1 : rk ps (C ++ [e] ++ ts) = rk ps (C ++ ts) := by rw [← rk_swap, all_snoc hj]
  rw [r1, r_out he h] at b1
  rw [r1, List.append_assoc, rk_mem (us := C ++ ta ts l ++ [e]) fun t => by simp only [List.mem_append]; grind] at b2
  have r2 := rk_le_len (C := C) (ht.ta hl)
  rw [ta_len] at r2
  have r3 := rk_le_len (C := C ++ ta ts l) (On.one (ps := ps) he)
  rw [List.length_singleton] at r3
  obtain ⟨t, hts, hc⟩ := more_out (ps := ps) (ts := C ++ ta ts l) (us := C ++ ts) (hC.app ht) (hC.app (ht.ta hl)) (by omega)
  have ht2 : t ∈ ts := by
    rcases List.mem_append.mp hts with z | z
    · exact absurd (J.self (List.mem_append_left _ z)) hc
    · exact z
  obtain ⟨o, ho, rfl⟩ := List.getElem_of_mem ht2
  have eo : ts.getD o (0, 0) = ts[o] := by rw [List.getD_eq_getElem?_getD, List.getElem?_eq_getElem ho]; rfl
  have hol : o ∉ l := fun z => hc (J.self (List.mem_append_right _ (ta_mem.mpr ⟨o, z, eo⟩)))
  refine ⟨o, ho, hol, ?_⟩
  have hlo : ∀ k ∈ l ++ [o], k < ts.length := fun k hk => (List.mem_append.mp hk).elim (hl k) fun z => by rw [List.mem_singleton.mp z]; exact ho
  have r4 := r_out (ps := ps) (C := C ++ ta ts l) (e := ts[o]) (ht _ ht2) hc
  refine (B_old hlo hj).mpr ⟨?_, ?_⟩
  · rw [List.length_append, List.length_singleton]; omega
  · rw [ta_app, ← List.append_assoc, show ta ts [o] = [ts[o]] by rw [← eo]; rfl]
    omega
theorem swp_lt (hl : ∀ k ∈ l, k < ts.length) {x y : Nat} (hy : y < ts.length) : ∀ k ∈ swp l x y, k < ts.length := fun k hk => by
  rcases List.mem_append.mp hk with z | z
  · exact hl k (List.mem_filter.mp z).1
  · rw [List.mem_singleton.mp z]; exact hy
theorem filter_same {α : Type} {p q : α → Bool} {l : List α} (h : ∀ x ∈ l, p x = q x) : (l.filter p).length = (l.filter q).length := by rw [List.filter_congr h]
theorem nE_old (hm : l ∈ lots ts.length) (hj : J (C ++ ts) e) : nE ps C (ts ++ [e]) l = nE ps C ts l := by
  obtain ⟨hl, hn⟩ := lots_lt hm
  refine filter_same fun k hk => decide_eq_decide.mpr ⟨fun H o ho hol hb => H o (by simp; omega) hol ((B_old (swp_lt hl ho) hj).mpr hb), fun H o ho hol hb => ?_⟩
  rw [List.length_append, List.length_singleton] at ho
  by_cases z : o < ts.length
  · exact H o z hol ((B_old (swp_lt hl z) hj).mp hb)
  · have := hl k hk
    omega
theorem nL_old (hC : On ps C) (ht : On ps ts) (he : e.1 ∈ ps ∧ e.2 ∈ ps) (hm : l ∈ lots ts.length) (hb : isB ps C ts l) (hj : J (C ++ ts) e) [Decidable (J C e)] : nL ps C (ts ++ [e]) l = nL ps C ts l + if J C e then 1 else 0 := by
  classical
  obtain ⟨hl, hn⟩ := lots_lt hm
  unfold nL
  rw [List.length_append, List.length_singleton, List.range_succ, List.filter_append, List.length_append]
  have e1 : ((List.range ts.length).filter fun k => decide (k ∉ l ∧ Lat ps C (ts ++ [e]) l k)).length = ((List.range ts.length).filter fun k => decide (k ∉ l ∧ Lat ps C ts l k)).length := filter_same fun k hk => decide_eq_decide.mpr (by
    have hk := List.mem_range.mp hk
    refine and_congr_right fun _ => ⟨fun H o ho hb => H o ho ((B_old (swp_lt hl hk) hj).mpr hb), fun H o ho hb => H o ho ((B_old (swp_lt hl hk) hj).mp hb)⟩)
  rw [e1]
  congr 1
  have hnl : ts.length ∉ l := fun z => Nat.lt_irrefl _ (hl _ z)
  by_cases z : J C e
  · rw [if_pos z, List.filter_cons, if_pos]
    · rfl
    · refine decide_eq_true ⟨hnl, fun o ho hb => ?_⟩
      exact absurd hb (B_newL ht (fun k hk => hl k (List.mem_filter.mp hk).1) z)
  · rw [if_neg z, List.filter_cons, if_neg]
    · rfl
    · intro q
      obtain ⟨o, ho, hb⟩ := ex_late hC ht hm he hb z hj
      have := (of_decide_eq_true q).2 o ho hb
      have := hl o ho
      omega
theorem swp_app (hk : k ≠ ts.length) : (swp (l ++ [ts.length]) k o).Perm (swp l k o ++ [ts.length]) := by
  unfold swp
  rw [List.filter_append, List.filter_cons, if_pos (by simp; omega), List.filter_nil, List.append_assoc, List.append_assoc]
  exact (List.Perm.append_left _ (List.Perm.swap _ _ _))
theorem nE_new (hC : On ps C) (ht : On ps ts) (he : e.1 ∈ ps ∧ e.2 ∈ ps) (hm : l ∈ lots ts.length) (hb : isB ps (C ++ [e]) ts l) (h : ¬ J C e) [Decidable (J (C ++ ts) e)] : nE ps C (ts ++ [e]) (l ++ [ts.length]) = nE ps (C ++ [e]) ts l + if J (C ++ ts) e then 0 else 1 := by
  classical
  obtain ⟨hl, hn⟩ := lots_lt hm
  have hnl : ts.length ∉ l := fun z => Nat.lt_irrefl _ (hl _ z)
  unfold nE
  rw [List.filter_append, List.length_append]
  have e1 : (l.filter fun k => decide (Ear ps C (ts ++ [e]) (l ++ [ts.length]) k)).length = (l.filter fun k => decide (Ear ps (C ++ [e]) ts l k)).length := filter_same fun k hk => decide_eq_decide.mpr (by
    have hk' := hl k hk
    have key : ∀ o, o < ts.length → (isB ps C (ts ++ [e]) (swp (l ++ [ts.length]) k o) ↔ isB ps (C ++ [e]) ts (swp l k o)) := fun o ho => (isB_perm (swp_app (by omega))).trans (B_new he (swp_lt hl ho) h)
    constructor
    · intro H o ho hol hb
      refine H o (by simp; omega) (fun z => ?_) ((key o ho).mpr hb)
      rcases List.mem_append.mp z with z | z
      · exact hol z
      · rw [List.mem_singleton.mp z] at ho; omega
    · intro H o ho hol hb
      rw [List.length_append, List.length_singleton] at ho
      have hne : o ≠ ts.length := fun z => hol (List.mem_append_right _ (by rw [z]; exact List.mem_singleton.mpr rfl))
      have ho' : o < ts.length := by omega
      exact H o ho' (fun z => hol (List.mem_append_left _ z)) ((key o ho').mp hb))
  rw [e1]
  congr 1
  have sw : ∀ o, swp (l ++ [ts.length]) ts.length o = l ++ [o] := fun o => by
    unfold swp
    rw [List.filter_append, List.filter_cons, if_neg (by simp), List.filter_nil, List.append_nil, List.filter_eq_self.mpr]
    intro x hx
    have : x ≠ ts.length := fun z => hnl (z ▸ hx)
    simp [this]
  by_cases z : J (C ++ ts) e
  · rw [if_pos z, List.filter_cons, if_neg]
    · rfl
    · intro q
      obtain ⟨o, ho, hol, hb⟩ := ex_early hC ht hm he hb h z
      have := (of_decide_eq_true q) o (by simp; omega) (fun y => by
        rcases List.mem_append.mp y with y | y
        · exact hol y
        · rw [List.mem_singleton.mp y] at ho; omega) (by rw [sw]; exact hb)
      omega
  · rw [if_neg z, List.filter_cons, if_pos]
    · rfl
    · refine decide_eq_true fun o ho hol hb => ?_
      rw [List.length_append, List.length_singleton] at ho
      have hne : o ≠ ts.length := fun z => hol (List.mem_append_right _ (by rw [z]; exact List.mem_singleton.mpr rfl))
      rw [sw] at hb
      refine absurd hb (B_oldB he hC ht (fun k hk => ?_) z)
      rcases List.mem_append.mp hk with hk | hk
      · exact hl k hk
      · rw [List.mem_singleton.mp hk]; omega
theorem nL_new (he : e.1 ∈ ps ∧ e.2 ∈ ps) (hm : l ∈ lots ts.length) (h : ¬ J C e) : nL ps C (ts ++ [e]) (l ++ [ts.length]) = nL ps (C ++ [e]) ts l := by
  classical
  obtain ⟨hl, hn⟩ := lots_lt hm
  unfold nL
  rw [List.length_append, List.length_singleton, List.range_succ, List.filter_append, List.length_append]
  have e2 : ([ts.length].filter fun k => decide (k ∉ l ++ [ts.length] ∧ Lat ps C (ts ++ [e]) (l ++ [ts.length]) k)).length = 0 := by
    rw [List.filter_cons, if_neg]
    · rfl
    · intro q
      exact (of_decide_eq_true q).1 (List.mem_append_right _ (List.mem_singleton.mpr rfl))
  rw [e2, Nat.add_zero]
  refine filter_same fun k hk => decide_eq_decide.mpr ?_
  have hk := List.mem_range.mp hk
  have m1 : k ∉ l ++ [ts.length] ↔ k ∉ l := by
    rw [List.mem_append, List.mem_singleton]
    constructor
    · exact fun z y => z (.inl y)
    · intro z y
      rcases y with y | y
      · exact z y
      · omega
  rw [m1]
  refine and_congr_right fun _ => ?_
  have key : ∀ o ∈ l, (isB ps C (ts ++ [e]) (swp (l ++ [ts.length]) o k) ↔ isB ps (C ++ [e]) ts (swp l o k)) := fun o ho => by
    have := hl o ho
    exact (isB_perm (swp_app (by omega))).trans (B_new he (swp_lt hl hk) h)
  constructor
  · intro H o ho hb
    exact H o (List.mem_append_left _ ho) ((key o ho).mpr hb)
  · intro H o ho hb
    rcases List.mem_append.mp ho with ho | ho
    · exact H o ho ((key o ho).mp hb)
    · rw [List.mem_singleton.mp ho]; exact hk
theorem nT_cnt : ∀ (ts C : List Tie), On ps C → On ps ts → nT ps C ts = cnt C ts.reverse := by
  classical
  intro ts
  induction ts using snoc_ind with
  | h0 =>
    intro C hC _
    funext i j
    show (lots 0).countP _ = if i = 0 ∧ j = 0 then 1 else 0
    have hb : isB ps C [] [] := ⟨by rw [List.append_nil]; simp, by rw [show ta [] [] = [] from rfl]⟩
    rw [show lots 0 = [[]] from rfl, List.countP_cons, List.countP_nil, Nat.zero_add]
    have e1 : nE ps C [] [] = 0 := rfl
    have e2 : nL ps C [] [] = 0 := rfl
    by_cases z : i = 0 ∧ j = 0
    · rw [if_pos (decide_eq_true ⟨hb, e1.trans z.1.symm, e2.trans z.2.symm⟩), if_pos z]
    · rw [if_neg (fun q => z ⟨e1.symm.trans (of_decide_eq_true q).2.1 |>.symm, e2.symm.trans (of_decide_eq_true q).2.2 |>.symm⟩), if_neg z]
  | hs ts e ih =>
    intro C hC hts
    have ht : On ps ts := fun t h => hts t (List.mem_append_left _ h)
    have he : e.1 ∈ ps ∧ e.2 ∈ ps := hts e (List.mem_append_right _ (List.mem_singleton.mpr rfl))
    have hr : J (C ++ ts.reverse) e ↔ J (C ++ ts) e := J.same fun t => by simp
    rw [List.reverse_append, List.reverse_singleton, List.singleton_append]
    have i1 := ih C hC ht
    have i2 := ih (C ++ [e]) (hC.app (On.one he)) ht
    have split : ∀ i j, nT ps C (ts ++ [e]) i j = (lots ts.length).countP (fun l => decide (isB ps C (ts ++ [e]) l ∧ nE ps C (ts ++ [e]) l = i ∧ nL ps C (ts ++ [e]) l = j)) +
        (lots ts.length).countP (fun l => decide (isB ps C (ts ++ [e]) (l ++ [ts.length]) ∧ nE ps C (ts ++ [e]) (l ++ [ts.length]) = i ∧ nL ps C (ts ++ [e]) (l ++ [ts.length]) = j)) := fun i j => by
      unfold nT
      rw [List.length_append, List.length_singleton]
      show (lots ts.length ++ (lots ts.length).map (· ++ [ts.length])).countP _ = _
      rw [List.countP_append, List.countP_map]
      rfl
    have zero : ∀ (p : List Nat → Bool), (∀ l ∈ lots ts.length, p l = false) → (lots ts.length).countP p = 0 := fun p hp => List.countP_eq_zero.mpr fun l hl => by rw [hp l hl]; exact Bool.false_ne_true
    by_cases a : J C e
    · have hj : J (C ++ ts) e := a.mono fun t ht => List.mem_append_left _ ht
      rw [cnt_loop a, ← i1]
      funext i j
      rw [split]
      refine (congrArg (_ + ·) (zero _ fun l hl => decide_eq_false fun q => B_newL ht (lots_lt hl).1 a q.1)).trans ?_
      rw [Nat.add_zero]
      have c : ∀ l ∈ lots ts.length, (isB ps C (ts ++ [e]) l ∧ nE ps C (ts ++ [e]) l = i ∧ nL ps C (ts ++ [e]) l = j) ↔ (isB ps C ts l ∧ nE ps C ts l = i ∧ nL ps C ts l + 1 = j) := fun l hl => by
        rw [B_old (lots_lt hl).1 hj]
        refine and_congr_right fun hb => ?_
        rw [nE_old hl hj, nL_old hC ht he hl hb hj, if_pos a]
      cases j with
      | zero => exact zero _ fun l hl => decide_eq_false fun q => by have := ((c l hl).mp q).2.2; omega
      | succ j =>
        refine List.countP_congr fun l hl => ?_
        rw [decide_eq_true_iff, decide_eq_true_iff, c l hl]
        refine and_congr_right fun _ => and_congr_right fun _ => ?_
        omega
    · by_cases b : J (C ++ ts) e
      · rw [cnt_two a (hr.mpr b), ← i1, ← i2]
        funext i j
        rw [split]
        unfold ad nT
        congr 1
        · refine List.countP_congr fun l hl => ?_
          rw [decide_eq_true_iff, decide_eq_true_iff, B_old (lots_lt hl).1 b]
          refine and_congr_right fun hb => ?_
          rw [nE_old hl b, nL_old hC ht he hl hb b, if_neg a, Nat.add_zero]
        · refine List.countP_congr fun l hl => ?_
          rw [decide_eq_true_iff, decide_eq_true_iff, B_new he (lots_lt hl).1 a]
          refine and_congr_right fun hb => ?_
          rw [nE_new hC ht he hl hb a, nL_new he hl a, if_pos b, Nat.add_zero]
      · rw [cnt_brid (fun z => b (hr.mp z)), ← i2]
        funext i j
        rw [split]
        refine (congrArg (· + _) (zero _ fun l hl => decide_eq_false fun q => B_oldB he hC ht (lots_lt hl).1 b q.1)).trans ?_
        rw [Nat.zero_add]
        have c : ∀ l ∈ lots ts.length, (isB ps C (ts ++ [e]) (l ++ [ts.length]) ∧ nE ps C (ts ++ [e]) (l ++ [ts.length]) = i ∧ nL ps C (ts ++ [e]) (l ++ [ts.length]) = j) ↔ (isB ps (C ++ [e]) ts l ∧ nE ps (C ++ [e]) ts l + 1 = i ∧ nL ps (C ++ [e]) ts l = j) := fun l hl => by
          rw [B_new he (lots_lt hl).1 a]
          refine and_congr_right fun hb => ?_
          rw [nE_new hC ht he hl hb a, nL_new he hl a, if_neg b]
        cases i with
        | zero => exact zero _ fun l hl => decide_eq_false fun q => by have := ((c l hl).mp q).2.1; omega
        | succ i =>
          refine List.countP_congr fun l hl => ?_
          rw [decide_eq_true_iff, decide_eq_true_iff, c l hl]
          refine and_congr_right fun _ => and_congr_left fun _ => ?_
          omega
/-- the numbers hang on no order -/
theorem nT_perm {us : List Tie} (ht : On ps ts) (h : ts.Perm us) : nT ps [] ts = nT ps [] us := by
  rw [nT_cnt ts [] (fun t h => nomatch h) ht, nT_cnt us [] (fun t h => nomatch h) fun t hu => ht t (h.mem_iff.mpr hu)]
  exact cnt_perm ((List.reverse_perm ts).trans (h.trans (List.reverse_perm us).symm)) []
end
end Gr
set_option Elab.async false
set_option linter.all false
/-! Own text: a determinant of at most three rows counts woods: plain terms. -/
namespace Gr
/-- what a tie adds to an entry -/
def w (t : Tie) (a b : Nat) : Int := if t.1 = t.2 then 0 else if a = b then (if a = t.1 ∨ a = t.2 then 1 else 0) else if (a = t.1 ∧ b = t.2) ∨ (a = t.2 ∧ b = t.1) then -1 else 0
def Lp : List Tie → Nat → Nat → Int
  | [], _, _ => 0
  | t :: ps, a, b => Lp ps a b + w t a b
def Wd (L : Nat → Nat → Int) : List Nat → Int
  | [] => 1
  | [a] => L a a
  | [a, b] => L a a * L b b - L a b * L a b
  | [a, b, c] => L a a * L b b * L c c + 2 * (L a b * L b c * L a c) - L a a * (L b c * L b c) - L b b * (L a c * L a c) - L c c * (L a b * L a b)
  | _ => 0
theorem Wd1 (L : Nat → Nat → Int) (a : Nat) : Wd L [a] = L a a := rfl
theorem Wd2 (L : Nat → Nat → Int) (a b : Nat) : Wd L [a, b] = L a a * L b b - L a b * L a b := rfl
theorem Wd3 (L : Nat → Nat → Int) (a b c : Nat) : Wd L [a, b, c] = L a a * L b b * L c c + 2 * (L a b * L b c * L a c) - L a a * (L b c * L b c) - L b b * (L a c * L a c) - L c c * (L a b * L a b) := rfl
/-- ties with their ends renamed -/
def mp (f : Nat → Nat) (ps : List Tie) : List Tie := ps.map fun t => (f t.1, f t.2)
def W (f : Nat → Nat) (ns : List Nat) (ps : List Tie) : Int := Wd (Lp (mp f ps)) ns
def mv (f : Nat → Nat) (v u : Nat) : Nat → Nat := fun p => if f p = v then u else f p
theorem w_sym (t : Tie) (a b : Nat) : w t a b = w t b a := by
  unfold w
  grind
theorem Lp_sym : ∀ (ps : List Tie) (a b : Nat), Lp ps a b = Lp ps b a
  | [], _, _ => rfl
  | t :: ps, a, b => by
    show Lp ps a b + w t a b = Lp ps b a + w t b a
    rw [Lp_sym ps, w_sym]
section
variable {f : Nat → Nat} {u v a b : Nat} {ps : List Tie}
theorem Lp_mv1 (h : u ≠ v) : ∀ ps : List Tie, Lp (mp (mv f v u) ps) u u = Lp (mp f ps) u u + Lp (mp f ps) v v + 2 * Lp (mp f ps) u v
  | [] => rfl
  | t :: ps => by
    have ih := Lp_mv1 h ps
    show Lp (mp (mv f v u) ps) u u + w (mv f v u t.1, mv f v u t.2) u u = (Lp (mp f ps) u u + w (f t.1, f t.2) u u) + (Lp (mp f ps) v v + w (f t.1, f t.2) v v) + 2 * (Lp (mp f ps) u v + w (f t.1, f t.2) u v)
    have : w (mv f v u t.1, mv f v u t.2) u u = w (f t.1, f t.2) u u + w (f t.1, f t.2) v v + 2 * w (f t.1, f t.2) u v := by
      unfold w mv
      grind
    omega
theorem Lp_mv2 (h : u ≠ v) (hb : b ≠ u) (hb2 : b ≠ v) : ∀ ps : List Tie, Lp (mp (mv f v u) ps) u b = Lp (mp f ps) u b + Lp (mp f ps) v b
  | [] => rfl
  | t :: ps => by
    have ih := Lp_mv2 h hb hb2 ps
    show Lp (mp (mv f v u) ps) u b + w (mv f v u t.1, mv f v u t.2) u b = (Lp (mp f ps) u b + w (f t.1, f t.2) u b) + (Lp (mp f ps) v b + w (f t.1, f t.2) v b)
    have : w (mv f v u t.1, mv f v u t.2) u b = w (f t.1, f t.2) u b + w (f t.1, f t.2) v b := by
      unfold w mv
      grind
    omega
theorem Lp_mv3 (h : u ≠ v) (ha : a ≠ u) (ha2 : a ≠ v) (hb : b ≠ u) (hb2 : b ≠ v) : ∀ ps : List Tie, Lp (mp (mv f v u) ps) a b = Lp (mp f ps) a b
  | [] => rfl
  | t :: ps => by
    have ih := Lp_mv3 h ha ha2 hb hb2 ps
    show Lp (mp (mv f v u) ps) a b + w (mv f v u t.1, mv f v u t.2) a b = Lp (mp f ps) a b + w (f t.1, f t.2) a b
    have : w (mv f v u t.1, mv f v u t.2) a b = w (f t.1, f t.2) a b := by
      unfold w mv
      grind
    omega
end
def wo (ns : List Nat) (x : Nat) : List Nat := ns.filter fun y => !decide (y = x)
theorem Wd_congr {L L' : Nat → Nat → Int} {ns : List Nat} (h : ∀ a ∈ ns, ∀ b ∈ ns, L a b = L' a b) : Wd L ns = Wd L' ns := by
  match ns with
  | [] => rfl
  | [a] => exact h a (by simp) a (by simp)
  | [a, b] =>
    simp only [Wd1, Wd2, Wd3]
    rw [h a (by simp) a (by simp), h b (by simp) b (by simp), h a (by simp) b (by simp)]
  | [a, b, c] =>
    simp only [Wd1, Wd2, Wd3]
    rw [h a (by simp) a (by simp), h b (by simp) b (by simp), h c (by simp) c (by simp), h a (by simp) b (by simp), h b (by simp) c (by simp), h a (by simp) c (by simp)]
  | _ :: _ :: _ :: _ :: _ => rfl
section
variable {f : Nat → Nat} {ns : List Nat} {ps : List Tie} {t : Tie}
theorem W_loop (h : f t.1 = f t.2 ∨ (f t.1 ∉ ns ∧ f t.2 ∉ ns)) : W f ns (t :: ps) = W f ns ps := by
  unfold W
  refine Wd_congr fun a ha b hb => ?_
  show Lp (mp f ps) a b + w (f t.1, f t.2) a b = _
  have : w (f t.1, f t.2) a b = 0 := by
    unfold w
    grind
  omega
/-- one row gets one more -/
theorem Wd_one {L L' : Nat → Nat → Int} {u : Nat} (hs : ∀ a b, L a b = L b a) (hu : u ∈ ns) (hn : ns.Nodup) (h3 : ns.length ≤ 3) (h1 : L' u u = L u u + 1) (h2 : ∀ a ∈ ns, ∀ b ∈ ns, (a ≠ u ∨ b ≠ u) → L' a b = L a b) : Wd L' ns = Wd L ns + Wd L (wo ns u) := by
  match ns, h3 with
  | [], _ => cases hu
  | [a], _ =>
    obtain rfl : u = a := by simpa using hu
    have e : wo [u] u = [] := by simp [wo]
    rw [e]
    exact h1
  | [a, b], _ =>
    have hab : a ≠ b := by simp at hn; exact hn
    rcases List.mem_cons.mp hu with rfl | hu
    · have e : wo [u, b] u = [b] := by simp [wo, hab.symm]
      rw [e]
      simp only [Wd1, Wd2, Wd3]
      rw [h1, h2 b (by simp) b (by simp) (.inl hab.symm), h2 u (by simp) b (by simp) (.inr hab.symm)]
      grind
    · obtain rfl : u = b := by simpa using hu
      have e : wo [a, u] u = [a] := by simp [wo, hab]
      rw [e]
      simp only [Wd1, Wd2, Wd3]
      rw [h1, h2 a (by simp) a (by simp) (.inl hab), h2 a (by simp) u (by simp) (.inl hab)]
      grind
  | [a, b, c], _ =>
    obtain ⟨hab, hac, hbc⟩ : a ≠ b ∧ a ≠ c ∧ b ≠ c := by simp at hn; grind
    rcases List.mem_cons.mp hu with rfl | hu
    · have e : wo [u, b, c] u = [b, c] := by simp [wo, hab.symm, hac.symm]
      rw [e]
      simp only [Wd1, Wd2, Wd3]
      rw [h1, h2 b (by simp) b (by simp) (.inl hab.symm), h2 c (by simp) c (by simp) (.inl hac.symm), h2 u (by simp) b (by simp) (.inr hab.symm), h2 b (by simp) c (by simp) (.inl hab.symm), h2 u (by simp) c (by simp) (.inr hac.symm)]
      grind
    · rcases List.mem_cons.mp hu with rfl | hu
      · have e : wo [a, u, c] u = [a, c] := by simp [wo, hab, hbc.symm]
        rw [e]
        simp only [Wd1, Wd2, Wd3]
        rw [h1, h2 a (by simp) a (by simp) (.inl hab), h2 c (by simp) c (by simp) (.inl hbc.symm), h2 a (by simp) u (by simp) (.inl hab), h2 u (by simp) c (by simp) (.inr hbc.symm), h2 a (by simp) c (by simp) (.inl hab)]
        grind
      · obtain rfl : u = c := by simpa using hu
        have e : wo [a, b, u] u = [a, b] := by simp [wo, hac, hbc]
        rw [e]
        simp only [Wd1, Wd2, Wd3]
        rw [h1, h2 a (by simp) a (by simp) (.inl hac), h2 b (by simp) b (by simp) (.inl hbc), h2 a (by simp) b (by simp) (.inl hac), h2 b (by simp) u (by simp) (.inl hbc), h2 a (by simp) u (by simp) (.inl hac)]
        grind
  | _ :: _ :: _ :: _ :: _, h => simp at h
/-- two rows are joined -/
theorem Wd_two {L L' M : Nat → Nat → Int} {u v : Nat} (hs : ∀ a b, L a b = L b a) (hs' : ∀ a b, L' a b = L' b a) (hsm : ∀ a b, M a b = M b a) (hu : u ∈ ns) (hv : v ∈ ns) (ne : u ≠ v) (hn : ns.Nodup) (h3 : ns.length ≤ 3)
    (h1 : L' u u = L u u + 1) (h2 : L' v v = L v v + 1) (h4 : L' u v = L u v - 1) (h5 : ∀ a b, a ≠ u → a ≠ v → L' a b = L a b)
    (m1 : M u u = L u u + L v v + 2 * L u v) (m2 : ∀ b, b ≠ u → b ≠ v → M u b = L u b + L v b) (m3 : ∀ a b, a ≠ u → a ≠ v → b ≠ u → b ≠ v → M a b = L a b) : Wd L' ns = Wd L ns + Wd M (wo ns v) := by
  match ns, h3 with
  | [], _ => cases hu
  | [a], _ =>
    obtain rfl : u = a := by simpa using hu
    obtain rfl : v = u := by simpa using hv
    exact absurd rfl ne
  | [a, b], _ =>
    have hab : a ≠ b := by simp at hn; exact hn
    obtain ⟨rfl, rfl⟩ | ⟨rfl, rfl⟩ : (u = a ∧ v = b) ∨ (u = b ∧ v = a) := by simp at hu hv; grind
    · have e : wo [u, v] v = [u] := by simp [wo, hab]
      rw [e]
      simp only [Wd1, Wd2, Wd3]
      rw [h1, h2, h4, m1]
      grind
    · have e : wo [v, u] v = [u] := by simp [wo, hab.symm]
      rw [e]
      simp only [Wd1, Wd2, Wd3]
      rw [hs' v u, hs v u, h1, h2, h4, m1]
      grind
  | [a, b, c], _ =>
    obtain ⟨hab, hac, hbc⟩ : a ≠ b ∧ a ≠ c ∧ b ≠ c := by simp at hn; grind
    have key : ∀ x, x ≠ u → x ≠ v → L' x x = L x x ∧ L' x u = L x u ∧ L' x v = L x v ∧ L' u x = L u x ∧ L' v x = L v x ∧ M u x = L u x + L v x ∧ M x u = L u x + L v x ∧ M x x = L x x := fun x h h' =>
      ⟨h5 x x h h', h5 x u h h', h5 x v h h', by rw [hs' u x, hs u x]; exact h5 x u h h', by rw [hs' v x, hs v x]; exact h5 x v h h', m2 x h h', by rw [hsm]; exact m2 x h h', m3 x x h h' h h'⟩
    obtain ⟨rfl, rfl⟩ | ⟨rfl, rfl⟩ | ⟨rfl, rfl⟩ | ⟨rfl, rfl⟩ | ⟨rfl, rfl⟩ | ⟨rfl, rfl⟩ : (u = a ∧ v = b) ∨ (u = b ∧ v = a) ∨ (u = a ∧ v = c) ∨ (u = c ∧ v = a) ∨ (u = b ∧ v = c) ∨ (u = c ∧ v = b) := by simp at hu hv; grind
    · obtain ⟨k1, k2, k3, k4, k5, k6, k7, k8⟩ := key c hac.symm hbc.symm
      have e : wo [u, v, c] v = [u, c] := by simp [wo, hab, hbc.symm]
      rw [e]
      simp only [Wd1, Wd2, Wd3]
      rw [h1, h2, h4, m1, k1, k5, k4, k6, k8]
      grind
    · obtain ⟨k1, k2, k3, k4, k5, k6, k7, k8⟩ := key c hbc.symm hac.symm
      have e : wo [v, u, c] v = [u, c] := by simp [wo, hab.symm, hac.symm]
      rw [e]
      simp only [Wd1, Wd2, Wd3]
      rw [hs' v u, hs v u, h1, h2, h4, m1, k1, k5, k4, k6, k8]
      grind
    · obtain ⟨k1, k2, k3, k4, k5, k6, k7, k8⟩ := key b hab.symm hbc
      have e : wo [u, b, v] v = [u, b] := by simp [wo, hac, hbc]
      rw [e]
      simp only [Wd1, Wd2, Wd3]
      rw [h1, h2, h4, m1, k1, k4, k3, k6, k8, hs b v]
      grind
    · obtain ⟨k1, k2, k3, k4, k5, k6, k7, k8⟩ := key b hbc hab.symm
      have e : wo [v, b, u] v = [b, u] := by simp [wo, hab.symm, hac.symm]
      rw [e]
      simp only [Wd1, Wd2, Wd3]
      rw [hs' v u, hs v u, h1, h2, h4, m1, k1, k5, k2, k7, k8, hs b u]
      grind
    · obtain ⟨k1, k2, k3, k4, k5, k6, k7, k8⟩ := key a hab hac
      have e : wo [a, u, v] v = [a, u] := by simp [wo, hac, hbc]
      rw [e]
      simp only [Wd1, Wd2, Wd3]
      rw [h1, h2, h4, m1, k1, k2, k3, k7, k8, hs a u, hs a v]
      grind
    · obtain ⟨k1, k2, k3, k4, k5, k6, k7, k8⟩ := key a hac hab
      have e : wo [a, v, u] v = [a, u] := by simp [wo, hab, hbc.symm]
      rw [e]
      simp only [Wd1, Wd2, Wd3]
      rw [hs' v u, hs v u, h1, h2, h4, m1, k1, k2, k3, k7, k8, hs a u, hs a v]
      grind
  | _ :: _ :: _ :: _ :: _, h => simp at h
theorem W_one (h1 : f t.1 ∈ ns) (h2 : f t.2 ∉ ns) (hn : ns.Nodup) (h3 : ns.length ≤ 3) : W f ns (t :: ps) = W f ns ps + W f (wo ns (f t.1)) ps := by
  have ne : f t.1 ≠ f t.2 := fun e => h2 (e ▸ h1)
  refine Wd_one (Lp_sym _) h1 hn h3 ?_ fun a ha b hb hab => ?_
  · show Lp (mp f ps) _ _ + w (f t.1, f t.2) _ _ = _
    have : w (f t.1, f t.2) (f t.1) (f t.1) = 1 := by unfold w; grind
    omega
  · show Lp (mp f ps) _ _ + w (f t.1, f t.2) _ _ = _
    have : w (f t.1, f t.2) a b = 0 := by unfold w; grind
    omega
theorem W_one' (h1 : f t.1 ∉ ns) (h2 : f t.2 ∈ ns) (hn : ns.Nodup) (h3 : ns.length ≤ 3) : W f ns (t :: ps) = W f ns ps + W f (wo ns (f t.2)) ps := by
  have ne : f t.1 ≠ f t.2 := fun e => h1 (e ▸ h2)
  refine Wd_one (Lp_sym _) h2 hn h3 ?_ fun a ha b hb hab => ?_
  · show Lp (mp f ps) _ _ + w (f t.1, f t.2) _ _ = _
    have : w (f t.1, f t.2) (f t.2) (f t.2) = 1 := by unfold w; grind
    omega
  · show Lp (mp f ps) _ _ + w (f t.1, f t.2) _ _ = _
    have : w (f t.1, f t.2) a b = 0 := by unfold w; grind
    omega
theorem W_two (h1 : f t.1 ∈ ns) (h2 : f t.2 ∈ ns) (ne : f t.1 ≠ f t.2) (hn : ns.Nodup) (h3 : ns.length ≤ 3) : W f ns (t :: ps) = W f ns ps + W (mv f (f t.2) (f t.1)) (wo ns (f t.2)) ps := by
  have st : ∀ a b, Lp (mp f (t :: ps)) a b = Lp (mp f ps) a b + w (f t.1, f t.2) a b := fun _ _ => rfl
  refine Wd_two (Lp_sym _) (Lp_sym _) (Lp_sym _) h1 h2 ne hn h3 ?_ ?_ ?_ (fun a b ha ha2 => ?_) (Lp_mv1 ne ps) (fun b hb hb2 => Lp_mv2 ne hb hb2 ps) (fun a b ha ha2 hb hb2 => Lp_mv3 ne ha ha2 hb hb2 ps)
  · rw [st]
    have : w (f t.1, f t.2) (f t.1) (f t.1) = 1 := by unfold w; grind
    omega
  · rw [st]
    have : w (f t.1, f t.2) (f t.2) (f t.2) = 1 := by unfold w; grind
    omega
  · rw [st]
    have : w (f t.1, f t.2) (f t.1) (f t.2) = -1 := by unfold w; grind
    omega
  · rw [st]
    have : w (f t.1, f t.2) a b = 0 := by unfold w; grind
    omega
theorem W_nil (hn : ns.length ≤ 3) : W f ns [] = if ns = [] then 1 else 0 := by
  match ns, hn with
  | [], _ => rfl
  | [a], _ => rfl
  | [a, b], _ => rfl
  | [a, b, c], _ => rfl
  | _ :: _ :: _ :: _ :: _, h => simp at h
end
open Classical in
/-- woods of k of the ties, over what C join -/
noncomputable def Zi : List Tie → Nat → List Tie → Nat
  | _, k, [] => if k = 0 then 1 else 0
  | C, k, e :: R => Zi C k R + if J C e then 0 else match k with
    | 0 => 0
    | k + 1 => Zi (C ++ [e]) k R
theorem Zi_cons {C : List Tie} {e : Tie} {R : List Tie} [Decidable (J C e)] : ∀ {k : Nat}, Zi C k (e :: R) = Zi C k R + if J C e then 0 else match k with
    | 0 => 0
    | k + 1 => Zi (C ++ [e]) k R
  | 0 => by
    show Zi C 0 R + _ = _
    congr 1
    split <;> simp_all
  | k + 1 => by
    show Zi C (k + 1) R + _ = _
    congr 1
    split <;> simp_all
theorem Zi_loop {C : List Tie} {k : Nat} {e : Tie} {R : List Tie} (h : J C e) : Zi C k (e :: R) = Zi C k R := by
  classical
  rw [Zi_cons, if_pos h, Nat.add_zero]
theorem Zi_zero {C : List Tie} {e : Tie} {R : List Tie} : Zi C 0 (e :: R) = Zi C 0 R := by
  classical
  rw [Zi_cons]
  split <;> rfl
theorem Zi_succ {C : List Tie} {k : Nat} {e : Tie} {R : List Tie} (h : ¬ J C e) : Zi C (k + 1) (e :: R) = Zi C (k + 1) R + Zi (C ++ [e]) k R := by
  classical
  rw [Zi_cons, if_neg h]
theorem wo_len {ns : List Nat} {x : Nat} (hn : ns.Nodup) (hx : x ∈ ns) : (wo ns x).length + 1 = ns.length := by
  unfold wo
  have e : ns.filter (fun y => !decide (y = x)) = ns.erase x := by
    rw [hn.erase_eq_filter]
    refine List.filter_congr fun k _ => ?_
    by_cases z : k = x <;> simp [z]
  rw [e, List.length_erase_of_mem hx]
  have := List.length_pos_of_mem hx
  omega
theorem wo_mem {ns : List Nat} {x y : Nat} : y ∈ wo ns x ↔ y ∈ ns ∧ y ≠ x := by
  unfold wo
  rw [List.mem_filter]
  simp
/-- the determinant counts -/
theorem W_Zi {V : List Nat} : ∀ (ps : List Tie) (f : Nat → Nat) (ns : List Nat) (C : List Tie), On V ps → ns.Nodup → ns.length ≤ 3 → (∀ p ∈ V, ∀ q ∈ V, Cn C p q ↔ f p = f q ∨ (f p ∉ ns ∧ f q ∉ ns)) → W f ns ps = (Zi C ns.length ps : Int)
  | [], f, ns, C, _, hn, h3, _ => by
    rw [W_nil h3]
    show _ = ((if ns.length = 0 then 1 else 0 : Nat) : Int)
    cases ns <;> rfl
  | t :: ps, f, ns, C, ho, hn, h3, hc => by
    have ho' : On V ps := fun x hx => ho x (List.mem_cons_of_mem _ hx)
    obtain ⟨ha, hb⟩ := ho t List.mem_cons_self
    have ih := W_Zi ps f ns C ho' hn h3 hc
    have hJ := hc _ ha _ hb
    by_cases z : f t.1 = f t.2 ∨ (f t.1 ∉ ns ∧ f t.2 ∉ ns)
    · rw [W_loop z, Zi_loop (hJ.mpr z), ih]
    · have hj : ¬ J C t := fun q => z (hJ.mp q)
      have sn : ∀ p ∈ V, ∀ q ∈ V, Cn (C ++ [t]) p q ↔ Cn C p q ∨ ((Cn C p t.1 ∨ Cn C p t.2) ∧ (Cn C q t.1 ∨ Cn C q t.2)) := fun p _ q _ => cn_snoc
      have go : ∀ (x : Nat) (f' : Nat → Nat), x ∈ ns → W f ns (t :: ps) = W f ns ps + W f' (wo ns x) ps → (∀ p ∈ V, ∀ q ∈ V, Cn (C ++ [t]) p q ↔ f' p = f' q ∨ (f' p ∉ wo ns x ∧ f' q ∉ wo ns x)) → W f ns (t :: ps) = (Zi C ns.length (t :: ps) : Int) := by
        intro x f' hx e hcc
        have hl := wo_len hn hx
        rw [e, ih, ← hl, Zi_succ hj, W_Zi ps f' (wo ns x) (C ++ [t]) ho' (hn.filter _) (by omega) hcc, Int.natCast_add]
      by_cases h1 : f t.1 ∈ ns
      · by_cases h2 : f t.2 ∈ ns
        · have ne : f t.1 ≠ f t.2 := fun q => z (.inl q)
          refine go (f t.2) (mv f (f t.2) (f t.1)) h2 (W_two h1 h2 ne hn h3) fun p hp q hq => ?_
          rw [sn p hp q hq, hc p hp q hq, hc p hp _ ha, hc p hp _ hb, hc q hq _ ha, hc q hq _ hb, wo_mem, wo_mem]
          unfold mv
          grind
        · refine go (f t.1) f h1 (W_one h1 h2 hn h3) fun p hp q hq => ?_
          rw [sn p hp q hq, hc p hp q hq, hc p hp _ ha, hc p hp _ hb, hc q hq _ ha, hc q hq _ hb, wo_mem, wo_mem]
          grind
      · have h2 : f t.2 ∈ ns := Classical.byContradiction fun q => z (.inr ⟨h1, q⟩)
        refine go (f t.2) f h2 (W_one' h1 h2 hn h3) fun p hp q hq => ?_
        rw [sn p hp q hq, hc p hp q hq, hc p hp _ ha, hc p hp _ hb, hc q hq _ ha, hc q hq _ hb, wo_mem, wo_mem]
        grind
end Gr
set_option Elab.async false
set_option linter.all false
set_option maxHeartbeats 1000000
/-! Own text: elimination by whole numbers, at most three rows: plain terms. -/
namespace Gr
abbrev Mx := Nat → Nat → Int
def el (k : Nat) (bf : Int) (f : Mx) : Mx := fun p j => if p ≤ k then f p j else (f p j * f k k - f p k * f k j) / bf
def Rf (M : Mx) : Nat → Mx × Int
  | 0 => (M, 1)
  | k + 1 => (el k (Rf M k).2 (Rf M k).1, (Rf M k).1 k k)
/-- how elimination goes: pivots at the first m rows, none after -/
structure Goes (n m : Nat) (M : Mx) (B : Int) : Prop where
  le : m ≤ n
  pos : ∀ k, k < m → (Rf M k).1 k k ≠ 0 ∧ (k + 1 < n → 0 < (Rf M k).1 k k)
  stop : m < n → ∀ p, m ≤ p → p < n → (Rf M m).1 p m = 0
  bd : ∀ k, k ≤ m → k < n → ∀ i j, i < n → j < n → -B < (Rf M k).1 i j ∧ (Rf M k).1 i j < B
def valG (n m : Nat) (M : Mx) : Int := if m = n then (Rf M n).2 else 0
theorem mul_bd {a b B C : Int} (ha : -B ≤ a ∧ a ≤ B) (hb : -C ≤ b ∧ b ≤ C) : -(B * C) ≤ a * b ∧ a * b ≤ B * C := by
  have h1 : a.natAbs * b.natAbs ≤ B.natAbs * C.natAbs := Nat.mul_le_mul (by omega) (by omega)
  rw [← Int.natAbs_mul, ← Int.natAbs_mul] at h1
  have h2 : 0 ≤ B * C := Int.mul_nonneg (by omega) (by omega)
  omega
theorem div_bd {a b B : Int} (hb : 0 < b) (ha : -B ≤ a ∧ a ≤ B) : -B ≤ a / b ∧ a / b ≤ B := by
  constructor
  · refine (Int.le_ediv_iff_mul_le hb).mpr ?_
    have : -B * b ≤ -B * 1 := Int.mul_le_mul_of_nonpos_left (by omega) (by omega)
    omega
  · have : a / b ≤ B / b := Int.ediv_le_ediv hb ha.2
    have h2 : B / b ≤ B := Int.ediv_le_self _ (by omega)
    omega
theorem el_bd {k n : Nat} {bf B : Int} {f : Mx} (hbf : 0 < bf) (h0 : 1 ≤ B) (hk : k < n) (h : ∀ i j, i < n → j < n → -B ≤ f i j ∧ f i j ≤ B) : ∀ i j, i < n → j < n → -(2 * (B * B)) ≤ el k bf f i j ∧ el k bf f i j ≤ 2 * (B * B) := by
  intro i j hi hj
  have h1 := h i j hi hj
  have hBB : B * 1 ≤ B * B := Int.mul_le_mul_of_nonneg_left h0 (by omega)
  unfold el
  split
  · omega
  · have a1 := mul_bd h1 (h k k hk hk)
    have a2 := mul_bd (h i k hi hk) (h k j hk hj)
    exact div_bd hbf (by omega)
/-- sums of rows are at least nil, other entries at most -/
structure Dom (n : Nat) (M : Mx) : Prop where
  sym : ∀ i j, M i j = M j i
  off : ∀ i j, i < n → j < n → i ≠ j → M i j ≤ 0
  row1 : ∀ i, i < n → 0 ≤ M i i
  row2 : ∀ i j, i < n → j < n → i ≠ j → 0 ≤ M i i + M i j
  row3 : ∀ i j k, i < n → j < n → k < n → i ≠ j → i ≠ k → j ≠ k → 0 ≤ M i i + M i j + M i k
  bd : ∀ i j, -12 ≤ M i j ∧ M i j ≤ 12
def dt (n : Nat) (M : Mx) : Int := match n with
  | 0 => 1
  | 1 => M 0 0
  | 2 => M 0 0 * M 1 1 - M 0 1 * M 0 1
  | 3 => M 0 0 * M 1 1 * M 2 2 + 2 * (M 0 1 * M 1 2 * M 0 2) - M 0 0 * (M 1 2 * M 1 2) - M 1 1 * (M 0 2 * M 0 2) - M 2 2 * (M 0 1 * M 0 1)
  | _ => 0
theorem Rf1 (M : Mx) (p j : Nat) : (Rf M 1).1 p j = if p ≤ 0 then M p j else M p j * M 0 0 - M p 0 * M 0 j := by
  show el 0 1 M p j = _
  unfold el
  rw [Int.ediv_one]
theorem Rf1b (M : Mx) : (Rf M 1).2 = M 0 0 := rfl
theorem Rf2 (M : Mx) (p j : Nat) : (Rf M 2).1 p j = if p ≤ 1 then (Rf M 1).1 p j else ((Rf M 1).1 p j * (Rf M 1).1 1 1 - (Rf M 1).1 p 1 * (Rf M 1).1 1 j) / M 0 0 := rfl
theorem Rf2b (M : Mx) : (Rf M 2).2 = (Rf M 1).1 1 1 := rfl
theorem Rf3b (M : Mx) : (Rf M 3).2 = (Rf M 2).1 2 2 := rfl
theorem minor_pos {a b c d e : Int} (hb : b ≤ 0) (hc : c ≤ 0) (he : e ≤ 0) (h1 : 0 ≤ a + b + c) (h2 : 0 ≤ d + b + e) : 0 ≤ a * d - b * b := by
  have x1 : 0 ≤ (a + b) * (d + b) := Int.mul_nonneg (by omega) (by omega)
  have x2 : 0 ≤ (a + b) * (-b) := Int.mul_nonneg (by omega) (by omega)
  have x3 : 0 ≤ (-b) * (d + b) := Int.mul_nonneg (by omega) (by omega)
  grind
theorem minor_zero {a b c d e : Int} (ha : 0 < a) (hb : b ≤ 0) (hc : c ≤ 0) (he : e ≤ 0) (h1 : 0 ≤ a + b + c) (h2 : 0 ≤ d + b + e) (hz : a * d - b * b = 0) : e * a - c * b = 0 := by
  have x1 : 0 ≤ (a + b) * (d + b) := Int.mul_nonneg (by omega) (by omega)
  have x2 : 0 ≤ (a + b) * (-b) := Int.mul_nonneg (by omega) (by omega)
  have x3 : 0 ≤ (-b) * (d + b) := Int.mul_nonneg (by omega) (by omega)
  have key : a * d - b * b = (a + b) * (d + b) + (a + b) * (-b) + (-b) * (d + b) := by grind
  rw [hz] at key
  have y2' : (a + b) * (-b) = 0 := by
    generalize (a + b) * (d + b) = X at *
    generalize (a + b) * (-b) = Y at *
    generalize (-b) * (d + b) = Z at *
    omega
  have y3' : (-b) * (d + b) = 0 := by
    generalize (a + b) * (d + b) = X at *
    generalize (a + b) * (-b) = Y at *
    generalize (-b) * (d + b) = Z at *
    omega
  have y2 : (a + b) * b = 0 := by grind
  have y3 : b * (d + b) = 0 := by grind
  by_cases hb0 : b = 0
  · subst hb0
    have : a * d = 0 := by grind
    have hd : d = 0 := by
      rcases Int.mul_eq_zero.mp this with z | z
      · omega
      · exact z
    have : e = 0 := by omega
    subst this
    simp
  · have p1 : a + b = 0 := by
      rcases Int.mul_eq_zero.mp y2 with z | z
      · exact z
      · exact absurd z hb0
    have p2 : d + b = 0 := by
      rcases Int.mul_eq_zero.mp y3 with z | z
      · exact absurd z hb0
      · exact z
    have : c = 0 := by omega
    have : e = 0 := by omega
    subst_vars
    simp
theorem goes {n : Nat} {M : Mx} (h3 : n ≤ 3) (D : Dom n M) : ∃ m, Goes n m M 400000 ∧ valG n m M = dt n M := by
  have b0 : ∀ i j, i < n → j < n → -12 ≤ (Rf M 0).1 i j ∧ (Rf M 0).1 i j ≤ 12 := fun i j _ _ => D.bd i j
  have b1 : 0 < n → ∀ i j, i < n → j < n → -288 ≤ (Rf M 1).1 i j ∧ (Rf M 1).1 i j ≤ 288 := fun hn i j hi hj => el_bd (k := 0) (bf := 1) (B := 12) (by omega) (by omega) hn b0 i j hi hj
  have b2 : 1 < n → 0 < M 0 0 → ∀ i j, i < n → j < n → -165888 ≤ (Rf M 2).1 i j ∧ (Rf M 2).1 i j ≤ 165888 := fun hn hp i j hi hj => el_bd (k := 1) (bf := M 0 0) (B := 288) hp (by omega) hn (b1 (by omega)) i j hi hj
  have bd : ∀ m, m ≤ n → (∀ k, k < m → (Rf M k).1 k k ≠ 0 ∧ (k + 1 < n → 0 < (Rf M k).1 k k)) → ∀ k, k ≤ m → k < n → ∀ i j, i < n → j < n → -400000 < (Rf M k).1 i j ∧ (Rf M k).1 i j < 400000 := by
    intro m hm hp k hk hkn i j hi hj
    match k, hk, hkn with
    | 0, _, _ => have := b0 i j hi hj; omega
    | 1, _, _ => have := b1 (by omega) i j hi hj; omega
    | 2, _, _ => have := b2 (by omega) ((hp 0 (by omega)).2 (by omega)) i j hi hj; omega
    | k + 3, _, h => omega
  have mk : ∀ m, m ≤ n → (∀ k, k < m → (Rf M k).1 k k ≠ 0 ∧ (k + 1 < n → 0 < (Rf M k).1 k k)) → (m < n → ∀ p, m ≤ p → p < n → (Rf M m).1 p m = 0) → valG n m M = dt n M → ∃ m, Goes n m M 400000 ∧ valG n m M = dt n M := fun m hm hp hs hv => ⟨m, ⟨hm, hp, hs, bd m hm hp⟩, hv⟩
  have s10 := D.sym 1 0
  have s20 := D.sym 2 0
  have s21 := D.sym 2 1
  have o01 := fun h : 1 < n => D.off 0 1 (by omega) (by omega) (by omega)
  have o02 := fun h : 2 < n => D.off 0 2 (by omega) (by omega) (by omega)
  have o12 := fun h : 2 < n => D.off 1 2 (by omega) (by omega) (by omega)
  match n, h3, mk, D, o01, o02, o12 with
  | 0, _, mk, D, o01, o02, o12 => exact mk 0 (by omega) (fun k h => by omega) (fun h => by omega) rfl
  | 1, _, mk, D, o01, o02, o12 =>
    have r0 := D.row1 0 (by omega)
    by_cases z : M 0 0 = 0
    · refine mk 0 (by omega) (fun k h => by omega) (fun _ p _ hp => ?_) ?_
      · obtain rfl : p = 0 := by omega
        exact z
      · exact z.symm
    · refine mk 1 (by omega) (fun k h => ?_) (fun h => by omega) rfl
      obtain rfl : k = 0 := by omega
      show M 0 0 ≠ 0 ∧ (_ → 0 < M 0 0)
      omega
  | 2, _, mk, D, o01, o02, o12 =>
    have o01 := o01 (by omega)
    have r0 := D.row1 0 (by omega)
    have r01 := D.row2 0 1 (by omega) (by omega) (by omega)
    have r10 := D.row2 1 0 (by omega) (by omega) (by omega)
    by_cases z : M 0 0 = 0
    · have q : M 0 1 = 0 := by omega
      refine mk 0 (by omega) (fun k h => by omega) (fun _ p _ hp => ?_) ?_
      · match p, hp with
        | 0, _ => exact z
        | 1, _ => show M 1 0 = 0; omega
        | p + 2, h => omega
      · show 0 = M 0 0 * M 1 1 - M 0 1 * M 0 1
        rw [z, q]; simp
    · have e11 : (Rf M 1).1 1 1 = M 0 0 * M 1 1 - M 0 1 * M 0 1 := by rw [Rf1, if_neg (by omega), s10, Int.mul_comm]
      have hp := minor_pos (a := M 0 0) (b := M 0 1) (c := 0) (d := M 1 1) (e := 0) o01 (by omega) (by omega) (by omega) (by omega)
      by_cases z2 : (Rf M 1).1 1 1 = 0
      · refine mk 1 (by omega) (fun k h => ?_) (fun _ p hp hp2 => ?_) ?_
        · obtain rfl : k = 0 := by omega
          show M 0 0 ≠ 0 ∧ (_ → 0 < M 0 0)
          omega
        · obtain rfl : p = 1 := by omega
          exact z2
        · show 0 = M 0 0 * M 1 1 - M 0 1 * M 0 1
          rw [← e11, z2]
      · refine mk 2 (by omega) (fun k h => ?_) (fun h => by omega) ?_
        · match k, h with
          | 0, _ => show M 0 0 ≠ 0 ∧ (_ → 0 < M 0 0); omega
          | 1, _ => rw [e11] at z2 ⊢; omega
          | k + 2, h => omega
        · exact e11
  | 3, _, mk, D, o01, o02, o12 =>
    have o01 := o01 (by omega)
    have o02 := o02 (by omega)
    have o12 := o12 (by omega)
    have r0 := D.row1 0 (by omega)
    have r0' := D.row3 0 1 2 (by omega) (by omega) (by omega) (by omega) (by omega) (by omega)
    have r1' := D.row3 1 0 2 (by omega) (by omega) (by omega) (by omega) (by omega) (by omega)
    by_cases z : M 0 0 = 0
    · have q : M 0 1 = 0 := by omega
      have q2 : M 0 2 = 0 := by omega
      refine mk 0 (by omega) (fun k h => by omega) (fun _ p _ hp => ?_) ?_
      · match p, hp with
        | 0, _ => exact z
        | 1, _ => show M 1 0 = 0; omega
        | 2, _ => show M 2 0 = 0; omega
        | p + 3, h => omega
      · show 0 = M 0 0 * M 1 1 * M 2 2 + 2 * (M 0 1 * M 1 2 * M 0 2) - M 0 0 * (M 1 2 * M 1 2) - M 1 1 * (M 0 2 * M 0 2) - M 2 2 * (M 0 1 * M 0 1)
        rw [z, q, q2]; simp
    · have e11 : (Rf M 1).1 1 1 = M 0 0 * M 1 1 - M 0 1 * M 0 1 := by rw [Rf1, if_neg (by omega), s10, Int.mul_comm]
      have e12 : (Rf M 1).1 1 2 = M 1 2 * M 0 0 - M 0 2 * M 0 1 := by rw [Rf1, if_neg (by omega), s10]; grind
      have e21 : (Rf M 1).1 2 1 = M 1 2 * M 0 0 - M 0 2 * M 0 1 := by rw [Rf1, if_neg (by omega), s21, s20]
      have e22 : (Rf M 1).1 2 2 = M 2 2 * M 0 0 - M 0 2 * M 0 2 := by rw [Rf1, if_neg (by omega), s20]
      have hp := minor_pos (a := M 0 0) (b := M 0 1) (c := M 0 2) (d := M 1 1) (e := M 1 2) o01 o02 o12 (by omega) (by omega)
      have dd : (Rf M 1).1 2 2 * (Rf M 1).1 1 1 - (Rf M 1).1 2 1 * (Rf M 1).1 1 2 = M 0 0 * (M 0 0 * M 1 1 * M 2 2 + 2 * (M 0 1 * M 1 2 * M 0 2) - M 0 0 * (M 1 2 * M 1 2) - M 1 1 * (M 0 2 * M 0 2) - M 2 2 * (M 0 1 * M 0 1)) := by
        rw [e11, e12, e21, e22]; grind
      by_cases z2 : (Rf M 1).1 1 1 = 0
      · have e21z : (Rf M 1).1 2 1 = 0 := by
          rw [e21]
          rw [e11] at z2
          exact minor_zero (a := M 0 0) (d := M 1 1) (by omega) o01 o02 o12 (by omega) (by omega) z2
        refine mk 1 (by omega) (fun k h => ?_) (fun _ p hp hp2 => ?_) ?_
        · obtain rfl : k = 0 := by omega
          show M 0 0 ≠ 0 ∧ (_ → 0 < M 0 0)
          omega
        · match p, hp, hp2 with
          | 1, _, _ => exact z2
          | 2, _, _ => exact e21z
          | p + 3, _, h => omega
        · rw [z2, e21z] at dd
          have : M 0 0 * dt 3 M = 0 := by rw [show M 0 0 * dt 3 M = _ from dd.symm]; simp
          rcases Int.mul_eq_zero.mp this with y | y
          · exact absurd y z
          · rw [y]; rfl
      · have e33 : (Rf M 2).1 2 2 = dt 3 M := by
          rw [Rf2, if_neg (by omega), dd]
          exact Int.mul_ediv_cancel_left _ z
        have pos2 : ∀ k, k < 2 → 0 < (Rf M k).1 k k := fun k h => by
          match k, h with
          | 0, _ => show 0 < M 0 0; omega
          | 1, _ => rw [e11] at z2 ⊢; omega
          | k + 2, h => omega
        by_cases z3 : (Rf M 2).1 2 2 = 0
        · refine mk 2 (by omega) (fun k h => ?_) (fun _ p hp hp2 => ?_) ?_
          · have := pos2 k h; omega
          · obtain rfl : p = 2 := by omega
            exact z3
          · rw [← e33, z3]; rfl
        · refine mk 3 (by omega) (fun k h => ?_) (fun h => by omega) e33
          by_cases hk : k = 2
          · subst hk; exact ⟨z3, fun h => by omega⟩
          · have := pos2 k (by omega); omega
  | n + 4, h, _, _, _, _, _ => omega
section
variable {a b c : Nat}
theorem Lp_dg (a : Nat) : ∀ qs : List Tie, 0 ≤ Lp qs a a
  | [] => Int.le_refl 0
  | t :: qs => by
    have := Lp_dg a qs
    show 0 ≤ Lp qs a a + w t a a
    have : 0 ≤ w t a a := by unfold w; grind
    omega
theorem Lp_off (h : a ≠ b) : ∀ qs : List Tie, Lp qs a b ≤ 0
  | [] => Int.le_refl 0
  | t :: qs => by
    have := Lp_off h qs
    show Lp qs a b + w t a b ≤ 0
    have : w t a b ≤ 0 := by unfold w; grind
    omega
theorem Lp_two (h : a ≠ b) : ∀ qs : List Tie, 0 ≤ Lp qs a a + Lp qs a b
  | [] => Int.le_refl 0
  | t :: qs => by
    have := Lp_two h qs
    show 0 ≤ Lp qs a a + w t a a + (Lp qs a b + w t a b)
    have : 0 ≤ w t a a + w t a b := by unfold w; grind
    omega
theorem Lp_three (h : a ≠ b) (h2 : a ≠ c) (h3 : b ≠ c) : ∀ qs : List Tie, 0 ≤ Lp qs a a + Lp qs a b + Lp qs a c
  | [] => Int.le_refl 0
  | t :: qs => by
    have := Lp_three h h2 h3 qs
    show 0 ≤ Lp qs a a + w t a a + (Lp qs a b + w t a b) + (Lp qs a c + w t a c)
    have : 0 ≤ w t a a + w t a b + w t a c := by unfold w; grind
    omega
theorem Lp_bd (a b : Nat) : ∀ qs : List Tie, -(qs.length : Int) ≤ Lp qs a b ∧ Lp qs a b ≤ (qs.length : Int)
  | [] => ⟨Int.le_refl 0, Int.le_refl 0⟩
  | t :: qs => by
    have := Lp_bd a b qs
    show -(((qs.length + 1 : Nat)) : Int) ≤ Lp qs a b + w t a b ∧ Lp qs a b + w t a b ≤ ((qs.length + 1 : Nat) : Int)
    have : -1 ≤ w t a b ∧ w t a b ≤ 1 := by unfold w; grind
    omega
end
theorem lp_dom {ns : List Nat} {qs : List Tie} (hn : ns.Nodup) (h6 : qs.length ≤ 6) : Dom ns.length fun i j => Lp qs (ns.getD i 0) (ns.getD j 0) := by
  have ne : ∀ i j, i < ns.length → j < ns.length → i ≠ j → ns.getD i 0 ≠ ns.getD j 0 := fun i j hi hj h e => by
    rw [List.getD_eq_getElem?_getD, List.getD_eq_getElem?_getD, List.getElem?_eq_getElem hi, List.getElem?_eq_getElem hj] at e
    exact h ((List.getElem_inj hn).mp e)
  refine ⟨fun i j => Lp_sym _ _ _, fun i j hi hj h => Lp_off (ne i j hi hj h) _, fun i _ => Lp_dg _ _, fun i j hi hj h => Lp_two (ne i j hi hj h) _, fun i j k hi hj hk h h2 h3 => Lp_three (ne i j hi hj h) (ne i k hi hk h2) (ne j k hj hk h3) _, fun i j => ?_⟩
  have := Lp_bd (ns.getD i 0) (ns.getD j 0) qs
  omega
theorem dt_Wd {ns : List Nat} {L : Nat → Nat → Int} (h3 : ns.length ≤ 3) : dt ns.length (fun i j => L (ns.getD i 0) (ns.getD j 0)) = Wd L ns := by
  match ns, h3 with
  | [], _ => rfl
  | [a], _ => rfl
  | [a, b], _ => rfl
  | [a, b, c], _ => rfl
  | _ :: _ :: _ :: _ :: _, h => simp at h
end Gr
set_option Elab.async false
set_option linter.all false
set_option maxHeartbeats 1000000
/-! Own text: a determinant counts the trees over some ties: plain terms. -/
namespace Gr
variable {V : List Nat} {C : List Tie} {f g : Nat → Nat}
theorem lab_idem : ∀ (ts : List Tie) (p : Nat), lab ts (lab ts p) = lab ts p := by
  intro ts
  induction ts using snoc_ind with
  | h0 => intro p; rfl
  | hs l t ih =>
    intro p
    obtain ⟨a, b⟩ := t
    rw [lab_snoc]
    have ha := ih a
    have hb := ih b
    have hp := ih p
    unfold mg
    simp only
    generalize lab l = F at *
    rcases Nat.le_total (F a) (F b) with z | z
    · rw [Nat.max_eq_right z, Nat.min_eq_left z]; grind
    · rw [Nat.max_eq_left z, Nat.min_eq_right z]; grind
theorem lab_on : ∀ {ts : List Tie}, On V ts → ∀ p ∈ V, lab ts p ∈ V := by
  intro ts
  induction ts using snoc_ind with
  | h0 => intro _ p hp; exact hp
  | hs l t ih =>
    intro ho p hp
    have ih := ih fun x hx => ho x (List.mem_append_left _ hx)
    obtain ⟨h1, h2⟩ := ho t (List.mem_append_right _ (List.mem_singleton.mpr rfl))
    rw [lab_snoc]
    unfold mg
    have a1 := ih _ h1
    have a2 := ih _ h2
    split
    · rcases Nat.le_total (lab l t.1) (lab l t.2) with z | z
      · rw [Nat.min_eq_left z]; exact a1
      · rw [Nat.min_eq_right z]; exact a2
    · exact ih p hp
/-- joined names -/
theorem mp_cn (hf : ∀ p q, Cn C p q ↔ f p = f q) : ∀ (us : List Tie) (p q : Nat), Cn (mp f us) (f p) (f q) ↔ Cn (C ++ us) p q := by
  intro us
  induction us using snoc_ind with
  | h0 =>
    intro p q
    rw [List.append_nil, hf]
    exact ⟨fun h => cn_nil h, fun h => h ▸ .refl _⟩
  | hs l t ih =>
    intro p q
    obtain ⟨a, b⟩ := t
    have e : mp f (l ++ [(a, b)]) = mp f l ++ [(f a, f b)] := by unfold mp; simp
    rw [e, ← List.append_assoc, cn_snoc, cn_snoc, ih, ih, ih, ih, ih]
theorem Lp_mp_cong {ns : List Nat} (h : ∀ p, (f p ∈ ns ∨ g p ∈ ns) → f p = g p) {a b : Nat} (ha : a ∈ ns) (hb : b ∈ ns) : ∀ ps : List Tie, Lp (mp f ps) a b = Lp (mp g ps) a b
  | [] => rfl
  | t :: ps => by
    have ih := Lp_mp_cong h ha hb ps
    show Lp (mp f ps) a b + w (f t.1, f t.2) a b = Lp (mp g ps) a b + w (g t.1, g t.2) a b
    have : w (f t.1, f t.2) a b = w (g t.1, g t.2) a b := by
      have h1 := h t.1
      have h2 := h t.2
      unfold w
      grind
    omega
theorem W_cong {ns : List Nat} {ps : List Tie} (h : ∀ p, (f p ∈ ns ∨ g p ∈ ns) → f p = g p) : W f ns ps = W g ns ps := Wd_congr fun _ ha _ hb => Lp_mp_cong h ha hb ps
/-- the determinant counts, at most one name left out of each herd -/
theorem W_Zi' : ∀ (ps : List Tie) (f : Nat → Nat) (ns : List Nat) (C : List Tie), ns.Nodup → ns.length ≤ 3 → (∀ p q, Cn C p q ↔ f p = f q) → (∀ p q, Cn (C ++ ps) p q → f p ∉ ns → f q ∉ ns → f p = f q) → W f ns ps = (Zi C ns.length ps : Int)
  | [], f, ns, C, hn, h3, _, _ => by
    rw [W_nil h3]
    show _ = ((if ns.length = 0 then 1 else 0 : Nat) : Int)
    cases ns <;> rfl
  | t :: ps, f, ns, C, hn, h3, hc, hr => by
    have sub : ∀ {p q : Nat}, Cn (C ++ ps) p q → Cn (C ++ t :: ps) p q := fun h => h.mono fun x hx => by
      rcases List.mem_append.mp hx with z | z
      · exact List.mem_append_left _ z
      · exact List.mem_append_right _ (List.mem_cons_of_mem _ z)
    have sub2 : ∀ {p q : Nat}, Cn (C ++ [t] ++ ps) p q → Cn (C ++ t :: ps) p q := fun h => by rwa [List.append_assoc, List.singleton_append] at h
    have ih := W_Zi' ps f ns C hn h3 hc fun p q c => hr p q (sub c)
    have tt : Cn (C ++ t :: ps) t.1 t.2 := .fwd (.refl _) (List.mem_append_right _ List.mem_cons_self)
    have hJ := hc t.1 t.2
    by_cases z : f t.1 = f t.2 ∨ (f t.1 ∉ ns ∧ f t.2 ∉ ns)
    · have z' : f t.1 = f t.2 := z.elim id fun ⟨a, b⟩ => hr _ _ tt a b
      rw [W_loop z, Zi_loop (hJ.mpr z'), ih]
    · have hj : ¬ J C t := fun q => z (.inl (hJ.mp q))
      have ne : f t.1 ≠ f t.2 := fun q => z (.inl q)
      have sn : ∀ p q, Cn (C ++ [t]) p q ↔ f p = f q ∨ ((f p = f t.1 ∨ f p = f t.2) ∧ (f q = f t.1 ∨ f q = f t.2)) := fun p q => by
        rw [cn_snoc (a := t.1) (b := t.2), hc, hc, hc, hc, hc]
      have go : ∀ (x : Nat) (f' : Nat → Nat), x ∈ ns → W f ns (t :: ps) = W f ns ps + W f' (wo ns x) ps → (∀ p q, Cn (C ++ [t]) p q ↔ f' p = f' q) → (∀ p q, Cn (C ++ t :: ps) p q → f' p ∉ wo ns x → f' q ∉ wo ns x → f' p = f' q) → W f ns (t :: ps) = (Zi C ns.length (t :: ps) : Int) := by
        intro x f' hx e hcc hrr
        have hl := wo_len hn hx
        rw [e, ih, ← hl, Zi_succ hj, W_Zi' ps f' (wo ns x) (C ++ [t]) (hn.filter _) (by omega) hcc fun p q c => hrr p q (sub2 c), Int.natCast_add]
      have one : ∀ (a b : Nat), f a ∈ ns → f b ∉ ns → f a ≠ f b → Cn (C ++ t :: ps) a b → (∀ p q, Cn (C ++ [t]) p q ↔ f p = f q ∨ ((f p = f a ∨ f p = f b) ∧ (f q = f a ∨ f q = f b))) → W f ns (t :: ps) = W f ns ps + W f (wo ns (f a)) ps → W f ns (t :: ps) = (Zi C ns.length (t :: ps) : Int) := by
        intro a b ha hb hab hcn sn e
        refine go (f a) (mv f (f a) (f b)) ha ?_ (fun p q => ?_) fun p q c => ?_
        · rw [e, W_cong (f := f) (g := mv f (f a) (f b)) (ns := wo ns (f a)) fun p hp => ?_]
          rw [wo_mem, wo_mem] at hp
          unfold mv at hp ⊢
          by_cases y : f p = f a
          · rw [if_pos y] at hp ⊢
            rcases hp with hp | hp
            · exact absurd y hp.2
            · exact absurd hp.1 hb
          · rw [if_neg y]
        · rw [sn]
          unfold mv
          grind
        · rw [wo_mem, wo_mem]
          have key : ∀ p, ¬ (mv f (f a) (f b) p ∈ ns ∧ mv f (f a) (f b) p ≠ f a) → ∃ p', Cn (C ++ t :: ps) p p' ∧ f p' ∉ ns ∧ f p' = mv f (f a) (f b) p := by
            intro p hp
            unfold mv at hp ⊢
            by_cases y : f p = f a
            · rw [if_pos y]
              refine ⟨b, ?_, hb, rfl⟩
              have : Cn C p a := (hc p a).mpr y
              exact (this.mono fun x hx => List.mem_append_left _ hx).trans hcn
            · rw [if_neg y] at hp ⊢
              exact ⟨p, .refl _, fun m => hp ⟨m, y⟩, rfl⟩
          intro h1 h2
          obtain ⟨p', a1, a2, a3⟩ := key p h1
          obtain ⟨q', b1, b2, b3⟩ := key q h2
          rw [← a3, ← b3]
          exact hr p' q' ((a1.symm.trans c).trans b1) a2 b2
      by_cases h1 : f t.1 ∈ ns
      · by_cases h2 : f t.2 ∈ ns
        · refine go (f t.2) (mv f (f t.2) (f t.1)) h2 (W_two h1 h2 ne hn h3) (fun p q => ?_) fun p q c => ?_
          · rw [sn]
            unfold mv
            grind
          · rw [wo_mem, wo_mem]
            have := hr p q c
            unfold mv
            grind
        · exact one t.1 t.2 h1 h2 ne tt sn (W_one h1 h2 hn h3)
      · have h2 : f t.2 ∈ ns := Classical.byContradiction fun q => z (.inr ⟨h1, q⟩)
        refine one t.2 t.1 h2 h1 (fun e => ne e.symm) tt.symm (fun p q => ?_) (W_one' h1 h2 hn h3)
        rw [sn]
        grind
/-- sublists -/
def sb {α : Type} : List α → List (List α)
  | [] => [[]]
  | x :: xs => sb xs ++ (sb xs).map (x :: ·)
theorem sb_mem {α : Type} : ∀ {xs A : List α}, A ∈ sb xs → ∀ x ∈ A, x ∈ xs
  | [], A, h, x, hx => by
    rw [List.mem_singleton.mp (show A ∈ [[]] from h)] at hx
    exact hx
  | y :: ys, A, h, x, hx => by
    rcases List.mem_append.mp (show A ∈ sb ys ++ (sb ys).map (y :: ·) from h) with h | h
    · exact List.mem_cons_of_mem _ (sb_mem h x hx)
    · obtain ⟨B, hB, rfl⟩ := List.mem_map.mp h
      rcases List.mem_cons.mp hx with rfl | hx
      · exact List.mem_cons_self
      · exact List.mem_cons_of_mem _ (sb_mem hB x hx)
theorem sb_snoc {α : Type} (m : α) : ∀ xs : List α, (sb (xs ++ [m])).Perm (sb xs ++ (sb xs).map (· ++ [m]))
  | [] => .refl _
  | x :: xs => by
    have ih := sb_snoc m xs
    show (sb (xs ++ [m]) ++ (sb (xs ++ [m])).map (x :: ·)).Perm ((sb xs ++ (sb xs).map (x :: ·)) ++ (sb xs ++ (sb xs).map (x :: ·)).map (· ++ [m]))
    refine (ih.append (ih.map _)).trans ?_
    rw [List.map_append, List.map_append, List.map_map, List.map_map, List.append_assoc, List.append_assoc]
    refine .append_left _ ?_
    rw [← List.append_assoc, ← List.append_assoc]
    refine .append_right _ ?_
    exact List.perm_append_comm
theorem lots_sb : ∀ n, (lots n).Perm (sb (List.range n))
  | 0 => .refl _
  | n + 1 => by
    rw [List.range_succ]
    refine .trans ?_ (sb_snoc n _).symm
    exact (lots_sb n).append ((lots_sb n).map _)
def im (g : Nat → Tie) (l : List Nat) : List Tie := l.map g
/-- woods counted are lots -/
theorem Zi_cnt {g : Nat → Tie} : ∀ (R B : List Nat) (k : Nat), On V (im g (B ++ R)) → Zi (im g B) k (im g R) = (sb R).countP fun A => decide (A.length = k) && decide (rk V (im g (B ++ A)) = rk V (im g B) + k)
  | [], B, k, _ => by
    show (if k = 0 then 1 else 0) = _
    unfold sb
    by_cases z : k = 0
    · subst z; simp
    · rw [if_neg z]
      simp [show ¬ 0 = k from fun h => z h.symm]
  | e :: R, B, k, ho => by
    have hoR : On V (im g (B ++ R)) := fun t ht => ho t (by unfold im at *; simp at ht ⊢; grind)
    have hoe : On V (im g (B ++ [e] ++ R)) := fun t ht => ho t (by unfold im at *; simp at ht ⊢; grind)
    have he := ho (g e) (by unfold im; simp)
    have ie : im g (e :: R) = g e :: im g R := rfl
    have iB : im g (B ++ [e]) = im g B ++ [g e] := by unfold im; simp
    show _ = (sb R ++ (sb R).map (e :: ·)).countP _
    rw [List.countP_append, List.countP_map, ie]
    have shift : ∀ A, B ++ e :: A = B ++ [e] ++ A := fun A => by simp
    by_cases hj : J (im g B) (g e)
    · rw [Zi_loop hj, Zi_cnt R B k hoR]
      have : (sb R).countP ((fun A => decide (A.length = k) && decide (rk V (im g (B ++ A)) = rk V (im g B) + k)) ∘ (e :: ·)) = 0 := by
        rw [List.countP_eq_zero]
        intro A hA
        show ¬ (decide ((e :: A).length = k) && decide (rk V (im g (B ++ e :: A)) = rk V (im g B) + k)) = true
        rw [Bool.and_eq_true, decide_eq_true_eq, decide_eq_true_eq]
        rintro ⟨h1, h2⟩
        rw [shift] at h2
        have r1 : rk V (im g (B ++ [e])) = rk V (im g B) := by rw [iB]; exact rk_snoc_in hj
        have r2 := (rk_app_le (ps := V) (ts := im g (B ++ [e])) (us := im g A) fun t ht => hoR t (by
          unfold im at ht ⊢
          obtain ⟨x, hx, rfl⟩ := List.mem_map.mp ht
          exact List.mem_map_of_mem (List.mem_append_right _ (sb_mem hA x hx)))).2
        have e1 : im g (B ++ [e]) ++ im g A = im g (B ++ [e] ++ A) := by unfold im; simp
        have e2 : (im g A).length = A.length := by unfold im; simp
        rw [e1] at r2
        rw [List.length_cons] at h1
        omega
      omega
    · have r1 : rk V (im g (B ++ [e])) = rk V (im g B) + 1 := by rw [iB]; exact rk_snoc_out he.1 he.2 hj
      match k with
      | 0 =>
        rw [Zi_zero, Zi_cnt R B 0 hoR]
        have : (sb R).countP ((fun A => decide (A.length = 0) && decide (rk V (im g (B ++ A)) = rk V (im g B) + 0)) ∘ (e :: ·)) = 0 := by
          rw [List.countP_eq_zero]
          intro A hA
          simp
        omega
      | k + 1 =>
        rw [Zi_succ hj, Zi_cnt R B (k + 1) hoR, ← iB, Zi_cnt R (B ++ [e]) k hoe]
        congr 1
        refine List.countP_congr fun A _ => ?_
        show (decide (A.length = k) && decide (rk V (im g (B ++ [e] ++ A)) = rk V (im g (B ++ [e])) + k)) = true ↔ (decide ((e :: A).length = k + 1) && decide (rk V (im g (B ++ e :: A)) = rk V (im g B) + (k + 1))) = true
        rw [shift A, r1, List.length_cons]
        simp only [Bool.and_eq_true, decide_eq_true_eq]
        omega
/-- heads of herds -/
theorem dc_heads {h : Nat → Nat} {U : List Nat} (hU : U.Nodup) (h1 : ∀ p ∈ V, h p ∈ U ∧ h (h p) = h p) (h2 : ∀ x ∈ U, h x = x → x ∈ V) : (U.filter fun p => decide (h p = p)).length = dc (V.map h) := by
  rw [← dd_len]
  refine Nat.le_antisymm (len_sub (hU.filter _) fun x hx => ?_) (len_sub (dd_nodup _) fun x hx => ?_)
  · rw [List.mem_filter, decide_eq_true_eq] at hx
    rw [dd_mem, List.mem_map]
    exact ⟨x, h2 x hx.1 hx.2, hx.2⟩
  · rw [dd_mem, List.mem_map] at hx
    obtain ⟨p, hp, rfl⟩ := hx
    rw [List.mem_filter, decide_eq_true_eq]
    exact h1 p hp
theorem filt_two {α : Type} (q : α → Bool) : ∀ l : List α, (l.filter q).length + (l.filter fun x => !q x).length = l.length
  | [] => rfl
  | x :: l => by
    have ih := filt_two q l
    by_cases z : q x = true
    · rw [List.filter_cons_of_pos z, List.filter_cons_of_neg (by simp [z]), List.length_cons, List.length_cons]; omega
    · rw [List.filter_cons_of_neg z, List.filter_cons_of_pos (by simpa using z), List.length_cons, List.length_cons]; omega
theorem cn_on {us : List Tie} (h : On V us) {p q : Nat} (c : Cn us p q) : p = q ∨ (p ∈ V ∧ q ∈ V) := by
  induction c with
  | refl => exact .inl rfl
  | fwd _ m ih =>
    obtain ⟨a, b⟩ := h _ m
    rcases ih with rfl | ⟨c, d⟩
    · exact .inr ⟨a, b⟩
    · exact .inr ⟨c, b⟩
  | bwd _ m ih =>
    obtain ⟨a, b⟩ := h _ m
    rcases ih with rfl | ⟨c, d⟩
    · exact .inr ⟨b, a⟩
    · exact .inr ⟨c, a⟩
def nams (V : List Nat) (C : List Tie) : List Nat := V.filter fun p => decide (lab C p = p)
def lows (V : List Nat) (C us : List Tie) : List Nat := (nams V C).filter fun p => !decide (lab (mp (lab C) us) p = p)
theorem nams_on {us : List Tie} (hC : On V C) (hu : On V us) : On (nams V C) (mp (lab C) us) := by
  intro t ht
  unfold mp at ht
  obtain ⟨s, hs, rfl⟩ := List.mem_map.mp ht
  obtain ⟨a, b⟩ := hu s hs
  unfold nams
  rw [List.mem_filter, List.mem_filter, decide_eq_true_eq, decide_eq_true_eq]
  exact ⟨⟨lab_on hC _ a, lab_idem _ _⟩, lab_on hC _ b, lab_idem _ _⟩
theorem lows_len {us : List Tie} (hV : V.Nodup) (hC : On V C) (hu : On V us) : (lows V C us).length + rk V C = rk V (C ++ us) := by
  have no := nams_on hC hu
  have hN : (nams V C).Nodup := hV.filter _
  have e1 : (nams V C).length = dc (V.map (lab C)) := dc_heads hV (fun p hp => ⟨lab_on hC p hp, lab_idem _ _⟩) fun x hx _ => hx
  have e2 : ((nams V C).filter fun p => decide (lab (mp (lab C) us) p = p)).length = dc (V.map (lab (C ++ us))) := by
    rw [dc_heads (V := V.map (lab C)) (h := lab (mp (lab C) us)) hN]
    · rw [List.map_map]
      refine dc_ker fun p hp q hq => ?_
      show lab (mp (lab C) us) (lab C p) = lab (mp (lab C) us) (lab C q) ↔ _
      rw [lab_ker, lab_ker, mp_cn fun p q => (lab_ker C p q).symm]
    · intro p hp
      obtain ⟨x, hx, rfl⟩ := List.mem_map.mp hp
      refine ⟨lab_on no _ ?_, lab_idem _ _⟩
      unfold nams
      rw [List.mem_filter, decide_eq_true_eq]
      exact ⟨lab_on hC x hx, lab_idem _ _⟩
    · intro x hx _
      unfold nams at hx
      rw [List.mem_filter, decide_eq_true_eq] at hx
      exact List.mem_map.mpr ⟨x, hx.1, hx.2⟩
  have e3 : ((nams V C).filter fun p => decide (lab (mp (lab C) us) p = p)).length + (lows V C us).length = (nams V C).length := by
    exact filt_two _ _
  have l1 := dc_le (V.map (lab C))
  have l2 := dc_le (V.map (lab (C ++ us)))
  rw [List.length_map] at l1 l2
  unfold rk
  omega
theorem lows_few {us : List Tie} (h4 : V.length ≤ 4) (hC : On V C) (hu : On V us) : (lows V C us).length ≤ 3 := by
  have no := nams_on hC hu
  have h1 : (nams V C).length ≤ V.length := List.length_filter_le _ _
  have h2 : (lows V C us).length ≤ (nams V C).length := List.length_filter_le _ _
  by_cases z : (lows V C us).length = (nams V C).length ∧ (nams V C) ≠ []
  · exfalso
    obtain ⟨z, ne⟩ := z
    obtain ⟨p, hp⟩ := List.exists_mem_of_ne_nil _ ne
    have hq := lab_on no p hp
    have := List.length_filter_eq_length_iff.mp z _ hq
    rw [lab_idem] at this
    simp at this
  · by_cases e : nams V C = []
    · rw [e] at h2
      have h2 : (lows V C us).length ≤ 0 := h2
      omega
    · have : (lows V C us).length ≠ (nams V C).length := fun y => z ⟨y, e⟩
      omega
/-- the determinant over the names that head none counts the woods -/
theorem det_cnt {g : Nat → Tie} {I R : List Nat} (hV : V.Nodup) (h4 : V.length ≤ 4) (ho : On V (im g (I ++ R))) :
    Wd (Lp (mp (lab (im g I)) (im g R))) (lows V (im g I) (im g R)) = (((sb R).countP fun A => decide (A.length + rk V (im g I) = rk V (im g (I ++ R))) && decide (rk V (im g (I ++ A)) = rk V (im g (I ++ R)))) : Int) := by
  have sp : im g (I ++ R) = im g I ++ im g R := by unfold im; simp
  have hI : On V (im g I) := fun t ht => ho t (by rw [sp]; exact List.mem_append_left _ ht)
  have hR : On V (im g R) := fun t ht => ho t (by rw [sp]; exact List.mem_append_right _ ht)
  have hl := lows_len hV hI hR
  have key := W_Zi' (im g R) (lab (im g I)) (lows V (im g I) (im g R)) (im g I) ((hV.filter _).filter _) (lows_few h4 hI hR) (fun p q => (lab_ker _ _ _).symm) ?_
  · show W _ _ _ = _
    rw [key, Zi_cnt R I _ ho]
    congr 1
    refine List.countP_congr fun A _ => ?_
    rw [sp]
    simp only [Bool.and_eq_true, decide_eq_true_eq]
    omega
  · intro p q c h1 h2
    rw [← sp] at c
    rcases cn_on ho c with rfl | ⟨hp, hq⟩
    · rfl
    have hd : ∀ x, x ∈ V → lab (im g I) x ∉ lows V (im g I) (im g R) → lab (mp (lab (im g I)) (im g R)) (lab (im g I) x) = lab (im g I) x := by
      intro x hx hn
      unfold lows nams at hn
      rw [List.mem_filter, List.mem_filter, decide_eq_true_eq] at hn
      exact Classical.byContradiction fun z => hn ⟨⟨lab_on hI x hx, lab_idem _ _⟩, by simpa using z⟩
    rw [← hd p hp h1, ← hd q hq h2, lab_ker, mp_cn fun p q => (lab_ker _ p q).symm, ← sp]
    exact c
/-! lots with some in, some out -/
section
variable {T : List Nat → Bool} {I O : List Nat}
def inI (I l xs : List Nat) : Bool := xs.all fun i => !decide (i ∈ I) || decide (i ∈ l)
def ouO (O l : List Nat) : Bool := l.all fun i => !decide (i ∈ O)
def lft (I O xs : List Nat) : List Nat := xs.filter fun i => !decide (i ∈ I) && !decide (i ∈ O)
theorem cnt_lft (hT : ∀ {a b : List Nat}, a.Perm b → T a = T b) (hd : ∀ i ∈ I, i ∉ O) : ∀ (xs B : List Nat), xs.Nodup → (sb xs).countP (fun l => T (B ++ l) && (inI I l xs && ouO O l)) = (sb (lft I O xs)).countP fun A => T (B ++ xs.filter (fun i => decide (i ∈ I)) ++ A)
  | [], B, _ => by
    show [[]].countP _ = [[]].countP _
    simp [inI, ouO]
  | x :: xs, B, hn => by
    rw [List.nodup_cons] at hn
    have ih := cnt_lft hT hd xs B hn.2
    have ih2 := cnt_lft hT hd xs (B ++ [x]) hn.2
    show (sb xs ++ (sb xs).map (x :: ·)).countP _ = _
    rw [List.countP_append, List.countP_map]
    have hx : ∀ l ∈ sb xs, x ∉ l := fun l hl m => hn.1 (sb_mem hl x m)
    have inx : ∀ l, inI I (x :: l) xs = inI I l xs := fun l => by
      unfold inI
      rw [Bool.eq_iff_iff, List.all_eq_true, List.all_eq_true]
      refine forall_congr' fun i => forall_congr' fun hi => ?_
      have : i ≠ x := fun e => hn.1 (e ▸ hi)
      simp [this]
    by_cases hI : x ∈ I
    · have e0 : (sb xs).countP (fun l => T (B ++ l) && (inI I l (x :: xs) && ouO O l)) = 0 := by
        rw [List.countP_eq_zero]
        intro l hl
        have := hx l hl
        simp [inI, hI, this]
      have e1 : (sb xs).countP ((fun l => T (B ++ l) && (inI I l (x :: xs) && ouO O l)) ∘ (x :: ·)) = (sb xs).countP (fun l => T (B ++ [x] ++ l) && (inI I l xs && ouO O l)) := by
        refine List.countP_congr fun l _ => ?_
        show (T (B ++ x :: l) && (inI I (x :: l) (x :: xs) && ouO O (x :: l))) = true ↔ _
        have a1 : inI I (x :: l) (x :: xs) = inI I (x :: l) xs := by
          show ((!decide (x ∈ I) || decide (x ∈ x :: l)) && inI I (x :: l) xs) = _
          simp
        have a2 : ouO O (x :: l) = ouO O l := by
          show (!decide (x ∈ O) && ouO O l) = _
          simp [hd x hI]
        rw [a1, inx, a2, show B ++ x :: l = B ++ [x] ++ l by simp]
      have e2 : lft I O (x :: xs) = lft I O xs := by
        unfold lft
        rw [List.filter_cons_of_neg (by simp [hI])]
      rw [e0, e1, ih2, e2, Nat.zero_add, List.filter_cons_of_pos (by simpa using hI)]
      refine List.countP_congr fun A _ => ?_
      simp
    · have a0 : ∀ l, inI I l (x :: xs) = inI I l xs := fun l => by
        show ((!decide (x ∈ I) || decide (x ∈ l)) && inI I l xs) = _
        simp [hI]
      have e0 : (sb xs).countP (fun l => T (B ++ l) && (inI I l (x :: xs) && ouO O l)) = (sb xs).countP (fun l => T (B ++ l) && (inI I l xs && ouO O l)) := by
        refine List.countP_congr fun l _ => ?_
        rw [a0]
      rw [e0, ih, List.filter_cons_of_neg (by simpa using hI)]
      by_cases hO : x ∈ O
      · have e1 : (sb xs).countP ((fun l => T (B ++ l) && (inI I l (x :: xs) && ouO O l)) ∘ (x :: ·)) = 0 := by
          rw [List.countP_eq_zero]
          intro l hl
          simp [ouO, hO]
        have e2 : lft I O (x :: xs) = lft I O xs := by
          unfold lft
          rw [List.filter_cons_of_neg (by simp [hO])]
        rw [e1, e2, Nat.add_zero]
      · have e1 : (sb xs).countP ((fun l => T (B ++ l) && (inI I l (x :: xs) && ouO O l)) ∘ (x :: ·)) = (sb xs).countP (fun l => T (B ++ [x] ++ l) && (inI I l xs && ouO O l)) := by
          refine List.countP_congr fun l _ => ?_
          show (T (B ++ x :: l) && (inI I (x :: l) (x :: xs) && ouO O (x :: l))) = true ↔ _
          have a2 : ouO O (x :: l) = ouO O l := by
            show (!decide (x ∈ O) && ouO O l) = _
            simp [hO]
          rw [a0, inx, a2, show B ++ x :: l = B ++ [x] ++ l by simp]
        have e2 : lft I O (x :: xs) = x :: lft I O xs := by
          unfold lft
          rw [List.filter_cons_of_pos (by simp [hI, hO])]
        rw [e1, ih2, e2]
        show _ = (sb (lft I O xs) ++ (sb (lft I O xs)).map (x :: ·)).countP _
        rw [List.countP_append, List.countP_map]
        congr 1
        refine List.countP_congr fun A _ => ?_
        show T (B ++ [x] ++ xs.filter (fun i => decide (i ∈ I)) ++ A) = true ↔ T (B ++ xs.filter (fun i => decide (i ∈ I)) ++ x :: A) = true
        rw [hT (a := B ++ [x] ++ xs.filter (fun i => decide (i ∈ I)) ++ A) (b := B ++ xs.filter (fun i => decide (i ∈ I)) ++ x :: A)]
        rw [List.append_assoc, List.append_assoc, List.append_assoc]
        refine .append_left _ ?_
        show (x :: (xs.filter (fun i => decide (i ∈ I)) ++ A)).Perm _
        exact List.perm_middle.symm
end
end Gr
set_option Elab.async false
set_option linter.all false
set_option maxRecDepth 100000
set_option maxHeartbeats 0
/-! Printed by gen.lean, lawgen.py (own tools): what the defs of the law and the program compute; that they do. -/
namespace Law10
open PySem PySem.Spec PyProof.Rows L2 Ev
def top (i : Nat) : Stmt := PySem.Challenge.pw_webcounts_k10_whole_trees_listed_and_cou.main.body.getD i (.Pass ⟨0, 0, 0, 0⟩)
def frees : List Str := ["ValueError", "abs", "all", "any", "bool", "classmethod", "dict", "divmod", "enumerate", "int", "isinstance", "len", "list", "max", "min", "range", "repr", "set", "sorted", "str", "tuple", "zip"]
def fields : List Str := ["places", "ties"]
noncomputable section
variable {P : Program} {w : World} {K : Frg} {mg : Str → Option Value} {base : Heap} {CL : Str → Option Addr} {X : Cx}
/-! is_integer -/
def N_is_integer : List Str := ["value"]
def b_is_integer : StF := (sRet (fAnd (fIsi [("NoneType", false), ("bool", true), ("int", true), ("str", false), ("list", false), ("tuple", false), ("dict", false)] (fVar 0)) (fNot (fIsi [("NoneType", false), ("bool", true), ("int", false), ("str", false), ("list", false), ("tuple", false), ("dict", false)] (fVar 0)))))
def f_is_integer : FnF := fnOf 1 b_is_integer
theorem p_is_integer (h : Cok P w K mg base 0 N_is_integer (defScope (top 10)) (fun _ => true) X) (fr : Fre mg frees) : PSs X (defBody (top 10)) (tS K CL b_is_integer) :=
  (q_one h (s_ret h (k_and h (k_isi h (Tn := "int") (tab := [("NoneType", false), ("bool", true), ("int", true), ("str", false), ("list", false), ("tuple", false), ("dict", false)]) fr (by decide +kernel) (by decide +kernel) (by decide +kernel) (by decide +kernel) (by decide +kernel) (by decide +kernel) (r_var h (i := 0) (by decide +kernel)) (by decide +kernel) rfl rfl) (k_one h (k_not h (t_val h (k_isi h (Tn := "bool") (tab := [("NoneType", false), ("bool", true), ("int", false), ("str", false), ("list", false), ("tuple", false), ("dict", false)]) fr (by decide +kernel) (by decide +kernel) (by decide +kernel) (by decide +kernel) (by decide +kernel) (by decide +kernel) (r_var h (i := 0) (by decide +kernel)) (by decide +kernel) rfl rfl) (fun _ => rfl)) (k_isi h (Tn := "bool") (tab := [("NoneType", false), ("bool", true), ("int", false), ("str", false), ("list", false), ("tuple", false), ("dict", false)]) fr (by decide +kernel) (by decide +kernel) (by decide +kernel) (by decide +kernel) (by decide +kernel) (by decide +kernel) (r_var h (i := 0) (by decide +kernel)) (by decide +kernel) rfl rfl))))))
theorem s_is_integer : FnScope N_is_integer ["value"] (defScope (top 10)) := ⟨rfl, rfl, rfl, by decide +kernel, rfl, by decide +kernel, by decide +kernel⟩
/-! is_between -/
def N_is_between : List Str := ["value", "least", "most"]
def b_is_between : StF := (sRet (fAnd (fCall f_is_integer [(false, (fVar 0))]) (fChain .le .le (fVar 1) (fVar 0) (fVar 2))))
def f_is_between : FnF := fnOf 3 b_is_between
theorem p_is_between (h : Cok P w K mg base 1 N_is_between (defScope (top 11)) (fun _ => true) X) (d_is_integer : FOk P w K mg base CL 1 "is_integer" 1 f_is_integer) : PSs X (defBody (top 11)) (tS K CL b_is_between) :=
  (q_one h (s_ret h (k_and h (k_call h d_is_integer (by decide) (by decide +kernel) (v_cons h false (r_var h (i := 0) (by decide +kernel)) (v_nil h) rfl) rfl rfl rfl) (k_one h (k_chain h .le .le (r_var h (i := 1) (by decide +kernel)) (r_var h (i := 0) (by decide +kernel)) (r_var h (i := 2) (by decide +kernel)) rfl)))))
theorem s_is_between : FnScope N_is_between ["value", "least", "most"] (defScope (top 11)) := ⟨rfl, rfl, rfl, by decide +kernel, rfl, by decide +kernel, by decide +kernel⟩
/-! Web.__len__ -/
def N_len : List Str := ["self"]
def b_len : StF := (sRet (fBi .len [(fFldC "Web" (fVar 0) "ties")]))
def f_len : FnF := fnOf 1 b_len
theorem p_len (h : Cok P w K mg base 0 N_len (defScope (inClass (top 18) 2)) (fun _ => true) X) (C_Web : COk K mg CL "Web" fields) (fr : Fre mg frees) : PSs X (defBody (inClass (top 18) 2)) (tS K CL b_len) :=
  (q_one h (s_ret h (k_biB h (bi := .len) fr rfl (by decide +kernel) (by decide +kernel) (by decide +kernel) (v_cons h false (k_fld h C_Web (by decide +kernel) (r_var h (i := 0) (by decide +kernel)) rfl) (v_nil h) rfl) (by decide +kernel) rfl rfl)))
theorem s_len : FnScope N_len ["self"] (defScope (inClass (top 18) 2)) := ⟨rfl, rfl, rfl, by decide +kernel, rfl, by decide +kernel, by decide +kernel⟩
/-! are_letters -/
def N_are_letters : List Str := ["value", "letter"]
def b_are_letters : StF := (sSeq (sIf (fOr (fNot (fIsi [("NoneType", false), ("bool", false), ("int", false), ("str", true), ("list", false), ("tuple", false), ("dict", false)] (fVar 0))) (fCmp .ne (fLenO "Web" f_len (fDc (iSeq (fVar 0)) (gNm 1) (fVar 1) (fCst (.bl true)) [1])) (fLenO "Web" f_len (fVar 0)))) (sRet (fCst (.bl false))) sNx)
  (sRet (fBi .all [(fLc (iSeq (fVar 0)) (gNm 1) none (fCmp .inn (fVar 1) (fCst (.str "abcdefgh"))) [1])])))
def f_are_letters : FnF := fnOf 2 b_are_letters
theorem p_are_letters (h : Cok P w K mg base 2 N_are_letters (defScope (top 14)) (fun _ => true) X) (fr : Fre mg frees) (L_len : LOk P w K mg base CL 1 "Web" f_len) (g_LETTERS : ∃ t, mg "LETTERS" = some (.str "abcdefgh" t)) : PSs X (defBody (top 14)) (tS K CL b_are_letters) :=
  (q_cons h (s_if h (w_or h (t_not h (t_val h (k_isi h (Tn := "str") (tab := [("NoneType", false), ("bool", false), ("int", false), ("str", true), ("list", false), ("tuple", false), ("dict", false)]) fr (by decide +kernel) (by decide +kernel) (by decide +kernel) (by decide +kernel) (by decide +kernel) (by decide +kernel) (r_var h (i := 0) (by decide +kernel)) (by decide +kernel) rfl rfl) (fun _ => rfl))) (w_or1 h (t_cmp h .ne (k_lenO h fr L_len (by decide) (by decide +kernel) (by decide +kernel) (k_dc h (own := [("letter", 1)]) (is := [1]) (i_seq h (r_var h (i := 0) (by decide +kernel))) (by decide +kernel) (fun _ h => (g_nm h (i := 1) (by decide +kernel))) (fun _ h => (r_var h (i := 1) (by decide +kernel))) (fun _ h => (k_bl h)) (fun _ => rfl) (by decide)) rfl) (k_lenO h fr L_len (by decide) (by decide +kernel) (by decide +kernel) (r_var h (i := 0) (by decide +kernel)) rfl) rfl))).pt (q_one h (s_ret h (k_bl h))) (q_nil h))
  (q_one h (s_ret h (k_biB h (bi := .all) fr rfl (by decide +kernel) (by decide +kernel) (by decide +kernel) (v_cons h false (k_lc h (own := [("letter", 1)]) (is := [1]) (i_seq h (r_var h (i := 0) (by decide +kernel))) (by decide +kernel) (fun _ h => (g_nm h (i := 1) (by decide +kernel))) (fun _ h => (ts_none h)) (fun _ h => (k_cmp h .inn (r_var h (i := 1) (by decide +kernel)) (k_gstr h (by decide +kernel) g_LETTERS) rfl)) (fun _ => rfl) (by decide)) (v_nil h) rfl) (by decide +kernel) rfl rfl))))
theorem s_are_letters : FnScope N_are_letters ["value"] (defScope (top 14)) := ⟨rfl, rfl, rfl, by decide +kernel, rfl, by decide +kernel, by decide +kernel⟩
/-! are_places -/
def N_are_places : List Str := ["value"]
def b_are_places : StF := (sRet (fAnd (fCall f_are_letters [(false, (fVar 0))]) (fAnd (fChain .lt .le (fCst (.int (0))) (fLenO "Web" f_len (fVar 0)) (fCst (.int (7)))) (fCmp .eq (fBi .list [(fVar 0)]) (fBi .sorted [(fVar 0)])))))
def f_are_places : FnF := fnOf 1 b_are_places
theorem p_are_places (h : Cok P w K mg base 3 N_are_places (defScope (top 15)) (fun _ => true) X) (d_are_letters : FOk P w K mg base CL 3 "are_letters" 1 f_are_letters) (fr : Fre mg frees) (L_len : LOk P w K mg base CL 1 "Web" f_len) (g_MOST_PLACES : ∃ t, mg "MOST_PLACES" = some (.int (7) t)) : PSs X (defBody (top 15)) (tS K CL b_are_places) :=
  (q_one h (s_ret h (k_and h (k_call h d_are_letters (by decide) (by decide +kernel) (v_cons h false (r_var h (i := 0) (by decide +kernel)) (v_nil h) rfl) rfl rfl rfl) (k_and h (k_chain h .lt .le (k_int h) (k_lenO h fr L_len (by decide) (by decide +kernel) (by decide +kernel) (r_var h (i := 0) (by decide +kernel)) rfl) (k_gint h (by decide +kernel) g_MOST_PLACES) rfl) (k_one h (k_cmp h .eq (k_biT h (bi := .list) fr rfl (by decide +kernel) (by decide +kernel) (by decide +kernel) (v_cons h false (r_var h (i := 0) (by decide +kernel)) (v_nil h) rfl) (by decide +kernel) rfl rfl) (k_biB h (bi := .sorted) fr rfl (by decide +kernel) (by decide +kernel) (by decide +kernel) (v_cons h false (r_var h (i := 0) (by decide +kernel)) (v_nil h) rfl) (by decide +kernel) rfl rfl) rfl))))))
theorem s_are_places : FnScope N_are_places ["value"] (defScope (top 15)) := ⟨rfl, rfl, rfl, by decide +kernel, rfl, by decide +kernel, by decide +kernel⟩
/-! is_tie -/
def N_is_tie : List Str := ["places", "value"]
def b_is_tie : StF := (sSeq (sIf (fOr (fNot (fIsi [("NoneType", false), ("bool", false), ("int", false), ("str", true), ("list", false), ("tuple", false), ("dict", false)] (fVar 1))) (fCmp .ne (fLenO "Web" f_len (fVar 1)) (fCst (.int (2))))) (sRet (fCst (.bl false))) sNx)
  (sRet (fAnd (fCmp .inn (fIdx (fVar 1) (fCst (.int (0)))) (fVar 0)) (fAnd (fCmp .inn (fIdx (fVar 1) (fCst (.int (1)))) (fVar 0)) (fCmp .le (fIdx (fVar 1) (fCst (.int (0)))) (fIdx (fVar 1) (fCst (.int (1)))))))))
def f_is_tie : FnF := fnOf 2 b_is_tie
theorem p_is_tie (h : Cok P w K mg base 2 N_is_tie (defScope (top 16)) (fun _ => true) X) (fr : Fre mg frees) (L_len : LOk P w K mg base CL 1 "Web" f_len) : PSs X (defBody (top 16)) (tS K CL b_is_tie) :=
  (q_cons h (s_if h (w_or h (t_not h (t_val h (k_isi h (Tn := "str") (tab := [("NoneType", false), ("bool", false), ("int", false), ("str", true), ("list", false), ("tuple", false), ("dict", false)]) fr (by decide +kernel) (by decide +kernel) (by decide +kernel) (by decide +kernel) (by decide +kernel) (by decide +kernel) (r_var h (i := 1) (by decide +kernel)) (by decide +kernel) rfl rfl) (fun _ => rfl))) (w_or1 h (t_cmp h .ne (k_lenO h fr L_len (by decide) (by decide +kernel) (by decide +kernel) (r_var h (i := 1) (by decide +kernel)) rfl) (k_int h) rfl))).pt (q_one h (s_ret h (k_bl h))) (q_nil h))
  (q_one h (s_ret h (k_and h (k_cmp h .inn (k_idx h (r_var h (i := 1) (by decide +kernel)) (k_int h) (fun _ _ => rfl)) (r_var h (i := 0) (by decide +kernel)) rfl) (k_and h (k_cmp h .inn (k_idx h (r_var h (i := 1) (by decide +kernel)) (k_int h) (fun _ _ => rfl)) (r_var h (i := 0) (by decide +kernel)) rfl) (k_one h (k_cmp h .le (k_idx h (r_var h (i := 1) (by decide +kernel)) (k_int h) (fun _ _ => rfl)) (k_idx h (r_var h (i := 1) (by decide +kernel)) (k_int h) (fun _ _ => rfl)) rfl)))))))
theorem s_is_tie : FnScope N_is_tie ["places", "value"] (defScope (top 16)) := ⟨rfl, rfl, rfl, by decide +kernel, rfl, by decide +kernel, by decide +kernel⟩
/-! wrong_tie -/
def N_wrong_tie : List Str := ["places", "ties", "index", "tie"]
def b_wrong_tie : StF := (sSeq (sFor (iEnum (fVar 1)) (gTp [(gNm 2), (gNm 3)]) (sIf (fOr (fCmp .eq (fVar 2) (fCst (.int (11)))) (fNot (fCall f_is_tie [(false, (fVar 0)), (false, (fVar 3))]))) (sRet (fVar 2)) sNx))
  (sRet (fCst .non)))
def f_wrong_tie : FnF := fnOf 4 b_wrong_tie
theorem p_wrong_tie (h : Cok P w K mg base 3 N_wrong_tie (defScope (top 17)) (fun _ => true) X) (fr : Fre mg frees) (g_MOST_TIES : ∃ t, mg "MOST_TIES" = some (.int (11) t)) (d_is_tie : FOk P w K mg base CL 3 "is_tie" 2 f_is_tie) : PSs X (defBody (top 17)) (tS K CL b_wrong_tie) :=
  (q_cons h (s_for h (i_enum h fr (by decide +kernel) (by decide +kernel) (r_var h (i := 1) (by decide +kernel)) rfl) (g_tp h (gs_cons h (g_nm h (i := 2) (by decide +kernel)) (gs_cons h (g_nm h (i := 3) (by decide +kernel)) (gs_nil h) rfl) rfl) rfl rfl) (q_one h (s_if h (w_or h (t_cmp h .eq (r_var h (i := 2) (by decide +kernel)) (k_gint h (by decide +kernel) g_MOST_TIES) rfl) (w_or1 h (t_not h (t_val h (k_call h d_is_tie (by decide) (by decide +kernel) (v_cons h false (r_var h (i := 0) (by decide +kernel)) (v_cons h false (r_var h (i := 3) (by decide +kernel)) (v_nil h) rfl) rfl) rfl rfl rfl) (fun _ => rfl))))).pt (q_one h (s_ret h (r_var h (i := 2) (by decide +kernel)))) (q_nil h))) (fun _ => rfl))
  (q_one h (s_ret h (k_non h))))
theorem s_wrong_tie : FnScope N_wrong_tie ["places", "ties"] (defScope (top 17)) := ⟨rfl, rfl, rfl, by decide +kernel, rfl, by decide +kernel, by decide +kernel⟩
/-! Web.__init__ -/
def N_init : List Str := ["self", "places", "ties", "wrong"]
def b_init : StF := (sSeq (sIf (fNot (fCall f_are_places [(false, (fVar 1))])) sNo sNx)
  (sSeq (sIf (fNot (fIsi [("NoneType", false), ("bool", false), ("int", false), ("str", false), ("list", false), ("tuple", true), ("dict", false)] (fVar 2))) sNo sNx)
  (sSeq (sAsg false (fCall f_wrong_tie [(false, (fVar 1)), (false, (fVar 2))]) (gNm 3))
  (sSeq (sIf (fIsN true (fVar 3)) sNo sNx)
  (sSeq (sFldC "Web" (fVar 0) (fVar 1) "places")
  (sFldC "Web" (fVar 0) (fVar 2) "ties"))))))
def f_init : FnF := fnOf 4 b_init
theorem p_init (h : Cok P w K mg base 4 N_init (defScope (inClass (top 18) 0)) (fun _ => true) X) (d_are_places : FOk P w K mg base CL 4 "are_places" 1 f_are_places) (fr : Fre mg frees) (d_wrong_tie : FOk P w K mg base CL 4 "wrong_tie" 2 f_wrong_tie) (C_Web : COk K mg CL "Web" fields) : PSs X (defBody (inClass (top 18) 0)) (tS K CL b_init) :=
  (q_cons h (s_if h (t_not h (t_val h (k_call h d_are_places (by decide) (by decide +kernel) (v_cons h false (r_var h (i := 1) (by decide +kernel)) (v_nil h) rfl) rfl rfl rfl) (fun _ => rfl))) (q_one h (s_no h)) (q_nil h))
  (q_cons h (s_if h (t_not h (t_val h (k_isi h (Tn := "tuple") (tab := [("NoneType", false), ("bool", false), ("int", false), ("str", false), ("list", false), ("tuple", true), ("dict", false)]) fr (by decide +kernel) (by decide +kernel) (by decide +kernel) (by decide +kernel) (by decide +kernel) (by decide +kernel) (r_var h (i := 2) (by decide +kernel)) (by decide +kernel) rfl rfl) (fun _ => rfl))) (q_one h (s_no h)) (q_nil h))
  (q_cons h (s_set h (i := 3) false (by decide +kernel) (k_call h d_wrong_tie (by decide) (by decide +kernel) (v_cons h false (r_var h (i := 1) (by decide +kernel)) (v_cons h false (r_var h (i := 2) (by decide +kernel)) (v_nil h) rfl) rfl) rfl rfl rfl) (fun _ _ => rfl))
  (q_cons h (s_if h (t_isN h true (r_var h (i := 3) (by decide +kernel))) (q_one h (s_no h)) (q_nil h))
  (q_cons h (s_fld h C_Web (by decide +kernel) (r_var h (i := 0) (by decide +kernel)) (r_var h (i := 1) (by decide +kernel)) rfl)
  (q_one h (s_fld h C_Web (by decide +kernel) (r_var h (i := 0) (by decide +kernel)) (r_var h (i := 2) (by decide +kernel)) rfl)))))))
theorem s_init : FnScope N_init ["self", "places", "ties"] (defScope (inClass (top 18) 0)) := ⟨rfl, rfl, rfl, by decide +kernel, rfl, by decide +kernel, by decide +kernel⟩
/-! check_web -/
def N_check_web : List Str := ["web"]
def b_check_web : StF := (sIf (fNot (fIsiC "Web" (fVar 0))) sNo sNx)
def f_check_web : FnF := fnOf 1 b_check_web
theorem p_check_web (h : Cok P w K mg base 0 N_check_web (defScope (top 19)) (fun _ => true) X) (fr : Fre mg frees) (C_Web : COk K mg CL "Web" fields) : PSs X (defBody (top 19)) (tS K CL b_check_web) :=
  (q_one h (s_if h (t_not h (t_val h (k_isiC h fr C_Web (by decide +kernel) (by decide +kernel) (by decide +kernel) (r_var h (i := 0) (by decide +kernel)) rfl rfl) (fun _ => rfl))) (q_one h (s_no h)) (q_nil h)))
theorem s_check_web : FnScope N_check_web ["web"] (defScope (top 19)) := ⟨rfl, rfl, rfl, by decide +kernel, rfl, by decide +kernel, by decide +kernel⟩
/-! herds_of -/
def N_herds_of : List Str := ["places", "ties", "found", "one", "other", "joined", "whole", "herd"]
def b_herds_of : StF := (sSeq (sAsg false (fBi .list [(fVar 0)]) (gNm 2))
  (sSeq (sFor (iSeq (fVar 1)) (gTp [(gNm 3), (gNm 4)]) (sSeq (sAsg false (fLc (iSeq (fVar 2)) (gNm 7) (some (fOr (fCmp .inn (fVar 3) (fVar 7)) (fCmp .inn (fVar 4) (fVar 7)))) (fVar 7) [7]) (gNm 5))
  (sSeq (sAsg false (fJoin (fCst (.str "")) (fBi .sorted [(fJoin (fCst (.str "")) (fVar 5))])) (gNm 6))
  (sAsg false (fBop .add (fLst [(fVar 6)]) (fLc (iSeq (fVar 2)) (gNm 7) (some (fCmp .nin (fVar 7) (fVar 5))) (fVar 7) [7])) (gNm 2)))))
  (sRet (fBi .sorted [(fVar 2)]))))
def f_herds_of : FnF := fnOf 8 b_herds_of
theorem p_herds_of (h : Cok P w K mg base 0 N_herds_of (defScope (top 20)) (fun _ => true) X) (fr : Fre mg frees) : PSs X (defBody (top 20)) (tS K CL b_herds_of) :=
  (q_cons h (s_set h (i := 2) false (by decide +kernel) (k_biT h (bi := .list) fr rfl (by decide +kernel) (by decide +kernel) (by decide +kernel) (v_cons h false (r_var h (i := 0) (by decide +kernel)) (v_nil h) rfl) (by decide +kernel) rfl rfl) (fun _ _ => rfl))
  (q_cons h (s_for h (i_seq h (r_var h (i := 1) (by decide +kernel))) (g_tp h (gs_cons h (g_nm h (i := 3) (by decide +kernel)) (gs_cons h (g_nm h (i := 4) (by decide +kernel)) (gs_nil h) rfl) rfl) rfl rfl) (q_cons h (s_set h (i := 5) false (by decide +kernel) (k_lc h (own := [("herd", 7)]) (is := [7]) (i_seq h (r_var h (i := 2) (by decide +kernel))) (by decide +kernel) (fun _ h => (g_nm h (i := 7) (by decide +kernel))) (fun _ h => (ts_one h (w_or h (t_cmp h .inn (r_var h (i := 3) (by decide +kernel)) (r_var h (i := 7) (by decide +kernel)) rfl) (w_or1 h (t_cmp h .inn (r_var h (i := 4) (by decide +kernel)) (r_var h (i := 7) (by decide +kernel)) rfl))).pt)) (fun _ h => (r_var h (i := 7) (by decide +kernel))) (fun _ => rfl) (by decide)) (by intro env hs; cases env; cases hs; rfl))
  (q_cons h (s_set h (i := 6) false (by decide +kernel) (m_join h (fun _ => rfl) rfl rfl rfl (k_str h) (k_biB h (bi := .sorted) fr rfl (by decide +kernel) (by decide +kernel) (by decide +kernel) (v_cons h false (m_join h (fun _ => rfl) rfl rfl rfl (k_str h) (r_var h (i := 5) (by decide +kernel))) (v_nil h) rfl) (by decide +kernel) rfl rfl)) (fun _ _ => rfl))
  (q_one h (s_set h (i := 2) false (by decide +kernel) (k_bop h .add (k_lst h (a_cons h (r_var h (i := 6) (by decide +kernel)) (a_nil h) rfl)) (k_lc h (own := [("herd", 7)]) (is := [7]) (i_seq h (r_var h (i := 2) (by decide +kernel))) (by decide +kernel) (fun _ h => (g_nm h (i := 7) (by decide +kernel))) (fun _ h => (ts_one h (t_cmp h .nin (r_var h (i := 7) (by decide +kernel)) (r_var h (i := 5) (by decide +kernel)) rfl))) (fun _ h => (r_var h (i := 7) (by decide +kernel))) (fun _ => rfl) (by decide))) (fun _ _ => rfl))))) (fun _ => rfl))
  (q_one h (s_ret h (k_biB h (bi := .sorted) fr rfl (by decide +kernel) (by decide +kernel) (by decide +kernel) (v_cons h false (r_var h (i := 2) (by decide +kernel)) (v_nil h) rfl) (by decide +kernel) rfl rfl)))))
theorem s_herds_of : FnScope N_herds_of ["places", "ties"] (defScope (top 20)) := ⟨rfl, rfl, rfl, by decide +kernel, rfl, by decide +kernel, by decide +kernel⟩
/-! wrong_in -/
def N_wrong_in : List Str := ["web", "lot", "last", "place", "index"]
def b_wrong_in : StF := (sSeq (sAsg false (fNeg (fCst (.int (1)))) (gNm 2))
  (sSeq (sFor (iEnum (fVar 1)) (gTp [(gNm 3), (gNm 4)]) (sSeq (sIf (fNot (fCall f_is_between [(false, (fVar 4)), (false, (fBop .add (fVar 2) (fCst (.int (1))))), (false, (fBop .sub (fLenO "Web" f_len (fVar 0)) (fCst (.int (1)))))])) (sRet (fVar 3)) sNx)
  (sAsg false (fVar 4) (gNm 2))))
  (sRet (fCst .non))))
def f_wrong_in : FnF := fnOf 5 b_wrong_in
theorem p_wrong_in (h : Cok P w K mg base 2 N_wrong_in (defScope (top 22)) (fun _ => true) X) (fr : Fre mg frees) (L_len : LOk P w K mg base CL 1 "Web" f_len) (d_is_between : FOk P w K mg base CL 2 "is_between" 3 f_is_between) : PSs X (defBody (top 22)) (tS K CL b_wrong_in) :=
  (q_cons h (s_set h (i := 2) false (by decide +kernel) (k_neg h (k_int h)) (fun _ _ => rfl))
  (q_cons h (s_for h (i_enum h fr (by decide +kernel) (by decide +kernel) (r_var h (i := 1) (by decide +kernel)) rfl) (g_tp h (gs_cons h (g_nm h (i := 3) (by decide +kernel)) (gs_cons h (g_nm h (i := 4) (by decide +kernel)) (gs_nil h) rfl) rfl) rfl rfl) (q_cons h (s_if h (t_not h (t_val h (k_call h d_is_between (by decide) (by decide +kernel) (v_cons h false (r_var h (i := 4) (by decide +kernel)) (v_cons h false (k_bop h .add (r_var h (i := 2) (by decide +kernel)) (k_int h)) (v_cons h false (k_bop h .sub (k_lenO h fr L_len (by decide) (by decide +kernel) (by decide +kernel) (r_var h (i := 0) (by decide +kernel)) rfl) (k_int h)) (v_nil h) rfl) rfl) rfl) rfl rfl rfl) (fun _ => rfl))) (q_one h (s_ret h (r_var h (i := 3) (by decide +kernel)))) (q_nil h))
  (q_one h (s_set h (i := 2) false (by decide +kernel) (r_var h (i := 4) (by decide +kernel)) (fun _ _ => rfl)))) (fun _ => rfl))
  (q_one h (s_ret h (k_non h)))))
theorem s_wrong_in : FnScope N_wrong_in ["web", "lot"] (defScope (top 22)) := ⟨rfl, rfl, rfl, by decide +kernel, rfl, by decide +kernel, by decide +kernel⟩
/-! check_lot -/
def N_check_lot : List Str := ["web", "lot", "wrong"]
def b_check_lot : StF := (sSeq (sIf (fNot (fIsi [("NoneType", false), ("bool", false), ("int", false), ("str", false), ("list", false), ("tuple", true), ("dict", false)] (fVar 1))) sNo sNx)
  (sSeq (sAsg false (fCall f_wrong_in [(false, (fVar 0)), (false, (fVar 1))]) (gNm 2))
  (sIf (fIsN true (fVar 2)) sNo sNx)))
def f_check_lot : FnF := fnOf 3 b_check_lot
theorem p_check_lot (h : Cok P w K mg base 3 N_check_lot (defScope (top 23)) (fun _ => true) X) (fr : Fre mg frees) (d_wrong_in : FOk P w K mg base CL 3 "wrong_in" 2 f_wrong_in) : PSs X (defBody (top 23)) (tS K CL b_check_lot) :=
  (q_cons h (s_if h (t_not h (t_val h (k_isi h (Tn := "tuple") (tab := [("NoneType", false), ("bool", false), ("int", false), ("str", false), ("list", false), ("tuple", true), ("dict", false)]) fr (by decide +kernel) (by decide +kernel) (by decide +kernel) (by decide +kernel) (by decide +kernel) (by decide +kernel) (r_var h (i := 1) (by decide +kernel)) (by decide +kernel) rfl rfl) (fun _ => rfl))) (q_one h (s_no h)) (q_nil h))
  (q_cons h (s_set h (i := 2) false (by decide +kernel) (k_call h d_wrong_in (by decide) (by decide +kernel) (v_cons h false (r_var h (i := 0) (by decide +kernel)) (v_cons h false (r_var h (i := 1) (by decide +kernel)) (v_nil h) rfl) rfl) rfl rfl rfl) (fun _ _ => rfl))
  (q_one h (s_if h (t_isN h true (r_var h (i := 2) (by decide +kernel))) (q_one h (s_no h)) (q_nil h)))))
theorem s_check_lot : FnScope N_check_lot ["web", "lot"] (defScope (top 23)) := ⟨rfl, rfl, rfl, by decide +kernel, rfl, by decide +kernel, by decide +kernel⟩
/-! every_tie -/
def N_every_tie : List Str := ["web"]
def b_every_tie : StF := (sRet (fRgX true (fLenO "Web" f_len (fVar 0))))
def f_every_tie : FnF := fnOf 1 b_every_tie
theorem p_every_tie (h : Cok P w K mg base 2 N_every_tie (defScope (top 24)) (fun _ => true) X) (fr : Fre mg frees) (L_len : LOk P w K mg base CL 1 "Web" f_len) : PSs X (defBody (top 24)) (tS K CL b_every_tie) :=
  (q_one h (s_ret h (k_tupRg h fr (by decide +kernel) (by decide +kernel) (by decide +kernel) (by decide +kernel) (k_lenO h fr L_len (by decide) (by decide +kernel) (by decide +kernel) (r_var h (i := 0) (by decide +kernel)) rfl) rfl rfl)))
theorem s_every_tie : FnScope N_every_tie ["web"] (defScope (top 24)) := ⟨rfl, rfl, rfl, by decide +kernel, rfl, by decide +kernel, by decide +kernel⟩
/-! ties_of -/
def N_ties_of : List Str := ["web", "lot", "index"]
def b_ties_of : StF := (sRet (fLc (iSeq (fVar 1)) (gNm 2) none (fIdx (fFldC "Web" (fVar 0) "ties") (fVar 2)) [2]))
def f_ties_of : FnF := fnOf 3 b_ties_of
theorem p_ties_of (h : Cok P w K mg base 0 N_ties_of (defScope (top 25)) (fun _ => true) X) (C_Web : COk K mg CL "Web" fields) : PSs X (defBody (top 25)) (tS K CL b_ties_of) :=
  (q_one h (s_ret h (k_lc h (own := [("index", 2)]) (is := [2]) (i_seq h (r_var h (i := 1) (by decide +kernel))) (by decide +kernel) (fun _ h => (g_nm h (i := 2) (by decide +kernel))) (fun _ h => (ts_none h)) (fun _ h => (k_idx h (k_fld h C_Web (by decide +kernel) (r_var h (i := 0) (by decide +kernel)) rfl) (r_var h (i := 2) (by decide +kernel)) (fun _ _ => rfl))) (fun _ => rfl) (by decide))))
theorem s_ties_of : FnScope N_ties_of ["web", "lot"] (defScope (top 25)) := ⟨rfl, rfl, rfl, by decide +kernel, rfl, by decide +kernel, by decide +kernel⟩
/-! pieces_of -/
def N_pieces_of : List Str := ["web", "lot"]
def b_pieces_of : StF := (sRet (fCall f_herds_of [(false, (fFldC "Web" (fVar 0) "places")), (false, (fCall f_ties_of [(false, (fVar 0)), (false, (fVar 1))]))]))
def f_pieces_of : FnF := fnOf 2 b_pieces_of
theorem p_pieces_of (h : Cok P w K mg base 1 N_pieces_of (defScope (top 26)) (fun _ => true) X) (C_Web : COk K mg CL "Web" fields) (d_ties_of : FOk P w K mg base CL 1 "ties_of" 2 f_ties_of) (d_herds_of : FOk P w K mg base CL 1 "herds_of" 2 f_herds_of) : PSs X (defBody (top 26)) (tS K CL b_pieces_of) :=
  (q_one h (s_ret h (k_call h d_herds_of (by decide) (by decide +kernel) (v_cons h false (k_fld h C_Web (by decide +kernel) (r_var h (i := 0) (by decide +kernel)) rfl) (v_cons h false (k_call h d_ties_of (by decide) (by decide +kernel) (v_cons h false (r_var h (i := 0) (by decide +kernel)) (v_cons h false (r_var h (i := 1) (by decide +kernel)) (v_nil h) rfl) rfl) rfl rfl rfl) (v_nil h) rfl) rfl) rfl rfl rfl)))
theorem s_pieces_of : FnScope N_pieces_of ["web", "lot"] (defScope (top 26)) := ⟨rfl, rfl, rfl, by decide +kernel, rfl, by decide +kernel, by decide +kernel⟩
/-! rank_of -/
def N_rank_of : List Str := ["web", "lot"]
def b_rank_of : StF := (sRet (fBop .sub (fLenO "Web" f_len (fFldC "Web" (fVar 0) "places")) (fLenO "Web" f_len (fCall f_pieces_of [(false, (fVar 0)), (false, (fVar 1))]))))
def f_rank_of : FnF := fnOf 2 b_rank_of
theorem p_rank_of (h : Cok P w K mg base 2 N_rank_of (defScope (top 27)) (fun _ => true) X) (C_Web : COk K mg CL "Web" fields) (fr : Fre mg frees) (L_len : LOk P w K mg base CL 1 "Web" f_len) (d_pieces_of : FOk P w K mg base CL 2 "pieces_of" 2 f_pieces_of) : PSs X (defBody (top 27)) (tS K CL b_rank_of) :=
  (q_one h (s_ret h (k_bop h .sub (k_lenO h fr L_len (by decide) (by decide +kernel) (by decide +kernel) (k_fld h C_Web (by decide +kernel) (r_var h (i := 0) (by decide +kernel)) rfl) rfl) (k_lenO h fr L_len (by decide) (by decide +kernel) (by decide +kernel) (k_call h d_pieces_of (by decide) (by decide +kernel) (v_cons h false (r_var h (i := 0) (by decide +kernel)) (v_cons h false (r_var h (i := 1) (by decide +kernel)) (v_nil h) rfl) rfl) rfl rfl rfl) rfl))))
theorem s_rank_of : FnScope N_rank_of ["web", "lot"] (defScope (top 27)) := ⟨rfl, rfl, rfl, by decide +kernel, rfl, by decide +kernel, by decide +kernel⟩
/-! spare_of -/
def N_spare_of : List Str := ["web", "lot"]
def b_spare_of : StF := (sRet (fBop .sub (fLenO "Web" f_len (fVar 1)) (fCall f_rank_of [(false, (fVar 0)), (false, (fVar 1))])))
def f_spare_of : FnF := fnOf 2 b_spare_of
theorem p_spare_of (h : Cok P w K mg base 3 N_spare_of (defScope (top 28)) (fun _ => true) X) (fr : Fre mg frees) (L_len : LOk P w K mg base CL 1 "Web" f_len) (d_rank_of : FOk P w K mg base CL 3 "rank_of" 2 f_rank_of) : PSs X (defBody (top 28)) (tS K CL b_spare_of) :=
  (q_one h (s_ret h (k_bop h .sub (k_lenO h fr L_len (by decide) (by decide +kernel) (by decide +kernel) (r_var h (i := 1) (by decide +kernel)) rfl) (k_call h d_rank_of (by decide) (by decide +kernel) (v_cons h false (r_var h (i := 0) (by decide +kernel)) (v_cons h false (r_var h (i := 1) (by decide +kernel)) (v_nil h) rfl) rfl) rfl rfl rfl))))
theorem s_spare_of : FnScope N_spare_of ["web", "lot"] (defScope (top 28)) := ⟨rfl, rfl, rfl, by decide +kernel, rfl, by decide +kernel, by decide +kernel⟩
/-! is_free_lot -/
def N_is_free_lot : List Str := ["web", "lot"]
def b_is_free_lot : StF := (sRet (fCmp .eq (fCall f_spare_of [(false, (fVar 0)), (false, (fVar 1))]) (fCst (.int (0)))))
def f_is_free_lot : FnF := fnOf 2 b_is_free_lot
theorem p_is_free_lot (h : Cok P w K mg base 4 N_is_free_lot (defScope (top 29)) (fun _ => true) X) (d_spare_of : FOk P w K mg base CL 4 "spare_of" 2 f_spare_of) : PSs X (defBody (top 29)) (tS K CL b_is_free_lot) :=
  (q_one h (s_ret h (k_cmp h .eq (k_call h d_spare_of (by decide) (by decide +kernel) (v_cons h false (r_var h (i := 0) (by decide +kernel)) (v_cons h false (r_var h (i := 1) (by decide +kernel)) (v_nil h) rfl) rfl) rfl rfl rfl) (k_int h) rfl)))
theorem s_is_free_lot : FnScope N_is_free_lot ["web", "lot"] (defScope (top 29)) := ⟨rfl, rfl, rfl, by decide +kernel, rfl, by decide +kernel, by decide +kernel⟩
/-! rest_of -/
def N_rest_of : List Str := ["web", "lot", "index"]
def b_rest_of : StF := (sRet (fBi .tuple [(fLc (iSeq (fCall f_every_tie [(false, (fVar 0))])) (gNm 2) (some (fCmp .nin (fVar 2) (fVar 1))) (fVar 2) [2])]))
def f_rest_of : FnF := fnOf 3 b_rest_of
theorem p_rest_of (h : Cok P w K mg base 3 N_rest_of (defScope (top 30)) (fun _ => true) X) (d_every_tie : FOk P w K mg base CL 3 "every_tie" 1 f_every_tie) (fr : Fre mg frees) : PSs X (defBody (top 30)) (tS K CL b_rest_of) :=
  (q_one h (s_ret h (k_biT h (bi := .tuple) fr rfl (by decide +kernel) (by decide +kernel) (by decide +kernel) (v_cons h false (k_lc h (own := [("index", 2)]) (is := [2]) (i_seq h (k_call h d_every_tie (by decide) (by decide +kernel) (v_cons h false (r_var h (i := 0) (by decide +kernel)) (v_nil h) rfl) rfl rfl rfl)) (by decide +kernel) (fun _ h => (g_nm h (i := 2) (by decide +kernel))) (fun _ h => (ts_one h (t_cmp h .nin (r_var h (i := 2) (by decide +kernel)) (r_var h (i := 1) (by decide +kernel)) rfl))) (fun _ h => (r_var h (i := 2) (by decide +kernel))) (fun _ => rfl) (by decide)) (v_nil h) rfl) (by decide +kernel) rfl rfl)))
theorem s_rest_of : FnScope N_rest_of ["web", "lot"] (defScope (top 30)) := ⟨rfl, rfl, rfl, by decide +kernel, rfl, by decide +kernel, by decide +kernel⟩
/-! every_lot -/
def N_every_lot : List Str := ["web", "found", "index", "lot"]
def b_every_lot : StF := (sSeq (sAsg false (fLst [(fTup [])]) (gNm 1))
  (sSeq (sFor (iSeq (fCall f_every_tie [(false, (fVar 0))])) (gNm 2) (sAsg false (fBop .add (fVar 1) (fLc (iSeq (fVar 1)) (gNm 3) none (fBop .add (fVar 3) (fTup [(fVar 2)])) [3])) (gNm 1)))
  (sRet (fSortT (fVar 1)))))
def f_every_lot : FnF := fnOf 4 b_every_lot
theorem p_every_lot (h : Cok P w K mg base 3 N_every_lot (defScope (top 31)) (fun _ => true) X) (d_every_tie : FOk P w K mg base CL 3 "every_tie" 1 f_every_tie) (fr : Fre mg frees) : PSs X (defBody (top 31)) (tS K CL b_every_lot) :=
  (q_cons h (s_set h (i := 1) false (by decide +kernel) (k_lst h (a_cons h (k_tup h (a_nil h)) (a_nil h) rfl)) (fun _ _ => rfl))
  (q_cons h (s_for h (i_seq h (k_call h d_every_tie (by decide) (by decide +kernel) (v_cons h false (r_var h (i := 0) (by decide +kernel)) (v_nil h) rfl) rfl rfl rfl)) (g_nm h (i := 2) (by decide +kernel)) (q_one h (s_set h (i := 1) false (by decide +kernel) (k_bop h .add (r_var h (i := 1) (by decide +kernel)) (k_lc h (own := [("lot", 3)]) (is := [3]) (i_seq h (r_var h (i := 1) (by decide +kernel))) (by decide +kernel) (fun _ h => (g_nm h (i := 3) (by decide +kernel))) (fun _ h => (ts_none h)) (fun _ h => (k_bop h .add (r_var h (i := 3) (by decide +kernel)) (k_tup h (a_cons h (r_var h (i := 2) (by decide +kernel)) (a_nil h) rfl)))) (fun _ => rfl) (by decide))) (fun _ _ => rfl))) (fun _ => rfl))
  (q_one h (s_ret h (k_sortT h fr (by decide +kernel) (by decide +kernel) (r_var h (i := 1) (by decide +kernel)) rfl)))))
theorem s_every_lot : FnScope N_every_lot ["web"] (defScope (top 31)) := ⟨rfl, rfl, rfl, by decide +kernel, rfl, by decide +kernel, by decide +kernel⟩
/-! every_tree -/
def N_every_tree : List Str := ["web", "many", "lot"]
def b_every_tree : StF := (sSeq (sAsg false (fCall f_rank_of [(false, (fVar 0)), (false, (fCall f_every_tie [(false, (fVar 0))]))]) (gNm 1))
  (sRet (fLc (iSeq (fCall f_every_lot [(false, (fVar 0))])) (gNm 2) (some (fAnd (fCmp .eq (fLenO "Web" f_len (fVar 2)) (fVar 1)) (fCall f_is_free_lot [(false, (fVar 0)), (false, (fVar 2))]))) (fVar 2) [2])))
def f_every_tree : FnF := fnOf 3 b_every_tree
theorem p_every_tree (h : Cok P w K mg base 5 N_every_tree (defScope (top 32)) (fun _ => true) X) (d_every_tie : FOk P w K mg base CL 3 "every_tie" 1 f_every_tie) (d_rank_of : FOk P w K mg base CL 3 "rank_of" 2 f_rank_of) (d_every_lot : FOk P w K mg base CL 4 "every_lot" 1 f_every_lot) (fr : Fre mg frees) (L_len : LOk P w K mg base CL 1 "Web" f_len) (d_is_free_lot : FOk P w K mg base CL 5 "is_free_lot" 2 f_is_free_lot) : PSs X (defBody (top 32)) (tS K CL b_every_tree) :=
  (q_cons h (s_set h (i := 1) false (by decide +kernel) (k_call h d_rank_of (by decide) (by decide +kernel) (v_cons h false (r_var h (i := 0) (by decide +kernel)) (v_cons h false (k_call h d_every_tie (by decide) (by decide +kernel) (v_cons h false (r_var h (i := 0) (by decide +kernel)) (v_nil h) rfl) rfl rfl rfl) (v_nil h) rfl) rfl) rfl rfl rfl) (fun _ _ => rfl))
  (q_one h (s_ret h (k_lc h (own := [("lot", 2)]) (is := [2]) (i_seq h (k_call h d_every_lot (by decide) (by decide +kernel) (v_cons h false (r_var h (i := 0) (by decide +kernel)) (v_nil h) rfl) rfl rfl rfl)) (by decide +kernel) (fun _ h => (g_nm h (i := 2) (by decide +kernel))) (fun _ h => (ts_one h (w_and h (t_cmp h .eq (k_lenO h fr L_len (by decide) (by decide +kernel) (by decide +kernel) (r_var h (i := 2) (by decide +kernel)) rfl) (r_var h (i := 1) (by decide +kernel)) rfl) (w_and1 h (t_val h (k_call h d_is_free_lot (by decide) (by decide +kernel) (v_cons h false (r_var h (i := 0) (by decide +kernel)) (v_cons h false (r_var h (i := 2) (by decide +kernel)) (v_nil h) rfl) rfl) rfl rfl rfl) (fun _ => rfl)))).pt)) (fun _ h => (r_var h (i := 2) (by decide +kernel))) (fun _ => rfl) (by decide)))))
theorem s_every_tree : FnScope N_every_tree ["web"] (defScope (top 32)) := ⟨rfl, rfl, rfl, by decide +kernel, rfl, by decide +kernel, by decide +kernel⟩
/-! laplacian -/
def N_laplacian : List Str := ["names", "pairs", "rows", "one", "other", "near", "far", "name"]
def b_laplacian : StF := (sSeq (sAsg false (fGrd (iSeq (fVar 0)) (gNm 7) (fBop .mul (fLst [(fCst (.int (0)))]) (fLenO "Web" f_len (fVar 0))) [7]) (gNm 2))
  (sSeq (sFor (iSeq (fVar 1)) (gTp [(gNm 3), (gNm 4)]) (sFor (iSeq (fTup [(fTup [(fVar 3), (fVar 4)]), (fTup [(fVar 4), (fVar 3)])])) (gTp [(gNm 5), (gNm 6)]) (sIf (fAnd (fCmp .ne (fVar 5) (fVar 6)) (fCmp .inn (fVar 5) (fVar 0))) (sSeq (sAugS false (fGIx (fVar 2) (fLm .index (fVar 0) (fVar 5))) (fLm .index (fVar 0) (fVar 5)) (fCst (.int (1))))
  (sIf (fCmp .inn (fVar 6) (fVar 0)) (sAugS true (fGIx (fVar 2) (fLm .index (fVar 0) (fVar 5))) (fLm .index (fVar 0) (fVar 6)) (fCst (.int (1)))) sNx)) sNx)))
  (sRet (fVar 2))))
def f_laplacian : FnF := fnOf 8 b_laplacian
theorem p_laplacian (h : Cok P w K mg base 2 N_laplacian (defScope (top 34)) (fun _ => true) X) (fr : Fre mg frees) (L_len : LOk P w K mg base CL 1 "Web" f_len) : PSs X (defBody (top 34)) (tS K CL b_laplacian) :=
  (q_cons h (s_setGrd h (i := 2) false (by decide +kernel) (by intro env hs; cases env; cases hs; rfl) (own := [("name", 7)]) (is := [7]) (i_seq h (r_var h (i := 0) (by decide +kernel))) (by decide +kernel) (fun _ h => (g_nm h (i := 7) (by decide +kernel))) (fun _ h => (k_bop h .mul (k_lst h (a_cons h (k_int h) (a_nil h) rfl)) (k_lenO h fr L_len (by decide) (by decide +kernel) (by decide +kernel) (r_var h (i := 0) (by decide +kernel)) rfl))) (fun _ => rfl) (by decide))
  (q_cons h (s_for h (i_seq h (r_var h (i := 1) (by decide +kernel))) (g_tp h (gs_cons h (g_nm h (i := 3) (by decide +kernel)) (gs_cons h (g_nm h (i := 4) (by decide +kernel)) (gs_nil h) rfl) rfl) rfl rfl) (q_one h (s_for h (i_seq h (k_tup h (a_cons h (k_tup h (a_cons h (r_var h (i := 3) (by decide +kernel)) (a_cons h (r_var h (i := 4) (by decide +kernel)) (a_nil h) rfl) rfl)) (a_cons h (k_tup h (a_cons h (r_var h (i := 4) (by decide +kernel)) (a_cons h (r_var h (i := 3) (by decide +kernel)) (a_nil h) rfl) rfl)) (a_nil h) rfl) rfl))) (g_tp h (gs_cons h (g_nm h (i := 5) (by decide +kernel)) (gs_cons h (g_nm h (i := 6) (by decide +kernel)) (gs_nil h) rfl) rfl) rfl rfl) (q_one h (s_if h (w_and h (t_cmp h .ne (r_var h (i := 5) (by decide +kernel)) (r_var h (i := 6) (by decide +kernel)) rfl) (w_and1 h (t_cmp h .inn (r_var h (i := 5) (by decide +kernel)) (r_var h (i := 0) (by decide +kernel)) rfl))).pt (q_cons h (s_augS h false (k_gix h (r_var h (i := 2) (by decide +kernel)) (m_index h (fun _ => rfl) rfl rfl rfl (r_var h (i := 0) (by decide +kernel)) (r_var h (i := 5) (by decide +kernel))) (fun _ _ => rfl)) (m_index h (fun _ => rfl) rfl rfl rfl (r_var h (i := 0) (by decide +kernel)) (r_var h (i := 5) (by decide +kernel))) (k_int h) (fun _ _ _ => rfl))
  (q_one h (s_if h (t_cmp h .inn (r_var h (i := 6) (by decide +kernel)) (r_var h (i := 0) (by decide +kernel)) rfl) (q_one h (s_augS h true (k_gix h (r_var h (i := 2) (by decide +kernel)) (m_index h (fun _ => rfl) rfl rfl rfl (r_var h (i := 0) (by decide +kernel)) (r_var h (i := 5) (by decide +kernel))) (fun _ _ => rfl)) (m_index h (fun _ => rfl) rfl rfl rfl (r_var h (i := 0) (by decide +kernel)) (r_var h (i := 6) (by decide +kernel))) (k_int h) (fun _ _ _ => rfl))) (q_nil h)))) (q_nil h))) (fun _ => rfl))) (fun _ => rfl))
  (q_one h (s_ret h (r_var h (i := 2) (by decide +kernel))))))
theorem s_laplacian : FnScope N_laplacian ["names", "pairs"] (defScope (top 34)) := ⟨rfl, rfl, rfl, by decide +kernel, rfl, by decide +kernel, by decide +kernel⟩
/-! determinant -/
def N_determinant : List Str := ["rows", "sign", "before", "at", "place", "spots", "lead", "first", "row", "own", "other"]
def b_determinant : StF := (sSeq (sParN [(true, (fLc (iSeq (fVar 0)) (gNm 8) none (fBi .list [(fVar 8)]) [8])), (false, (fCst (.int (1)))), (false, (fCst (.int (1))))] [(gNm 0), (gNm 1), (gNm 2)])
  (sSeq (sFor (iRng1 (fLenO "Web" f_len (fVar 0))) (gNm 3) (sSeq (sAsg false (fLc (iRng2 (fVar 3) (fLenO "Web" f_len (fVar 0))) (gNm 4) (some (fCmp .ne (fIdx (fIdx (fVar 0) (fVar 4)) (fVar 3)) (fCst (.int (0))))) (fVar 4) [4]) (gNm 5))
  (sSeq (sIf (fCmp .eq (fVar 5) (fLst [])) (sRet (fCst (.int (0)))) sNx)
  (sSeq (sIf (fCmp .ne (fIdx (fVar 5) (fCst (.int (0)))) (fVar 3)) (sParN [(false, (fIdx (fVar 0) (fIdx (fVar 5) (fCst (.int (0)))))), (false, (fIdx (fVar 0) (fVar 3))), (false, (fNeg (fVar 1)))] [(gSb (fVar 0) (fVar 3)), (gSb (fVar 0) (fIdx (fVar 5) (fCst (.int (0))))), (gNm 1)]) sNx)
  (sSeq (sAsg false (fIdx (fVar 0) (fVar 3)) (gNm 6))
  (sSeq (sFor (iRng2 (fBop .add (fVar 3) (fCst (.int (1)))) (fLenO "Web" f_len (fVar 0))) (gNm 4) (sSeq (sAsg false (fIdx (fIdx (fVar 0) (fVar 4)) (fVar 3)) (gNm 7))
  (sAsg false (fLc (iZip (fIdx (fVar 0) (fVar 4)) (fVar 6)) (gTp [(gNm 9), (gNm 10)]) none (fBop .fdiv (fBop .sub (fBop .mul (fVar 9) (fIdx (fVar 6) (fVar 3))) (fBop .mul (fVar 7) (fVar 10))) (fVar 2)) [9, 10]) (gSb (fVar 0) (fVar 4)))))
  (sAsg false (fIdx (fVar 6) (fVar 3)) (gNm 2))))))))
  (sRet (fBop .mul (fVar 1) (fVar 2)))))
def f_determinant : FnF := fnOf 11 b_determinant
theorem p_determinant (h : Cok P w K mg base 2 N_determinant (defScope (top 35)) (fun _ => true) X) (fr : Fre mg frees) (L_len : LOk P w K mg base CL 1 "Web" f_len) : PSs X (defBody (top 35)) (tS K CL b_determinant) :=
  (q_cons h (s_parN h (v_cons h true (k_lc h (own := [("row", 8)]) (is := [8]) (i_seq h (r_var h (i := 0) (by decide +kernel))) (by decide +kernel) (fun _ h => (g_nm h (i := 8) (by decide +kernel))) (fun _ h => (ts_none h)) (fun _ h => (k_biT h (bi := .list) fr rfl (by decide +kernel) (by decide +kernel) (by decide +kernel) (v_cons h false (r_var h (i := 8) (by decide +kernel)) (v_nil h) rfl) (by decide +kernel) rfl rfl)) (fun _ => rfl) (by decide)) (v_cons h false (k_int h) (v_cons h false (k_int h) (v_nil h) rfl) rfl) rfl) (gv_cons h (g_nm h (i := 0) (by decide +kernel)) (gv_cons h (g_nm h (i := 1) (by decide +kernel)) (gv_cons h (g_nm h (i := 2) (by decide +kernel)) (gv_nil h) rfl) rfl) rfl) rfl (by decide) rfl rfl rfl (by intro env hs; cases env; cases hs; rfl) rfl)
  (q_cons h (s_for h (i_rng1 h fr (by decide +kernel) (by decide +kernel) (k_lenO h fr L_len (by decide) (by decide +kernel) (by decide +kernel) (r_var h (i := 0) (by decide +kernel)) rfl) rfl) (g_nm h (i := 3) (by decide +kernel)) (q_cons h (s_setLc h (i := 5) false (by decide +kernel) (by intro env hs; cases env; cases hs; rfl) (own := [("place", 4)]) (is := [4]) (i_rng2 h fr (by decide +kernel) (by decide +kernel) (r_var h (i := 3) (by decide +kernel)) (k_lenO h fr L_len (by decide) (by decide +kernel) (by decide +kernel) (r_var h (i := 0) (by decide +kernel)) rfl) rfl rfl) (by decide +kernel) (fun _ h => (g_nm h (i := 4) (by decide +kernel))) (fun _ h => (ts_one h (t_cmp h .ne (k_idx h (k_idx h (r_var h (i := 0) (by decide +kernel)) (r_var h (i := 4) (by decide +kernel)) (fun _ _ => rfl)) (r_var h (i := 3) (by decide +kernel)) (fun _ _ => rfl)) (k_int h) rfl))) (fun _ h => (r_var h (i := 4) (by decide +kernel))) (fun _ => rfl) (by decide))
  (q_cons h (s_if h (t_cmp h .eq (r_var h (i := 5) (by decide +kernel)) (k_lst h (a_nil h)) rfl) (q_one h (s_ret h (k_int h))) (q_nil h))
  (q_cons h (s_if h (t_cmp h .ne (k_idx h (r_var h (i := 5) (by decide +kernel)) (k_int h) (fun _ _ => rfl)) (r_var h (i := 3) (by decide +kernel)) rfl) (q_one h (s_parN h (v_cons h false (k_idx h (r_var h (i := 0) (by decide +kernel)) (k_idx h (r_var h (i := 5) (by decide +kernel)) (k_int h) (fun _ _ => rfl)) (fun _ _ => rfl)) (v_cons h false (k_idx h (r_var h (i := 0) (by decide +kernel)) (r_var h (i := 3) (by decide +kernel)) (fun _ _ => rfl)) (v_cons h false (k_neg h (r_var h (i := 1) (by decide +kernel))) (v_nil h) rfl) rfl) rfl) (gv_cons h (g_sb h (r_var h (i := 0) (by decide +kernel)) (r_var h (i := 3) (by decide +kernel)) (fun _ => rfl)) (gv_cons h (g_sb h (r_var h (i := 0) (by decide +kernel)) (k_idx h (r_var h (i := 5) (by decide +kernel)) (k_int h) (fun _ _ => rfl)) (fun _ => rfl)) (gv_cons h (g_nm h (i := 1) (by decide +kernel)) (gv_nil h) rfl) rfl) rfl) rfl (by decide) rfl rfl rfl (by intro env hs; cases env; cases hs; rfl) rfl)) (q_nil h))
  (q_cons h (s_set h (i := 6) false (by decide +kernel) (k_idx h (r_var h (i := 0) (by decide +kernel)) (r_var h (i := 3) (by decide +kernel)) (fun _ _ => rfl)) (fun _ _ => rfl))
  (q_cons h (s_for h (i_rng2 h fr (by decide +kernel) (by decide +kernel) (k_bop h .add (r_var h (i := 3) (by decide +kernel)) (k_int h)) (k_lenO h fr L_len (by decide) (by decide +kernel) (by decide +kernel) (r_var h (i := 0) (by decide +kernel)) rfl) rfl rfl) (g_nm h (i := 4) (by decide +kernel)) (q_cons h (s_set h (i := 7) false (by decide +kernel) (k_idx h (k_idx h (r_var h (i := 0) (by decide +kernel)) (r_var h (i := 4) (by decide +kernel)) (fun _ _ => rfl)) (r_var h (i := 3) (by decide +kernel)) (fun _ _ => rfl)) (fun _ _ => rfl))
  (q_one h (s_asg h false (k_lc h (own := [("own", 9), ("other", 10)]) (is := [9, 10]) (i_zip h fr (by decide +kernel) (by decide +kernel) (k_idx h (r_var h (i := 0) (by decide +kernel)) (r_var h (i := 4) (by decide +kernel)) (fun _ _ => rfl)) (r_var h (i := 6) (by decide +kernel)) rfl rfl) (by decide +kernel) (fun _ h => (g_tp h (gs_cons h (g_nm h (i := 9) (by decide +kernel)) (gs_cons h (g_nm h (i := 10) (by decide +kernel)) (gs_nil h) rfl) rfl) rfl rfl)) (fun _ h => (ts_none h)) (fun _ h => (k_bop h .fdiv (k_bop h .sub (k_bop h .mul (r_var h (i := 9) (by decide +kernel)) (k_idx h (r_var h (i := 6) (by decide +kernel)) (r_var h (i := 3) (by decide +kernel)) (fun _ _ => rfl))) (k_bop h .mul (r_var h (i := 7) (by decide +kernel)) (r_var h (i := 10) (by decide +kernel)))) (r_var h (i := 2) (by decide +kernel)))) (fun _ => rfl) (by decide)) (g_sb h (r_var h (i := 0) (by decide +kernel)) (r_var h (i := 4) (by decide +kernel)) (fun _ => rfl)) rfl rfl rfl))) (fun _ => rfl))
  (q_one h (s_set h (i := 2) false (by decide +kernel) (k_idx h (r_var h (i := 6) (by decide +kernel)) (r_var h (i := 3) (by decide +kernel)) (fun _ _ => rfl)) (fun _ _ => rfl)))))))) (fun _ => rfl))
  (q_one h (s_ret h (k_bop h .mul (r_var h (i := 1) (by decide +kernel)) (r_var h (i := 2) (by decide +kernel)))))))
theorem s_determinant : FnScope N_determinant ["rows"] (defScope (top 35)) := ⟨rfl, rfl, rfl, by decide +kernel, rfl, by decide +kernel, by decide +kernel⟩
/-! heads_by -/
def N_heads_by : List Str := ["names", "pairs", "heads", "one", "other", "low", "high", "name", "head"]
def b_heads_by : StF := (sSeq (sAsg false (fLk (fDc (iSeq (fVar 0)) (gNm 7) (fVar 7) (fVar 7) [7])) (gNm 2))
  (sSeq (sFor (iSeq (fVar 1)) (gTp [(gNm 3), (gNm 4)]) (sSeq (sAsg false (fBi .sorted [(fTup [(fDGet (fVar 2) (fVar 3)), (fDGet (fVar 2) (fVar 4))])]) (gTp [(gNm 5), (gNm 6)]))
  (sAsg false (fLk (fDc (iItm (fVar 2)) (gTp [(gNm 7), (gNm 8)]) (fVar 7) (fIte (fCmp .eq (fVar 8) (fVar 6)) (fVar 5) (fVar 8)) [7, 8])) (gNm 2))))
  (sRet (fVar 2))))
def f_heads_by : FnF := fnOf 9 b_heads_by
theorem p_heads_by (h : Cok P w K mg base 0 N_heads_by (defScope (top 37)) (fun _ => true) X) (fr : Fre mg frees) : PSs X (defBody (top 37)) (tS K CL b_heads_by) :=
  (q_cons h (s_setDcLk h (i := 2) false (by decide +kernel) (by intro env hs; cases env; cases hs; rfl) (own := [("name", 7)]) (is := [7]) (i_seq h (r_var h (i := 0) (by decide +kernel))) (by decide +kernel) (fun _ h => (g_nm h (i := 7) (by decide +kernel))) (fun _ h => (r_var h (i := 7) (by decide +kernel))) (fun _ h => (r_var h (i := 7) (by decide +kernel))) (fun _ => rfl) (by decide))
  (q_cons h (s_for h (i_seq h (r_var h (i := 1) (by decide +kernel))) (g_tp h (gs_cons h (g_nm h (i := 3) (by decide +kernel)) (gs_cons h (g_nm h (i := 4) (by decide +kernel)) (gs_nil h) rfl) rfl) rfl rfl) (q_cons h (s_asg h false (k_biB h (bi := .sorted) fr rfl (by decide +kernel) (by decide +kernel) (by decide +kernel) (v_cons h false (k_tup h (a_cons h (k_dget h (r_var h (i := 2) (by decide +kernel)) (r_var h (i := 3) (by decide +kernel)) (fun _ _ => rfl)) (a_cons h (k_dget h (r_var h (i := 2) (by decide +kernel)) (r_var h (i := 4) (by decide +kernel)) (fun _ _ => rfl)) (a_nil h) rfl) rfl)) (v_nil h) rfl) (by decide +kernel) rfl rfl) (g_tp h (gs_cons h (g_nm h (i := 5) (by decide +kernel)) (gs_cons h (g_nm h (i := 6) (by decide +kernel)) (gs_nil h) rfl) rfl) rfl rfl) rfl rfl rfl)
  (q_one h (s_setDcLk h (i := 2) false (by decide +kernel) (by intro env hs; cases env; cases hs; rfl) (own := [("name", 7), ("head", 8)]) (is := [7, 8]) (i_items h (r_var h (i := 2) (by decide +kernel)) rfl rfl) (by decide +kernel) (fun _ h => (g_tp h (gs_cons h (g_nm h (i := 7) (by decide +kernel)) (gs_cons h (g_nm h (i := 8) (by decide +kernel)) (gs_nil h) rfl) rfl) rfl rfl)) (fun _ h => (r_var h (i := 7) (by decide +kernel))) (fun _ h => (k_ite h (t_cmp h .eq (r_var h (i := 8) (by decide +kernel)) (r_var h (i := 6) (by decide +kernel)) rfl) (r_var h (i := 5) (by decide +kernel)) (r_var h (i := 8) (by decide +kernel)))) (fun _ => rfl) (by decide)))) (fun _ => rfl))
  (q_one h (s_ret h (r_var h (i := 2) (by decide +kernel))))))
theorem s_heads_by : FnScope N_heads_by ["names", "pairs"] (defScope (top 37)) := ⟨rfl, rfl, rfl, by decide +kernel, rfl, by decide +kernel, by decide +kernel⟩
/-! full_woods -/
def N_full_woods : List Str := ["names", "pairs", "heads", "name"]
def b_full_woods : StF := (sSeq (sAsg false (fCall f_heads_by [(false, (fVar 0)), (false, (fVar 1))]) (gNm 2))
  (sRet (fScp (fCall f_determinant [(true, (fCall f_laplacian [(false, (fLc (iSeq (fVar 0)) (gNm 3) (some (fCmp .ne (fDGet (fVar 2) (fVar 3)) (fVar 3))) (fVar 3) [3])), (false, (fVar 1))]))]))))
def f_full_woods : FnF := fnOf 4 b_full_woods
theorem p_full_woods (h : Cok P w K mg base 3 N_full_woods (defScope (top 38)) (fun _ => true) X) (d_heads_by : FOk P w K mg base CL 1 "heads_by" 2 f_heads_by) (d_laplacian : FOk P w K mg base CL 3 "laplacian" 2 f_laplacian) (d_determinant : FOk P w K mg base CL 3 "determinant" 1 f_determinant) : PSs X (defBody (top 38)) (tS K CL b_full_woods) :=
  (q_cons h (s_set h (i := 2) false (by decide +kernel) (k_call h d_heads_by (by decide) (by decide +kernel) (v_cons h false (r_var h (i := 0) (by decide +kernel)) (v_cons h false (r_var h (i := 1) (by decide +kernel)) (v_nil h) rfl) rfl) rfl rfl rfl) (fun _ _ => rfl))
  (q_one h (s_ret h (k_scp (k_call h d_determinant (by decide) (by decide +kernel) (v_cons h true (k_call h d_laplacian (by decide) (by decide +kernel) (v_cons h false (k_lc h (own := [("name", 3)]) (is := [3]) (i_seq h (r_var h (i := 0) (by decide +kernel))) (by decide +kernel) (fun _ h => (g_nm h (i := 3) (by decide +kernel))) (fun _ h => (ts_one h (t_cmp h .ne (k_dget h (r_var h (i := 2) (by decide +kernel)) (r_var h (i := 3) (by decide +kernel)) (fun _ _ => rfl)) (r_var h (i := 3) (by decide +kernel)) rfl))) (fun _ h => (r_var h (i := 3) (by decide +kernel))) (fun _ => rfl) (by decide)) (v_cons h false (r_var h (i := 1) (by decide +kernel)) (v_nil h) rfl) rfl) rfl rfl rfl) (v_nil h) rfl) rfl rfl rfl)))))
theorem s_full_woods : FnScope N_full_woods ["names", "pairs"] (defScope (top 38)) := ⟨rfl, rfl, rfl, by decide +kernel, rfl, by decide +kernel, by decide +kernel⟩
/-! trees_by -/
def N_trees_by : List Str := ["web", "inside", "outside", "left", "heads", "names", "index", "place", "one", "other"]
def b_trees_by : StF := (sSeq (sIf (fOr (fBi .any [(fLc (iSeq (fVar 1)) (gNm 6) none (fCmp .inn (fVar 6) (fVar 2)) [6])]) (fNot (fCall f_is_free_lot [(false, (fVar 0)), (false, (fVar 1))]))) (sRet (fCst (.int (0)))) sNx)
  (sSeq (sAsg false (fLc (iSeq (fCall f_rest_of [(false, (fVar 0)), (false, (fVar 1))])) (gNm 6) (some (fCmp .nin (fVar 6) (fVar 2))) (fVar 6) [6]) (gNm 3))
  (sSeq (sIf (fCmp .gt (fLenO "Web" f_len (fCall f_pieces_of [(false, (fVar 0)), (false, (fBop .add (fVar 1) (fBi .tuple [(fVar 3)])))])) (fLenO "Web" f_len (fCall f_pieces_of [(false, (fVar 0)), (false, (fCall f_every_tie [(false, (fVar 0))]))]))) (sRet (fCst (.int (0)))) sNx)
  (sSeq (sAsg false (fCall f_heads_by [(false, (fFldC "Web" (fVar 0) "places")), (false, (fCall f_ties_of [(false, (fVar 0)), (false, (fVar 1))]))]) (gNm 4))
  (sSeq (sAsg false (fLc (iSeq (fFldC "Web" (fVar 0) "places")) (gNm 7) (some (fCmp .eq (fDGet (fVar 4) (fVar 7)) (fVar 7))) (fVar 7) [7]) (gNm 5))
  (sRet (fCall f_full_woods [(false, (fVar 5)), (false, (fLc (iSeq (fCall f_ties_of [(false, (fVar 0)), (false, (fVar 3))])) (gTp [(gNm 8), (gNm 9)]) none (fTup [(fDGet (fVar 4) (fVar 8)), (fDGet (fVar 4) (fVar 9))]) [8, 9]))])))))))
def f_trees_by : FnF := fnOf 10 b_trees_by
theorem p_trees_by (h : Cok P w K mg base 5 N_trees_by (defScope (top 39)) (fun _ => true) X) (fr : Fre mg frees) (d_is_free_lot : FOk P w K mg base CL 5 "is_free_lot" 2 f_is_free_lot) (d_rest_of : FOk P w K mg base CL 4 "rest_of" 2 f_rest_of) (d_pieces_of : FOk P w K mg base CL 2 "pieces_of" 2 f_pieces_of) (L_len : LOk P w K mg base CL 1 "Web" f_len) (d_every_tie : FOk P w K mg base CL 3 "every_tie" 1 f_every_tie) (C_Web : COk K mg CL "Web" fields) (d_ties_of : FOk P w K mg base CL 1 "ties_of" 2 f_ties_of) (d_heads_by : FOk P w K mg base CL 1 "heads_by" 2 f_heads_by) (d_full_woods : FOk P w K mg base CL 4 "full_woods" 2 f_full_woods) : PSs X (defBody (top 39)) (tS K CL b_trees_by) :=
  (q_cons h (s_if h (w_or h (t_val h (k_biB h (bi := .any) fr rfl (by decide +kernel) (by decide +kernel) (by decide +kernel) (v_cons h false (k_lc h (own := [("index", 6)]) (is := [6]) (i_seq h (r_var h (i := 1) (by decide +kernel))) (by decide +kernel) (fun _ h => (g_nm h (i := 6) (by decide +kernel))) (fun _ h => (ts_none h)) (fun _ h => (k_cmp h .inn (r_var h (i := 6) (by decide +kernel)) (r_var h (i := 2) (by decide +kernel)) rfl)) (fun _ => rfl) (by decide)) (v_nil h) rfl) (by decide +kernel) rfl rfl) (fun _ => rfl)) (w_or1 h (t_not h (t_val h (k_call h d_is_free_lot (by decide) (by decide +kernel) (v_cons h false (r_var h (i := 0) (by decide +kernel)) (v_cons h false (r_var h (i := 1) (by decide +kernel)) (v_nil h) rfl) rfl) rfl rfl rfl) (fun _ => rfl))))).pt (q_one h (s_ret h (k_int h))) (q_nil h))
  (q_cons h (s_setLc h (i := 3) false (by decide +kernel) (by intro env hs; cases env; cases hs; rfl) (own := [("index", 6)]) (is := [6]) (i_seq h (k_call h d_rest_of (by decide) (by decide +kernel) (v_cons h false (r_var h (i := 0) (by decide +kernel)) (v_cons h false (r_var h (i := 1) (by decide +kernel)) (v_nil h) rfl) rfl) rfl rfl rfl)) (by decide +kernel) (fun _ h => (g_nm h (i := 6) (by decide +kernel))) (fun _ h => (ts_one h (t_cmp h .nin (r_var h (i := 6) (by decide +kernel)) (r_var h (i := 2) (by decide +kernel)) rfl))) (fun _ h => (r_var h (i := 6) (by decide +kernel))) (fun _ => rfl) (by decide))
  (q_cons h (s_if h (t_cmp h .gt (k_lenO h fr L_len (by decide) (by decide +kernel) (by decide +kernel) (k_call h d_pieces_of (by decide) (by decide +kernel) (v_cons h false (r_var h (i := 0) (by decide +kernel)) (v_cons h false (k_bop h .add (r_var h (i := 1) (by decide +kernel)) (k_biT h (bi := .tuple) fr rfl (by decide +kernel) (by decide +kernel) (by decide +kernel) (v_cons h false (r_var h (i := 3) (by decide +kernel)) (v_nil h) rfl) (by decide +kernel) rfl rfl)) (v_nil h) rfl) rfl) rfl rfl rfl) rfl) (k_lenO h fr L_len (by decide) (by decide +kernel) (by decide +kernel) (k_call h d_pieces_of (by decide) (by decide +kernel) (v_cons h false (r_var h (i := 0) (by decide +kernel)) (v_cons h false (k_call h d_every_tie (by decide) (by decide +kernel) (v_cons h false (r_var h (i := 0) (by decide +kernel)) (v_nil h) rfl) rfl rfl rfl) (v_nil h) rfl) rfl) rfl rfl rfl) rfl) rfl) (q_one h (s_ret h (k_int h))) (q_nil h))
  (q_cons h (s_set h (i := 4) false (by decide +kernel) (k_call h d_heads_by (by decide) (by decide +kernel) (v_cons h false (k_fld h C_Web (by decide +kernel) (r_var h (i := 0) (by decide +kernel)) rfl) (v_cons h false (k_call h d_ties_of (by decide) (by decide +kernel) (v_cons h false (r_var h (i := 0) (by decide +kernel)) (v_cons h false (r_var h (i := 1) (by decide +kernel)) (v_nil h) rfl) rfl) rfl rfl rfl) (v_nil h) rfl) rfl) rfl rfl rfl) (fun _ _ => rfl))
  (q_cons h (s_setLc h (i := 5) false (by decide +kernel) (by intro env hs; cases env; cases hs; rfl) (own := [("place", 7)]) (is := [7]) (i_seq h (k_fld h C_Web (by decide +kernel) (r_var h (i := 0) (by decide +kernel)) rfl)) (by decide +kernel) (fun _ h => (g_nm h (i := 7) (by decide +kernel))) (fun _ h => (ts_one h (t_cmp h .eq (k_dget h (r_var h (i := 4) (by decide +kernel)) (r_var h (i := 7) (by decide +kernel)) (fun _ _ => rfl)) (r_var h (i := 7) (by decide +kernel)) rfl))) (fun _ h => (r_var h (i := 7) (by decide +kernel))) (fun _ => rfl) (by decide))
  (q_one h (s_ret h (k_call h d_full_woods (by decide) (by decide +kernel) (v_cons h false (r_var h (i := 5) (by decide +kernel)) (v_cons h false (k_lc h (own := [("one", 8), ("other", 9)]) (is := [8, 9]) (i_seq h (k_call h d_ties_of (by decide) (by decide +kernel) (v_cons h false (r_var h (i := 0) (by decide +kernel)) (v_cons h false (r_var h (i := 3) (by decide +kernel)) (v_nil h) rfl) rfl) rfl rfl rfl)) (by decide +kernel) (fun _ h => (g_tp h (gs_cons h (g_nm h (i := 8) (by decide +kernel)) (gs_cons h (g_nm h (i := 9) (by decide +kernel)) (gs_nil h) rfl) rfl) rfl rfl)) (fun _ h => (ts_none h)) (fun _ h => (k_tup h (a_cons h (k_dget h (r_var h (i := 4) (by decide +kernel)) (r_var h (i := 8) (by decide +kernel)) (fun _ _ => rfl)) (a_cons h (k_dget h (r_var h (i := 4) (by decide +kernel)) (r_var h (i := 9) (by decide +kernel)) (fun _ _ => rfl)) (a_nil h) rfl) rfl))) (fun _ => rfl) (by decide)) (v_nil h) rfl) rfl) rfl rfl rfl))))))))
theorem s_trees_by : FnScope N_trees_by ["web", "inside", "outside"] (defScope (top 39)) := ⟨rfl, rfl, rfl, by decide +kernel, rfl, by decide +kernel, by decide +kernel⟩
/-! trees_counted -/
def N_trees_counted : List Str := ["web"]
def b_trees_counted : StF := (sRet (fCall f_trees_by [(false, (fVar 0)), (false, (fTup [])), (false, (fTup []))]))
def f_trees_counted : FnF := fnOf 1 b_trees_counted
theorem p_trees_counted (h : Cok P w K mg base 6 N_trees_counted (defScope (top 40)) (fun _ => true) X) (d_trees_by : FOk P w K mg base CL 6 "trees_by" 3 f_trees_by) : PSs X (defBody (top 40)) (tS K CL b_trees_counted) :=
  (q_one h (s_ret h (k_call h d_trees_by (by decide) (by decide +kernel) (v_cons h false (r_var h (i := 0) (by decide +kernel)) (v_cons h false (k_tup h (a_nil h)) (v_cons h false (k_tup h (a_nil h)) (v_nil h) rfl) rfl) rfl) rfl rfl rfl)))
theorem s_trees_counted : FnScope N_trees_counted ["web"] (defScope (top 40)) := ⟨rfl, rfl, rfl, by decide +kernel, rfl, by decide +kernel, by decide +kernel⟩
/-! count_trees -/
def N_count_trees : List Str := ["web"]
def b_count_trees : StF := (sSeq (sExp (fCall f_check_web [(false, (fVar 0))]))
  (sRet (fCall f_trees_counted [(false, (fVar 0))])))
def f_count_trees : FnF := fnOf 1 b_count_trees
theorem p_count_trees (h : Cok P w K mg base 7 N_count_trees (defScope (top 41)) (fun _ => true) X) (d_check_web : FOk P w K mg base CL 1 "check_web" 1 f_check_web) (d_trees_counted : FOk P w K mg base CL 7 "trees_counted" 1 f_trees_counted) : PSs X (defBody (top 41)) (tS K CL b_count_trees) :=
  (q_cons h (s_exp h (k_call h d_check_web (by decide) (by decide +kernel) (v_cons h false (r_var h (i := 0) (by decide +kernel)) (v_nil h) rfl) rfl rfl rfl) rfl)
  (q_one h (s_ret h (k_call h d_trees_counted (by decide) (by decide +kernel) (v_cons h false (r_var h (i := 0) (by decide +kernel)) (v_nil h) rfl) rfl rfl rfl))))
theorem s_count_trees : FnScope N_count_trees ["web"] (defScope (top 41)) := ⟨rfl, rfl, rfl, by decide +kernel, rfl, by decide +kernel, by decide +kernel⟩
/-! all_trees -/
def N_all_trees : List Str := ["web"]
def b_all_trees : StF := (sSeq (sExp (fCall f_check_web [(false, (fVar 0))]))
  (sRet (fBi .tuple [(fCall f_every_tree [(false, (fVar 0))])])))
def f_all_trees : FnF := fnOf 1 b_all_trees
theorem p_all_trees (h : Cok P w K mg base 6 N_all_trees (defScope (top 42)) (fun _ => true) X) (d_check_web : FOk P w K mg base CL 1 "check_web" 1 f_check_web) (d_every_tree : FOk P w K mg base CL 6 "every_tree" 1 f_every_tree) (fr : Fre mg frees) : PSs X (defBody (top 42)) (tS K CL b_all_trees) :=
  (q_cons h (s_exp h (k_call h d_check_web (by decide) (by decide +kernel) (v_cons h false (r_var h (i := 0) (by decide +kernel)) (v_nil h) rfl) rfl rfl rfl) rfl)
  (q_one h (s_ret h (k_biT h (bi := .tuple) fr rfl (by decide +kernel) (by decide +kernel) (by decide +kernel) (v_cons h false (k_call h d_every_tree (by decide) (by decide +kernel) (v_cons h false (r_var h (i := 0) (by decide +kernel)) (v_nil h) rfl) rfl rfl rfl) (v_nil h) rfl) (by decide +kernel) rfl rfl))))
theorem s_all_trees : FnScope N_all_trees ["web"] (defScope (top 42)) := ⟨rfl, rfl, rfl, by decide +kernel, rfl, by decide +kernel, by decide +kernel⟩
/-! trees_with -/
def N_trees_with : List Str := ["web", "inside", "outside"]
def b_trees_with : StF := (sSeq (sExp (fCall f_check_web [(false, (fVar 0))]))
  (sSeq (sExp (fCall f_check_lot [(false, (fVar 0)), (false, (fVar 1))]))
  (sSeq (sExp (fCall f_check_lot [(false, (fVar 0)), (false, (fVar 2))]))
  (sRet (fCall f_trees_by [(false, (fVar 0)), (false, (fVar 1)), (false, (fVar 2))])))))
def f_trees_with : FnF := fnOf 3 b_trees_with
theorem p_trees_with (h : Cok P w K mg base 6 N_trees_with (defScope (top 43)) (fun _ => true) X) (d_check_web : FOk P w K mg base CL 1 "check_web" 1 f_check_web) (d_check_lot : FOk P w K mg base CL 4 "check_lot" 2 f_check_lot) (d_trees_by : FOk P w K mg base CL 6 "trees_by" 3 f_trees_by) : PSs X (defBody (top 43)) (tS K CL b_trees_with) :=
  (q_cons h (s_exp h (k_call h d_check_web (by decide) (by decide +kernel) (v_cons h false (r_var h (i := 0) (by decide +kernel)) (v_nil h) rfl) rfl rfl rfl) rfl)
  (q_cons h (s_exp h (k_call h d_check_lot (by decide) (by decide +kernel) (v_cons h false (r_var h (i := 0) (by decide +kernel)) (v_cons h false (r_var h (i := 1) (by decide +kernel)) (v_nil h) rfl) rfl) rfl rfl rfl) rfl)
  (q_cons h (s_exp h (k_call h d_check_lot (by decide) (by decide +kernel) (v_cons h false (r_var h (i := 0) (by decide +kernel)) (v_cons h false (r_var h (i := 2) (by decide +kernel)) (v_nil h) rfl) rfl) rfl rfl rfl) rfl)
  (q_one h (s_ret h (k_call h d_trees_by (by decide) (by decide +kernel) (v_cons h false (r_var h (i := 0) (by decide +kernel)) (v_cons h false (r_var h (i := 1) (by decide +kernel)) (v_cons h false (r_var h (i := 2) (by decide +kernel)) (v_nil h) rfl) rfl) rfl) rfl rfl rfl))))))
theorem s_trees_with : FnScope N_trees_with ["web", "inside", "outside"] (defScope (top 43)) := ⟨rfl, rfl, rfl, by decide +kernel, rfl, by decide +kernel, by decide +kernel⟩
/-! _law_pot -/
def N__law_pot : List Str := ["script", "k", "cell", "one", "each"]
def b__law_pot : StF := (sSeq (sAsg false (fIte (fCmp .lt (fVar 1) (fLenO "Web" f_len (fVar 0))) (fBi .int [(fIdx (fVar 0) (fVar 1))]) (fBop .add (fBop .mul (fCst (.int (7919))) (fVar 1)) (fCst (.int (31))))) (gNm 2))
  (sSeq (sAsg false (fBop .mod (fBi .int [(fVar 2)]) (fCst (.int (2147483629)))) (gNm 3))
  (sSeq (sFor (iSeq (fSlc (fVar 0) none (some (fCst (.int (6)))))) (gNm 4) (sAsg false (fBop .mod (fBi .int [(fBop .add (fBop .add (fBop .mul (fVar 3) (fCst (.int (48611)))) (fBop .mod (fBi .int [(fVar 4)]) (fCst (.int (2147480009))))) (fCst (.int (13))))]) (fCst (.int (2147483629)))) (gNm 3)))
  (sRet (fLst [(fIte (fOr (fCmp .lt (fVar 2) (fCst (.int (0)))) (fCmp .ge (fVar 2) (fBop .pow (fCst (.int (10))) (fCst (.int (16)))))) (fBi .abs [(fVar 2)]) (fCst (.int (0)))), (fVar 3), (fBop .mod (fBi .int [(fBop .add (fBop .add (fBop .mul (fVar 3) (fCst (.int (69697)))) (fBop .mul (fCst (.int (7741))) (fVar 1))) (fCst (.int (5))))]) (fCst (.int (2147480009))))])))))
def f__law_pot : FnF := fnOf 5 b__law_pot
theorem p__law_pot (h : Cok P w K mg base 2 N__law_pot (defScope (top 45)) (fun _ => true) X) (fr : Fre mg frees) (L_len : LOk P w K mg base CL 1 "Web" f_len) : PSs X (defBody (top 45)) (tS K CL b__law_pot) :=
  (q_cons h (s_set h (i := 2) false (by decide +kernel) (k_ite h (t_cmp h .lt (r_var h (i := 1) (by decide +kernel)) (k_lenO h fr L_len (by decide) (by decide +kernel) (by decide +kernel) (r_var h (i := 0) (by decide +kernel)) rfl) rfl) (k_biT h (bi := .int) fr rfl (by decide +kernel) (by decide +kernel) (by decide +kernel) (v_cons h false (k_idx h (r_var h (i := 0) (by decide +kernel)) (r_var h (i := 1) (by decide +kernel)) (fun _ _ => rfl)) (v_nil h) rfl) (by decide +kernel) rfl rfl) (k_bop h .add (k_bop h .mul (k_int h) (r_var h (i := 1) (by decide +kernel))) (k_int h))) (fun _ _ => rfl))
  (q_cons h (s_set h (i := 3) false (by decide +kernel) (k_bop h .mod (k_biT h (bi := .int) fr rfl (by decide +kernel) (by decide +kernel) (by decide +kernel) (v_cons h false (r_var h (i := 2) (by decide +kernel)) (v_nil h) rfl) (by decide +kernel) rfl rfl) (k_int h)) (fun _ _ => rfl))
  (q_cons h (s_for h (i_seq h (k_slc h (r_var h (i := 0) (by decide +kernel)) (o_none h) (o_some h (k_int h)))) (g_nm h (i := 4) (by decide +kernel)) (q_one h (s_set h (i := 3) false (by decide +kernel) (k_bop h .mod (k_biT h (bi := .int) fr rfl (by decide +kernel) (by decide +kernel) (by decide +kernel) (v_cons h false (k_bop h .add (k_bop h .add (k_bop h .mul (r_var h (i := 3) (by decide +kernel)) (k_int h)) (k_bop h .mod (k_biT h (bi := .int) fr rfl (by decide +kernel) (by decide +kernel) (by decide +kernel) (v_cons h false (r_var h (i := 4) (by decide +kernel)) (v_nil h) rfl) (by decide +kernel) rfl rfl) (k_int h))) (k_int h)) (v_nil h) rfl) (by decide +kernel) rfl rfl) (k_int h)) (fun _ _ => rfl))) (fun _ => rfl))
  (q_one h (s_ret h (k_lst h (a_cons h (k_ite h (w_or h (t_cmp h .lt (r_var h (i := 2) (by decide +kernel)) (k_int h) rfl) (w_or1 h (t_cmp h .ge (r_var h (i := 2) (by decide +kernel)) (k_bop h .pow (k_int h) (k_int h)) rfl))).pt (k_biB h (bi := .abs) fr rfl (by decide +kernel) (by decide +kernel) (by decide +kernel) (v_cons h false (r_var h (i := 2) (by decide +kernel)) (v_nil h) rfl) (by decide +kernel) rfl rfl) (k_int h)) (a_cons h (r_var h (i := 3) (by decide +kernel)) (a_cons h (k_bop h .mod (k_biT h (bi := .int) fr rfl (by decide +kernel) (by decide +kernel) (by decide +kernel) (v_cons h false (k_bop h .add (k_bop h .add (k_bop h .mul (r_var h (i := 3) (by decide +kernel)) (k_int h)) (k_bop h .mul (k_int h) (r_var h (i := 1) (by decide +kernel)))) (k_int h)) (v_nil h) rfl) (by decide +kernel) rfl rfl) (k_int h)) (a_nil h) rfl) rfl) rfl)))))))
theorem s__law_pot : FnScope N__law_pot ["script", "k"] (defScope (top 45)) := ⟨rfl, rfl, rfl, by decide +kernel, rfl, by decide +kernel, by decide +kernel⟩
/-! _law_dip -/
def N__law_dip : List Str := ["pot", "many", "digit"]
def b__law_dip : StF := (sSeq (sIf (fCmp .gt (fIdx (fVar 0) (fCst (.int (0)))) (fCst (.int (0)))) (sSeq (sAsg false (fBi .divmod [(fIdx (fVar 0) (fCst (.int (0)))), (fVar 1)]) (gTp [(gSb (fVar 0) (fCst (.int (0)))), (gNm 2)]))
  (sRet (fVar 2))) sNx)
  (sSeq (sAsg false (fBop .mod (fBi .int [(fBop .add (fBop .mul (fIdx (fVar 0) (fCst (.int (1)))) (fCst (.int (40692)))) (fCst (.int (11))))]) (fCst (.int (2147483629)))) (gSb (fVar 0) (fCst (.int (1)))))
  (sSeq (sAsg false (fBop .mod (fBi .int [(fBop .add (fBop .mul (fIdx (fVar 0) (fCst (.int (2)))) (fCst (.int (52774)))) (fCst (.int (7))))]) (fCst (.int (2147480009)))) (gSb (fVar 0) (fCst (.int (2)))))
  (sRet (fBop .mod (fBi .int [(fBop .fdiv (fBi .int [(fBop .add (fIdx (fVar 0) (fCst (.int (1)))) (fIdx (fVar 0) (fCst (.int (2)))))]) (fCst (.int (128))))]) (fVar 1))))))
def f__law_dip : FnF := fnOf 3 b__law_dip
theorem p__law_dip (h : Cok P w K mg base 0 N__law_dip (defScope (top 46)) (fun _ => true) X) (fr : Fre mg frees) : PSs X (defBody (top 46)) (tS K CL b__law_dip) :=
  (q_cons h (s_if h (t_cmp h .gt (k_idx h (r_var h (i := 0) (by decide +kernel)) (k_int h) (fun _ _ => rfl)) (k_int h) rfl) (q_cons h (s_asg h false (k_biB h (bi := .divmod) fr rfl (by decide +kernel) (by decide +kernel) (by decide +kernel) (v_cons h false (k_idx h (r_var h (i := 0) (by decide +kernel)) (k_int h) (fun _ _ => rfl)) (v_cons h false (r_var h (i := 1) (by decide +kernel)) (v_nil h) rfl) rfl) (by decide +kernel) rfl rfl) (g_tp h (gs_cons h (g_sb h (r_var h (i := 0) (by decide +kernel)) (k_int h) (fun _ => rfl)) (gs_cons h (g_nm h (i := 2) (by decide +kernel)) (gs_nil h) rfl) rfl) rfl rfl) rfl rfl rfl)
  (q_one h (s_ret h (r_var h (i := 2) (by decide +kernel))))) (q_nil h))
  (q_cons h (s_asg h false (k_bop h .mod (k_biT h (bi := .int) fr rfl (by decide +kernel) (by decide +kernel) (by decide +kernel) (v_cons h false (k_bop h .add (k_bop h .mul (k_idx h (r_var h (i := 0) (by decide +kernel)) (k_int h) (fun _ _ => rfl)) (k_int h)) (k_int h)) (v_nil h) rfl) (by decide +kernel) rfl rfl) (k_int h)) (g_sb h (r_var h (i := 0) (by decide +kernel)) (k_int h) (fun _ => rfl)) rfl rfl rfl)
  (q_cons h (s_asg h false (k_bop h .mod (k_biT h (bi := .int) fr rfl (by decide +kernel) (by decide +kernel) (by decide +kernel) (v_cons h false (k_bop h .add (k_bop h .mul (k_idx h (r_var h (i := 0) (by decide +kernel)) (k_int h) (fun _ _ => rfl)) (k_int h)) (k_int h)) (v_nil h) rfl) (by decide +kernel) rfl rfl) (k_int h)) (g_sb h (r_var h (i := 0) (by decide +kernel)) (k_int h) (fun _ => rfl)) rfl rfl rfl)
  (q_one h (s_ret h (k_bop h .mod (k_biT h (bi := .int) fr rfl (by decide +kernel) (by decide +kernel) (by decide +kernel) (v_cons h false (k_bop h .fdiv (k_biT h (bi := .int) fr rfl (by decide +kernel) (by decide +kernel) (by decide +kernel) (v_cons h false (k_bop h .add (k_idx h (r_var h (i := 0) (by decide +kernel)) (k_int h) (fun _ _ => rfl)) (k_idx h (r_var h (i := 0) (by decide +kernel)) (k_int h) (fun _ _ => rfl))) (v_nil h) rfl) (by decide +kernel) rfl rfl) (k_int h)) (v_nil h) rfl) (by decide +kernel) rfl rfl) (r_var h (i := 1) (by decide +kernel))))))))
theorem s__law_dip : FnScope N__law_dip ["pot", "many"] (defScope (top 46)) := ⟨rfl, rfl, rfl, by decide +kernel, rfl, by decide +kernel, by decide +kernel⟩
/-! _law_any -/
def N__law_any : List Str := ["pot", "some"]
def b__law_any : StF := (sRet (fIdx (fVar 1) (fCall f__law_dip [(true, (fVar 0)), (false, (fLenO "Web" f_len (fVar 1)))])))
def f__law_any : FnF := fnOf 2 b__law_any
theorem p__law_any (h : Cok P w K mg base 2 N__law_any (defScope (top 47)) (fun _ => true) X) (fr : Fre mg frees) (L_len : LOk P w K mg base CL 1 "Web" f_len) (d__law_dip : FOk P w K mg base CL 1 "_law_dip" 2 f__law_dip) : PSs X (defBody (top 47)) (tS K CL b__law_any) :=
  (q_one h (s_ret h (k_idx h (r_var h (i := 1) (by decide +kernel)) (k_call h d__law_dip (by decide) (by decide +kernel) (v_cons h true (r_var h (i := 0) (by decide +kernel)) (v_cons h false (k_lenO h fr L_len (by decide) (by decide +kernel) (by decide +kernel) (r_var h (i := 1) (by decide +kernel)) rfl) (v_nil h) rfl) rfl) rfl rfl rfl) (fun _ _ => rfl))))
theorem s__law_any : FnScope N__law_any ["pot", "some"] (defScope (top 47)) := ⟨rfl, rfl, rfl, by decide +kernel, rfl, by decide +kernel, by decide +kernel⟩
/-! _law_parts -/
def N__law_parts : List Str := ["pot", "most", "many", "pool", "found", "ties", "turn", "places", "one", "other", "k"]
def b__law_parts : StF := (sSeq (sPar3 true true true (fBi .list [(fCst (.str "abcdefgh"))]) (fLst []) (fLst []) 3 4 5)
  (sSeq (sFor (iRng1 (fBop .add (fCst (.int (1))) (fCall f__law_dip [(true, (fVar 0)), (false, (fVar 1))]))) (gNm 6) (sExp (fAppend (fVar 4) (fPopAt (fVar 3) (fCall f__law_dip [(true, (fVar 0)), (false, (fLenO "Web" f_len (fVar 3)))])))))
  (sSeq (sAsg false (fJoin (fCst (.str "")) (fBi .sorted [(fVar 4)])) (gNm 7))
  (sSeq (sIf (fCmp .eq (fCall f__law_dip [(true, (fVar 0)), (false, (fCst (.int (2))))]) (fCst (.int (0)))) (sAsg true (fLc (iRng1 (fBop .sub (fLenO "Web" f_len (fVar 7)) (fCst (.int (1))))) (gNm 10) none (fBop .add (fIdx (fVar 7) (fVar 10)) (fIdx (fVar 7) (fBop .add (fVar 10) (fCst (.int (1)))))) [10]) (gNm 5)) sNx)
  (sSeq (sFor (iRng1 (fCall f__law_dip [(true, (fVar 0)), (false, (fBop .sub (fBop .add (fVar 2) (fCst (.int (1)))) (fLenO "Web" f_len (fVar 5))))])) (gNm 6) (sSeq (sPar false false (fCall f__law_any [(true, (fVar 0)), (false, (fVar 7))]) (fCall f__law_any [(true, (fVar 0)), (false, (fVar 7))]) (gNm 8) (gNm 9))
  (sSeq (sIf (fAnd (fCmp .eq (fVar 8) (fVar 9)) (fCmp .gt (fCall f__law_dip [(true, (fVar 0)), (false, (fCst (.int (3))))]) (fCst (.int (0))))) (sAsg false (fCall f__law_any [(true, (fVar 0)), (false, (fVar 7))]) (gNm 9)) sNx)
  (sExp (fIns (fVar 5) (fCall f__law_dip [(true, (fVar 0)), (false, (fBop .add (fLenO "Web" f_len (fVar 5)) (fCst (.int (1)))))]) (fBop .add (fBi .min [(fVar 8), (fVar 9)]) (fBi .max [(fVar 8), (fVar 9)])))))))
  (sRet (fTup [(fVar 7), (fBi .tuple [(fVar 5)])])))))))
def f__law_parts : FnF := fnOf 11 b__law_parts
theorem p__law_parts (h : Cok P w K mg base 3 N__law_parts (defScope (top 48)) (fun _ => true) X) (fr : Fre mg frees) (d__law_dip : FOk P w K mg base CL 1 "_law_dip" 2 f__law_dip) (L_len : LOk P w K mg base CL 1 "Web" f_len) (d__law_any : FOk P w K mg base CL 3 "_law_any" 2 f__law_any) : PSs X (defBody (top 48)) (tS K CL b__law_parts) :=
  (q_cons h (s_par3 h (i := 3) (j := 4) (l := 5) true true true (by decide +kernel) (by decide +kernel) (by decide +kernel) (by decide) (k_biT h (bi := .list) fr rfl (by decide +kernel) (by decide +kernel) (by decide +kernel) (v_cons h false (k_str h) (v_nil h) rfl) (by decide +kernel) rfl rfl) (k_lst h (a_nil h)) (k_lst h (a_nil h)) rfl rfl rfl (by intro env hs; cases env; cases hs; rfl) rfl)
  (q_cons h (s_for h (i_rng1 h fr (by decide +kernel) (by decide +kernel) (k_bop h .add (k_int h) (k_call h d__law_dip (by decide) (by decide +kernel) (v_cons h true (r_var h (i := 0) (by decide +kernel)) (v_cons h false (r_var h (i := 1) (by decide +kernel)) (v_nil h) rfl) rfl) rfl rfl rfl)) rfl) (g_nm h (i := 6) (by decide +kernel)) (q_one h (s_exp h (m_append h (fun _ => rfl) rfl rfl rfl (r_var h (i := 4) (by decide +kernel)) (m_popAt h (fun _ => rfl) rfl rfl rfl (r_var h (i := 3) (by decide +kernel)) (k_call h d__law_dip (by decide) (by decide +kernel) (v_cons h true (r_var h (i := 0) (by decide +kernel)) (v_cons h false (k_lenO h fr L_len (by decide) (by decide +kernel) (by decide +kernel) (r_var h (i := 3) (by decide +kernel)) rfl) (v_nil h) rfl) rfl) rfl rfl rfl))) rfl)) (fun _ => rfl))
  (q_cons h (s_set h (i := 7) false (by decide +kernel) (m_join h (fun _ => rfl) rfl rfl rfl (k_str h) (k_biB h (bi := .sorted) fr rfl (by decide +kernel) (by decide +kernel) (by decide +kernel) (v_cons h false (r_var h (i := 4) (by decide +kernel)) (v_nil h) rfl) (by decide +kernel) rfl rfl)) (fun _ _ => rfl))
  (q_cons h (s_if h (t_cmp h .eq (k_call h d__law_dip (by decide) (by decide +kernel) (v_cons h true (r_var h (i := 0) (by decide +kernel)) (v_cons h false (k_int h) (v_nil h) rfl) rfl) rfl rfl rfl) (k_int h) rfl) (q_one h (s_setLc h (i := 5) true (by decide +kernel) (by intro env hs; cases env; cases hs; rfl) (own := [("k", 10)]) (is := [10]) (i_rng1 h fr (by decide +kernel) (by decide +kernel) (k_bop h .sub (k_lenO h fr L_len (by decide) (by decide +kernel) (by decide +kernel) (r_var h (i := 7) (by decide +kernel)) rfl) (k_int h)) rfl) (by decide +kernel) (fun _ h => (g_nm h (i := 10) (by decide +kernel))) (fun _ h => (ts_none h)) (fun _ h => (k_bop h .add (k_idx h (r_var h (i := 7) (by decide +kernel)) (r_var h (i := 10) (by decide +kernel)) (fun _ _ => rfl)) (k_idx h (r_var h (i := 7) (by decide +kernel)) (k_bop h .add (r_var h (i := 10) (by decide +kernel)) (k_int h)) (fun _ _ => rfl)))) (fun _ => rfl) (by decide))) (q_nil h))
  (q_cons h (s_for h (i_rng1 h fr (by decide +kernel) (by decide +kernel) (k_call h d__law_dip (by decide) (by decide +kernel) (v_cons h true (r_var h (i := 0) (by decide +kernel)) (v_cons h false (k_bop h .sub (k_bop h .add (r_var h (i := 2) (by decide +kernel)) (k_int h)) (k_lenO h fr L_len (by decide) (by decide +kernel) (by decide +kernel) (r_var h (i := 5) (by decide +kernel)) rfl)) (v_nil h) rfl) rfl) rfl rfl rfl) rfl) (g_nm h (i := 6) (by decide +kernel)) (q_cons h (s_par2 h (i := 8) (j := 9) false false (by decide +kernel) (by decide +kernel) rfl (k_call h d__law_any (by decide) (by decide +kernel) (v_cons h true (r_var h (i := 0) (by decide +kernel)) (v_cons h false (r_var h (i := 7) (by decide +kernel)) (v_nil h) rfl) rfl) rfl rfl rfl) (k_call h d__law_any (by decide) (by decide +kernel) (v_cons h true (r_var h (i := 0) (by decide +kernel)) (v_cons h false (r_var h (i := 7) (by decide +kernel)) (v_nil h) rfl) rfl) rfl rfl rfl) rfl rfl (by intro env hs; cases env; cases hs; rfl) rfl)
  (q_cons h (s_if h (w_and h (t_cmp h .eq (r_var h (i := 8) (by decide +kernel)) (r_var h (i := 9) (by decide +kernel)) rfl) (w_and1 h (t_cmp h .gt (k_call h d__law_dip (by decide) (by decide +kernel) (v_cons h true (r_var h (i := 0) (by decide +kernel)) (v_cons h false (k_int h) (v_nil h) rfl) rfl) rfl rfl rfl) (k_int h) rfl))).pt (q_one h (s_set h (i := 9) false (by decide +kernel) (k_call h d__law_any (by decide) (by decide +kernel) (v_cons h true (r_var h (i := 0) (by decide +kernel)) (v_cons h false (r_var h (i := 7) (by decide +kernel)) (v_nil h) rfl) rfl) rfl rfl rfl) (fun _ _ => rfl))) (q_nil h))
  (q_one h (s_exp h (m_ins h (fun _ => rfl) rfl rfl rfl rfl (r_var h (i := 5) (by decide +kernel)) (k_call h d__law_dip (by decide) (by decide +kernel) (v_cons h true (r_var h (i := 0) (by decide +kernel)) (v_cons h false (k_bop h .add (k_lenO h fr L_len (by decide) (by decide +kernel) (by decide +kernel) (r_var h (i := 5) (by decide +kernel)) rfl) (k_int h)) (v_nil h) rfl) rfl) rfl rfl rfl) (k_bop h .add (k_biB h (bi := .min) fr rfl (by decide +kernel) (by decide +kernel) (by decide +kernel) (v_cons h false (r_var h (i := 8) (by decide +kernel)) (v_cons h false (r_var h (i := 9) (by decide +kernel)) (v_nil h) rfl) rfl) (by decide +kernel) rfl rfl) (k_biB h (bi := .max) fr rfl (by decide +kernel) (by decide +kernel) (by decide +kernel) (v_cons h false (r_var h (i := 8) (by decide +kernel)) (v_cons h false (r_var h (i := 9) (by decide +kernel)) (v_nil h) rfl) rfl) (by decide +kernel) rfl rfl))) rfl)))) (fun _ => rfl))
  (q_one h (s_ret h (k_tup h (a_cons h (r_var h (i := 7) (by decide +kernel)) (a_cons h (k_biT h (bi := .tuple) fr rfl (by decide +kernel) (by decide +kernel) (by decide +kernel) (v_cons h false (r_var h (i := 5) (by decide +kernel)) (v_nil h) rfl) (by decide +kernel) rfl rfl) (a_nil h) rfl) rfl)))))))))
theorem s__law_parts : FnScope N__law_parts ["pot", "most", "many"] (defScope (top 48)) := ⟨rfl, rfl, rfl, by decide +kernel, rfl, by decide +kernel, by decide +kernel⟩
/-! _law_rank -/
def N__law_rank : List Str := ["places", "ties", "place", "heads", "tie", "low", "high"]
def b__law_rank : StF := (sSeq (sAsg true (fDictP (fLc (iSeq (fVar 0)) (gNm 2) none (fTup [(fVar 2), (fVar 2)]) [2])) (gNm 3))
  (sSeq (sFor (iSeq (fVar 1)) (gNm 4) (sSeq (sPar false false (fBi .min [(fDGet (fVar 3) (fIdx (fVar 4) (fCst (.int (0))))), (fDGet (fVar 3) (fIdx (fVar 4) (fCst (.int (1)))))]) (fBi .max [(fDGet (fVar 3) (fIdx (fVar 4) (fCst (.int (0))))), (fDGet (fVar 3) (fIdx (fVar 4) (fCst (.int (1)))))]) (gNm 5) (gNm 6))
  (sFor (iSeq (fVar 0)) (gNm 2) (sIf (fCmp .eq (fDGet (fVar 3) (fVar 2)) (fVar 6)) (sDPut2 (fVar 3) (fVar 2) (fVar 5)) sNx))))
  (sRet (fBop .sub (fLenO "Web" f_len (fVar 0)) (fLenSet (fLc (iSeq (fVar 0)) (gNm 2) none (fDGet (fVar 3) (fVar 2)) [2]))))))
def f__law_rank : FnF := fnOf 7 b__law_rank
theorem p__law_rank (h : Cok P w K mg base 2 N__law_rank (defScope (top 49)) (fun _ => true) X) (fr : Fre mg frees) (L_len : LOk P w K mg base CL 1 "Web" f_len) : PSs X (defBody (top 49)) (tS K CL b__law_rank) :=
  (q_cons h (s_set h (i := 3) true (by decide +kernel) (k_dictP h fr (by decide +kernel) (by decide +kernel) (k_lc h (own := [("place", 2)]) (is := [2]) (i_seq h (r_var h (i := 0) (by decide +kernel))) (by decide +kernel) (fun _ h => (g_nm h (i := 2) (by decide +kernel))) (fun _ h => (ts_none h)) (fun _ h => (k_tup h (a_cons h (r_var h (i := 2) (by decide +kernel)) (a_cons h (r_var h (i := 2) (by decide +kernel)) (a_nil h) rfl) rfl))) (fun _ => rfl) (by decide)) rfl) (fun _ _ => rfl))
  (q_cons h (s_for h (i_seq h (r_var h (i := 1) (by decide +kernel))) (g_nm h (i := 4) (by decide +kernel)) (q_cons h (s_par2 h (i := 5) (j := 6) false false (by decide +kernel) (by decide +kernel) rfl (k_biB h (bi := .min) fr rfl (by decide +kernel) (by decide +kernel) (by decide +kernel) (v_cons h false (k_dget h (r_var h (i := 3) (by decide +kernel)) (k_idx h (r_var h (i := 4) (by decide +kernel)) (k_int h) (fun _ _ => rfl)) (fun _ _ => rfl)) (v_cons h false (k_dget h (r_var h (i := 3) (by decide +kernel)) (k_idx h (r_var h (i := 4) (by decide +kernel)) (k_int h) (fun _ _ => rfl)) (fun _ _ => rfl)) (v_nil h) rfl) rfl) (by decide +kernel) rfl rfl) (k_biB h (bi := .max) fr rfl (by decide +kernel) (by decide +kernel) (by decide +kernel) (v_cons h false (k_dget h (r_var h (i := 3) (by decide +kernel)) (k_idx h (r_var h (i := 4) (by decide +kernel)) (k_int h) (fun _ _ => rfl)) (fun _ _ => rfl)) (v_cons h false (k_dget h (r_var h (i := 3) (by decide +kernel)) (k_idx h (r_var h (i := 4) (by decide +kernel)) (k_int h) (fun _ _ => rfl)) (fun _ _ => rfl)) (v_nil h) rfl) rfl) (by decide +kernel) rfl rfl) rfl rfl (by intro env hs; cases env; cases hs; rfl) rfl)
  (q_one h (s_for h (i_seq h (r_var h (i := 0) (by decide +kernel))) (g_nm h (i := 2) (by decide +kernel)) (q_one h (s_if h (t_cmp h .eq (k_dget h (r_var h (i := 3) (by decide +kernel)) (r_var h (i := 2) (by decide +kernel)) (fun _ _ => rfl)) (r_var h (i := 6) (by decide +kernel)) rfl) (q_one h (s_dput h (r_var h (i := 3) (by decide +kernel)) (r_var h (i := 2) (by decide +kernel)) (r_var h (i := 5) (by decide +kernel)) rfl)) (q_nil h))) (fun _ => rfl)))) (fun _ => rfl))
  (q_one h (s_ret h (k_bop h .sub (k_lenO h fr L_len (by decide) (by decide +kernel) (by decide +kernel) (r_var h (i := 0) (by decide +kernel)) rfl) (k_lenS h fr (by decide +kernel) (by decide +kernel) (by decide +kernel) (by decide +kernel) (k_lc h (own := [("place", 2)]) (is := [2]) (i_seq h (r_var h (i := 0) (by decide +kernel))) (by decide +kernel) (fun _ h => (g_nm h (i := 2) (by decide +kernel))) (fun _ h => (ts_none h)) (fun _ h => (k_dget h (r_var h (i := 3) (by decide +kernel)) (r_var h (i := 2) (by decide +kernel)) (fun _ _ => rfl))) (fun _ => rfl) (by decide)) rfl rfl))))))
theorem s__law_rank : FnScope N__law_rank ["places", "ties"] (defScope (top 49)) := ⟨rfl, rfl, rfl, by decide +kernel, rfl, by decide +kernel, by decide +kernel⟩
/-! _law_lots -/
def N__law_lots : List Str := ["many", "found", "index", "lot"]
def b__law_lots : StF := (sSeq (sAsg false (fLst [(fTup [])]) (gNm 1))
  (sSeq (sFor (iRng1 (fVar 0)) (gNm 2) (sAsg false (fBop .add (fVar 1) (fLc (iSeq (fVar 1)) (gNm 3) none (fBop .add (fVar 3) (fTup [(fVar 2)])) [3])) (gNm 1)))
  (sRet (fSortT (fVar 1)))))
def f__law_lots : FnF := fnOf 4 b__law_lots
theorem p__law_lots (h : Cok P w K mg base 0 N__law_lots (defScope (top 50)) (fun _ => true) X) (fr : Fre mg frees) : PSs X (defBody (top 50)) (tS K CL b__law_lots) :=
  (q_cons h (s_set h (i := 1) false (by decide +kernel) (k_lst h (a_cons h (k_tup h (a_nil h)) (a_nil h) rfl)) (fun _ _ => rfl))
  (q_cons h (s_for h (i_rng1 h fr (by decide +kernel) (by decide +kernel) (r_var h (i := 0) (by decide +kernel)) rfl) (g_nm h (i := 2) (by decide +kernel)) (q_one h (s_set h (i := 1) false (by decide +kernel) (k_bop h .add (r_var h (i := 1) (by decide +kernel)) (k_lc h (own := [("lot", 3)]) (is := [3]) (i_seq h (r_var h (i := 1) (by decide +kernel))) (by decide +kernel) (fun _ h => (g_nm h (i := 3) (by decide +kernel))) (fun _ h => (ts_none h)) (fun _ h => (k_bop h .add (r_var h (i := 3) (by decide +kernel)) (k_tup h (a_cons h (r_var h (i := 2) (by decide +kernel)) (a_nil h) rfl)))) (fun _ => rfl) (by decide))) (fun _ _ => rfl))) (fun _ => rfl))
  (q_one h (s_ret h (k_sortT h fr (by decide +kernel) (by decide +kernel) (r_var h (i := 1) (by decide +kernel)) rfl)))))
theorem s__law_lots : FnScope N__law_lots ["many"] (defScope (top 50)) := ⟨rfl, rfl, rfl, by decide +kernel, rfl, by decide +kernel, by decide +kernel⟩
/-! _law_trees -/
def N__law_trees : List Str := ["places", "ties", "top", "found", "lot", "k"]
def b__law_trees : StF := (sSeq (sPar false true (fCall f__law_rank [(false, (fVar 0)), (false, (fVar 1))]) (fLst []) (gNm 2) (gNm 3))
  (sSeq (sFor (iSeq (fCall f__law_lots [(false, (fLenO "Web" f_len (fVar 1)))])) (gNm 4) (sIf (fAnd (fCmp .eq (fLenO "Web" f_len (fVar 4)) (fVar 2)) (fCmp .eq (fCall f__law_rank [(false, (fVar 0)), (false, (fLc (iSeq (fVar 4)) (gNm 5) none (fIdx (fVar 1) (fVar 5)) [5]))]) (fVar 2))) (sExp (fAppend (fVar 3) (fVar 4))) sNx))
  (sRet (fVar 3))))
def f__law_trees : FnF := fnOf 6 b__law_trees
theorem p__law_trees (h : Cok P w K mg base 3 N__law_trees (defScope (top 51)) (fun _ => true) X) (d__law_rank : FOk P w K mg base CL 3 "_law_rank" 2 f__law_rank) (fr : Fre mg frees) (L_len : LOk P w K mg base CL 1 "Web" f_len) (d__law_lots : FOk P w K mg base CL 1 "_law_lots" 1 f__law_lots) : PSs X (defBody (top 51)) (tS K CL b__law_trees) :=
  (q_cons h (s_par2 h (i := 2) (j := 3) false true (by decide +kernel) (by decide +kernel) rfl (k_call h d__law_rank (by decide) (by decide +kernel) (v_cons h false (r_var h (i := 0) (by decide +kernel)) (v_cons h false (r_var h (i := 1) (by decide +kernel)) (v_nil h) rfl) rfl) rfl rfl rfl) (k_lst h (a_nil h)) rfl rfl (by intro env hs; cases env; cases hs; rfl) rfl)
  (q_cons h (s_for h (i_seq h (k_call h d__law_lots (by decide) (by decide +kernel) (v_cons h false (k_lenO h fr L_len (by decide) (by decide +kernel) (by decide +kernel) (r_var h (i := 1) (by decide +kernel)) rfl) (v_nil h) rfl) rfl rfl rfl)) (g_nm h (i := 4) (by decide +kernel)) (q_one h (s_if h (w_and h (t_cmp h .eq (k_lenO h fr L_len (by decide) (by decide +kernel) (by decide +kernel) (r_var h (i := 4) (by decide +kernel)) rfl) (r_var h (i := 2) (by decide +kernel)) rfl) (w_and1 h (t_cmp h .eq (k_call h d__law_rank (by decide) (by decide +kernel) (v_cons h false (r_var h (i := 0) (by decide +kernel)) (v_cons h false (k_lc h (own := [("k", 5)]) (is := [5]) (i_seq h (r_var h (i := 4) (by decide +kernel))) (by decide +kernel) (fun _ h => (g_nm h (i := 5) (by decide +kernel))) (fun _ h => (ts_none h)) (fun _ h => (k_idx h (r_var h (i := 1) (by decide +kernel)) (r_var h (i := 5) (by decide +kernel)) (fun _ _ => rfl))) (fun _ => rfl) (by decide)) (v_nil h) rfl) rfl) rfl rfl rfl) (r_var h (i := 2) (by decide +kernel)) rfl))).pt (q_one h (s_exp h (m_append h (fun _ => rfl) rfl rfl rfl (r_var h (i := 3) (by decide +kernel)) (r_var h (i := 4) (by decide +kernel))) rfl)) (q_nil h))) (fun _ => rfl))
  (q_one h (s_ret h (r_var h (i := 3) (by decide +kernel))))))
theorem s__law_trees : FnScope N__law_trees ["places", "ties"] (defScope (top 51)) := ⟨rfl, rfl, rfl, by decide +kernel, rfl, by decide +kernel, by decide +kernel⟩
/-! _law_with -/
def N__law_with : List Str := ["trees", "told_in", "told_out", "found", "tree", "k"]
def b__law_with : StF := (sSeq (sAsg false (fCst (.int (0))) (gNm 3))
  (sSeq (sFor (iSeq (fVar 0)) (gNm 4) (sIf (fAnd (fBi .all [(fLc (iSeq (fVar 1)) (gNm 5) none (fCmp .inn (fVar 5) (fVar 4)) [5])]) (fNot (fBi .any [(fLc (iSeq (fVar 2)) (gNm 5) none (fCmp .inn (fVar 5) (fVar 4)) [5])]))) (sAsg false (fBop .add (fVar 3) (fCst (.int (1)))) (gNm 3)) sNx))
  (sRet (fVar 3))))
def f__law_with : FnF := fnOf 6 b__law_with
theorem p__law_with (h : Cok P w K mg base 0 N__law_with (defScope (top 52)) (fun _ => true) X) (fr : Fre mg frees) : PSs X (defBody (top 52)) (tS K CL b__law_with) :=
  (q_cons h (s_set h (i := 3) false (by decide +kernel) (k_int h) (fun _ _ => rfl))
  (q_cons h (s_for h (i_seq h (r_var h (i := 0) (by decide +kernel))) (g_nm h (i := 4) (by decide +kernel)) (q_one h (s_if h (w_and h (t_val h (k_biB h (bi := .all) fr rfl (by decide +kernel) (by decide +kernel) (by decide +kernel) (v_cons h false (k_lc h (own := [("k", 5)]) (is := [5]) (i_seq h (r_var h (i := 1) (by decide +kernel))) (by decide +kernel) (fun _ h => (g_nm h (i := 5) (by decide +kernel))) (fun _ h => (ts_none h)) (fun _ h => (k_cmp h .inn (r_var h (i := 5) (by decide +kernel)) (r_var h (i := 4) (by decide +kernel)) rfl)) (fun _ => rfl) (by decide)) (v_nil h) rfl) (by decide +kernel) rfl rfl) (fun _ => rfl)) (w_and1 h (t_not h (t_val h (k_biB h (bi := .any) fr rfl (by decide +kernel) (by decide +kernel) (by decide +kernel) (v_cons h false (k_lc h (own := [("k", 5)]) (is := [5]) (i_seq h (r_var h (i := 2) (by decide +kernel))) (by decide +kernel) (fun _ h => (g_nm h (i := 5) (by decide +kernel))) (fun _ h => (ts_none h)) (fun _ h => (k_cmp h .inn (r_var h (i := 5) (by decide +kernel)) (r_var h (i := 4) (by decide +kernel)) rfl)) (fun _ => rfl) (by decide)) (v_nil h) rfl) (by decide +kernel) rfl rfl) (fun _ => rfl))))).pt (q_one h (s_set h (i := 3) false (by decide +kernel) (k_bop h .add (r_var h (i := 3) (by decide +kernel)) (k_int h)) (fun _ _ => rfl))) (q_nil h))) (fun _ => rfl))
  (q_one h (s_ret h (r_var h (i := 3) (by decide +kernel))))))
theorem s__law_with : FnScope N__law_with ["trees", "told_in", "told_out"] (defScope (top 52)) := ⟨rfl, rfl, rfl, by decide +kernel, rfl, by decide +kernel, by decide +kernel⟩
/-! _law_lot -/
def N__law_lot : List Str := ["pot", "many", "wide", "k"]
def b__law_lot : StF := (sSeq (sAsg false (fBop .add (fCst (.int (2))) (fCall f__law_dip [(true, (fVar 0)), (false, (fCst (.int (3))))])) (gNm 2))
  (sRet (fBi .tuple [(fLc (iRng1 (fVar 1)) (gNm 3) (some (fCmp .eq (fCall f__law_dip [(true, (fVar 0)), (false, (fVar 2))]) (fCst (.int (0))))) (fVar 3) [3])])))
def f__law_lot : FnF := fnOf 4 b__law_lot
theorem p__law_lot (h : Cok P w K mg base 1 N__law_lot (defScope (top 53)) (fun _ => true) X) (d__law_dip : FOk P w K mg base CL 1 "_law_dip" 2 f__law_dip) (fr : Fre mg frees) : PSs X (defBody (top 53)) (tS K CL b__law_lot) :=
  (q_cons h (s_set h (i := 2) false (by decide +kernel) (k_bop h .add (k_int h) (k_call h d__law_dip (by decide) (by decide +kernel) (v_cons h true (r_var h (i := 0) (by decide +kernel)) (v_cons h false (k_int h) (v_nil h) rfl) rfl) rfl rfl rfl)) (fun _ _ => rfl))
  (q_one h (s_ret h (k_biT h (bi := .tuple) fr rfl (by decide +kernel) (by decide +kernel) (by decide +kernel) (v_cons h false (k_lc h (own := [("k", 3)]) (is := [3]) (i_rng1 h fr (by decide +kernel) (by decide +kernel) (r_var h (i := 1) (by decide +kernel)) rfl) (by decide +kernel) (fun _ h => (g_nm h (i := 3) (by decide +kernel))) (fun _ h => (ts_one h (t_cmp h .eq (k_call h d__law_dip (by decide) (by decide +kernel) (v_cons h true (r_var h (i := 0) (by decide +kernel)) (v_cons h false (r_var h (i := 2) (by decide +kernel)) (v_nil h) rfl) rfl) rfl rfl rfl) (k_int h) rfl))) (fun _ h => (r_var h (i := 3) (by decide +kernel))) (fun _ => rfl) (by decide)) (v_nil h) rfl) (by decide +kernel) rfl rfl))))
theorem s__law_lot : FnScope N__law_lot ["pot", "many"] (defScope (top 53)) := ⟨rfl, rfl, rfl, by decide +kernel, rfl, by decide +kernel, by decide +kernel⟩
/-! _law_right -/
def N__law_right : List Str := ["pot", "places", "ties", "mine", "trees", "turn", "told_in", "told_out", "due", "k"]
def b__law_right : StF := (sSeq (sAsg false (fCall f__law_parts [(true, (fVar 0)), (false, (fCst (.int (4)))), (false, (fCst (.int (6))))]) (gTp [(gNm 1), (gNm 2)]))
  (sSeq (sPar false false (fCall (mkF "Web" f_init) [(false, (fVar 1)), (false, (fVar 2))]) (fCall f__law_trees [(false, (fVar 1)), (false, (fVar 2))]) (gNm 3) (gNm 4))
  (sSeq (sIf (fOr (fCmp .ne (fRepr (fCall f_all_trees [(false, (fVar 3))])) (fRepr (fBi .tuple [(fVar 4)]))) (fCmp .ne (fRepr (fCallK f_count_trees [0] [(false, (fVar 3))])) (fRepr (fLenO "Web" f_len (fVar 4))))) (sRet (fCst (.bl false))) sNx)
  (sSeq (sFor (iRng1 (fCst (.int (3)))) (gNm 5) (sSeq (sPar false false (fCall f__law_lot [(true, (fVar 0)), (false, (fLenO "Web" f_len (fVar 2)))]) (fCall f__law_lot [(true, (fVar 0)), (false, (fLenO "Web" f_len (fVar 2)))]) (gNm 6) (gNm 7))
  (sSeq (sAsg false (fCall f__law_with [(false, (fVar 4)), (false, (fVar 6)), (false, (fVar 7))]) (gNm 8))
  (sSeq (sIf (fCmp .ne (fRepr (fCall f_trees_with [(false, (fVar 3)), (false, (fVar 6)), (false, (fVar 7))])) (fRepr (fVar 8))) (sRet (fCst (.bl false))) sNx)
  (sIf (fCmp .ne (fCallK f_trees_with [1, 2, 0] [(false, (fVar 7)), (false, (fVar 3)), (false, (fVar 6))]) (fVar 8)) (sRet (fCst (.bl false))) sNx)))))
  (sSeq (sFor (iRng1 (fLenO "Web" f_len (fVar 2))) (gNm 9) (sIf (fOr (fCmp .ne (fBop .add (fCall f_trees_with [(false, (fVar 3)), (false, (fTup [(fVar 9)])), (false, (fTup []))]) (fCall f_trees_with [(false, (fVar 3)), (false, (fTup [])), (false, (fTup [(fVar 9)]))])) (fLenO "Web" f_len (fVar 4))) (fCmp .ne (fCall f_trees_with [(false, (fVar 3)), (false, (fTup [(fVar 9)])), (false, (fTup [(fVar 9)]))]) (fCst (.int (0))))) (sRet (fCst (.bl false))) sNx))
  (sRet (fCmp .eq (fRepr (fLst [(fCallK f_all_trees [0] [(false, (fVar 3))]), (fCall f_count_trees [(false, (fVar 3))]), (fFldC "Web" (fVar 3) "ties")])) (fRepr (fLst [(fBi .tuple [(fVar 4)]), (fLenO "Web" f_len (fVar 4)), (fVar 2)])))))))))
def f__law_right : FnF := fnOf 10 b__law_right
theorem p__law_right (h : Cok P w K mg base 8 N__law_right (defScope (top 54)) (fun _ => true) X) (hg : X.A.guards = some []) (d__law_parts : FOk P w K mg base CL 4 "_law_parts" 3 f__law_parts) (M_Web : MOk P w K mg base CL 5 "Web" "Web" 2 f_init) (d__law_trees : FOk P w K mg base CL 4 "_law_trees" 2 f__law_trees) (d_all_trees : FOk P w K mg base CL 7 "all_trees" 1 f_all_trees) (fr : Fre mg frees) (d_count_trees_0 : FOkK P w K mg base CL 8 "count_trees" 1 f_count_trees ["web"] [0]) (L_len : LOk P w K mg base CL 1 "Web" f_len) (d__law_lot : FOk P w K mg base CL 2 "_law_lot" 2 f__law_lot) (d__law_with : FOk P w K mg base CL 1 "_law_with" 3 f__law_with) (d_trees_with : FOk P w K mg base CL 7 "trees_with" 3 f_trees_with) (d_trees_with_1_2_0 : FOkK P w K mg base CL 7 "trees_with" 3 f_trees_with ["outside", "web", "inside"] [1, 2, 0]) (d_all_trees_0 : FOkK P w K mg base CL 7 "all_trees" 1 f_all_trees ["web"] [0]) (d_count_trees : FOk P w K mg base CL 8 "count_trees" 1 f_count_trees) (C_Web : COk K mg CL "Web" fields) : PSs X (defBody (top 54)) (tS K CL b__law_right) :=
  (q_cons h (s_asg h false (k_call h d__law_parts (by decide) (by decide +kernel) (v_cons h true (r_var h (i := 0) (by decide +kernel)) (v_cons h false (k_int h) (v_cons h false (k_int h) (v_nil h) rfl) rfl) rfl) rfl rfl rfl) (g_tp h (gs_cons h (g_nm h (i := 1) (by decide +kernel)) (gs_cons h (g_nm h (i := 2) (by decide +kernel)) (gs_nil h) rfl) rfl) rfl rfl) rfl rfl rfl)
  (q_cons h (s_par2 h (i := 3) (j := 4) false false (by decide +kernel) (by decide +kernel) rfl (k_make h M_Web (by decide) (by decide +kernel) (v_cons h false (r_var h (i := 1) (by decide +kernel)) (v_cons h false (r_var h (i := 2) (by decide +kernel)) (v_nil h) rfl) rfl) rfl rfl rfl) (k_call h d__law_trees (by decide) (by decide +kernel) (v_cons h false (r_var h (i := 1) (by decide +kernel)) (v_cons h false (r_var h (i := 2) (by decide +kernel)) (v_nil h) rfl) rfl) rfl rfl rfl) rfl rfl (by intro env hs; cases env; cases hs; rfl) rfl)
  (q_cons h (s_if h (w_or h (t_cmp h .ne (k_repr h hg fr (by decide +kernel) (by decide +kernel) (k_call h d_all_trees (by decide) (by decide +kernel) (v_cons h false (r_var h (i := 3) (by decide +kernel)) (v_nil h) rfl) rfl rfl rfl) rfl) (k_repr h hg fr (by decide +kernel) (by decide +kernel) (k_biT h (bi := .tuple) fr rfl (by decide +kernel) (by decide +kernel) (by decide +kernel) (v_cons h false (r_var h (i := 4) (by decide +kernel)) (v_nil h) rfl) (by decide +kernel) rfl rfl) rfl) rfl) (w_or1 h (t_cmp h .ne (k_repr h hg fr (by decide +kernel) (by decide +kernel) (k_callK h d_count_trees_0 (by decide) (by decide +kernel) (kw_cons h false (r_var h (i := 3) (by decide +kernel)) (kw_nil h)) rfl rfl rfl rfl rfl) rfl) (k_repr h hg fr (by decide +kernel) (by decide +kernel) (k_lenO h fr L_len (by decide) (by decide +kernel) (by decide +kernel) (r_var h (i := 4) (by decide +kernel)) rfl) rfl) rfl))).pt (q_one h (s_ret h (k_bl h))) (q_nil h))
  (q_cons h (s_for h (i_rng1 h fr (by decide +kernel) (by decide +kernel) (k_int h) rfl) (g_nm h (i := 5) (by decide +kernel)) (q_cons h (s_par2 h (i := 6) (j := 7) false false (by decide +kernel) (by decide +kernel) rfl (k_call h d__law_lot (by decide) (by decide +kernel) (v_cons h true (r_var h (i := 0) (by decide +kernel)) (v_cons h false (k_lenO h fr L_len (by decide) (by decide +kernel) (by decide +kernel) (r_var h (i := 2) (by decide +kernel)) rfl) (v_nil h) rfl) rfl) rfl rfl rfl) (k_call h d__law_lot (by decide) (by decide +kernel) (v_cons h true (r_var h (i := 0) (by decide +kernel)) (v_cons h false (k_lenO h fr L_len (by decide) (by decide +kernel) (by decide +kernel) (r_var h (i := 2) (by decide +kernel)) rfl) (v_nil h) rfl) rfl) rfl rfl rfl) rfl rfl (by intro env hs; cases env; cases hs; rfl) rfl)
  (q_cons h (s_set h (i := 8) false (by decide +kernel) (k_call h d__law_with (by decide) (by decide +kernel) (v_cons h false (r_var h (i := 4) (by decide +kernel)) (v_cons h false (r_var h (i := 6) (by decide +kernel)) (v_cons h false (r_var h (i := 7) (by decide +kernel)) (v_nil h) rfl) rfl) rfl) rfl rfl rfl) (fun _ _ => rfl))
  (q_cons h (s_if h (t_cmp h .ne (k_repr h hg fr (by decide +kernel) (by decide +kernel) (k_call h d_trees_with (by decide) (by decide +kernel) (v_cons h false (r_var h (i := 3) (by decide +kernel)) (v_cons h false (r_var h (i := 6) (by decide +kernel)) (v_cons h false (r_var h (i := 7) (by decide +kernel)) (v_nil h) rfl) rfl) rfl) rfl rfl rfl) rfl) (k_repr h hg fr (by decide +kernel) (by decide +kernel) (r_var h (i := 8) (by decide +kernel)) rfl) rfl) (q_one h (s_ret h (k_bl h))) (q_nil h))
  (q_one h (s_if h (t_cmp h .ne (k_callK h d_trees_with_1_2_0 (by decide) (by decide +kernel) (kw_cons h false (r_var h (i := 7) (by decide +kernel)) (kw_cons h false (r_var h (i := 3) (by decide +kernel)) (kw_cons h false (r_var h (i := 6) (by decide +kernel)) (kw_nil h)))) rfl rfl rfl rfl rfl) (r_var h (i := 8) (by decide +kernel)) rfl) (q_one h (s_ret h (k_bl h))) (q_nil h)))))) (fun _ => rfl))
  (q_cons h (s_for h (i_rng1 h fr (by decide +kernel) (by decide +kernel) (k_lenO h fr L_len (by decide) (by decide +kernel) (by decide +kernel) (r_var h (i := 2) (by decide +kernel)) rfl) rfl) (g_nm h (i := 9) (by decide +kernel)) (q_one h (s_if h (w_or h (t_cmp h .ne (k_bop h .add (k_call h d_trees_with (by decide) (by decide +kernel) (v_cons h false (r_var h (i := 3) (by decide +kernel)) (v_cons h false (k_tup h (a_cons h (r_var h (i := 9) (by decide +kernel)) (a_nil h) rfl)) (v_cons h false (k_tup h (a_nil h)) (v_nil h) rfl) rfl) rfl) rfl rfl rfl) (k_call h d_trees_with (by decide) (by decide +kernel) (v_cons h false (r_var h (i := 3) (by decide +kernel)) (v_cons h false (k_tup h (a_nil h)) (v_cons h false (k_tup h (a_cons h (r_var h (i := 9) (by decide +kernel)) (a_nil h) rfl)) (v_nil h) rfl) rfl) rfl) rfl rfl rfl)) (k_lenO h fr L_len (by decide) (by decide +kernel) (by decide +kernel) (r_var h (i := 4) (by decide +kernel)) rfl) rfl) (w_or1 h (t_cmp h .ne (k_call h d_trees_with (by decide) (by decide +kernel) (v_cons h false (r_var h (i := 3) (by decide +kernel)) (v_cons h false (k_tup h (a_cons h (r_var h (i := 9) (by decide +kernel)) (a_nil h) rfl)) (v_cons h false (k_tup h (a_cons h (r_var h (i := 9) (by decide +kernel)) (a_nil h) rfl)) (v_nil h) rfl) rfl) rfl) rfl rfl rfl) (k_int h) rfl))).pt (q_one h (s_ret h (k_bl h))) (q_nil h))) (fun _ => rfl))
  (q_one h (s_ret h (k_cmp h .eq (k_repr h hg fr (by decide +kernel) (by decide +kernel) (k_lst h (a_cons h (k_callK h d_all_trees_0 (by decide) (by decide +kernel) (kw_cons h false (r_var h (i := 3) (by decide +kernel)) (kw_nil h)) rfl rfl rfl rfl rfl) (a_cons h (k_call h d_count_trees (by decide) (by decide +kernel) (v_cons h false (r_var h (i := 3) (by decide +kernel)) (v_nil h) rfl) rfl rfl rfl) (a_cons h (k_fld h C_Web (by decide +kernel) (r_var h (i := 3) (by decide +kernel)) rfl) (a_nil h) rfl) rfl) rfl)) rfl) (k_repr h hg fr (by decide +kernel) (by decide +kernel) (k_lst h (a_cons h (k_biT h (bi := .tuple) fr rfl (by decide +kernel) (by decide +kernel) (by decide +kernel) (v_cons h false (r_var h (i := 4) (by decide +kernel)) (v_nil h) rfl) (by decide +kernel) rfl rfl) (a_cons h (k_lenO h fr L_len (by decide) (by decide +kernel) (by decide +kernel) (r_var h (i := 4) (by decide +kernel)) rfl) (a_cons h (r_var h (i := 2) (by decide +kernel)) (a_nil h) rfl) rfl) rfl)) rfl) rfl))))))))
theorem s__law_right : FnScope N__law_right ["pot"] (defScope (top 54)) := ⟨rfl, rfl, rfl, by decide +kernel, rfl, by decide +kernel, by decide +kernel⟩
/-! law -/
def N_law : List Str := ["script", "k"]
def b_law : StF := (sRet (fBi .all [(fLc (iRng1 (fBi .max [(fCst (.int (2))), (fBi .min [(fLenO "Web" f_len (fVar 0)), (fCst (.int (3)))])])) (gNm 1) none (fScp (fCall f__law_right [(true, (fCall f__law_pot [(false, (fVar 0)), (false, (fVar 1))]))])) [1])]))
def f_law : FnF := fnOf 2 b_law
theorem p_law (h : Cok P w K mg base 9 N_law (defScope (top 55)) (fun _ => true) X) (hg : X.A.guards = some []) (fr : Fre mg frees) (L_len : LOk P w K mg base CL 1 "Web" f_len) (d__law_pot : FOk P w K mg base CL 3 "_law_pot" 2 f__law_pot) (d__law_right : FOkG P w K mg base CL 9 "_law_right" 1 f__law_right) : PSs X (defBody (top 55)) (tS K CL b_law) :=
  (q_one h (s_ret h (k_biB h (bi := .all) fr rfl (by decide +kernel) (by decide +kernel) (by decide +kernel) (v_cons h false (k_lcG h hg (own := [("k", 1)]) (is := [1]) (i_rng1 h fr (by decide +kernel) (by decide +kernel) (k_biB h (bi := .max) fr rfl (by decide +kernel) (by decide +kernel) (by decide +kernel) (v_cons h false (k_int h) (v_cons h false (k_biB h (bi := .min) fr rfl (by decide +kernel) (by decide +kernel) (by decide +kernel) (v_cons h false (k_lenO h fr L_len (by decide) (by decide +kernel) (by decide +kernel) (r_var h (i := 0) (by decide +kernel)) rfl) (v_cons h false (k_int h) (v_nil h) rfl) rfl) (by decide +kernel) rfl rfl) (v_nil h) rfl) rfl) (by decide +kernel) rfl rfl) rfl) (by decide +kernel) (fun _ h hg => (g_nm h (i := 1) (by decide +kernel))) (fun _ h hg => (ts_none h)) (fun _ h hg => (k_scp (k_callG h hg d__law_right (by decide) (by decide +kernel) (v_cons h true (k_call h d__law_pot (by decide) (by decide +kernel) (v_cons h false (r_var h (i := 0) (by decide +kernel)) (v_cons h false (r_var h (i := 1) (by decide +kernel)) (v_nil h) rfl) rfl) rfl rfl rfl) (v_nil h) rfl) rfl rfl rfl))) (fun _ => rfl) (by decide)) (v_nil h) rfl) (by decide +kernel) rfl rfl)))
theorem s_law : FnScope N_law ["script"] (defScope (top 55)) := ⟨rfl, rfl, rfl, by decide +kernel, rfl, by decide +kernel, by decide +kernel⟩
end
end Law10
set_option Elab.async false
set_option linter.all false
set_option maxRecDepth 100000
set_option maxHeartbeats 0
/-! Printed by lawgen.py (own tool): the head, the walk of the law. -/
namespace Law10
open PySem PySem.Spec PyProof.Rows L2 Ev
def names0 : List PySem.Str := ["ShapeError", "InvalidPlaces", "InvalidTies", "InvalidText", "InvalidLot", "NotAWeb", "MOST_PLACES", "MOST_TIES", "is_integer", "is_between", "LETTERS", "are_letters", "are_places", "is_tie", "wrong_tie", "Web", "check_web", "herds_of", "wrong_in", "check_lot", "every_tie", "ties_of", "pieces_of", "rank_of", "spare_of", "is_free_lot", "rest_of", "every_lot", "every_tree", "laplacian"]
def names1 : List PySem.Str := ["determinant", "heads_by", "full_woods", "trees_by", "trees_counted", "count_trees", "all_trees", "trees_with", "_law_pot", "_law_dip", "_law_any", "_law_parts", "_law_rank", "_law_lots", "_law_trees", "_law_with", "_law_lot", "_law_right"]
def names : List PySem.Str := names0 ++ (names1)
def fn0 : List He.DefD := [⟨("is_integer", none), "is_integer", "is_integer", defArgs (top 10), defBody (top 10), defScope (top 10), [], []⟩, ⟨("is_between", none), "is_between", "is_between", defArgs (top 11), defBody (top 11), defScope (top 11), [], []⟩, ⟨("are_letters", none), "are_letters", "are_letters", defArgs (top 14), defBody (top 14), defScope (top 14), [], []⟩, ⟨("are_places", none), "are_places", "are_places", defArgs (top 15), defBody (top 15), defScope (top 15), [], []⟩, ⟨("is_tie", none), "is_tie", "is_tie", defArgs (top 16), defBody (top 16), defScope (top 16), [], []⟩, ⟨("wrong_tie", none), "wrong_tie", "wrong_tie", defArgs (top 17), defBody (top 17), defScope (top 17), [], []⟩, ⟨("Web", some "__init__"), "__init__", "Web.__init__", defArgs (inClass (top 18) 0), defBody (inClass (top 18) 0), defScope (inClass (top 18) 0), [], []⟩, ⟨("Web", some "__len__"), "__len__", "Web.__len__", defArgs (inClass (top 18) 2), defBody (inClass (top 18) 2), defScope (inClass (top 18) 2), [], []⟩, ⟨("Web", some "text"), "text", "Web.text", defArgs (inClass (top 18) 3), defBody (inClass (top 18) 3), defScope (inClass (top 18) 3), [], []⟩, ⟨("Web", some "__str__"), "__str__", "Web.__str__", defArgs (inClass (top 18) 4), defBody (inClass (top 18) 4), defScope (inClass (top 18) 4), [], []⟩, ⟨("Web", some "__eq__"), "__eq__", "Web.__eq__", defArgs (inClass (top 18) 5), defBody (inClass (top 18) 5), defScope (inClass (top 18) 5), [], []⟩, ⟨("check_web", none), "check_web", "check_web", defArgs (top 19), defBody (top 19), defScope (top 19), [], []⟩, ⟨("herds_of", none), "herds_of", "herds_of", defArgs (top 20), defBody (top 20), defScope (top 20), [], []⟩, ⟨("wrong_in", none), "wrong_in", "wrong_in", defArgs (top 22), defBody (top 22), defScope (top 22), [], []⟩, ⟨("check_lot", none), "check_lot", "check_lot", defArgs (top 23), defBody (top 23), defScope (top 23), [], []⟩, ⟨("every_tie", none), "every_tie", "every_tie", defArgs (top 24), defBody (top 24), defScope (top 24), [], []⟩, ⟨("ties_of", none), "ties_of", "ties_of", defArgs (top 25), defBody (top 25), defScope (top 25), [], []⟩, ⟨("pieces_of", none), "pieces_of", "pieces_of", defArgs (top 26), defBody (top 26), defScope (top 26), [], []⟩, ⟨("rank_of", none), "rank_of", "rank_of", defArgs (top 27), defBody (top 27), defScope (top 27), [], []⟩, ⟨("spare_of", none), "spare_of", "spare_of", defArgs (top 28), defBody (top 28), defScope (top 28), [], []⟩, ⟨("is_free_lot", none), "is_free_lot", "is_free_lot", defArgs (top 29), defBody (top 29), defScope (top 29), [], []⟩, ⟨("rest_of", none), "rest_of", "rest_of", defArgs (top 30), defBody (top 30), defScope (top 30), [], []⟩, ⟨("every_lot", none), "every_lot", "every_lot", defArgs (top 31), defBody (top 31), defScope (top 31), [], []⟩, ⟨("every_tree", none), "every_tree", "every_tree", defArgs (top 32), defBody (top 32), defScope (top 32), [], []⟩, ⟨("laplacian", none), "laplacian", "laplacian", defArgs (top 34), defBody (top 34), defScope (top 34), [], []⟩, ⟨("determinant", none), "determinant", "determinant", defArgs (top 35), defBody (top 35), defScope (top 35), [], []⟩, ⟨("heads_by", none), "heads_by", "heads_by", defArgs (top 37), defBody (top 37), defScope (top 37), [], []⟩, ⟨("full_woods", none), "full_woods", "full_woods", defArgs (top 38), defBody (top 38), defScope (top 38), [], []⟩, ⟨("trees_by", none), "trees_by", "trees_by", defArgs (top 39), defBody (top 39), defScope (top 39), [], []⟩, ⟨("trees_counted", none), "trees_counted", "trees_counted", defArgs (top 40), defBody (top 40), defScope (top 40), [], []⟩]
def fn1 : List He.DefD := [⟨("count_trees", none), "count_trees", "count_trees", defArgs (top 41), defBody (top 41), defScope (top 41), [], []⟩, ⟨("all_trees", none), "all_trees", "all_trees", defArgs (top 42), defBody (top 42), defScope (top 42), [], []⟩, ⟨("trees_with", none), "trees_with", "trees_with", defArgs (top 43), defBody (top 43), defScope (top 43), [], []⟩, ⟨("_law_pot", none), "_law_pot", "_law_pot", defArgs (top 45), defBody (top 45), defScope (top 45), [], []⟩, ⟨("_law_dip", none), "_law_dip", "_law_dip", defArgs (top 46), defBody (top 46), defScope (top 46), [], []⟩, ⟨("_law_any", none), "_law_any", "_law_any", defArgs (top 47), defBody (top 47), defScope (top 47), [], []⟩, ⟨("_law_parts", none), "_law_parts", "_law_parts", defArgs (top 48), defBody (top 48), defScope (top 48), [], []⟩, ⟨("_law_rank", none), "_law_rank", "_law_rank", defArgs (top 49), defBody (top 49), defScope (top 49), [], []⟩, ⟨("_law_lots", none), "_law_lots", "_law_lots", defArgs (top 50), defBody (top 50), defScope (top 50), [], []⟩, ⟨("_law_trees", none), "_law_trees", "_law_trees", defArgs (top 51), defBody (top 51), defScope (top 51), [], []⟩, ⟨("_law_with", none), "_law_with", "_law_with", defArgs (top 52), defBody (top 52), defScope (top 52), [], []⟩, ⟨("_law_lot", none), "_law_lot", "_law_lot", defArgs (top 53), defBody (top 53), defScope (top 53), [], []⟩, ⟨("_law_right", none), "_law_right", "_law_right", defArgs (top 54), defBody (top 54), defScope (top 54), [], []⟩, ⟨("law", none), "law", "law", defArgs (top 55), defBody (top 55), defScope (top 55), [], []⟩]
def fn : List He.DefD := fn0 ++ (fn1)
def fa0 : List He.Fa := [.int "MOST_PLACES" (7), .int "MOST_TIES" (11), .glo "is_integer", .glo "is_between", .str "LETTERS" "abcdefgh", .glo "are_letters", .glo "are_places", .glo "is_tie", .glo "wrong_tie", .glo "Web", .cls "Web", .mkr "Web", .meth "Web" "__init__", .meth "Web" "__len__", .meth "Web" "text", .meth "Web" "__str__", .meth "Web" "__eq__", .noat "Web" "places", .noat "Web" "ties", .glo "check_web", .glo "herds_of", .glo "wrong_in", .glo "check_lot", .glo "every_tie", .glo "ties_of", .glo "pieces_of", .glo "rank_of", .glo "spare_of", .glo "is_free_lot", .glo "rest_of"]
def fa1 : List He.Fa := [.glo "every_lot", .glo "every_tree", .glo "laplacian", .glo "determinant", .glo "heads_by", .glo "full_woods", .glo "trees_by", .glo "trees_counted", .glo "count_trees", .glo "all_trees", .glo "trees_with", .glo "_law_pot", .glo "_law_dip", .glo "_law_any", .glo "_law_parts", .glo "_law_rank", .glo "_law_lots", .glo "_law_trees", .glo "_law_with", .glo "_law_lot", .glo "_law_right", .glo "law", .free "ValueError", .free "abs", .free "all", .free "any", .free "bool", .free "classmethod", .free "dict", .free "divmod"]
def fa2 : List He.Fa := [.free "enumerate", .free "int", .free "isinstance", .free "len", .free "list", .free "max", .free "min", .free "range", .free "repr", .free "set", .free "sorted", .free "str", .free "tuple", .free "zip"]
def fa : List He.Fa := fa0 ++ (fa1 ++ (fa2))
abbrev R : PySem.W.OpenRow := PySem.W.OpenLaw.row PySem.Challenge.rw_webcounts_k10_whole_trees_listed_and_cou
def bs : List (Ev.Frg → Bool) := [Ev.icB "Web"]
abbrev hk : PySem.W.Hook := Ev.hookX 4 fa fn bs
def ob (s : PySem.W.SharedT) : He.AlD × Bool := Ev.obsX 4 fa fn bs (HandSHeadRun.getT s)
theorem ob_eq (s : PySem.W.SharedT) : ob s = hk.obs s.abs := Ev.obsX_eq (HandSHeadRun.getT_eq s)
theorem run (w : World) : HandSHeadRun.RunEq R (PySem.W.view R.prog [55]) hk ob 6000 names w := by
  intro os
  kernel_rfl
def clss : List Str := ["Web"]
theorem facts {P : Program} {w : World} {K : Frg} {h0 : Heap} {mg : Str → Option Value} {f : Addr} (XK : K.In h0) (G : h0.Ns mainGlobals mg) (hfa : mg ("law" : Str) = some (.ref f)) (c : He.SaysD fa fn K) (hb : ∀ b ∈ bs, b K = true) :
    ∃ fd : FuncData, (∀ (s : Shared) (v : Value), BindsTo s fd ⟨[v], []⟩ [("script", v)]) ∧ ∀ base : Heap, K.In base → base.Ns mainGlobals mg → FnG P w K mg base 10 f fd ["script"] (spF K (clsOf K clss) 1 f_law) := by
  have e := hfa.symm.trans (He.glo_ok XK G (c.fact 51 (f := .glo "law") rfl))
  cases e
  obtain ⟨fdL, FL⟩ := c.def_ 43 rfl
  have b := FunD.bindsA (ps := ["script"]) FL fun _ _ _ _ _ _ us hl => match us, hl with | [_], _ => rfl
  refine ⟨fdL, fun s v => b s [v] rfl, fun base _ _ => ?_⟩
  have g_MOST_PLACES := He.int_ok XK G (c.fact 0 (f := .int "MOST_PLACES" (7)) rfl)
  have g_MOST_TIES := He.int_ok XK G (c.fact 1 (f := .int "MOST_TIES" (11)) rfl)
  have g_LETTERS := He.str_ok XK G (c.fact 4 (f := .str "LETTERS" "abcdefgh") rfl)
  have x_is_integer := He.glo_ok XK G (c.fact 2 (f := .glo "is_integer") rfl)
  have x_is_between := He.glo_ok XK G (c.fact 3 (f := .glo "is_between") rfl)
  have x_are_letters := He.glo_ok XK G (c.fact 5 (f := .glo "are_letters") rfl)
  have x_are_places := He.glo_ok XK G (c.fact 6 (f := .glo "are_places") rfl)
  have x_is_tie := He.glo_ok XK G (c.fact 7 (f := .glo "is_tie") rfl)
  have x_wrong_tie := He.glo_ok XK G (c.fact 8 (f := .glo "wrong_tie") rfl)
  have x_check_web := He.glo_ok XK G (c.fact 19 (f := .glo "check_web") rfl)
  have x_herds_of := He.glo_ok XK G (c.fact 20 (f := .glo "herds_of") rfl)
  have x_wrong_in := He.glo_ok XK G (c.fact 21 (f := .glo "wrong_in") rfl)
  have x_check_lot := He.glo_ok XK G (c.fact 22 (f := .glo "check_lot") rfl)
  have x_every_tie := He.glo_ok XK G (c.fact 23 (f := .glo "every_tie") rfl)
  have x_ties_of := He.glo_ok XK G (c.fact 24 (f := .glo "ties_of") rfl)
  have x_pieces_of := He.glo_ok XK G (c.fact 25 (f := .glo "pieces_of") rfl)
  have x_rank_of := He.glo_ok XK G (c.fact 26 (f := .glo "rank_of") rfl)
  have x_spare_of := He.glo_ok XK G (c.fact 27 (f := .glo "spare_of") rfl)
  have x_is_free_lot := He.glo_ok XK G (c.fact 28 (f := .glo "is_free_lot") rfl)
  have x_rest_of := He.glo_ok XK G (c.fact 29 (f := .glo "rest_of") rfl)
  have x_every_lot := He.glo_ok XK G (c.fact 30 (f := .glo "every_lot") rfl)
  have x_every_tree := He.glo_ok XK G (c.fact 31 (f := .glo "every_tree") rfl)
  have x_laplacian := He.glo_ok XK G (c.fact 32 (f := .glo "laplacian") rfl)
  have x_determinant := He.glo_ok XK G (c.fact 33 (f := .glo "determinant") rfl)
  have x_heads_by := He.glo_ok XK G (c.fact 34 (f := .glo "heads_by") rfl)
  have x_full_woods := He.glo_ok XK G (c.fact 35 (f := .glo "full_woods") rfl)
  have x_trees_by := He.glo_ok XK G (c.fact 36 (f := .glo "trees_by") rfl)
  have x_trees_counted := He.glo_ok XK G (c.fact 37 (f := .glo "trees_counted") rfl)
  have x_count_trees := He.glo_ok XK G (c.fact 38 (f := .glo "count_trees") rfl)
  have x_all_trees := He.glo_ok XK G (c.fact 39 (f := .glo "all_trees") rfl)
  have x_trees_with := He.glo_ok XK G (c.fact 40 (f := .glo "trees_with") rfl)
  have x__law_pot := He.glo_ok XK G (c.fact 41 (f := .glo "_law_pot") rfl)
  have x__law_dip := He.glo_ok XK G (c.fact 42 (f := .glo "_law_dip") rfl)
  have x__law_any := He.glo_ok XK G (c.fact 43 (f := .glo "_law_any") rfl)
  have x__law_parts := He.glo_ok XK G (c.fact 44 (f := .glo "_law_parts") rfl)
  have x__law_rank := He.glo_ok XK G (c.fact 45 (f := .glo "_law_rank") rfl)
  have x__law_lots := He.glo_ok XK G (c.fact 46 (f := .glo "_law_lots") rfl)
  have x__law_trees := He.glo_ok XK G (c.fact 47 (f := .glo "_law_trees") rfl)
  have x__law_with := He.glo_ok XK G (c.fact 48 (f := .glo "_law_with") rfl)
  have x__law_lot := He.glo_ok XK G (c.fact 49 (f := .glo "_law_lot") rfl)
  have x__law_right := He.glo_ok XK G (c.fact 50 (f := .glo "_law_right") rfl)
  have m_Web := He.glo_ok XK G (c.fact 9 (f := .glo "Web") rfl)
  have c_Web := He.cls_ok (c.fact 10 (f := .cls "Web") rfl)
  have k_Web := He.mkr_ok (c.fact 11 (f := .mkr "Web") rfl)
  have i_Web := icB_ok c_Web (hb (icB "Web") (by simp [bs]))
  have n_len := He.meth_ok (c.fact 13 (f := .meth "Web" "__len__") rfl)
  have C_Web : COk K mg (clsOf K clss) "Web" fields := ⟨_, clsOf_at (by decide +kernel), m_Web, i_Web, by
    intro f hf
    simp only [fields, List.mem_cons, List.not_mem_nil, or_false] at hf
    rcases hf with rfl | rfl
    · exact He.noat_ok (c.fact 17 (f := .noat "Web" "places") rfl)
    · exact He.noat_ok (c.fact 18 (f := .noat "Web" "ties") rfl)⟩
  have fr : Fre mg frees := by
    intro x hx
    simp only [frees, List.mem_cons, List.not_mem_nil, or_false] at hx
    rcases hx with rfl | rfl | rfl | rfl | rfl | rfl | rfl | rfl | rfl | rfl | rfl | rfl | rfl | rfl | rfl | rfl | rfl | rfl | rfl | rfl | rfl | rfl
    · exact He.free_ok XK G (c.fact 52 (f := .free "ValueError") rfl)
    · exact He.free_ok XK G (c.fact 53 (f := .free "abs") rfl)
    · exact He.free_ok XK G (c.fact 54 (f := .free "all") rfl)
    · exact He.free_ok XK G (c.fact 55 (f := .free "any") rfl)
    · exact He.free_ok XK G (c.fact 56 (f := .free "bool") rfl)
    · exact He.free_ok XK G (c.fact 57 (f := .free "classmethod") rfl)
    · exact He.free_ok XK G (c.fact 58 (f := .free "dict") rfl)
    · exact He.free_ok XK G (c.fact 59 (f := .free "divmod") rfl)
    · exact He.free_ok XK G (c.fact 60 (f := .free "enumerate") rfl)
    · exact He.free_ok XK G (c.fact 61 (f := .free "int") rfl)
    · exact He.free_ok XK G (c.fact 62 (f := .free "isinstance") rfl)
    · exact He.free_ok XK G (c.fact 63 (f := .free "len") rfl)
    · exact He.free_ok XK G (c.fact 64 (f := .free "list") rfl)
    · exact He.free_ok XK G (c.fact 65 (f := .free "max") rfl)
    · exact He.free_ok XK G (c.fact 66 (f := .free "min") rfl)
    · exact He.free_ok XK G (c.fact 67 (f := .free "range") rfl)
    · exact He.free_ok XK G (c.fact 68 (f := .free "repr") rfl)
    · exact He.free_ok XK G (c.fact 69 (f := .free "set") rfl)
    · exact He.free_ok XK G (c.fact 70 (f := .free "sorted") rfl)
    · exact He.free_ok XK G (c.fact 71 (f := .free "str") rfl)
    · exact He.free_ok XK G (c.fact 72 (f := .free "tuple") rfl)
    · exact He.free_ok XK G (c.fact 73 (f := .free "zip") rfl)
  obtain ⟨fd_is_integer, F_is_integer⟩ := c.def_ 0 rfl
  have o_is_integer := fn_okC (P := P) (w := w) (mg := mg) (base := base) (CL := clsOf K clss) (k := 0) F_is_integer s_is_integer fun X h => p_is_integer h fr
  have d_is_integer : FOk P w K mg base (clsOf K clss) 1 "is_integer" 1 f_is_integer := ⟨_, _, _, rfl, x_is_integer, F_is_integer.kp, o_is_integer, (F_is_integer.bindsN fun _ _ _ _ _ _ us hl => match us, hl with | [_], _ => rfl)⟩
  obtain ⟨fd_is_between, F_is_between⟩ := c.def_ 1 rfl
  have o_is_between := fn_okC (P := P) (w := w) (mg := mg) (base := base) (CL := clsOf K clss) (k := 1) F_is_between s_is_between fun X h => p_is_between h d_is_integer
  have d_is_between : FOk P w K mg base (clsOf K clss) 2 "is_between" 3 f_is_between := ⟨_, _, _, rfl, x_is_between, F_is_between.kp, o_is_between, (F_is_between.bindsN fun _ _ _ _ _ _ us hl => match us, hl with | [_, _, _], _ => rfl)⟩
  obtain ⟨fd_len, F_len⟩ := c.def_ 7 rfl
  have o_len := fn_okC (P := P) (w := w) (mg := mg) (base := base) (CL := clsOf K clss) (k := 0) F_len s_len fun X h => p_len h C_Web fr
  have L_len : LOk P w K mg base (clsOf K clss) 1 "Web" f_len := ⟨_, _, _, _, rfl, clsOf_at (by decide +kernel), c_Web, n_len.at_, n_len.fn, o_len, (F_len.bindsN fun _ _ _ _ _ _ us hl => match us, hl with | [_], _ => rfl)⟩
  obtain ⟨fd_are_letters, F_are_letters⟩ := c.def_ 2 rfl
  have o_are_letters := fn_okC (P := P) (w := w) (mg := mg) (base := base) (CL := clsOf K clss) (k := 2) F_are_letters s_are_letters fun X h => p_are_letters h fr L_len g_LETTERS
  have d_are_letters : FOk P w K mg base (clsOf K clss) 3 "are_letters" 1 f_are_letters := ⟨_, _, _, rfl, x_are_letters, F_are_letters.kp, o_are_letters, (F_are_letters.bindsN fun _ _ _ _ _ _ us hl => match us, hl with | [_], _ => rfl)⟩
  obtain ⟨fd_are_places, F_are_places⟩ := c.def_ 3 rfl
  have o_are_places := fn_okC (P := P) (w := w) (mg := mg) (base := base) (CL := clsOf K clss) (k := 3) F_are_places s_are_places fun X h => p_are_places h d_are_letters fr L_len g_MOST_PLACES
  have d_are_places : FOk P w K mg base (clsOf K clss) 4 "are_places" 1 f_are_places := ⟨_, _, _, rfl, x_are_places, F_are_places.kp, o_are_places, (F_are_places.bindsN fun _ _ _ _ _ _ us hl => match us, hl with | [_], _ => rfl)⟩
  obtain ⟨fd_is_tie, F_is_tie⟩ := c.def_ 4 rfl
  have o_is_tie := fn_okC (P := P) (w := w) (mg := mg) (base := base) (CL := clsOf K clss) (k := 2) F_is_tie s_is_tie fun X h => p_is_tie h fr L_len
  have d_is_tie : FOk P w K mg base (clsOf K clss) 3 "is_tie" 2 f_is_tie := ⟨_, _, _, rfl, x_is_tie, F_is_tie.kp, o_is_tie, (F_is_tie.bindsN fun _ _ _ _ _ _ us hl => match us, hl with | [_, _], _ => rfl)⟩
  obtain ⟨fd_wrong_tie, F_wrong_tie⟩ := c.def_ 5 rfl
  have o_wrong_tie := fn_okC (P := P) (w := w) (mg := mg) (base := base) (CL := clsOf K clss) (k := 3) F_wrong_tie s_wrong_tie fun X h => p_wrong_tie h fr g_MOST_TIES d_is_tie
  have d_wrong_tie : FOk P w K mg base (clsOf K clss) 4 "wrong_tie" 2 f_wrong_tie := ⟨_, _, _, rfl, x_wrong_tie, F_wrong_tie.kp, o_wrong_tie, (F_wrong_tie.bindsN fun _ _ _ _ _ _ us hl => match us, hl with | [_, _], _ => rfl)⟩
  obtain ⟨fd_init, F_init⟩ := c.def_ 6 rfl
  have o_init := fn_okC (P := P) (w := w) (mg := mg) (base := base) (CL := clsOf K clss) (k := 4) F_init s_init fun X h => p_init h d_are_places fr d_wrong_tie C_Web
  have M_Web : MOk P w K mg base (clsOf K clss) 5 "Web" "Web" 2 f_init := ⟨_, _, _, _, rfl, clsOf_at (by decide +kernel), m_Web, k_Web, o_init, (F_init.bindsN fun _ _ _ _ _ _ us hl => match us, hl with | [_, _, _], _ => rfl)⟩
  obtain ⟨fd_check_web, F_check_web⟩ := c.def_ 11 rfl
  have o_check_web := fn_okC (P := P) (w := w) (mg := mg) (base := base) (CL := clsOf K clss) (k := 0) F_check_web s_check_web fun X h => p_check_web h fr C_Web
  have d_check_web : FOk P w K mg base (clsOf K clss) 1 "check_web" 1 f_check_web := ⟨_, _, _, rfl, x_check_web, F_check_web.kp, o_check_web, (F_check_web.bindsN fun _ _ _ _ _ _ us hl => match us, hl with | [_], _ => rfl)⟩
  obtain ⟨fd_herds_of, F_herds_of⟩ := c.def_ 12 rfl
  have o_herds_of := fn_okC (P := P) (w := w) (mg := mg) (base := base) (CL := clsOf K clss) (k := 0) F_herds_of s_herds_of fun X h => p_herds_of h fr
  have d_herds_of : FOk P w K mg base (clsOf K clss) 1 "herds_of" 2 f_herds_of := ⟨_, _, _, rfl, x_herds_of, F_herds_of.kp, o_herds_of, (F_herds_of.bindsN fun _ _ _ _ _ _ us hl => match us, hl with | [_, _], _ => rfl)⟩
  obtain ⟨fd_wrong_in, F_wrong_in⟩ := c.def_ 13 rfl
  have o_wrong_in := fn_okC (P := P) (w := w) (mg := mg) (base := base) (CL := clsOf K clss) (k := 2) F_wrong_in s_wrong_in fun X h => p_wrong_in h fr L_len d_is_between
  have d_wrong_in : FOk P w K mg base (clsOf K clss) 3 "wrong_in" 2 f_wrong_in := ⟨_, _, _, rfl, x_wrong_in, F_wrong_in.kp, o_wrong_in, (F_wrong_in.bindsN fun _ _ _ _ _ _ us hl => match us, hl with | [_, _], _ => rfl)⟩
  obtain ⟨fd_check_lot, F_check_lot⟩ := c.def_ 14 rfl
  have o_check_lot := fn_okC (P := P) (w := w) (mg := mg) (base := base) (CL := clsOf K clss) (k := 3) F_check_lot s_check_lot fun X h => p_check_lot h fr d_wrong_in
  have d_check_lot : FOk P w K mg base (clsOf K clss) 4 "check_lot" 2 f_check_lot := ⟨_, _, _, rfl, x_check_lot, F_check_lot.kp, o_check_lot, (F_check_lot.bindsN fun _ _ _ _ _ _ us hl => match us, hl with | [_, _], _ => rfl)⟩
  obtain ⟨fd_every_tie, F_every_tie⟩ := c.def_ 15 rfl
  have o_every_tie := fn_okC (P := P) (w := w) (mg := mg) (base := base) (CL := clsOf K clss) (k := 2) F_every_tie s_every_tie fun X h => p_every_tie h fr L_len
  have d_every_tie : FOk P w K mg base (clsOf K clss) 3 "every_tie" 1 f_every_tie := ⟨_, _, _, rfl, x_every_tie, F_every_tie.kp, o_every_tie, (F_every_tie.bindsN fun _ _ _ _ _ _ us hl => match us, hl with | [_], _ => rfl)⟩
  obtain ⟨fd_ties_of, F_ties_of⟩ := c.def_ 16 rfl
  have o_ties_of := fn_okC (P := P) (w := w) (mg := mg) (base := base) (CL := clsOf K clss) (k := 0) F_ties_of s_ties_of fun X h => p_ties_of h C_Web
  have d_ties_of : FOk P w K mg base (clsOf K clss) 1 "ties_of" 2 f_ties_of := ⟨_, _, _, rfl, x_ties_of, F_ties_of.kp, o_ties_of, (F_ties_of.bindsN fun _ _ _ _ _ _ us hl => match us, hl with | [_, _], _ => rfl)⟩
  obtain ⟨fd_pieces_of, F_pieces_of⟩ := c.def_ 17 rfl
  have o_pieces_of := fn_okC (P := P) (w := w) (mg := mg) (base := base) (CL := clsOf K clss) (k := 1) F_pieces_of s_pieces_of fun X h => p_pieces_of h C_Web d_ties_of d_herds_of
  have d_pieces_of : FOk P w K mg base (clsOf K clss) 2 "pieces_of" 2 f_pieces_of := ⟨_, _, _, rfl, x_pieces_of, F_pieces_of.kp, o_pieces_of, (F_pieces_of.bindsN fun _ _ _ _ _ _ us hl => match us, hl with | [_, _], _ => rfl)⟩
  obtain ⟨fd_rank_of, F_rank_of⟩ := c.def_ 18 rfl
  have o_rank_of := fn_okC (P := P) (w := w) (mg := mg) (base := base) (CL := clsOf K clss) (k := 2) F_rank_of s_rank_of fun X h => p_rank_of h C_Web fr L_len d_pieces_of
  have d_rank_of : FOk P w K mg base (clsOf K clss) 3 "rank_of" 2 f_rank_of := ⟨_, _, _, rfl, x_rank_of, F_rank_of.kp, o_rank_of, (F_rank_of.bindsN fun _ _ _ _ _ _ us hl => match us, hl with | [_, _], _ => rfl)⟩
  obtain ⟨fd_spare_of, F_spare_of⟩ := c.def_ 19 rfl
  have o_spare_of := fn_okC (P := P) (w := w) (mg := mg) (base := base) (CL := clsOf K clss) (k := 3) F_spare_of s_spare_of fun X h => p_spare_of h fr L_len d_rank_of
  have d_spare_of : FOk P w K mg base (clsOf K clss) 4 "spare_of" 2 f_spare_of := ⟨_, _, _, rfl, x_spare_of, F_spare_of.kp, o_spare_of, (F_spare_of.bindsN fun _ _ _ _ _ _ us hl => match us, hl with | [_, _], _ => rfl)⟩
  obtain ⟨fd_is_free_lot, F_is_free_lot⟩ := c.def_ 20 rfl
  have o_is_free_lot := fn_okC (P := P) (w := w) (mg := mg) (base := base) (CL := clsOf K clss) (k := 4) F_is_free_lot s_is_free_lot fun X h => p_is_free_lot h d_spare_of
  have d_is_free_lot : FOk P w K mg base (clsOf K clss) 5 "is_free_lot" 2 f_is_free_lot := ⟨_, _, _, rfl, x_is_free_lot, F_is_free_lot.kp, o_is_free_lot, (F_is_free_lot.bindsN fun _ _ _ _ _ _ us hl => match us, hl with | [_, _], _ => rfl)⟩
  obtain ⟨fd_rest_of, F_rest_of⟩ := c.def_ 21 rfl
  have o_rest_of := fn_okC (P := P) (w := w) (mg := mg) (base := base) (CL := clsOf K clss) (k := 3) F_rest_of s_rest_of fun X h => p_rest_of h d_every_tie fr
  have d_rest_of : FOk P w K mg base (clsOf K clss) 4 "rest_of" 2 f_rest_of := ⟨_, _, _, rfl, x_rest_of, F_rest_of.kp, o_rest_of, (F_rest_of.bindsN fun _ _ _ _ _ _ us hl => match us, hl with | [_, _], _ => rfl)⟩
  obtain ⟨fd_every_lot, F_every_lot⟩ := c.def_ 22 rfl
  have o_every_lot := fn_okC (P := P) (w := w) (mg := mg) (base := base) (CL := clsOf K clss) (k := 3) F_every_lot s_every_lot fun X h => p_every_lot h d_every_tie fr
  have d_every_lot : FOk P w K mg base (clsOf K clss) 4 "every_lot" 1 f_every_lot := ⟨_, _, _, rfl, x_every_lot, F_every_lot.kp, o_every_lot, (F_every_lot.bindsN fun _ _ _ _ _ _ us hl => match us, hl with | [_], _ => rfl)⟩
  obtain ⟨fd_every_tree, F_every_tree⟩ := c.def_ 23 rfl
  have o_every_tree := fn_okC (P := P) (w := w) (mg := mg) (base := base) (CL := clsOf K clss) (k := 5) F_every_tree s_every_tree fun X h => p_every_tree h d_every_tie d_rank_of d_every_lot fr L_len d_is_free_lot
  have d_every_tree : FOk P w K mg base (clsOf K clss) 6 "every_tree" 1 f_every_tree := ⟨_, _, _, rfl, x_every_tree, F_every_tree.kp, o_every_tree, (F_every_tree.bindsN fun _ _ _ _ _ _ us hl => match us, hl with | [_], _ => rfl)⟩
  obtain ⟨fd_laplacian, F_laplacian⟩ := c.def_ 24 rfl
  have o_laplacian := fn_okC (P := P) (w := w) (mg := mg) (base := base) (CL := clsOf K clss) (k := 2) F_laplacian s_laplacian fun X h => p_laplacian h fr L_len
  have d_laplacian : FOk P w K mg base (clsOf K clss) 3 "laplacian" 2 f_laplacian := ⟨_, _, _, rfl, x_laplacian, F_laplacian.kp, o_laplacian, (F_laplacian.bindsN fun _ _ _ _ _ _ us hl => match us, hl with | [_, _], _ => rfl)⟩
  obtain ⟨fd_determinant, F_determinant⟩ := c.def_ 25 rfl
  have o_determinant := fn_okC (P := P) (w := w) (mg := mg) (base := base) (CL := clsOf K clss) (k := 2) F_determinant s_determinant fun X h => p_determinant h fr L_len
  have d_determinant : FOk P w K mg base (clsOf K clss) 3 "determinant" 1 f_determinant := ⟨_, _, _, rfl, x_determinant, F_determinant.kp, o_determinant, (F_determinant.bindsN fun _ _ _ _ _ _ us hl => match us, hl with | [_], _ => rfl)⟩
  obtain ⟨fd_heads_by, F_heads_by⟩ := c.def_ 26 rfl
  have o_heads_by := fn_okC (P := P) (w := w) (mg := mg) (base := base) (CL := clsOf K clss) (k := 0) F_heads_by s_heads_by fun X h => p_heads_by h fr
  have d_heads_by : FOk P w K mg base (clsOf K clss) 1 "heads_by" 2 f_heads_by := ⟨_, _, _, rfl, x_heads_by, F_heads_by.kp, o_heads_by, (F_heads_by.bindsN fun _ _ _ _ _ _ us hl => match us, hl with | [_, _], _ => rfl)⟩
  obtain ⟨fd_full_woods, F_full_woods⟩ := c.def_ 27 rfl
  have o_full_woods := fn_okC (P := P) (w := w) (mg := mg) (base := base) (CL := clsOf K clss) (k := 3) F_full_woods s_full_woods fun X h => p_full_woods h d_heads_by d_laplacian d_determinant
  have d_full_woods : FOk P w K mg base (clsOf K clss) 4 "full_woods" 2 f_full_woods := ⟨_, _, _, rfl, x_full_woods, F_full_woods.kp, o_full_woods, (F_full_woods.bindsN fun _ _ _ _ _ _ us hl => match us, hl with | [_, _], _ => rfl)⟩
  obtain ⟨fd_trees_by, F_trees_by⟩ := c.def_ 28 rfl
  have o_trees_by := fn_okC (P := P) (w := w) (mg := mg) (base := base) (CL := clsOf K clss) (k := 5) F_trees_by s_trees_by fun X h => p_trees_by h fr d_is_free_lot d_rest_of d_pieces_of L_len d_every_tie C_Web d_ties_of d_heads_by d_full_woods
  have d_trees_by : FOk P w K mg base (clsOf K clss) 6 "trees_by" 3 f_trees_by := ⟨_, _, _, rfl, x_trees_by, F_trees_by.kp, o_trees_by, (F_trees_by.bindsN fun _ _ _ _ _ _ us hl => match us, hl with | [_, _, _], _ => rfl)⟩
  obtain ⟨fd_trees_counted, F_trees_counted⟩ := c.def_ 29 rfl
  have o_trees_counted := fn_okC (P := P) (w := w) (mg := mg) (base := base) (CL := clsOf K clss) (k := 6) F_trees_counted s_trees_counted fun X h => p_trees_counted h d_trees_by
  have d_trees_counted : FOk P w K mg base (clsOf K clss) 7 "trees_counted" 1 f_trees_counted := ⟨_, _, _, rfl, x_trees_counted, F_trees_counted.kp, o_trees_counted, (F_trees_counted.bindsN fun _ _ _ _ _ _ us hl => match us, hl with | [_], _ => rfl)⟩
  obtain ⟨fd_count_trees, F_count_trees⟩ := c.def_ 30 rfl
  have o_count_trees := fn_okC (P := P) (w := w) (mg := mg) (base := base) (CL := clsOf K clss) (k := 7) F_count_trees s_count_trees fun X h => p_count_trees h d_check_web d_trees_counted
  have d_count_trees : FOk P w K mg base (clsOf K clss) 8 "count_trees" 1 f_count_trees := ⟨_, _, _, rfl, x_count_trees, F_count_trees.kp, o_count_trees, (F_count_trees.bindsN fun _ _ _ _ _ _ us hl => match us, hl with | [_], _ => rfl)⟩
  have d_count_trees_0 : FOkK P w K mg base (clsOf K clss) 8 "count_trees" 1 f_count_trees ["web"] [0] := ⟨_, _, _, rfl, x_count_trees, F_count_trees.kp, o_count_trees, bindsK F_count_trees fun _ _ _ _ _ _ ws hl => match ws, hl with | [_], _ => rfl⟩
  obtain ⟨fd_all_trees, F_all_trees⟩ := c.def_ 31 rfl
  have o_all_trees := fn_okC (P := P) (w := w) (mg := mg) (base := base) (CL := clsOf K clss) (k := 6) F_all_trees s_all_trees fun X h => p_all_trees h d_check_web d_every_tree fr
  have d_all_trees : FOk P w K mg base (clsOf K clss) 7 "all_trees" 1 f_all_trees := ⟨_, _, _, rfl, x_all_trees, F_all_trees.kp, o_all_trees, (F_all_trees.bindsN fun _ _ _ _ _ _ us hl => match us, hl with | [_], _ => rfl)⟩
  have d_all_trees_0 : FOkK P w K mg base (clsOf K clss) 7 "all_trees" 1 f_all_trees ["web"] [0] := ⟨_, _, _, rfl, x_all_trees, F_all_trees.kp, o_all_trees, bindsK F_all_trees fun _ _ _ _ _ _ ws hl => match ws, hl with | [_], _ => rfl⟩
  obtain ⟨fd_trees_with, F_trees_with⟩ := c.def_ 32 rfl
  have o_trees_with := fn_okC (P := P) (w := w) (mg := mg) (base := base) (CL := clsOf K clss) (k := 6) F_trees_with s_trees_with fun X h => p_trees_with h d_check_web d_check_lot d_trees_by
  have d_trees_with : FOk P w K mg base (clsOf K clss) 7 "trees_with" 3 f_trees_with := ⟨_, _, _, rfl, x_trees_with, F_trees_with.kp, o_trees_with, (F_trees_with.bindsN fun _ _ _ _ _ _ us hl => match us, hl with | [_, _, _], _ => rfl)⟩
  have d_trees_with_1_2_0 : FOkK P w K mg base (clsOf K clss) 7 "trees_with" 3 f_trees_with ["outside", "web", "inside"] [1, 2, 0] := ⟨_, _, _, rfl, x_trees_with, F_trees_with.kp, o_trees_with, bindsK F_trees_with fun _ _ _ _ _ _ ws hl => match ws, hl with | [_, _, _], _ => rfl⟩
  obtain ⟨fd__law_pot, F__law_pot⟩ := c.def_ 33 rfl
  have o__law_pot := fn_okC (P := P) (w := w) (mg := mg) (base := base) (CL := clsOf K clss) (k := 2) F__law_pot s__law_pot fun X h => p__law_pot h fr L_len
  have d__law_pot : FOk P w K mg base (clsOf K clss) 3 "_law_pot" 2 f__law_pot := ⟨_, _, _, rfl, x__law_pot, F__law_pot.kp, o__law_pot, (F__law_pot.bindsN fun _ _ _ _ _ _ us hl => match us, hl with | [_, _], _ => rfl)⟩
  obtain ⟨fd__law_dip, F__law_dip⟩ := c.def_ 34 rfl
  have o__law_dip := fn_okC (P := P) (w := w) (mg := mg) (base := base) (CL := clsOf K clss) (k := 0) F__law_dip s__law_dip fun X h => p__law_dip h fr
  have d__law_dip : FOk P w K mg base (clsOf K clss) 1 "_law_dip" 2 f__law_dip := ⟨_, _, _, rfl, x__law_dip, F__law_dip.kp, o__law_dip, (F__law_dip.bindsN fun _ _ _ _ _ _ us hl => match us, hl with | [_, _], _ => rfl)⟩
  obtain ⟨fd__law_any, F__law_any⟩ := c.def_ 35 rfl
  have o__law_any := fn_okC (P := P) (w := w) (mg := mg) (base := base) (CL := clsOf K clss) (k := 2) F__law_any s__law_any fun X h => p__law_any h fr L_len d__law_dip
  have d__law_any : FOk P w K mg base (clsOf K clss) 3 "_law_any" 2 f__law_any := ⟨_, _, _, rfl, x__law_any, F__law_any.kp, o__law_any, (F__law_any.bindsN fun _ _ _ _ _ _ us hl => match us, hl with | [_, _], _ => rfl)⟩
  obtain ⟨fd__law_parts, F__law_parts⟩ := c.def_ 36 rfl
  have o__law_parts := fn_okC (P := P) (w := w) (mg := mg) (base := base) (CL := clsOf K clss) (k := 3) F__law_parts s__law_parts fun X h => p__law_parts h fr d__law_dip L_len d__law_any
  have d__law_parts : FOk P w K mg base (clsOf K clss) 4 "_law_parts" 3 f__law_parts := ⟨_, _, _, rfl, x__law_parts, F__law_parts.kp, o__law_parts, (F__law_parts.bindsN fun _ _ _ _ _ _ us hl => match us, hl with | [_, _, _], _ => rfl)⟩
  obtain ⟨fd__law_rank, F__law_rank⟩ := c.def_ 37 rfl
  have o__law_rank := fn_okC (P := P) (w := w) (mg := mg) (base := base) (CL := clsOf K clss) (k := 2) F__law_rank s__law_rank fun X h => p__law_rank h fr L_len
  have d__law_rank : FOk P w K mg base (clsOf K clss) 3 "_law_rank" 2 f__law_rank := ⟨_, _, _, rfl, x__law_rank, F__law_rank.kp, o__law_rank, (F__law_rank.bindsN fun _ _ _ _ _ _ us hl => match us, hl with | [_, _], _ => rfl)⟩
  obtain ⟨fd__law_lots, F__law_lots⟩ := c.def_ 38 rfl
  have o__law_lots := fn_okC (P := P) (w := w) (mg := mg) (base := base) (CL := clsOf K clss) (k := 0) F__law_lots s__law_lots fun X h => p__law_lots h fr
  have d__law_lots : FOk P w K mg base (clsOf K clss) 1 "_law_lots" 1 f__law_lots := ⟨_, _, _, rfl, x__law_lots, F__law_lots.kp, o__law_lots, (F__law_lots.bindsN fun _ _ _ _ _ _ us hl => match us, hl with | [_], _ => rfl)⟩
  obtain ⟨fd__law_trees, F__law_trees⟩ := c.def_ 39 rfl
  have o__law_trees := fn_okC (P := P) (w := w) (mg := mg) (base := base) (CL := clsOf K clss) (k := 3) F__law_trees s__law_trees fun X h => p__law_trees h d__law_rank fr L_len d__law_lots
  have d__law_trees : FOk P w K mg base (clsOf K clss) 4 "_law_trees" 2 f__law_trees := ⟨_, _, _, rfl, x__law_trees, F__law_trees.kp, o__law_trees, (F__law_trees.bindsN fun _ _ _ _ _ _ us hl => match us, hl with | [_, _], _ => rfl)⟩
  obtain ⟨fd__law_with, F__law_with⟩ := c.def_ 40 rfl
  have o__law_with := fn_okC (P := P) (w := w) (mg := mg) (base := base) (CL := clsOf K clss) (k := 0) F__law_with s__law_with fun X h => p__law_with h fr
  have d__law_with : FOk P w K mg base (clsOf K clss) 1 "_law_with" 3 f__law_with := ⟨_, _, _, rfl, x__law_with, F__law_with.kp, o__law_with, (F__law_with.bindsN fun _ _ _ _ _ _ us hl => match us, hl with | [_, _, _], _ => rfl)⟩
  obtain ⟨fd__law_lot, F__law_lot⟩ := c.def_ 41 rfl
  have o__law_lot := fn_okC (P := P) (w := w) (mg := mg) (base := base) (CL := clsOf K clss) (k := 1) F__law_lot s__law_lot fun X h => p__law_lot h d__law_dip fr
  have d__law_lot : FOk P w K mg base (clsOf K clss) 2 "_law_lot" 2 f__law_lot := ⟨_, _, _, rfl, x__law_lot, F__law_lot.kp, o__law_lot, (F__law_lot.bindsN fun _ _ _ _ _ _ us hl => match us, hl with | [_, _], _ => rfl)⟩
  obtain ⟨fd__law_right, F__law_right⟩ := c.def_ 42 rfl
  have o__law_right := fn_okG (P := P) (w := w) (mg := mg) (base := base) (CL := clsOf K clss) (k := 8) F__law_right s__law_right fun X h hg => p__law_right h hg d__law_parts M_Web d__law_trees d_all_trees fr d_count_trees_0 L_len d__law_lot d__law_with d_trees_with d_trees_with_1_2_0 d_all_trees_0 d_count_trees C_Web
  have d__law_right : FOkG P w K mg base (clsOf K clss) 9 "_law_right" 1 f__law_right := ⟨_, _, _, rfl, x__law_right, F__law_right.kp, o__law_right, (F__law_right.bindsN fun _ _ _ _ _ _ us hl => match us, hl with | [_], _ => rfl)⟩
  obtain ⟨fd_law0, F_law0⟩ := c.def_ 43 rfl
  have o_law := fn_okG (P := P) (w := w) (mg := mg) (base := base) (CL := clsOf K clss) (k := 9) FL s_law fun X h hg => p_law h hg fr L_len d__law_pot d__law_right
  exact o_law
end Law10
/-- the law holds, if its def computes True at each script -/
theorem Law10.holds_of (hl : ∀ ns : List Int, ns.length ≤ 63 → Law10.f_law [.d (.scr (ns.map .int))] [] = some (.val (.d (.bl true)), [])) : PySem.Challenge.rw_webcounts_k10_whole_trees_listed_and_cou.Holds := by
  w_on; o_law
  refine HandSHeadRun.head_any (r := PySem.W.OpenLaw.row PySem.Challenge.rw_webcounts_k10_whole_trees_listed_and_cou) (q := PySem.W.view (PySem.W.OpenLaw.row PySem.Challenge.rw_webcounts_k10_whole_trees_listed_and_cou).prog [55]) (H := Law10.hk) (ob := Law10.ob) (M := 6000) (loose := Law10.names) (d := HandSHeadRun.topDef (PySem.W.OpenLaw.row PySem.Challenge.rw_webcounts_k10_whole_trees_listed_and_cou).prog 55) (kwd := []) Law10.ob_eq
    (by kernel_rfl) (fun s => by kernel_rfl) Law10.run (by kernel_rfl) (by kernel_rfl) (by kernel_rfl) (by rfl) (by first | assumption | decide +kernel) (by decide +kernel) ⟨rfl, rfl, rfl, rfl, rfl, by decide +kernel⟩ ?hw ?hc
  case hw => w_witness2
  case hc =>
    refine Ev.walk_G (l := PySem.Challenge.rw_webcounts_k10_whole_trees_listed_and_cou) (n := 63) (k := 10) (x := "script") rfl (by decide) (by kernel_rfl) ⟨rfl, by decide, by decide⟩ ?F
    intro w mg fa h Y G hmg0
    obtain ⟨K, KX, c, hb⟩ := Y
    have hmg : mg ("law" : PySem.Str) = some (.ref fa) := by
      have e : (HandSHeadRun.topDef (PySem.W.OpenLaw.row PySem.Challenge.rw_webcounts_k10_whole_trees_listed_and_cou).prog 55).name = ("law" : PySem.Str) := by kernel_rfl
      rw [← e]
      exact hmg0
    obtain ⟨fd, hbd, hF⟩ := Law10.facts (P := (PySem.Challenge.rw_webcounts_k10_whole_trees_listed_and_cou).prog) (w := w) KX G hmg c hb
    exact ⟨K, fd, _, KX, hbd, fun H a ns hn _ hS => Ev.top_of hS (hl ns hn) fun _ => rfl, hF⟩
set_option Elab.async false
set_option linter.all false
set_option maxRecDepth 100000
set_option maxHeartbeats 400000
/-! Own text (printed by webgen.py): making the web; the checks. -/
namespace Law10
open PySem L2 Ev
def let8 : List Nat := [97, 98, 99, 100, 101, 102, 103, 104]
/-- a tie as data -/
def tie (t : Nat × Nat) : D := .str (tx [t.1, t.2])
/-- ties of places -/
def TsOk (ps : List Nat) (ts : List (Nat × Nat)) : Prop := ∀ t ∈ ts, t.1 ∈ ps ∧ t.2 ∈ ps ∧ t.1 ≤ t.2
structure WOk (ps : List Nat) (ts : List (Nat × Nat)) : Prop where
  up : ps.Pairwise (· < ·)
  ne : ps ≠ []
  few : ps.length ≤ 4
  sub : ∀ p ∈ ps, p ∈ let8
  six : ts.length ≤ 6
  ok : TsOk ps ts
theorem let8_eq : (Str.ofString "abcdefgh") = tx let8 := rfl
theorem letters_ok {ps : List Nat} {S : Sto} (hn : ps.Nodup) (hl : ps.length ≤ 8) (hs : ∀ p ∈ ps, p ∈ let8) : f_are_letters [.d (.str (tx ps))] S = some (.val (.d (.bl true)), S) := by
  refine G2.eq ?_
  unfold f_are_letters b_are_letters
  fail "evo"
  refine ⟨false, rfl, fun _ => ?_, fun z => nomatch z⟩
  fail "evo"
  refine e_dc (.of (i_str rfl (by omega)) ?_)
  obtain ⟨kvs, e1, e2⟩ := comp_dc (g := gNm 1) (fk := fVar 1) (fv := fCst (.bl true)) (ρ := wipeR (startR 2 [.d (.str (tx ps))]) [1]) (S := S) (acc := []) (v := .bl true) hn (by simp; omega) (by intro kv h; cases h) (by
    intro x hx
    fail "evo"
    refine ⟨rfl, ?_⟩
    fail "evo"
    refine ⟨rfl, rfl, ?_⟩
    fail "evo"
    exact ⟨rfl, rfl⟩)
  refine .of e1 ?_
  fail "evo"
  refine ⟨fun h => absurd h (by rw [e2]; simp), fun _ => ?_⟩
  fail "evo"
  refine e_lcMap (l := ps) (em := lt) (va := fun c => .bl (decide (c ∈ let8))) ?_ (by omega) ?_ ?_
  · exact i_str rfl (by omega)
  · intro x hx
    fail "evo"
    refine ⟨rfl, ?_⟩
    fail "evo"
    exact ⟨congrArg D.bl (Option.some.inj (in_lt (c := x) (l := let8))), rfl⟩
  fail "evo"
  refine .of bi_all ?_
  fail "evo"
  refine ⟨?_, List.take_length⟩
  rw [List.all_eq_true.mpr fun x hx => decide_eq_true (hs x hx)]
theorem strict_sort {ps : List Nat} (h : ps.Pairwise (· < ·)) : sortL (ps.map lt) = some (ps.map lt) := by
  obtain ⟨m, e, hp, hs⟩ := sort_lt ps
  rw [e, perm_lt hp (hs (h.imp fun h => by omega)) h]
theorem toPs_lt (l : List Nat) : toPs (l.map lt) = some (l.map fun n : Nat => PyData.str (tx [n])) := by
  induction l with
  | nil => rfl
  | cons a l ih => rw [List.map_cons, List.map_cons]; show (match toP (lt a), toPs (l.map lt) with | some p, some ps => some (p :: ps) | _, _ => none) = _; rw [ih]; rfl
theorem places_ok {ps : List Nat} {S : Sto} (hn : ps.Pairwise (· < ·)) (hne : ps ≠ []) (hl : ps.length ≤ 4) (hs : ∀ p ∈ ps, p ∈ let8) : f_are_places [.d (.str (tx ps))] S = some (.val (.d (.bl true)), S) := by
  refine G2.eq ?_
  unfold f_are_places b_are_places
  have hp : 0 < ps.length := List.length_pos_iff.mpr hne
  fail "evo"
  refine .of (letters_ok (hn.imp fun h => by omega) (by omega) hs) ?_
  refine ⟨true, rfl, fun _ => ?_, fun z => nomatch z⟩
  fail "evo"
  refine e_chain ?_
  fail "evo"
  refine ⟨fun _ => ?_, fun h => absurd h (by simp; omega)⟩
  fail "evo"
  refine ⟨_, rfl, fun _ => ?_, fun h => absurd h (by simp; omega)⟩
  fail "evo"
  refine .of (a := .new (.lst (ps.map lt))) ?_ ?_
  · show (if (tx ps).cps.size ≤ sizeLine then _ else none) = _
    rw [if_pos (by rw [tx_size, sizeLine_val]; omega)]; rfl
  fail "evo"
  refine .of (a := .new (.lst (ps.map lt))) ?_ ?_
  · show (if (tx ps).cps.size ≤ sizeLine then some (signs (tx ps)) else none).bind _ = _
    rw [if_pos (by rw [tx_size, sizeLine_val]; omega), tx_signs]
    show (if (ps.map lt).length ≤ sizeLine then (sortL (ps.map lt)).map _ else none) = _
    rw [if_pos (by rw [List.length_map, sizeLine_val]; omega), strict_sort hn]; rfl
  fail "evo"
  refine .of (a := true) ?_ ?_
  · show (match (toPs (ps.map lt)).map PyData.list, (toPs (ps.map lt)).map PyData.list with | some p, some q => if SeqAt.shaped p = true ∧ SeqAt.shaped q = true then some (PyData.eqv p q) else none | _, _ => none) = _
    rw [toPs_lt]
    have hs : ∀ l : List Nat, (∀ p ∈ l, p ∈ let8) → PyData.canLayAll0 (l.map fun n : Nat => PyData.str (tx [n])) = true ∧ PyData.depthAll (l.map fun n : Nat => PyData.str (tx [n])) = 0 ∧ PyData.eqvAll (l.map fun n : Nat => PyData.str (tx [n])) (l.map fun n : Nat => PyData.str (tx [n])) = true := by
      intro l hl
      induction l with
      | nil => exact ⟨rfl, rfl, rfl⟩
      | cons a l ih =>
        obtain ⟨h1, h2, h3⟩ := ih fun p hp => hl p (List.mem_cons_of_mem _ hp)
        refine ⟨?_, ?_, ?_⟩
        · show (PyData.strOk (tx [a]) && _) = true
          rw [h1, Bool.and_true]
          have := hl a List.mem_cons_self
          have : a < 200 := by
            have h : ∀ p ∈ let8, p < 200 := by decide
            exact h a this
          show (tx [a]).cps.all (· < 0x110000) = true
          unfold tx
          simp; omega
        · show max 0 _ = 0
          rw [h2]; rfl
        · show ((tx [a]) == (tx [a]) && _) = true
          rw [h3]; simp
    obtain ⟨h1, h2, h3⟩ := hs ps ‹_›
    have hsh : SeqAt.shaped (PyData.list (ps.map fun n : Nat => PyData.str (tx [n]))) = true := by
      show (PyData.canLayAll0 _ && decide (PyData.depthAll _ + 1 ≤ 64)) = true
      rw [h1, h2]; rfl
    show (if _ then some (PyData.eqvAll _ _) else none) = _
    rw [if_pos ⟨hsh, hsh⟩, h3]
  fail "evo"
  exact ⟨rfl, List.take_length⟩
theorem occ_eq {c : Nat} {l : List Nat} : (!(Builtin.Str.occurrences (tx l) ⟨#[c]⟩ 0 (tx l).length 1).isEmpty) = decide (c ∈ l) := Option.some.inj in_lt
theorem is_tie_ok {ps : List Nat} {t : Nat × Nat} {S : Sto} (h1 : t.1 ∈ ps) (h2 : t.2 ∈ ps) (h3 : t.1 ≤ t.2) : f_is_tie [.d (.str (tx ps)), .d (tie t)] S = some (.val (.d (.bl true)), S) := by
  refine G2.eq ?_
  unfold f_is_tie b_is_tie tie
  fail "evo"
  refine ⟨false, rfl, fun _ => ?_, fun z => nomatch z⟩
  fail "evo"
  refine ⟨fun h => absurd h (by simp [tx_len]), fun _ => ?_⟩
  fail "evo"
  refine ⟨_, rfl, fun _ => ?_, fun z => absurd z (by rw [occ_eq]; simpa using h1)⟩
  fail "evo"
  refine ⟨_, rfl, fun _ => ?_, fun z => absurd z (by rw [occ_eq]; simpa using h2)⟩
  fail "evo"
  refine ⟨?_, List.take_length⟩
  refine congrArg (fun b => Res.val (.d (.bl b))) ?_
  exact (leS_lt t.1 t.2).trans (decide_eq_true h3)
theorem wrong_ok {ps : List Nat} {ts : List (Nat × Nat)} {S : Sto} (hl : ts.length ≤ 6) (h : TsOk ps ts) : f_wrong_tie [.d (.str (tx ps)), .d (.tup (ts.map tie))] S = some (.val (.d .non), S) := by
  refine G2.eq ?_
  unfold f_wrong_tie b_wrong_tie
  fail "evo"
  refine loop_inv (fun ds ρ S' => S' = S ∧ ∃ (i : Nat) (rest : List (Nat × Nat)) (k2 k3 : Option Val), ds = enumL i (rest.map tie) ∧ i + rest.length ≤ 6 ∧ TsOk ps rest ∧ ρ = [some (.d (.str (tx ps))), some (.d (.tup (ts.map tie))), k2, k3]) ⟨rfl, 0, ts, none, none, rfl, by omega, h, rfl⟩ ?_ ?_
  · rintro d ds ρ S' ⟨rfl, i, rest, k2, k3, e, hi, hr, rfl⟩
    cases rest with
    | nil => cases e
    | cons t rest =>
      rw [List.map_cons] at e
      unfold enumL at e
      obtain ⟨rfl, rfl⟩ := List.cons.inj e
      rw [List.length_cons] at hi
      obtain ⟨h1, h2, h3⟩ := hr t List.mem_cons_self
      fail "evo"
      refine ⟨_, rfl, rfl, ?_⟩
      fail "evo"
      refine ⟨_, rfl, fun _ => ?_, fun z => absurd z (by simp; omega)⟩
      fail "evo"
      refine .of (is_tie_ok h1 h2 h3) ?_
      fail "evo"
      refine ⟨(fun z => nomatch z), fun _ => ?_⟩
      fail "evo"
      exact .inl ⟨.inl rfl, rfl, i + 1, rest, _, _, rfl, by omega, fun t ht => hr t (List.mem_cons_of_mem _ ht), rfl⟩
  rintro ρ S' ⟨rfl, i, rest, k2, k3, e, hi, hr, rfl⟩
  fail "evo"
  exact ⟨rfl, List.take_length⟩
/-- the web as data -/
def web (ps : List Nat) (ts : List (Nat × Nat)) : D := .ins "Web" [("places", .str (tx ps)), ("ties", .tup (ts.map tie))]
theorem init_ok {ps : List Nat} {ts : List (Nat × Nat)} {S : Sto} (h : WOk ps ts) : G2 (f_init [.cell S.length, .d (.str (tx ps)), .d (.tup (ts.map tie))] (S ++ [.ins "Web" []])) fun r S' => r = .val (.d .non) ∧ S' = S ++ [.ins "Web" [("places", .str (tx ps)), ("ties", .tup (ts.map tie))]] := by
  unfold f_init b_init
  fail "evo"
  refine .of (places_ok h.up h.ne h.few h.sub) ?_
  fail "evo"
  refine ⟨(fun z => nomatch z), fun _ => ?_⟩
  fail "evo"
  refine ⟨(fun z => nomatch z), fun _ => ?_⟩
  fail "evo"
  refine .of (wrong_ok h.six h.ok) ?_
  fail "evo"
  refine ⟨(fun z => nomatch z), fun _ => ?_⟩
  fail "evo"
  refine s_fld' ?_
  fail "evo"
  refine ⟨_, [], rfl, at_end S _, by decide, ?_⟩
  rw [show List.set (S ++ [Cell.ins (Str.ofString "Web") []]) S.length _ = _ from set_end S _ _]
  fail "evo"
  refine s_fld' ?_
  fail "evo"
  refine ⟨_, _, rfl, at_end S _, by simp [putD], ?_⟩
  fail "evo"
  refine ⟨rfl, ?_⟩
  rw [set_end, take_full' (by simp)]
  rfl
theorem make_ok {ps : List Nat} {ts : List (Nat × Nat)} {S : Sto} (h : WOk ps ts) : mkF "Web" f_init [.d (.str (tx ps)), .d (.tup (ts.map tie))] S = some (.new (.ins "Web" [("places", .str (tx ps)), ("ties", .tup (ts.map tie))]), S) := by
  have e := G2.eq (init_ok (S := S) h)
  unfold mkF
  rw [e]
  simp only [Option.bind_some]
  rw [at_end]
  simp only [Option.bind_some]
  rw [List.take_left' rfl]
theorem len_ok {ps : List Nat} {ts : List (Nat × Nat)} {S : Sto} : f_len [.d (web ps ts)] S = some (.val (.d (.int (ts.length : Int))), S) := by
  refine G2.eq ?_
  unfold f_len b_len web
  fail "evo"
  exact ⟨by rw [List.length_map], List.take_length⟩
end Law10
set_option Elab.async false
set_option linter.all false
set_option maxRecDepth 100000
set_option maxHeartbeats 400000
/-! Own text: herds, ranks, as the program tells them. -/
namespace Law10
open PySem L2 Ev Gr
/-- a herd as data -/
def hd (h : List Nat) : D := .str (tx h)
section
variable {ps : List Nat} {ts us : List (Nat × Nat)} {S : Sto}
theorem herds_ok (h4 : ps.length ≤ 4) (hn : ps.Nodup) (ho : On ps us) (hu : us.length ≤ 6) : G2 (f_herds_of [.d (.str (tx ps)), .d (.lst (us.map tie))] S) fun r S' => S' = S ∧ ∃ gs : List (List Nat), r = .new (.lst (gs.map hd)) ∧ gs.length = ps.length - rk ps us := by
  unfold f_herds_of b_herds_of
  fail "evo"
  refine .of (a := .new (.lst ((ps.map fun p => [p]).map hd))) ?_ ?_
  · rw [List.map_map]
    show (if (tx ps).cps.size ≤ sizeLine then some (O1.new (.lst (signs (tx ps)))) else none) = _
    rw [if_pos (by rw [tx_size, sizeLine_val]; omega), tx_signs]
    rfl
  fail "evo"
  refine loop_inv (fun ds ρ S1 => S1 = S ∧ ∃ (done rest : List (Nat × Nat)) (hs : List (List Nat)) (k3 k4 k5 k6 : Option Val), us = done ++ rest ∧ ds = rest.map tie ∧ HOk ps done hs ∧
    ρ = [some (.d (.str (tx ps))), some (.d (.lst (us.map tie))), some (.d (.lst (hs.map hd))), k3, k4, k5, k6, none]) ?_ ?_ ?_
  · exact ⟨rfl, [], us, ps.map fun p => [p], none, none, none, none, rfl, rfl, HOk.start ps, rfl⟩
  · rintro d ds ρ S1 ⟨rfl, done, rest, hs, k3, k4, k5, k6, e, e1, H, rfl⟩
    cases rest with
    | nil => cases e1
    | cons t rest =>
      rw [List.map_cons] at e1
      obtain ⟨rfl, rfl⟩ := List.cons.inj e1
      have htm : t ∈ us := by rw [e]; simp
      obtain ⟨hp, hq⟩ := ho t htm
      have hl := flat_len H.h.ne
      rw [H.h.perm.length_eq] at hl
      have hnl := near_len hs t.1 t.2
      rw [H.h.perm.length_eq] at hnl
      have hnn : (near hs t.1 t.2).length ≤ hs.length := (List.filter_sublist (l := hs) (p := fun h => decide (t.1 ∈ h) || decide (t.2 ∈ h))).length_le
      refine g_tpS ?_
      refine pk_d' ⟨tx [t.1, t.2], rfl, rfl, ?_⟩
      rw [tx_signs]
      simp only [List.map_cons, List.map_nil]
      fail "evo"
      refine e_lcFilt (l := hs) (em := hd) (va := hd) (p := fun h => decide (t.1 ∈ h) || decide (t.2 ∈ h)) ?_ (by omega) ?_ ?_
      · exact i_lst rfl
      · intro h _
        fail "evo"
        refine ⟨rfl, ?_⟩
        unfold hd
        fail "evo"
        refine ⟨_, rfl, fun z => ?_, fun z => ?_⟩
        · fail "evo"
          refine ⟨by rw [show decide (t.1 ∈ h) = false from z]; rfl, rfl, fun _ => ?_⟩
          fail "evo"
          exact ⟨rfl, rfl⟩
        · fail "evo"
          refine ⟨by rw [show decide (t.1 ∈ h) = true from z]; rfl, rfl, fun _ => ?_⟩
          fail "evo"
          exact ⟨rfl, rfl⟩
      fail "evo"
      refine e_joinLt ?_
      fail "evo"
      refine e_joinTx ?_
      fail "evo"
      refine ⟨near hs t.1 t.2, rfl, by omega, ?_⟩
      obtain ⟨w, ew, hw, _⟩ := sort_lt (near hs t.1 t.2).flatten
      have hwl := hw.length_eq
      fail "evo"
      refine .of (a := .new (.lst (w.map lt))) ?_ ?_
      · show (if (tx (near hs t.1 t.2).flatten).cps.size ≤ sizeLine then some (signs (tx (near hs t.1 t.2).flatten)) else none).bind _ = _
        rw [if_pos (by rw [tx_size, sizeLine_val]; omega), tx_signs]
        show (if ((near hs t.1 t.2).flatten.map lt).length ≤ sizeLine then (sortL ((near hs t.1 t.2).flatten.map lt)).map _ else none) = _
        rw [if_pos (by rw [List.length_map, sizeLine_val]; omega), ew]; rfl
      fail "evo"
      refine ⟨w, rfl, by omega, ?_⟩
      fail "evo"
      refine e_lcFilt (l := hs) (em := hd) (va := hd) (p := fun h => !decide (h ∈ near hs t.1 t.2)) ?_ (by omega) ?_ ?_
      · exact i_lst rfl
      · intro h _
        fail "evo"
        refine ⟨rfl, ?_⟩
        fail "evo"
        refine .of (nin_tx (a := h) (hs := near hs t.1 t.2)) ?_
        fail "evo"
        refine ⟨rfl, rfl, fun _ => ?_⟩
        fail "evo"
        exact ⟨rfl, rfl⟩
      fail "evo"
      have hjl : ((hs.filter fun h => !decide (h ∈ near hs t.1 t.2)).map hd).length ≤ hs.length := by
        rw [List.length_map]; exact (List.filter_sublist).length_le
      refine .of (a := .new (.lst ((joinH w hs t.1 t.2).map hd))) ?_ ?_
      · show (if [hd w].length + ((hs.filter fun h => !decide (h ∈ near hs t.1 t.2)).map hd).length ≤ sizeLine then some (O1.new (.lst ([hd w] ++ (hs.filter fun h => !decide (h ∈ near hs t.1 t.2)).map hd))) else none) = _
        rw [if_pos (by rw [sizeLine_val, List.length_singleton]; omega)]
        rfl
      fail "evo"
      exact .inl ⟨.inl rfl, rfl, done ++ [t], rest, joinH w hs t.1 t.2, _, _, _, _, by rw [e]; simp, rfl, H.join hp hq hw, rfl⟩
  · rintro ρ S1 ⟨rfl, done, rest, hs, k3, k4, k5, k6, e, e1, H, rfl⟩
    have : rest = [] := by simpa using e1.symm
    subst this
    rw [List.append_nil] at e
    subst e
    have hl := flat_len H.h.ne
    rw [H.h.perm.length_eq] at hl
    obtain ⟨gs, eg, hg⟩ := sort_tx hs
    fail "evo"
    refine .of (a := .new (.lst (gs.map hd))) ?_ ?_
    · show (if (hs.map hd).length ≤ sizeLine then (sortL (hs.map hd)).map _ else none) = _
      rw [if_pos (by rw [List.length_map, sizeLine_val]; omega), show sortL (hs.map hd) = _ from eg]
      rfl
    fail "evo"
    exact ⟨List.take_length, gs, rfl, by rw [hg.length_eq]; exact H.count hn ho⟩
/-- ties of a lot -/
def tat (ts : List (Nat × Nat)) (lot : List Nat) : List (Nat × Nat) := lot.map fun k => ts.getD k (0, 0)
/-- lots: ascending indexes -/
structure Lot (m : Nat) (lot : List Nat) : Prop where
  up : lot.Pairwise (· < ·)
  lt : ∀ k ∈ lot, k < m
theorem Lot.len {m : Nat} {lot : List Nat} (h : Lot m lot) : lot.length ≤ m := by
  have := len_sub (l := lot) (m := List.range m) (h.up.imp fun h => by omega) fun x hx => List.mem_range.mpr (h.lt x hx)
  rwa [List.length_range] at this
theorem tat_on {m : Nat} {lot : List Nat} (W : WOk ps ts) (h : ∀ k ∈ lot, k < ts.length) : On ps (tat ts lot) := by
  intro t ht
  obtain ⟨k, hk, rfl⟩ := List.mem_map.mp ht
  have hk := h k hk
  have hm : ts.getD k (0, 0) ∈ ts := by
    rw [List.getD_eq_getElem?_getD, List.getElem?_eq_getElem hk]
    exact List.getElem_mem _
  exact ⟨(W.ok _ hm).1, (W.ok _ hm).2.1⟩
theorem ties_of_ok {lot : List Nat} (h6 : lot.length ≤ 6) (hl : ∀ k ∈ lot, k < ts.length) : f_ties_of [.d (web ps ts), .d (.tup (lot.map nt))] S = some (.new (.lst ((tat ts lot).map tie)), S) := by
  refine G2.eq ?_
  unfold f_ties_of b_ties_of web
  fail "evo"
  refine e_lcMap (l := lot) (em := nt) (va := fun k => tie (ts.getD k (0, 0))) ?_ (by omega) ?_ ?_
  · refine G2.eq ?_
    fail "evo"
    exact ⟨rfl, rfl⟩
  · intro k hk
    have hk := hl k hk
    fail "evo"
    refine ⟨rfl, ?_⟩
    fail "evo"
    refine .of (ix_tup' (f := tie) (m := ts) (k := k) rfl hk) ?_
    fail "evo"
    rw [show ts.getD k (0, 0) = ts[k] by rw [List.getD_eq_getElem?_getD, List.getElem?_eq_getElem hk]; rfl]
    exact ⟨rfl, rfl⟩
  fail "evo"
  exact ⟨by unfold tat; rw [List.map_map]; rfl, List.take_length⟩
end
end Law10
set_option Elab.async false
set_option linter.all false
set_option maxRecDepth 100000
set_option maxHeartbeats 400000
/-! Own text: ranks of lots, trees, as the program tells them. -/
namespace Law10
open PySem L2 Ev Gr
section
variable {ps : List Nat} {ts : List (Nat × Nat)} {S : Sto} {lot : List Nat}
theorem WOk.nodup (W : WOk ps ts) : ps.Nodup := W.up.imp fun h => by omega
theorem pieces_ok (W : WOk ps ts) (h6 : lot.length ≤ 6) (hl : ∀ k ∈ lot, k < ts.length) : G2 (f_pieces_of [.d (web ps ts), .d (.tup (lot.map nt))] S) fun r S' => S' = S ∧ ∃ gs : List (List Nat), r = .new (.lst (gs.map hd)) ∧ gs.length = ps.length - rk ps (tat ts lot) := by
  unfold f_pieces_of b_pieces_of
  fail "evo"
  refine .of (ties_of_ok h6 hl) ?_
  fail "evo"
  refine (herds_ok W.few W.nodup (tat_on (m := 0) W hl) (by unfold tat; rw [List.length_map]; exact h6)).mono ?_
  rintro r S1 ⟨rfl, gs, rfl, hg⟩
  fail "evo"
  exact ⟨List.take_length, gs, rfl, hg⟩
theorem rk_le_ps : rk ps (tat ts lot) ≤ ps.length := by unfold rk; omega
theorem rank_ok (W : WOk ps ts) (h6 : lot.length ≤ 6) (hl : ∀ k ∈ lot, k < ts.length) : f_rank_of [.d (web ps ts), .d (.tup (lot.map nt))] S = some (.val (.d (.int (rk ps (tat ts lot) : Int))), S) := by
  refine G2.eq ?_
  have h4 := W.few
  unfold f_rank_of b_rank_of
  fail "evo"
  refine (pieces_ok W h6 hl).mono ?_
  rintro r S1 ⟨rfl, gs, rfl, hg⟩
  fail "evo"
  refine ⟨?_, List.take_length⟩
  rw [List.length_map, hg]
  have := rk_le_ps (ps := ps) (ts := ts) (lot := lot)
  congr 3
  omega
theorem spare_ok (W : WOk ps ts) (h6 : lot.length ≤ 6) (hl : ∀ k ∈ lot, k < ts.length) : f_spare_of [.d (web ps ts), .d (.tup (lot.map nt))] S = some (.val (.d (.int ((lot.length : Int) - (rk ps (tat ts lot) : Int)))), S) := by
  refine G2.eq ?_
  unfold f_spare_of b_spare_of
  fail "evo"
  refine .of (rank_ok W h6 hl) ?_
  fail "evo"
  exact ⟨by rw [List.length_map], List.take_length⟩
theorem len_web {ρ : Rho} {i : Nat} {P : Res → Sto → Prop} (e : ρ[i]? = some (some (.d (web ps ts)))) (h6 : ts.length ≤ 6) (h : P (.val (.d (.int (ts.length : Int)))) S) : G2 (fLenO "Web" f_len (fVar i) ρ S) P :=
  e_lenI (e_var e ⟨_, rfl, .of len_ok ⟨_, rfl, ⟨by omega, by omega⟩, h⟩⟩)
theorem every_ok (h6 : ts.length ≤ 6) : f_every_tie [.d (web ps ts)] S = some (.val (.d (.tup ((List.range ts.length).map nt))), S) := by
  refine G2.eq ?_
  unfold f_every_tie b_every_tie
  fail "evo"
  refine e_rgX (len_web rfl h6 ?_)
  fail "evo"
  exact ⟨ts.length, rfl, by omega, _, .inl rfl, .of (a := .val (.d (.tup ((List.range ts.length).map nt)))) rfl ⟨rfl, List.take_length⟩⟩
theorem tat_all : tat ts (List.range ts.length) = ts := by
  unfold tat
  exact (map_range (m := ts) (d := (0, 0)) (f := fun t => t) rfl).trans (List.map_id _)
/-- a lot is a tree -/
def isT (ps : List Nat) (ts : List (Nat × Nat)) (lot : List Nat) : Bool := decide (lot.length = rk ps ts) && decide (rk ps (tat ts lot) = rk ps ts)
end
end Law10
set_option Elab.async false
set_option linter.all false
set_option maxRecDepth 100000
set_option maxHeartbeats 400000
/-! Own text: the law's own ranks. -/
namespace Law10
open PySem L2 Ev Gr
def ky (p : Nat) : Key := .inr (tx [p])
theorem ky_inj {p q : Nat} : ky p = ky q ↔ p = q := by
  unfold ky
  constructor
  · intro e
    have e := Sum.inr.inj e
    rw [tx_inj] at e
    exact (List.cons.inj e).1
  · rintro rfl; rfl
/-- heads of places -/
def dk (ps : List Nat) (f : Nat → Nat) : List (Key × D) := ps.map fun p => (ky p, lt (f p))
theorem dk_get {f : Nat → Nat} {p : Nat} : ∀ {ps : List Nat}, p ∈ ps → valD (dk ps f) (ky p) = some (lt (f p))
  | a :: ps, h => by
    unfold valD dk
    rw [List.map_cons, List.find?_cons]
    by_cases e : a = p
    · subst e
      rw [decide_eq_true rfl]; rfl
    · rw [decide_eq_false fun z => e (ky_inj.mp z)]
      have hp : p ∈ ps := (List.mem_cons.mp h).resolve_left fun z => e z.symm
      exact dk_get hp
theorem dk_put {f : Nat → Nat} {p v : Nat} {ps : List Nat} (h : p ∈ ps) : putD2 (dk ps f) (ky p) (lt v) = dk ps (fun q => if q = p then v else f q) := by
  unfold putD2
  rw [if_pos]
  · unfold dk
    rw [List.map_map]
    refine List.map_congr_left fun q _ => ?_
    show (if ky q = ky p then (ky q, lt v) else (ky q, lt (f q))) = _
    by_cases e : q = p
    · rw [if_pos (ky_inj.mpr e)]; show _ = (ky q, lt (if q = p then v else f q)); rw [if_pos e]
    · rw [if_neg fun z => e (ky_inj.mp z)]; show _ = (ky q, lt (if q = p then v else f q)); rw [if_neg e]
  · refine List.any_eq_true.mpr ⟨(ky p, lt (f p)), List.mem_map_of_mem h, decide_eq_true rfl⟩
theorem merge_new : ∀ {more acc : List (Key × D)}, (acc ++ more).Pairwise (fun x y => x.1 ≠ y.1) → mergeD acc more = acc ++ more
  | [], acc, _ => by unfold mergeD; simp
  | m :: more, acc, h => by
    have e : putD2 acc m.1 m.2 = acc ++ [m] := by
      unfold putD2
      rw [if_neg]
      intro z
      obtain ⟨x, hx, e⟩ := List.any_eq_true.mp z
      exact (List.pairwise_append.mp h).2.2 x hx m List.mem_cons_self (of_decide_eq_true e)
    show mergeD (putD2 acc m.1 m.2) more = _
    rw [e, merge_new (by rw [List.append_assoc]; exact h), List.append_assoc]; rfl
theorem merge_dk {ps : List Nat} (hn : ps.Nodup) : mergeD [] (dk ps id) = dk ps id := by
  rw [merge_new, List.nil_append]
  rw [List.nil_append]
  unfold dk
  rw [List.pairwise_map]
  exact hn.imp fun h e => h (ky_inj.mp e)
theorem pairs_dk (ps : List Nat) : pairsD (ps.map fun p => .tup [lt p, lt p]) = some (dk ps id) := by
  induction ps with
  | nil => rfl
  | cons p ps ih =>
    show (keyD (lt p)).bind _ = _
    show ((pairsD (ps.map fun p => .tup [lt p, lt p])).map fun r => (ky p, lt p) :: r) = _
    rw [ih]; rfl
theorem dc_snoc (l : List Nat) (a : Nat) : dc (l ++ [a]) = if a ∈ l then dc l else dc l + 1 := by
  rw [show (if a ∈ l then dc l else dc l + 1) = dc (a :: l) from rfl]
  exact dc_same fun x => by simp [or_comm]
theorem cnt_dc (l : List Nat) : ∀ i, i ≤ l.length → cntS (l.map fun p => tx [p]) i = dc (l.take i)
  | 0, _ => by rw [List.take_zero]; rfl
  | i + 1, h => by
    have hi : i < l.length := by omega
    rw [List.take_succ_eq_append_getElem hi, dc_snoc]
    unfold cntS
    rw [cnt_dc l i (by omega)]
    have e : (((l.map fun p => tx [p]).take i).any (· == (l.map fun p => tx [p]).getD i Str.empty)) = decide (l[i] ∈ l.take i) := by
      rw [List.getD_eq_getElem?_getD, List.getElem?_map, List.getElem?_eq_getElem hi, ← List.map_take]
      show ((l.take i).map fun p => tx [p]).any (· == tx [l[i]]) = _
      rw [List.any_map, Bool.eq_iff_iff, List.any_eq_true, decide_eq_true_eq]
      constructor
      · rintro ⟨x, hx, e⟩
        have e : tx [x] = tx [l[i]] := eq_of_beq e
        rw [tx_inj] at e
        rw [← (List.cons.inj e).1]; exact hx
      · intro hx
        exact ⟨_, hx, beq_self_eq_true _⟩
    rw [e]
    by_cases z : l[i] ∈ l.take i
    · rw [if_pos z, if_pos (decide_eq_true z)]
    · rw [if_neg z, if_neg (by rw [decide_eq_false z]; decide)]
theorem strs_lt (l : List Nat) : strsOf (l.map lt) = some (l.map fun p => tx [p]) := by
  induction l with
  | nil => rfl
  | cons a l ih => rw [List.map_cons]; show (strsOf (l.map lt)).map _ = _; rw [ih]; rfl
section
variable {ps : List Nat} {us : List (Nat × Nat)} {S : Sto}
theorem idx_tie0 (t : Nat × Nat) : idxD (tie t) (.int 0) = some (lt t.1) := by
  show (if (tx [t.1, t.2]).length ≤ sizeLine then some (lt t.1) else none) = _
  rw [if_pos (by rw [tx_len, sizeLine_val]; simp)]
theorem idx_tie1 (t : Nat × Nat) : idxD (tie t) (.int 1) = some (lt t.2) := by
  show (if (tx [t.1, t.2]).length ≤ sizeLine then some (lt t.2) else none) = _
  rw [if_pos (by rw [tx_len, sizeLine_val]; simp)]
theorem pkc {i : Nat} {c : Cell} {S : Sto} (e : S[i]? = some c) : pk (.cell i) S = some c.toD := by show S[i]?.map Cell.toD = _; rw [e]; rfl
theorem min_tx {a b : Nat} : (if (tx [b]).cps.toList < (tx [a]).cps.toList then tx [b] else tx [a]) = tx [min a b] := by
  have h : some (O1.d (.str (if (tx [b]).cps.toList < (tx [a]).cps.toList then tx [b] else tx [a]))) = some (O1.d (lt (min a b))) := bi_min
  injection h with h
  injection h with h
  injection h
theorem max_tx {a b : Nat} : (if (tx [a]).cps.toList < (tx [b]).cps.toList then tx [b] else tx [a]) = tx [max a b] := by
  have h : some (O1.d (.str (if (tx [a]).cps.toList < (tx [b]).cps.toList then tx [b] else tx [a]))) = some (O1.d (lt (max a b))) := bi_max
  injection h with h
  injection h with h
  injection h
theorem dk_congr {f g : Nat → Nat} {ps : List Nat} (h : ∀ p ∈ ps, f p = g p) : dk ps f = dk ps g := List.map_congr_left fun p hp => by rw [h p hp]
def rRk (ps : List Nat) (A : D) (n : Nat) (k2 k4 k5 k6 : Option Val) : Rho := [some (.d (.str (tx ps))), some (.d A), k2, some (.cell n), k4, k5, k6]
theorem law_rank_ok {A : D} (hA : A = .tup (us.map tie) ∨ A = .lst (us.map tie)) (h4 : ps.length ≤ 4) (hn : ps.Nodup) (ho : On ps us) (hu : us.length ≤ 6) : f__law_rank [.d (.str (tx ps)), .d A] S = some (.val (.d (.int (rk ps us : Int))), S) := by
  refine G2.eq ?_
  unfold f__law_rank b__law_rank
  fail "evo"
  refine e_dictP ?_
  refine e_lcMap (l := ps) (em := lt) (va := fun p => .tup [lt p, lt p]) ?_ (by omega) ?_ ?_
  · refine G2.eq ?_
    fail "evo"
    refine .of (items_tx (by omega)) ?_
    exact ⟨rfl, rfl⟩
  · intro p _
    fail "evo"
    refine ⟨rfl, ?_⟩
    fail "evo"
    exact ⟨rfl, rfl⟩
  refine ⟨_, _, rfl, pairs_dk ps, ?_⟩
  rw [merge_dk hn]
  fail "evo"
  refine .of (a := us.map tie) (by rcases hA with rfl | rfl <;> rfl) ?_
  refine loop_inv (fun ds ρ S1 => ∃ (done rest : List (Nat × Nat)) (k2 k4 k5 k6 : Option Val), us = done ++ rest ∧ ds = rest.map tie ∧ ρ = rRk ps A S.length k2 k4 k5 k6 ∧ S1 = S ++ [.dct (dk ps (lab done))])
    ⟨[], us, none, none, none, none, rfl, rfl, rfl, rfl⟩ ?_ ?_
  · rintro d ds ρ S1 ⟨done, rest, k2, k4, k5, k6, e, e1, rfl, rfl⟩
    cases rest with
    | nil => cases e1
    | cons t rest =>
      rw [List.map_cons] at e1
      obtain ⟨rfl, rfl⟩ := List.cons.inj e1
      have htm : t ∈ us := by rw [e]; simp
      obtain ⟨hp, hq⟩ := ho t htm
      unfold rRk
      fail "evo"
      refine e_dget ?_
      fail "evo"
      refine ⟨_, lt t.1, ky t.1, _, pkc (at_end S _), rfl, rfl, dk_get hp, ?_⟩
      fail "evo"
      refine e_dget ?_
      fail "evo"
      refine ⟨_, lt t.2, ky t.2, _, pkc (at_end S _), rfl, rfl, dk_get hq, ?_⟩
      fail "evo"
      rw [min_tx]
      refine e_dget ?_
      fail "evo"
      refine ⟨_, lt t.1, ky t.1, _, pkc (at_end S _), rfl, rfl, dk_get hp, ?_⟩
      fail "evo"
      refine e_dget ?_
      fail "evo"
      refine ⟨_, lt t.2, ky t.2, _, pkc (at_end S _), rfl, rfl, dk_get hq, ?_⟩
      fail "evo"
      refine .of (items_tx (by omega)) ?_
      rw [max_tx]
      refine loop_inv (fun ds2 ρ S1 => ∃ (don rst : List Nat) (k2 : Option Val), ps = don ++ rst ∧ ds2 = rst.map lt ∧ ρ = rRk ps A S.length k2 (some (.d (tie t))) (some (.d (lt (min (lab done t.1) (lab done t.2))))) (some (.d (lt (max (lab done t.1) (lab done t.2))))) ∧
        S1 = S ++ [.dct (dk ps (fun p => if p ∈ don then mg (lab done) t p else lab done p))]) ⟨[], ps, _, rfl, rfl, rfl, ?_⟩ ?_ ?_
      · rw [dk_congr (g := lab done) fun p _ => by simp]; rfl
      · rintro d2 ds2 ρ S1 ⟨don, rst, k2, e3, e4, rfl, rfl⟩
        cases rst with
        | nil => cases e4
        | cons x rst =>
          rw [List.map_cons] at e4
          obtain ⟨rfl, rfl⟩ := List.cons.inj e4
          have hx : x ∈ ps := by rw [e3]; simp
          have hxd : x ∉ don := fun z => by
            rw [e3] at hn
            exact (List.nodup_append.mp hn).2.2 x z x List.mem_cons_self rfl
          unfold rRk
          fail "evo"
          refine e_dget ?_
          fail "evo"
          refine ⟨_, lt x, ky x, _, pkc (at_end S _), rfl, rfl, dk_get hx, ?_⟩
          rw [if_neg hxd]
          fail "evo"
          have nxt : ∀ g : Nat → Nat, (∀ p ∈ ps, g p = if p = x then mg (lab done) t x else if p ∈ don then mg (lab done) t p else lab done p) → dk ps g = dk ps (fun p => if p ∈ don ++ [x] then mg (lab done) t p else lab done p) := fun g hg => dk_congr fun p hp => by
            rw [hg p hp]
            by_cases z : p = x
            · subst z; simp
            · simp [z]
          refine ⟨fun z => ?_, fun z => ?_⟩
          · have z := of_decide_eq_true z
            refine s_dput' ?_
            fail "evo"
            refine ⟨_, _, lt x, ky x, rfl, at_end S _, rfl, rfl, ?_, ?_⟩
            · unfold dk; rw [List.length_map, sizeLine_val]; omega
            refine .inl ⟨.inl rfl, don ++ [x], rst, _, by rw [e3]; simp, rfl, rfl, ?_⟩
            rw [set_end, dk_put hx, nxt _ fun p _ => ?_]
            by_cases y : p = x
            · rw [if_pos y, if_pos y]; unfold mg; rw [if_pos z]
            · rw [if_neg y, if_neg y]
          · have z := of_decide_eq_false z
            fail "evo"
            refine .inl ⟨.inl rfl, don ++ [x], rst, _, by rw [e3]; simp, rfl, rfl, ?_⟩
            rw [← nxt _ fun p _ => ?_]
            by_cases y : p = x
            · subst y
              rw [if_neg hxd, if_pos rfl]; unfold mg; rw [if_neg z]
            · rw [if_neg y]
      · rintro ρ S1 ⟨don, rst, k2, e3, e4, rfl, rfl⟩
        have : rst = [] := by simpa using e4.symm
        subst this
        rw [List.append_nil] at e3
        refine .inl ⟨.inl rfl, done ++ [t], rest, _, _, _, _, by rw [e]; simp, rfl, rfl, ?_⟩
        rw [lab_snoc, dk_congr (g := mg (lab done) t) fun p hp => by rw [if_pos (e3 ▸ hp)]]
  · rintro ρ S1 ⟨done, rest, k2, k4, k5, k6, e, e1, rfl, rfl⟩
    have : rest = [] := by simpa using e1.symm
    subst this
    rw [List.append_nil] at e
    subst e
    unfold rRk
    fail "evo"
    refine e_lenSet ?_
    refine e_lcMap (l := ps) (em := lt) (va := fun p => lt (lab us p)) ?_ (by omega) ?_ ?_
    · refine G2.eq ?_
      fail "evo"
      refine .of (items_tx (by omega)) ?_
      exact ⟨rfl, rfl⟩
    · intro p hp
      fail "evo"
      refine ⟨rfl, ?_⟩
      fail "evo"
      refine e_dget ?_
      fail "evo"
      refine ⟨_, lt p, ky p, _, pkc (at_end S _), rfl, rfl, dk_get hp, ?_⟩
      fail "evo"
      exact ⟨rfl, rfl⟩
    refine ⟨_, (ps.map (lab us)).map fun p => tx [p], rfl, ?_, by simp; omega, ?_⟩
    · rw [show ps.map (fun p => lt (lab us p)) = (ps.map (lab us)).map lt by rw [List.map_map]; rfl, strs_lt]
    fail "evo"
    refine ⟨?_, List.take_left' rfl⟩
    have h1 := cnt_dc (ps.map (lab us)) (ps.map (lab us)).length (Nat.le_refl _)
    rw [List.take_length] at h1
    have h2 := dc_le (ps.map (lab us))
    rw [List.length_map] at h2
    rw [List.length_map, h1]
    unfold rk
    congr 3
    omega
end
end Law10
set_option Elab.async false
set_option linter.all false
set_option maxRecDepth 100000
set_option maxHeartbeats 400000
/-! Own text: the law's own lots and trees. -/
namespace Law10
open PySem PySem.SeqAt PySem.W L2 Ev Gr
/-- a lot as data -/
def tp (l : List Nat) : D := .tup (l.map nt)
theorem toPs_tp (L : List (List Nat)) : toPs (L.map tp) = some (L.map fun l => PyData.tuple (l.map fun n : Nat => PyData.int n)) := by
  induction L with
  | nil => rfl
  | cons l L ih =>
    rw [List.map_cons]
    show (match (toPs (l.map nt)).map PyData.tuple, toPs (L.map tp) with | some p, some ps => some (p :: ps) | _, _ => none) = _
    rw [toPs_nt, ih]; rfl
theorem alike_tp (l m : List Nat) : alike (PyData.tuple (l.map fun n : Nat => PyData.int n)) (PyData.tuple (m.map fun n : Nat => PyData.int n)) = true := by
  have h := PySem.W.alike_ints (l.map fun n : Nat => (n : Int)) (m.map fun n : Nat => (n : Int))
  rw [List.map_map, List.map_map] at h
  simp only [alike]
  exact h
theorem dep_tp (L : List (List Nat)) : PyData.depthAll (L.map fun l => PyData.tuple (l.map fun n : Nat => PyData.int n)) ≤ 1 := by
  induction L with
  | nil => exact Nat.zero_le _
  | cons l L ih =>
    show max (PyData.depthAll (l.map fun n : Nat => PyData.int n) + 1) _ ≤ 1
    rw [dep_nt]
    omega
theorem sort_tp (L : List (List Nat)) (h : L.length ≤ 16777216) : ∃ L' : List (List Nat), tupsD (L.map tp) = some (L'.map tp) ∧ L'.Perm L := by
  obtain ⟨L', e, hp⟩ := perm_of_map (f := tp) (l := L) (List.mergeSort_perm (L.map tp) (PySem.W.dataLe false encD)) rfl
  refine ⟨L', ?_, hp⟩
  unfold tupsD
  rw [toPs_tp, Option.bind_some, if_pos, e]
  refine ⟨?_, ?_, Nat.le_trans (dep_tp L) (by decide), by rw [List.length_map, sizeLine_val]; exact h⟩
  · refine List.all_eq_true.mpr fun p hp => List.all_eq_true.mpr fun q hq => ?_
    obtain ⟨l, _, rfl⟩ := List.mem_map.mp hp
    obtain ⟨m, _, rfl⟩ := List.mem_map.mp hq
    exact alike_tp l m
  · refine List.all_eq_true.mpr fun p hp => ?_
    obtain ⟨l, _, rfl⟩ := List.mem_map.mp hp
    rfl
theorem lot_succ {m : Nat} {lot : List Nat} : Lot (m + 1) lot ↔ Lot m lot ∨ ∃ l, Lot m l ∧ lot = l ++ [m] := by
  constructor
  · intro h
    by_cases z : m ∈ lot
    · refine .inr ?_
      obtain ⟨l, r, rfl⟩ := List.append_of_mem z
      have hr : r = [] := by
        cases r with
        | nil => rfl
        | cons x r =>
          have h1 := h.lt x (by simp)
          have h2 := (List.pairwise_append.mp h.up).2.1
          rw [List.pairwise_cons] at h2
          have := h2.1 x List.mem_cons_self
          omega
      subst hr
      refine ⟨l, ⟨(List.pairwise_append.mp h.up).1, fun k hk => ?_⟩, rfl⟩
      exact (List.pairwise_append.mp h.up).2.2 k hk m List.mem_cons_self
    · refine .inl ⟨h.up, fun k hk => ?_⟩
      have := h.lt k hk
      have : k ≠ m := fun e => z (e ▸ hk)
      omega
  · rintro (h | ⟨l, h, rfl⟩)
    · exact ⟨h.up, fun k hk => by have := h.lt k hk; omega⟩
    · refine ⟨List.pairwise_append.mpr ⟨h.up, by simp, fun a ha b hb => ?_⟩, fun k hk => ?_⟩
      · rw [List.mem_singleton] at hb
        have := h.lt a ha
        omega
      · rcases List.mem_append.mp hk with hk | hk
        · have := h.lt k hk; omega
        · rw [List.mem_singleton] at hk; omega
theorem law_lots_ok {S : Sto} {m : Nat} (h6 : m ≤ 6) : G2 (f__law_lots [.d (.int (m : Int))] S) fun r S' => S' = S ∧ ∃ L : List (List Nat), r = .new (.lst (L.map tp)) ∧ (∀ lot, lot ∈ L ↔ Lot m lot) ∧ L.length ≤ 64 := by
  unfold f__law_lots b__law_lots
  fail "evo"
  refine ⟨(m : Int), rfl, ⟨by omega, by omega⟩, ?_⟩
  rw [rgL_nat]
  refine loop_inv (fun ds ρ S1 => S1 = S ∧ ∃ (i : Nat) (L : List (List Nat)) (k2 : Option Val), ds = (List.range' i (m - i)).map nt ∧ i ≤ m ∧ (∀ lot, lot ∈ L ↔ Lot i lot) ∧ L.length = 2 ^ i ∧
    ρ = [some (.d (.int (m : Int))), some (.d (.lst (L.map tp))), k2, none]) ⟨rfl, 0, [[]], none, ?_, Nat.zero_le _, ?_, rfl, rfl⟩ ?_ ?_
  · rw [List.range_eq_range', Nat.sub_zero]
  · intro lot
    rw [List.mem_singleton]
    constructor
    · rintro rfl; exact ⟨.nil, fun k hk => nomatch hk⟩
    · intro h
      cases lot with
      | nil => rfl
      | cons k l => have := h.lt k List.mem_cons_self; omega
  · rintro d ds ρ S1 ⟨rfl, i, L, k2, e, hi, hL, hn, rfl⟩
    by_cases z : m - i = 0
    · rw [z] at e; cases e
    · rw [show m - i = (m - (i + 1)) + 1 by omega, List.range'_succ, List.map_cons] at e
      obtain ⟨rfl, rfl⟩ := List.cons.inj e
      have h64 : 2 ^ i ≤ 64 := Nat.le_trans (Nat.pow_le_pow_right (by omega) (show i ≤ 6 by omega)) (by decide)
      fail "evo"
      refine e_lcMap (l := L) (em := tp) (va := fun l => tp (l ++ [i])) ?_ (by omega) ?_ ?_
      · exact i_lst rfl
      · intro l hl
        fail "evo"
        refine ⟨rfl, ?_⟩
        unfold tp
        fail "evo"
        have hll := ((hL l).mp hl).len
        refine .of (a := .d (.tup ((l ++ [i]).map nt))) ?_ ?_
        · show (if _ ≤ sizeLine then some (O1.d (.tup (l.map nt ++ [nt i]))) else none) = _
          rw [if_pos (by rw [List.length_map, List.length_singleton, sizeLine_val]; omega), List.map_append]; rfl
        fail "evo"
        exact ⟨rfl, rfl⟩
      fail "evo"
      refine .of (a := .new (.lst ((L ++ L.map fun l => l ++ [i]).map tp))) ?_ ?_
      · show (if (L.map tp).length + (L.map fun l => tp (l ++ [i])).length ≤ sizeLine then some (O1.new (.lst (L.map tp ++ L.map fun l => tp (l ++ [i])))) else none) = _
        rw [if_pos (by rw [List.length_map, List.length_map, sizeLine_val]; omega), List.map_append, List.map_map]; rfl
      fail "evo"
      refine .inl ⟨.inl rfl, rfl, i + 1, L ++ L.map (fun l => l ++ [i]), _, rfl, by omega, fun lot => ?_, ?_, rfl⟩
      · rw [lot_succ, List.mem_append, List.mem_map, hL]
        constructor
        · rintro (h | ⟨l, h, rfl⟩)
          · exact .inl h
          · exact .inr ⟨l, (hL l).mp h, rfl⟩
        · rintro (h | ⟨l, h, rfl⟩)
          · exact .inl h
          · exact .inr ⟨l, (hL l).mpr h, rfl⟩
      · rw [List.length_append, List.length_map, hn, Nat.pow_succ]; omega
  · rintro ρ S1 ⟨rfl, i, L, k2, e, hi, hL, hn, rfl⟩
    have : m - i = 0 := by
      have := congrArg List.length e
      simpa using this.symm
    obtain rfl : i = m := by omega
    have h64 : 2 ^ i ≤ 64 := Nat.le_trans (Nat.pow_le_pow_right (by omega) h6) (by decide)
    obtain ⟨L', e2, hp⟩ := sort_tp L (by omega)
    fail "evo"
    refine e_sortT ?_
    fail "evo"
    refine ⟨_, _, rfl, e2, _, .inl rfl, ?_⟩
    refine .of (a := .new (.lst (L'.map tp))) rfl ?_
    exact ⟨List.take_length, L', rfl, fun lot => by rw [hp.mem_iff]; exact hL lot, by rw [hp.length_eq]; omega⟩
end Law10
set_option Elab.async false
set_option linter.all false
set_option maxRecDepth 100000
set_option maxHeartbeats 400000
/-! Own text: the law's own trees. -/
namespace Law10
open PySem L2 Ev Gr
section
variable {ps : List Nat} {ts : List (Nat × Nat)} {S : Sto}
theorem WOk.on (W : WOk ps ts) : On ps ts := fun t ht => ⟨(W.ok t ht).1, (W.ok t ht).2.1⟩
theorem law_trees_ok (W : WOk ps ts) : G2 (f__law_trees [.d (.str (tx ps)), .d (.tup (ts.map tie))] S) fun r S' => S' = S ∧ ∃ L : List (List Nat), r = .new (.lst (L.map tp)) ∧ (∀ lot, lot ∈ L ↔ Lot ts.length lot ∧ isT ps ts lot = true) ∧ L.length ≤ 64 := by
  have h4 := W.few
  have h6 := W.six
  unfold f__law_trees b__law_trees
  fail "evo"
  have e0 := fun S => law_rank_ok (S := S) (A := .tup (ts.map tie)) (us := ts) (.inl rfl) h4 W.nodup W.on h6
  refine st2 (xs' := [.d (.str (tx ps)), .d (.tup (ts.map tie))]) (S' := S) rfl rfl ?_
  have q0 := e0 S
  refine ⟨_, _, q0, ?_⟩
  fail "evo"
  rw [List.length_map]
  refine (law_lots_ok (m := ts.length) h6).mono ?_
  rintro r S1 ⟨rfl, L, rfl, hL, hl⟩
  fail "evo"
  refine loop_inv (fun ds ρ S1 => ∃ (don rst acc : List (List Nat)) (k4 : Option Val), L = don ++ rst ∧ ds = rst.map tp ∧ (∀ lot, lot ∈ acc ↔ lot ∈ don ∧ isT ps ts lot = true) ∧ acc.length ≤ don.length ∧
    ρ = [some (.d (.str (tx ps))), some (.d (.tup (ts.map tie))), some (.d (.int (rk ps ts : Int))), some (.cell S.length), k4, none] ∧ S1 = S ++ [.lst (acc.map tp)]) ⟨[], L, [], none, rfl, rfl, by simp, Nat.le_refl _, rfl, rfl⟩ ?_ ?_
  · rintro d ds ρ S1 ⟨don, rst, acc, k4, e, e1, hm, hc, rfl, rfl⟩
    cases rst with
    | nil => cases e1
    | cons l rst =>
      rw [List.map_cons] at e1
      obtain ⟨rfl, rfl⟩ := List.cons.inj e1
      have hl1 : Lot ts.length l := (hL l).mp (by rw [e]; simp)
      have hll := hl1.len
      have hdl : don.length + (rst.length + 1) = L.length := by rw [e]; simp
      have iff : isT ps ts l = (decide (((l.map nt).length : Int) = (rk ps ts : Int)) && decide (((rk ps (tat ts l) : Nat) : Int) = (rk ps ts : Int))) := by
        unfold isT
        rw [List.length_map]
        congr 1
        · exact decide_eq_decide.mpr (by omega)
        · exact decide_eq_decide.mpr (by omega)
      have skip : isT ps ts l = false → ∀ lot, lot ∈ acc ↔ lot ∈ don ++ [l] ∧ isT ps ts lot = true := fun z lot => by
        rw [hm, List.mem_append, List.mem_singleton]
        constructor
        · rintro ⟨h1, h2⟩; exact ⟨.inl h1, h2⟩
        · rintro ⟨h1 | rfl, h2⟩
          · exact ⟨h1, h2⟩
          · rw [z] at h2; cases h2
      have take : isT ps ts l = true → ∀ lot, lot ∈ acc ++ [l] ↔ lot ∈ don ++ [l] ∧ isT ps ts lot = true := fun z lot => by
        rw [List.mem_append, hm, List.mem_append, List.mem_singleton]
        constructor
        · rintro (⟨h1, h2⟩ | rfl)
          · exact ⟨.inl h1, h2⟩
          · exact ⟨.inr rfl, z⟩
        · rintro ⟨h1 | rfl, h2⟩
          · exact .inl ⟨h1, h2⟩
          · exact .inr rfl
      unfold tp
      fail "evo"
      refine ⟨_, rfl, fun z => ?_, fun z => ?_⟩
      · fail "evo"
        refine e_lcMap (l := l) (em := nt) (va := fun k => tie (ts.getD k (0, 0))) ?_ (by omega) ?_ ?_
        · refine G2.eq ?_
          fail "evo"
          exact ⟨rfl, rfl⟩
        · intro k hk
          have hk := hl1.lt k hk
          fail "evo"
          refine ⟨rfl, ?_⟩
          fail "evo"
          refine .of (ix_tup' (f := tie) (m := ts) (k := k) rfl hk) ?_
          fail "evo"
          rw [show ts.getD k (0, 0) = ts[k] by rw [List.getD_eq_getElem?_getD, List.getElem?_eq_getElem hk]; rfl]
          exact ⟨rfl, rfl⟩
        fail "evo"
        have e2 := fun S => law_rank_ok (S := S) (A := .lst ((tat ts l).map tie)) (us := tat ts l) (.inr rfl) h4 W.nodup (tat_on (m := 0) W hl1.lt) (by unfold tat; rw [List.length_map]; omega)
        rw [show (tat ts l).map tie = l.map (fun k => tie (ts.getD k (0, 0))) by unfold tat; rw [List.map_map]; rfl] at e2
        refine .of (e2 _) ?_
        fail "evo"
        refine ⟨fun y => ?_, fun y => ?_⟩
        · fail "evo"
          refine e_append ?_
          fail "evo"
          refine ⟨S.length, _, rfl, at_end S _, ?_⟩
          fail "evo"
          refine ⟨_, at_end S _, by rw [List.length_map, sizeLine_val]; omega, .inl ⟨.inl rfl, don ++ [l], rst, acc ++ [l], _, by rw [e]; simp, rfl, take (by rw [iff, y, Bool.and_true]; exact z), by rw [List.length_append, List.length_append]; simp; omega, rfl, ?_⟩⟩
          exact (set_end _ _ _).trans (by rw [List.map_append]; rfl)
        · fail "evo"
          refine .inl ⟨.inl rfl, don ++ [l], rst, acc, _, by rw [e]; simp, rfl, skip (by rw [iff, y, Bool.and_false]), by rw [List.length_append]; omega, rfl, rfl⟩
      · fail "evo"
        refine ⟨(fun y => nomatch y), fun _ => ?_⟩
        fail "evo"
        exact .inl ⟨.inl rfl, don ++ [l], rst, acc, _, by rw [e]; simp, rfl, skip (by rw [iff, z, Bool.false_and]), by rw [List.length_append]; omega, rfl, rfl⟩
  · rintro ρ S1 ⟨don, rst, acc, k4, e, e1, hm, hc, rfl, rfl⟩
    have : rst = [] := by simpa using e1.symm
    subst this
    rw [List.append_nil] at e
    subst e
    fail "evo"
    refine trunc_c (Nat.le_refl _) (at_end S _) ?_
    exact ⟨List.take_left' rfl, acc, rfl, fun lot => by rw [hm, hL], by omega⟩
/-- there is a tree -/
theorem tree_ex (W : WOk ps ts) : ∃ lot, Lot ts.length lot ∧ isT ps ts lot = true := by
  have key : ∀ i, i ≤ ts.length → ∃ lot, Lot i lot ∧ lot.length = rk ps (ts.take i) ∧ (∀ p q, Cn (tat ts lot) p q ↔ Cn (ts.take i) p q) := by
    intro i
    induction i with
    | zero =>
      intro _
      refine ⟨[], ⟨.nil, fun k hk => nomatch hk⟩, ?_, fun p q => ?_⟩
      · rw [List.take_zero, rk_nil W.nodup]; rfl
      · rw [List.take_zero]; rfl
    | succ i ih =>
      intro hi
      obtain ⟨lot, h1, h2, h3⟩ := ih (by omega)
      have hlt : i < ts.length := by omega
      have hon := W.on ts[i] (List.getElem_mem hlt)
      rw [List.take_succ_eq_append_getElem hlt]
      by_cases z : Cn (ts.take i) ts[i].1 ts[i].2
      · refine ⟨lot, lot_succ.mpr (.inl h1), ?_, fun p q => ?_⟩
        · rw [h2]; exact (rk_snoc_in z).symm
        · rw [h3]
          exact ⟨fun c => c.mono fun t ht => List.mem_append_left _ ht, fun c => c.absorb fun t ht => by
            rcases List.mem_append.mp ht with ht | ht
            · exact .fwd (.refl _) ht
            · rw [List.mem_singleton] at ht; subst ht; exact z⟩
      · refine ⟨lot ++ [i], lot_succ.mpr (.inr ⟨lot, h1, rfl⟩), ?_, fun p q => ?_⟩
        · rw [List.length_append, List.length_singleton, h2]; exact (rk_snoc_out hon.1 hon.2 z).symm
        · have e : tat ts (lot ++ [i]) = tat ts lot ++ [(ts[i].1, ts[i].2)] := by
            unfold tat
            rw [List.map_append, List.map_cons, List.map_nil, List.getD_eq_getElem?_getD, List.getElem?_eq_getElem hlt]; rfl
          rw [e, show [ts[i]] = [(ts[i].1, ts[i].2)] from rfl, cn_snoc, cn_snoc, h3, h3, h3, h3, h3]
  obtain ⟨lot, h1, h2, h3⟩ := key ts.length (Nat.le_refl _)
  rw [List.take_length] at h2 h3
  refine ⟨lot, h1, ?_⟩
  unfold isT
  rw [rk_same (ps := ps) (ts := tat ts lot) (us := ts) fun p _ q _ => h3 p q, decide_eq_true h2, decide_eq_true rfl]; rfl
end
end Law10
set_option Elab.async false
set_option linter.all false
set_option maxRecDepth 100000
set_option maxHeartbeats 400000
/-! Own text: what the law draws. -/
namespace Law10
open PySem L2 Ev Gr
/-- the pot -/
def pw (a b c : Int) : Cell := .lst [.int a, .int b, .int c]
theorem dip_ok {a b c m : Int} {T : Sto} (h0 : 0 < m) (h1 : m < 1073741824) :
    G2 (f__law_dip [.cell 0, .d (.int m)] (pw a b c :: T)) fun r S => ∃ a' b' c' x : Int, (0 ≤ x ∧ x < m) ∧ r = .val (.d (.int x)) ∧ S = pw a' b' c' :: T := by
  unfold f__law_dip b__law_dip
  fail "evo"
  refine ⟨fun hb => ?_, fun hb => ?_⟩
  · fail "evo"
    refine ⟨_, rfl, rfl, ?_⟩
    fail "evo"
    exact ⟨_, _, _, _, ⟨Int.emod_nonneg _ (by omega), Int.emod_lt_of_pos _ h0⟩, rfl, take_full⟩
  · fail "evo"
    exact ⟨_, _, _, _, ⟨Int.emod_nonneg _ (by omega), Int.emod_lt_of_pos _ h0⟩, rfl, take_full⟩
theorem any_str {a b c : Int} {T : Sto} {l : List Nat} (h0 : l ≠ []) (h1 : l.length < 1000000) :
    G2 (f__law_any [.cell 0, .d (.str (tx l))] (pw a b c :: T)) fun r S => ∃ (a' b' c' : Int) (k : Nat), k ∈ l ∧ r = .val (.d (lt k)) ∧ S = pw a' b' c' :: T := by
  have hp : 0 < l.length := List.length_pos_iff.mpr h0
  unfold f__law_any b__law_any
  fail "evo"
  refine (dip_ok (by omega) (by omega)).mono ?_
  rintro r S ⟨a', b', c', x, hx, rfl, rfl⟩
  fail "evo"
  refine o_idxStr (n := x.toNat) (by omega) (by omega) (by omega) ?_
  fail "evo"
  exact ⟨_, _, _, _, List.getElem_mem _, rfl, take_full⟩
theorem any_lot {a b c : Int} {T : Sto} {L : List (List Nat)} (h0 : L ≠ []) (h1 : L.length < 1000000) :
    G2 (f__law_any [.cell 0, .d (.lst (L.map tp))] (pw a b c :: T)) fun r S => ∃ (a' b' c' : Int) (l : List Nat), l ∈ L ∧ r = .val (.d (.tup (l.map nt))) ∧ S = pw a' b' c' :: T := by
  have hp : 0 < L.length := List.length_pos_iff.mpr h0
  unfold f__law_any b__law_any
  fail "evo"
  rw [List.length_map]
  refine (dip_ok (m := (L.length : Int)) (by omega) (by omega)).mono ?_
  rintro r S ⟨a', b', c', x, hx, rfl, rfl⟩
  fail "evo"
  refine .of (ix_lst' (k := x.toNat) (by omega) (by omega)) ?_
  fail "evo"
  exact ⟨_, _, _, _, List.getElem_mem _, rfl, take_full⟩
theorem pot_ok {ns : List Int} {k : Nat} (hk : k < 64) : G2 (f__law_pot [.d (.scr (ns.map .int)), .d (.int (k : Int))] []) fun r S => S = [] ∧ ∃ a b c : Int, r = .new (pw a b c) := by
  unfold f__law_pot b__law_pot
  refine f_of ?_
  refine s_seq' ?_
  refine G3.mono (P := fun o ρ S => o = .nx ∧ S = [] ∧ ∃ (i : Int) (k3 k4 : Option Val), ρ = [some (.d (.scr (ns.map .int))), some (.d (.int (k : Int))), some (.d (.int i)), k3, k4]) ?_ ?_
  · fail "evo"
    refine ⟨fun h => ?_, fun h => ?_⟩
    · have h : (k : Int) < ns.length := by simpa using h
      have hk : k < ns.length := by omega
      fail "evo"
      refine .of (a := .int ns[k]) ?_ ?_
      · show atI (ns.map D.int) (k : Int) = _
        rw [atI_nat rfl (by rw [List.length_map]; exact hk), List.getElem?_map, List.getElem?_eq_getElem hk]
        rfl
      fail "evo"
      exact ⟨rfl, rfl, _, _, _, rfl⟩
    · fail "evo"
      exact ⟨rfl, rfl, _, _, _, rfl⟩
  rintro o ρ S ⟨rfl, rfl, i, k3, k4, rfl⟩
  refine sq_nx ?_
  fail "evo"
  refine e_slc_none ?_
  fail "evo"
  refine ⟨6, rfl, ?_⟩
  fail "evo"
  refine loop_inv (fun ds ρ S => (∀ d ∈ ds, ∃ j : Int, d = .int j) ∧ S = [] ∧ ∃ (j : Int) (k4 : Option Val), ρ = [some (.d (.scr (ns.map .int))), some (.d (.int (k : Int))), some (.d (.int i)), some (.d (.int j)), k4]) ⟨?_, rfl, _, _, rfl⟩ ?_ ?_
  · intro d hd
    obtain ⟨j, _, rfl⟩ := List.mem_map.mp (show d ∈ ns.map D.int from List.mem_of_mem_drop (List.mem_of_mem_take hd))
    exact ⟨j, rfl⟩
  · rintro d ds ρ S ⟨hds, rfl, j, k4, rfl⟩
    obtain ⟨x, rfl⟩ := hds d List.mem_cons_self
    fail "evo"
    exact .inl ⟨.inl rfl, fun d hd => hds d (List.mem_cons_of_mem _ hd), rfl, _, _, rfl⟩
  rintro ρ S ⟨_, rfl, j, k4, rfl⟩
  fail "evo"
  refine ⟨_, rfl, fun z => ?_, fun z => ?_⟩
  · fail "evo"
    refine ⟨fun z => ?_, fun z => ?_⟩
    · fail "evo"
      exact ⟨rfl, _, _, _, rfl⟩
    · fail "evo"
      exact ⟨rfl, _, _, _, rfl⟩
  · fail "evo"
    refine ⟨fun z => ?_, fun z => ?_⟩
    · fail "evo"
      exact ⟨rfl, _, _, _, rfl⟩
    · fail "evo"
      exact ⟨rfl, _, _, _, rfl⟩
end Law10
set_option Elab.async false
set_option linter.all false
set_option maxRecDepth 100000
set_option maxHeartbeats 1600000
/-! Own text : the drawn web. -/
namespace Law10
open PySem L2 Ev Gr
theorem erase_permD {α : Type} {l : List α} {n : Nat} (h : n < l.length) : ([l[n]] ++ l.eraseIdx n).Perm l := by
  induction l generalizing n with
  | nil => cases h
  | cons a l ih =>
    cases n with
    | zero => exact .refl _
    | succ n =>
      have := ih (n := n) (by simpa using h)
      refine .trans (List.Perm.swap _ _ _) ?_
      exact this.cons a
theorem map_er {α β : Type} (f : α → β) (l : List α) (n : Nat) : (l.map f).eraseIdx n = (l.eraseIdx n).map f := by
  induction l generalizing n with
  | nil => rfl
  | cons a l ih =>
    cases n with
    | zero => rfl
    | succ n =>
      show f a :: (l.map f).eraseIdx n = f a :: (l.eraseIdx n).map f
      rw [ih]
theorem idx_ps {ps : List Nat} {k : Nat} {i : Int} (e : i = (k : Int)) (hk : k < ps.length) (h4 : ps.length ≤ 4) : idxD (.str (tx ps)) (.int i) = some (lt (ps.getD k 0)) := by
  have h : G1 (idxD (.str (tx ps)) (.int i)) fun a => a = lt (ps.getD k 0) := o_idxStr (n := k) (by omega) e hk (by rw [List.getD_eq_getElem?_getD, List.getElem?_eq_getElem hk]; rfl)
  exact h.eq
def dD : StF := (sIf (fCmp .eq (fCall f__law_dip [(true, (fVar 0)), (false, (fCst (.int (2))))]) (fCst (.int (0)))) (sAsg true (fLc (iRng1 (fBop .sub (fLenO "Web" f_len (fVar 7)) (fCst (.int (1))))) (gNm 10) none (fBop .add (fIdx (fVar 7) (fVar 10)) (fIdx (fVar 7) (fBop .add (fVar 10) (fCst (.int (1)))))) [10]) (gNm 5)) sNx)
def dE1 : StF := (sPar false false (fCall f__law_any [(true, (fVar 0)), (false, (fVar 7))]) (fCall f__law_any [(true, (fVar 0)), (false, (fVar 7))]) (gNm 8) (gNm 9))
def dE2 : StF := (sIf (fAnd (fCmp .eq (fVar 8) (fVar 9)) (fCmp .gt (fCall f__law_dip [(true, (fVar 0)), (false, (fCst (.int (3))))]) (fCst (.int (0))))) (sAsg false (fCall f__law_any [(true, (fVar 0)), (false, (fVar 7))]) (gNm 9)) sNx)
def dE3 : StF := (sExp (fIns (fVar 5) (fCall f__law_dip [(true, (fVar 0)), (false, (fBop .add (fLenO "Web" f_len (fVar 5)) (fCst (.int (1)))))]) (fBop .add (fBi .min [(fVar 8), (fVar 9)]) (fBi .max [(fVar 8), (fVar 9)]))))
def dE : StF := sSeq dE1 (sSeq dE2 dE3)
theorem parts_eq : b__law_parts = sSeq (sPar3 true true true (fBi .list [(fCst (.str "abcdefgh"))]) (fLst []) (fLst []) 3 4 5) (sSeq (sFor (iRng1 (fBop .add (fCst (.int (1))) (fCall f__law_dip [(true, (fVar 0)), (false, (fVar 1))]))) (gNm 6) (sExp (fAppend (fVar 4) (fPopAt (fVar 3) (fCall f__law_dip [(true, (fVar 0)), (false, (fLenO "Web" f_len (fVar 3)))]))))) (sSeq (sAsg false (fJoin (fCst (.str "")) (fBi .sorted [(fVar 4)])) (gNm 7)) (sSeq dD (sSeq (sFor (iRng1 (fCall f__law_dip [(true, (fVar 0)), (false, (fBop .sub (fBop .add (fVar 2) (fCst (.int (1)))) (fLenO "Web" f_len (fVar 5))))])) (gNm 6) dE) (sRet (fTup [(fVar 7), (fBi .tuple [(fVar 5)])])))))) := rfl

section
variable {ps : List Nat} {mid : Sto} {a b c : Int} {ts : List (Nat × Nat)} {k6 k8 k9 : Option Val}
def rP (ps : List Nat) (n : Nat) (k6 k8 k9 : Option Val) : Rho := [some (.cell 0), some (.d (.int 4)), some (.d (.int 6)), some (.cell 1), some (.cell 2), some (.cell (n + 1)), k6, some (.d (.str (tx ps))), k8, k9, none]
theorem e1_ok (ne : ps ≠ []) (h4 : ps.length ≤ 4) : G3 (dE1 (rP ps mid.length k6 k8 k9) (pw a b c :: (mid ++ [.lst (ts.map tie)]))) fun o ρ S => o = .nx ∧ ∃ (a b c : Int) (p q : Nat), p ∈ ps ∧ q ∈ ps ∧ ρ = rP ps mid.length k6 (some (.d (lt p))) (some (.d (lt q))) ∧ S = pw a b c :: (mid ++ [.lst (ts.map tie)]) := by
  unfold dE1 rP
  fail "evo"
  refine st2 (xs' := [.cell 0, .d (.str (tx ps))]) (S' := pw a b c :: (mid ++ [.lst (ts.map tie)])) rfl rfl ?_
  refine (any_str (l := ps) ne (by omega)).mono ?_
  rintro r S ⟨a, b, c, p, hp1, rfl, rfl⟩
  fail "evo"
  refine st2 (xs' := [.cell 0, .d (.str (tx ps))]) (S' := pw a b c :: (mid ++ [.lst (ts.map tie)])) rfl rfl ?_
  refine (any_str (l := ps) ne (by omega)).mono ?_
  rintro r S ⟨a, b, c, q, hq1, rfl, rfl⟩
  fail "evo"
  exact ⟨rfl, a, b, c, p, q, hp1, hq1, rfl, rfl⟩
theorem e2_ok {p q : Nat} (ne : ps ≠ []) (h4 : ps.length ≤ 4) (hq : q ∈ ps) : G3 (dE2 (rP ps mid.length k6 (some (.d (lt p))) (some (.d (lt q)))) (pw a b c :: (mid ++ [.lst (ts.map tie)]))) fun o ρ S => o = .nx ∧ ∃ (a b c : Int) (q : Nat), q ∈ ps ∧ ρ = rP ps mid.length k6 (some (.d (lt p))) (some (.d (lt q))) ∧ S = pw a b c :: (mid ++ [.lst (ts.map tie)]) := by
  unfold dE2 rP
  fail "evo"
  refine ⟨_, rfl, fun z => ?_, fun z => ?_⟩
  · fail "evo"
    refine st2 (xs' := [.cell 0, .d (.int 3)]) (S' := pw a b c :: (mid ++ [.lst (ts.map tie)])) rfl rfl ?_
    refine (dip_ok (m := 3) (by omega) (by omega)).mono ?_
    rintro r S ⟨a, b, c, x, hx, rfl, rfl⟩
    fail "evo"
    refine ⟨fun z => ?_, fun z => ?_⟩
    · fail "evo"
      refine st2 (xs' := [.cell 0, .d (.str (tx ps))]) (S' := pw a b c :: (mid ++ [.lst (ts.map tie)])) rfl rfl ?_
      refine (any_str (l := ps) ne (by omega)).mono ?_
      rintro r S ⟨a, b, c, q, hq1, rfl, rfl⟩
      fail "evo"
      exact ⟨rfl, a, b, c, q, hq1, rfl, rfl⟩
    · fail "evo"
      exact ⟨rfl, a, b, c, q, hq, rfl, rfl⟩
  · fail "evo"
    refine ⟨(fun z => nomatch z), fun _ => ?_⟩
    fail "evo"
    exact ⟨rfl, a, b, c, q, hq, rfl, rfl⟩
theorem e3_ok {p q : Nat} (hp : p ∈ ps) (hq : q ∈ ps) (hts : TsOk ps ts) (h6 : ts.length < 6) : G3 (dE3 (rP ps mid.length k6 (some (.d (lt p))) (some (.d (lt q)))) (pw a b c :: (mid ++ [.lst (ts.map tie)]))) fun o ρ S => o = .nx ∧ ∃ (a b c : Int) (ts' : List (Nat × Nat)), TsOk ps ts' ∧ ts'.length = ts.length + 1 ∧ ρ = rP ps mid.length k6 (some (.d (lt p))) (some (.d (lt q))) ∧ S = pw a b c :: (mid ++ [.lst (ts'.map tie)]) := by
  unfold dE3 rP
  fail "evo"
  refine e_ins ?_
  fail "evo"
  refine ⟨(pw a b c :: mid).length, _, rfl, at_end (pw a b c :: mid) _, ?_⟩
  fail "evo"
  refine pk_sc (at_end (pw a b c :: mid) _) ?_
  refine ⟨(fun c fs e => nomatch e), ?_⟩
  fail "evo"
  rw [List.length_map]
  refine st2 (xs' := [.cell 0, .d (.int ((ts.length : Int) + 1))]) (S' := pw a b c :: (mid ++ [.lst (ts.map tie)])) rfl rfl ?_
  refine (dip_ok (m := (ts.length : Int) + 1) (by omega) (by omega)).mono ?_
  rintro r S ⟨a, b, c, x, hx, rfl, rfl⟩
  fail "evo"
  rw [min_tx, max_tx]
  refine .of bop_lt ?_
  fail "evo"
  refine ⟨_, x, at_end (pw a b c :: mid) _, rfl, by rw [List.length_map, sizeLine_val]; omega, hx.1, by omega, rfl, a, b, c, ts.take x.toNat ++ [(min p q, max p q)] ++ ts.drop x.toNat, ?_, ?_, rfl, ?_⟩
  · intro t ht
    rcases List.mem_append.mp ht with ht | ht
    · rcases List.mem_append.mp ht with ht | ht
      · exact hts t (List.mem_of_mem_take ht)
      · rw [List.mem_singleton] at ht
        subst ht
        refine ⟨?_, ?_, by show min p q ≤ max p q; omega⟩
        · rcases Nat.le_total p q with z | z
          · show min p q ∈ ps; rw [Nat.min_eq_left z]; exact hp
          · show min p q ∈ ps; rw [Nat.min_eq_right z]; exact hq
        · rcases Nat.le_total p q with z | z
          · show max p q ∈ ps; rw [Nat.max_eq_right z]; exact hq
          · show max p q ∈ ps; rw [Nat.max_eq_left z]; exact hp
    · exact hts t (List.mem_of_mem_drop ht)
  · rw [List.length_append, List.length_append, List.length_take, List.length_drop, List.length_singleton]; omega
  · refine (set_end (pw a b c :: mid) _ _).trans ?_
    rw [List.map_append, List.map_append, List.map_take, List.map_drop]; rfl
theorem eE_ok (ne : ps ≠ []) (h4 : ps.length ≤ 4) (hts : TsOk ps ts) (h6 : ts.length < 6) : G3 (dE (rP ps mid.length k6 k8 k9) (pw a b c :: (mid ++ [.lst (ts.map tie)]))) fun o ρ S => o = .nx ∧ ∃ (a b c : Int) (ts' : List (Nat × Nat)) (k8 k9 : Option Val), TsOk ps ts' ∧ ts'.length = ts.length + 1 ∧ ρ = rP ps mid.length k6 k8 k9 ∧ S = pw a b c :: (mid ++ [.lst (ts'.map tie)]) := by
  unfold dE
  refine s_seq' ((e1_ok ne h4).mono ?_)
  rintro o ρ S ⟨rfl, a, b, c, p, q, hp, hq, rfl, rfl⟩
  refine sq_nx (s_seq' ((e2_ok ne h4 hq).mono ?_))
  rintro o ρ S ⟨rfl, a, b, c, q, hq, rfl, rfl⟩
  refine sq_nx ((e3_ok hp hq hts h6).mono ?_)
  rintro o ρ S ⟨rfl, a, b, c, ts', h1, h2, rfl, rfl⟩
  exact ⟨rfl, a, b, c, ts', _, _, h1, h2, rfl, rfl⟩
end
theorem parts_ok {a b c : Int} : G2 (f__law_parts [.cell 0, .d (.int 4), .d (.int 6)] [pw a b c]) fun r S => ∃ (a' b' c' : Int) (ps : List Nat) (ts : List (Nat × Nat)), WOk ps ts ∧ r = .val (.d (.tup [.str (tx ps), .tup (ts.map tie)])) ∧ S = [pw a' b' c'] := by
  unfold f__law_parts
  rw [parts_eq]
  fail "evo"
  refine s_par3' ?_
  fail "evo"
  refine (dip_ok (m := 4) (T := [.lst (let8.map lt), .lst [], .lst []]) (by omega) (by omega)).mono ?_
  rintro r S ⟨a, b, c, n, hn, rfl, rfl⟩
  fail "evo"
  refine ⟨1 + n, rfl, ⟨by omega, by omega⟩, ?_⟩
  refine loop_inv (fun ds ρ S => ∃ (a b c : Int) (bag fd : List Nat) (k6 : Option Val), (bag ++ fd).Perm let8 ∧ ds.length + fd.length = (1 + n).toNat ∧ ρ = [some (.cell 0), some (.d (.int 4)), some (.d (.int 6)), some (.cell 1), some (.cell 2), some (.cell 3), k6, none, none, none, none] ∧
    S = [pw a b c, .lst (bag.map lt), .lst (fd.map lt), .lst []]) ⟨a, b, c, let8, [], none, by simp, ?_, rfl, rfl⟩ ?_ ?_
  · unfold rgL; rw [List.length_map, List.length_range]; simp
  · rintro d ds ρ S ⟨a, b, c, bag, fd, k6, hp, hl, rfl, rfl⟩
    rw [List.length_cons] at hl
    have h8 := hp.length_eq
    rw [List.length_append, show let8.length = 8 from rfl] at h8
    fail "evo"
    refine e_append ?_
    fail "evo"
    refine ⟨2, _, rfl, rfl, ?_⟩
    fail "evo"
    refine e_popAt ?_
    fail "evo"
    refine ⟨1, _, rfl, rfl, ?_⟩
    fail "evo"
    rw [List.length_map]
    refine (dip_ok (m := (bag.length : Int)) (T := [.lst (bag.map lt), .lst (fd.map lt), .lst []]) (by omega) (by omega)).mono ?_
    rintro r S ⟨a', b', c', x, hx, rfl, rfl⟩
    have hx2 : x.toNat < bag.length := by omega
    refine ⟨x, bag.map lt, x.toNat, lt bag[x.toNat], rfl, rfl, ⟨by omega, by omega⟩, seqIx hx.1 (by rw [List.length_map]; omega), ?_, ?_⟩
    · rw [List.getElem?_map, List.getElem?_eq_getElem hx2]; rfl
    fail "evo"
    refine ⟨fd.map lt, rfl, by rw [List.length_map, sizeLine_val]; omega, .inl ⟨.inl rfl, a', b', c', bag.eraseIdx x.toNat, fd ++ [bag[x.toNat]], _, ?_, ?_, rfl, ?_⟩⟩
    · refine List.Perm.trans ?_ hp
      refine List.perm_append_comm.trans ?_
      rw [List.append_assoc]
      refine (List.perm_append_comm).trans ?_
      refine List.Perm.append_right _ ?_
      exact erase_permD hx2
    · rw [List.length_append, List.length_singleton]; omega
    · rw [List.map_append]
      show [pw a' b' c', .lst ((bag.map lt).eraseIdx x.toNat), .lst (fd.map lt ++ [lt bag[x.toNat]]), .lst []] = _
      rw [map_er]; rfl
  · rintro ρ S ⟨a, b, c, bag, fd, k6, hp, hl, rfl, rfl⟩
    have hl : fd.length = (1 + n).toNat := by simpa using hl
    have hnd : (bag ++ fd).Nodup := hp.nodup_iff.mpr (by decide)
    obtain ⟨ps, eps, hps, hup⟩ := sort_lt fd
    have hup := hup (List.nodup_append.mp hnd).2.1
    have hpl : ps.length = (1 + n).toNat := by rw [hps.length_eq, hl]
    have hsub : ∀ p ∈ ps, p ∈ let8 := fun p hp' => hp.mem_iff.mp (List.mem_append_right _ (hps.mem_iff.mp hp'))
    have h4 : ps.length ≤ 4 := by omega
    have h0 : 1 ≤ ps.length := by omega
    have ne : ps ≠ [] := by
      intro e
      rw [e, List.length_nil] at hpl
      omega
    refine ⟨fun _ => ?_, fun z => absurd rfl z⟩
    refine s_seq' ?_
    refine G3.mono (P := fun o ρ S => o = .nx ∧ ρ = [some (.cell 0), some (.d (.int 4)), some (.d (.int 6)), some (.cell 1), some (.cell 2), some (.cell 3), k6, some (.d (.str (tx ps))), none, none, none] ∧ S = [pw a b c, .lst (bag.map lt), .lst (fd.map lt), .lst []]) ?_ ?_
    · fail "evo"
      refine e_joinLt ?_
      fail "evo"
      refine .of (a := .new (.lst (ps.map lt))) ?_ ?_
      · show (if (fd.map lt).length ≤ sizeLine then (sortL (fd.map lt)).map _ else none) = _
        rw [if_pos (by rw [List.length_map, sizeLine_val]; omega), eps]; rfl
      fail "evo"
      refine ⟨ps, rfl, by omega, ?_⟩
      fail "evo"
      exact ⟨rfl, rfl, rfl⟩
    rintro o ρ S ⟨rfl, rfl, rfl⟩
    refine sq_nx (s_seq' ?_)
    refine G3.mono (P := fun o ρ S => o = .nx ∧ ∃ (a b c : Int) (mid : Sto) (ts : List (Nat × Nat)), TsOk ps ts ∧ ts.length ≤ 3 ∧ ρ = [some (.cell 0), some (.d (.int 4)), some (.d (.int 6)), some (.cell 1), some (.cell 2), some (.cell (mid.length + 1)), k6, some (.d (.str (tx ps))), none, none, none] ∧
      S = pw a b c :: (mid ++ [.lst (ts.map tie)])) ?_ ?_
    · unfold dD
      fail "evo"
      refine (dip_ok (m := 2) (T := [.lst (bag.map lt), .lst (fd.map lt), .lst []]) (by omega) (by omega)).mono ?_
      rintro r S ⟨a, b, c, y, hy, rfl, rfl⟩
      fail "evo"
      refine ⟨fun z => ?_, fun z => ?_⟩
      · fail "evo"
        refine e_lcMap (l := List.range (ps.length - 1)) (em := nt) (va := fun k => tie (ps.getD k 0, ps.getD (k + 1) 0)) ?_ (by simp; omega) ?_ ?_
        · refine G2.eq ?_
          fail "evo"
          refine ⟨((ps.length - 1 : Nat) : Int), ?_, ⟨by omega, by omega⟩, rgL_nat _, rfl⟩
          refine congrArg (fun i => Val.d (D.int i)) ?_
          omega
        · intro k hk
          have hk := List.mem_range.mp hk
          fail "evo"
          refine ⟨rfl, ?_⟩
          fail "evo"
          refine .of (idx_ps (k := k) rfl (by omega) h4) ?_
          fail "evo"
          refine .of (idx_ps (k := k + 1) (by omega) (by omega) h4) ?_
          fail "evo"
          exact ⟨rfl, rfl⟩
        fail "evo"
        refine ⟨rfl, a, b, c, [.lst (bag.map lt), .lst (fd.map lt), .lst []], (List.range (ps.length - 1)).map fun k => (ps.getD k 0, ps.getD (k + 1) 0), ?_, by simp; omega, rfl, ?_⟩
        · intro t ht
          obtain ⟨k, hk, rfl⟩ := List.mem_map.mp ht
          have hk := List.mem_range.mp hk
          have g : ∀ i, ∀ h : i < ps.length, ps.getD i 0 = ps[i] := fun i h => by rw [List.getD_eq_getElem?_getD, List.getElem?_eq_getElem h]; rfl
          show ps.getD k 0 ∈ ps ∧ ps.getD (k + 1) 0 ∈ ps ∧ ps.getD k 0 ≤ ps.getD (k + 1) 0
          rw [g k (by omega), g (k + 1) (by omega)]
          exact ⟨List.getElem_mem _, List.getElem_mem _, Nat.le_of_lt (List.pairwise_iff_getElem.mp hup k (k + 1) (by omega) (by omega) (by omega))⟩
        · rw [List.map_map]; rfl
      · fail "evo"
        exact ⟨rfl, a, b, c, [.lst (bag.map lt), .lst (fd.map lt)], [], (fun t ht => nomatch ht), by simp, rfl, rfl⟩
    rintro o ρ S ⟨rfl, a, b, c, mid, ts, hts, h3, rfl, rfl⟩
    refine sq_nx ?_
    fail "evo"
    refine pk_sc (at_end (pw a b c :: mid) _) ?_
    refine ⟨(fun c fs e => nomatch e), ?_⟩
    fail "evo"
    rw [List.length_map]
    refine st2 (xs' := [.cell 0, .d (.int (6 + 1 - (ts.length : Int)))]) (S' := pw a b c :: (mid ++ [.lst (ts.map tie)])) rfl rfl ?_
    refine (dip_ok (m := 6 + 1 - (ts.length : Int)) (by omega) (by omega)).mono ?_
    rintro r S ⟨a, b, c, y, hy, rfl, rfl⟩
    fail "evo"
    refine ⟨y, rfl, ⟨by omega, by omega⟩, ?_⟩
    refine loop_inv (fun ds ρ S => ∃ (a b c : Int) (ts : List (Nat × Nat)) (k6 k8 k9 : Option Val), TsOk ps ts ∧ ts.length + ds.length ≤ 6 ∧ ρ = rP ps mid.length k6 k8 k9 ∧
      S = pw a b c :: (mid ++ [.lst (ts.map tie)])) ⟨a, b, c, ts, k6, none, none, hts, ?_, rfl, rfl⟩ ?_ ?_
    · unfold rgL; rw [List.length_map, List.length_range]; omega
    · rintro d ds ρ S ⟨a, b, c, ts, k6, k8, k9, hts, hl6, rfl, rfl⟩
      rw [List.length_cons] at hl6
      refine .of (show gNm 6 (.d d) (rP ps mid.length k6 k8 k9) (pw a b c :: (mid ++ [.lst (ts.map tie)])) = some (rP ps mid.length (some (.d d)) k8 k9, pw a b c :: (mid ++ [.lst (ts.map tie)])) from rfl) ?_
      refine (eE_ok ne h4 hts (by omega)).mono ?_
      rintro o ρ S ⟨rfl, a, b, c, ts', k8, k9, h1, h2, rfl, rfl⟩
      exact .inl ⟨.inl rfl, a, b, c, ts', _, _, _, h1, by omega, rfl, rfl⟩
    · rintro ρ S ⟨a, b, c, ts, k6, k8, k9, hts, hl6, rfl, rfl⟩
      rw [List.length_nil] at hl6
      unfold rP
      fail "evo"
      refine pk_sc (at_end (pw a b c :: mid) _) ?_
      refine .of (a := .d (.tup (ts.map tie))) rfl ?_
      fail "evo"
      exact ⟨a, b, c, ps, ts, ⟨hup, ne, h4, hsub, by omega, hts⟩, rfl, rfl⟩
end Law10
set_option Elab.async false
set_option linter.all false
set_option maxRecDepth 100000
set_option maxHeartbeats 400000
/-! Own text: all lots, all trees, early and late ties, as the program tells them. -/
namespace Law10
open PySem L2 Ev Gr
theorem lots_len : ∀ n, (lots n).length = 2 ^ n
  | 0 => rfl
  | n + 1 => by
    show (lots n ++ (lots n).map _).length = _
    rw [List.length_append, List.length_map, lots_len n, Nat.pow_succ]; omega
theorem lots_lot : ∀ {n : Nat} {l : List Nat}, l ∈ lots n → Lot n l
  | 0, l, h => by
    rw [show lots 0 = [[]] from rfl, List.mem_singleton] at h
    subst h
    exact ⟨.nil, fun k hk => nomatch hk⟩
  | n + 1, l, h => by
    rcases List.mem_append.mp (show l ∈ lots n ++ (lots n).map (· ++ [n]) from h) with h | h
    · exact lot_succ.mpr (.inl (lots_lot h))
    · obtain ⟨m, hm, rfl⟩ := List.mem_map.mp h
      exact lot_succ.mpr (.inr ⟨m, lots_lot hm, rfl⟩)
theorem lot_lots : ∀ {n : Nat} {l : List Nat}, Lot n l → l ∈ lots n
  | 0, l, h => by
    cases l with
    | nil => exact List.mem_singleton.mpr rfl
    | cons k l => have := h.lt k List.mem_cons_self; omega
  | n + 1, l, h => by
    show l ∈ lots n ++ (lots n).map (· ++ [n])
    rcases lot_succ.mp h with h1 | ⟨m, h1, rfl⟩
    · exact List.mem_append_left _ (lot_lots h1)
    · exact List.mem_append_right _ (List.mem_map.mpr ⟨m, lot_lots h1, rfl⟩)
theorem lots64 {n : Nat} (h : n ≤ 6) : (lots n).length ≤ 64 := by
  rw [lots_len]
  exact Nat.le_trans (Nat.pow_le_pow_right (by omega) h) (by decide)
section
variable {ps : List Nat} {ts : List (Nat × Nat)} {S : Sto} {l : List Nat} {x y : Nat}
/-- the turn of a loop that makes lots -/
theorem lots_turn {ρ : Rho} {i : Nat} {P : Res → Sto → Prop} (hi : i ≤ 5) (h1 : ρ[1]? = some (some (.d (.lst ((lots i).map tp))))) (h2 : ρ[2]? = some (some (.d (nt i)))) (h3 : ρ.length = 4) (h : P (.new (.lst ((lots (i + 1)).map tp))) S) :
    G2 (fBop .add (fVar 1) (fLc (iSeq (fVar 1)) (gNm 3) none (fBop .add (fVar 3) (fTup [(fVar 2)])) [3]) ρ S) P := by
  obtain ⟨r0, r1, r2, r3, rfl⟩ : ∃ a b c d, ρ = [a, b, c, d] := by
    match ρ, h3 with
    | [a, b, c, d], _ => exact ⟨a, b, c, d, rfl⟩
  have h1 : some r1 = some (some (.d (.lst ((lots i).map tp)))) := h1
  have h2 : some r2 = some (some (.d (nt i))) := h2
  cases h1; cases h2
  have h64 := lots64 (n := i) (by omega)
  fail "evo"
  refine e_lcMap (l := lots i) (em := tp) (va := fun l => tp (l ++ [i])) ?_ (by omega) ?_ ?_
  · exact i_lst rfl
  · intro l hl
    fail "evo"
    refine ⟨rfl, ?_⟩
    unfold tp
    fail "evo"
    have hll := (lots_lot hl).len
    refine .of (a := .d (.tup ((l ++ [i]).map nt))) ?_ ?_
    · show (if _ ≤ sizeLine then some (O1.d (.tup (l.map nt ++ [nt i]))) else none) = _
      rw [if_pos (by rw [List.length_map, List.length_singleton, sizeLine_val]; omega), List.map_append]; rfl
    fail "evo"
    exact ⟨rfl, rfl⟩
  fail "evo"
  refine .of (a := .new (.lst ((lots (i + 1)).map tp))) ?_ ?_
  case refine_2 => exact h
  show (if ((lots i).map tp).length + ((lots i).map fun l => tp (l ++ [i])).length ≤ sizeLine then some (O1.new (.lst ((lots i).map tp ++ (lots i).map fun l => tp (l ++ [i])))) else none) = _
  rw [if_pos (by rw [List.length_map, List.length_map, sizeLine_val]; omega), show lots (i + 1) = lots i ++ (lots i).map (· ++ [i]) from rfl, List.map_append, List.map_map]; rfl
theorem srt_ex {m : Nat} (h6 : m ≤ 6) : ∃ L : List (List Nat), tupsD ((lots m).map tp) = some (L.map tp) ∧ L.Perm (lots m) := sort_tp (lots m) (by have := lots64 h6; omega)
open Classical in
noncomputable def slots (m : Nat) : List (List Nat) := if h : m ≤ 6 then Classical.choose (srt_ex h) else []
theorem slots_ok {m : Nat} (h6 : m ≤ 6) : tupsD ((lots m).map tp) = some ((slots m).map tp) ∧ (slots m).Perm (lots m) := by
  unfold slots
  rw [dif_pos h6]
  exact Classical.choose_spec (srt_ex h6)
theorem law_lots_ok' {m : Nat} (h6 : m ≤ 6) : G2 (f__law_lots [.d (.int (m : Int))] S) fun r S' => S' = S ∧ ∃ L : List (List Nat), r = .new (.lst (L.map tp)) ∧ L.Perm (lots m) ∧ L = slots m := by
  unfold f__law_lots b__law_lots
  fail "evo"
  refine ⟨(m : Int), rfl, ⟨by omega, by omega⟩, ?_⟩
  rw [rgL_nat]
  refine loop_inv (fun ds ρ S1 => S1 = S ∧ ∃ (i : Nat) (k2 : Option Val), ds = (List.range' i (m - i)).map nt ∧ i ≤ m ∧ ρ = [some (.d (.int (m : Int))), some (.d (.lst ((lots i).map tp))), k2, none]) ⟨rfl, 0, none, ?_, Nat.zero_le _, rfl⟩ ?_ ?_
  · rw [List.range_eq_range', Nat.sub_zero]
  · rintro d ds ρ S1 ⟨rfl, i, k2, e, hi, rfl⟩
    by_cases z : m - i = 0
    · rw [z] at e; cases e
    · rw [show m - i = (m - (i + 1)) + 1 by omega, List.range'_succ, List.map_cons] at e
      obtain ⟨rfl, rfl⟩ := List.cons.inj e
      refine .some ?_
      refine s_asg' ?_
      refine lots_turn (i := i) (by omega) rfl rfl rfl ?_
      fail "evo"
      exact .inl ⟨.inl rfl, rfl, i + 1, _, rfl, by omega, rfl⟩
  · rintro ρ S1 ⟨rfl, i, k2, e, hi, rfl⟩
    have : m - i = 0 := by
      have := congrArg List.length e
      simpa using this.symm
    obtain rfl : i = m := by omega
    obtain ⟨e2, hp⟩ := slots_ok (m := i) h6
    fail "evo"
    refine e_sortT ?_
    fail "evo"
    refine ⟨_, _, rfl, e2, _, .inl rfl, ?_⟩
    refine .of (a := .new (.lst ((slots i).map tp))) rfl ?_
    exact ⟨List.take_length, slots i, rfl, hp, rfl⟩
theorem every_lot_ok (h6 : ts.length ≤ 6) : G2 (f_every_lot [.d (web ps ts)] S) fun r S' => S' = S ∧ ∃ L : List (List Nat), r = .new (.lst (L.map tp)) ∧ L.Perm (lots ts.length) ∧ L = slots ts.length := by
  generalize hm : ts.length = m at h6
  unfold f_every_lot b_every_lot
  fail "evo"
  refine .of (every_ok (by omega)) ?_
  fail "evo"
  rw [hm]
  refine loop_inv (fun ds ρ S1 => S1 = S ∧ ∃ (i : Nat) (k2 : Option Val), ds = (List.range' i (m - i)).map nt ∧ i ≤ m ∧ ρ = [some (.d (web ps ts)), some (.d (.lst ((lots i).map tp))), k2, none]) ⟨rfl, 0, none, ?_, Nat.zero_le _, rfl⟩ ?_ ?_
  · rw [List.range_eq_range', Nat.sub_zero]
  · rintro d ds ρ S1 ⟨rfl, i, k2, e, hi, rfl⟩
    by_cases z : m - i = 0
    · rw [z] at e; cases e
    · rw [show m - i = (m - (i + 1)) + 1 by omega, List.range'_succ, List.map_cons] at e
      obtain ⟨rfl, rfl⟩ := List.cons.inj e
      refine .some ?_
      refine s_asg' ?_
      refine lots_turn (i := i) (by omega) rfl rfl rfl ?_
      fail "evo"
      exact .inl ⟨.inl rfl, rfl, i + 1, _, rfl, by omega, rfl⟩
  · rintro ρ S1 ⟨rfl, i, k2, e, hi, rfl⟩
    have : m - i = 0 := by
      have := congrArg List.length e
      simpa using this.symm
    obtain rfl : i = m := by omega
    obtain ⟨e2, hp⟩ := slots_ok (m := i) h6
    fail "evo"
    refine e_sortT ?_
    fail "evo"
    refine ⟨_, _, rfl, e2, _, .inl rfl, ?_⟩
    refine .of (a := .new (.lst ((slots i).map tp))) rfl ?_
    exact ⟨List.take_length, slots i, rfl, hp, rfl⟩
theorem free_ok (W : WOk ps ts) (h6 : l.length ≤ 6) (hl : ∀ k ∈ l, k < ts.length) : f_is_free_lot [.d (web ps ts), .d (.tup (l.map nt))] S = some (.val (.d (.bl (decide (l.length = rk ps (tat ts l))))), S) := by
  refine G2.eq ?_
  unfold f_is_free_lot b_is_free_lot
  fail "evo"
  refine .of (spare_ok W h6 hl) ?_
  fail "evo"
  refine ⟨?_, List.take_length⟩
  congr 3
  exact decide_eq_decide.mpr (by omega)
theorem every_tree_ok (W : WOk ps ts) : G2 (f_every_tree [.d (web ps ts)] S) fun r S' => S' = S ∧ ∃ L : List (List Nat), r = .new (.lst (L.map tp)) ∧ L.Perm ((lots ts.length).filter (isT ps ts)) ∧ L = (slots ts.length).filter (isT ps ts) := by
  have h6 := W.six
  unfold f_every_tree b_every_tree
  fail "evo"
  refine .of (every_ok h6) ?_
  fail "evo"
  refine .of (rank_ok (lot := List.range ts.length) W (by rw [List.length_range]; exact W.six) fun k hk => List.mem_range.mp hk) ?_
  rw [tat_all]
  fail "evo"
  refine e_lc ?_
  fail "evo"
  refine (every_lot_ok h6).mono ?_
  rintro r S1 ⟨rfl, L, rfl, hp, hs⟩
  have hL : L.length ≤ 64 := by rw [hp.length_eq]; exact lots64 h6
  fail "evo"
  refine .of (comp_filt (l := L) (em := tp) (va := tp) (p := isT ps ts) (by show 0 + _ ≤ _; omega) fun l hl => ?_) ?_
  · have hlot := lots_lot (hp.mem_iff.mp hl)
    have hll := hlot.len
    fail "evo"
    refine ⟨rfl, ?_⟩
    unfold tp
    fail "evo"
    rw [List.length_map]
    refine ⟨_, rfl, fun z => ?_, fun z => ?_⟩
    · have z := of_decide_eq_true z
      refine .of (free_ok W (by omega) hlot.lt) ?_
      fail "evo"
      refine ⟨?_, rfl, fun _ => ?_⟩
      · unfold isT
        rw [decide_eq_true (show l.length = rk ps ts by omega), Bool.true_and]
        exact decide_eq_decide.mpr (by omega)
      · fail "evo"
        exact ⟨rfl, rfl⟩
    · have z := of_decide_eq_false z
      fail "evo"
      refine ⟨?_, rfl, fun q => ?_⟩
      · unfold isT
        rw [decide_eq_false (show ¬ l.length = rk ps ts by omega), Bool.false_and]
      · unfold isT at q
        rw [decide_eq_false (show ¬ l.length = rk ps ts by omega), Bool.false_and] at q
        cases q
  fail "evo"
  exact ⟨List.take_length, L.filter (isT ps ts), rfl, hp.filter _, by rw [hs]⟩
end
end Law10
set_option Elab.async false
set_option linter.all false
set_option maxRecDepth 100000
set_option maxHeartbeats 400000
/-! Own text: tables shown, compared; the law's trees. -/
namespace Law10
open PySem L2 Ev Gr
theorem shown_nt {l : List Nat} (h : ∀ x ∈ l, x < 100) : ((PyData.shownAll (l.map fun n : Nat => PyData.int n)).map (·.length)).sum ≤ 10 * l.length ∧ (PyData.shownAll (l.map fun n : Nat => PyData.int n)).length = l.length ∧ PyData.showableAll (l.map fun n : Nat => PyData.int n) = true := by
  have := shown_ints (l := l.map fun n : Nat => (n : Int)) fun x hx => by
    obtain ⟨n, hn, rfl⟩ := List.mem_map.mp hx
    have := h n hn
    omega
  rw [List.map_map, List.length_map] at this
  exact this
theorem shown_tps : ∀ {M : List (List Nat)}, (∀ l ∈ M, l.length ≤ 10 ∧ ∀ x ∈ l, x < 100) → ((PyData.shownAll (M.map fun l => PyData.tuple (l.map fun n : Nat => PyData.int n))).map (·.length)).sum ≤ 200 * M.length ∧
    (PyData.shownAll (M.map fun l => PyData.tuple (l.map fun n : Nat => PyData.int n))).length = M.length ∧ PyData.showableAll (M.map fun l => PyData.tuple (l.map fun n : Nat => PyData.int n)) = true
  | [], _ => ⟨Nat.le_refl _, rfl, rfl⟩
  | l :: M, h => by
    obtain ⟨h1, h2, h3⟩ := shown_tps (M := M) fun m hm => h m (List.mem_cons_of_mem _ hm)
    obtain ⟨k1, k2⟩ := h l List.mem_cons_self
    obtain ⟨a1, a2, a3⟩ := shown_nt k2
    have t := tupleText_len_le (PyData.shownAll (l.map fun n : Nat => PyData.int n))
    refine ⟨?_, ?_, ?_⟩
    · show (tupleText (PyData.shownAll (l.map fun n : Nat => PyData.int n))).length + ((PyData.shownAll (M.map fun l => PyData.tuple (l.map fun n : Nat => PyData.int n))).map (·.length)).sum ≤ 200 * (M.length + 1)
      omega
    · show (PyData.shownAll (M.map fun l => PyData.tuple (l.map fun n : Nat => PyData.int n))).length + 1 = M.length + 1
      omega
    · show (PyData.showableAll (l.map fun n : Nat => PyData.int n) && PyData.showableAll (M.map fun l => PyData.tuple (l.map fun n : Nat => PyData.int n))) = true
      rw [a3, h3]; rfl
theorem repr_tps {M : List (List Nat)} (hM : M.length ≤ 64) (h : ∀ l ∈ M, l.length ≤ 10 ∧ ∀ x ∈ l, x < 100) : ∃ z, reprD (.lst (M.map tp)) = some z := by
  obtain ⟨h1, h2, h3⟩ := shown_tps h
  have t := listText_len_le (PyData.shownAll (M.map fun l => PyData.tuple (l.map fun n : Nat => PyData.int n)))
  refine ⟨PyData.shown (.list (M.map fun l => PyData.tuple (l.map fun n : Nat => PyData.int n))), ?_⟩
  have e : toP (.lst (M.map tp)) = some (.list (M.map fun l => PyData.tuple (l.map fun n : Nat => PyData.int n))) := by
    show (toPs (M.map tp)).map PyData.list = _
    rw [toPs_tp]; rfl
  unfold reprD
  rw [e, Option.bind_some]
  refine if_pos ⟨h3, ?_, ?_⟩
  · rw [sizeLine_val]
    refine Nat.le_trans t ?_
    omega
  · have := dep_tp M
    show PyData.depthAll _ + 1 ≤ 60
    omega
theorem toP_tt (M : List (List Nat)) : toP (.tup (M.map tp)) = some (.tuple (M.map fun l => PyData.tuple (l.map fun n : Nat => PyData.int n))) := by
  show (toPs (M.map tp)).map PyData.tuple = _
  rw [toPs_tp]; rfl
theorem repr_tt {M : List (List Nat)} (hM : M.length ≤ 64) (h : ∀ l ∈ M, l.length ≤ 10 ∧ ∀ x ∈ l, x < 100) : ∃ z, reprD (.tup (M.map tp)) = some z := by
  obtain ⟨h1, h2, h3⟩ := shown_tps h
  have t := tupleText_len_le (PyData.shownAll (M.map fun l => PyData.tuple (l.map fun n : Nat => PyData.int n)))
  refine ⟨PyData.shown (.tuple (M.map fun l => PyData.tuple (l.map fun n : Nat => PyData.int n))), ?_⟩
  unfold reprD
  rw [toP_tt, Option.bind_some]
  refine if_pos ⟨h3, ?_, ?_⟩
  · rw [sizeLine_val]
    refine Nat.le_trans t ?_
    omega
  · have := dep_tp M
    show PyData.depthAll _ + 1 ≤ 60
    omega
theorem lay_tp (L : List (List Nat)) : PyData.canLayAll0 (L.map fun l => PyData.tuple (l.map fun n : Nat => PyData.int n)) = true := by
  induction L with
  | nil => rfl
  | cons l L ih => rw [List.map_cons]; show (PyData.canLayAll0 (l.map fun n : Nat => PyData.int n) && _) = true; rw [lay_nt, ih]; rfl
theorem eqv_tt : ∀ M N : List (List Nat), PyData.eqvAll (M.map fun l => PyData.tuple (l.map fun n : Nat => PyData.int n)) (N.map fun l => PyData.tuple (l.map fun n : Nat => PyData.int n)) = decide (M = N)
  | [], [] => rfl
  | [], _ :: _ => rfl
  | _ :: _, [] => rfl
  | l :: M, m :: N => by
    show (PyData.eqvAll (l.map fun n : Nat => PyData.int n) (m.map fun n : Nat => PyData.int n) && PyData.eqvAll (M.map fun l => PyData.tuple (l.map fun n : Nat => PyData.int n)) (N.map fun l => PyData.tuple (l.map fun n : Nat => PyData.int n))) = _
    rw [eqv_nt, eqv_tt M N, Bool.eq_iff_iff]
    simp
theorem eq_tt (M N : List (List Nat)) : eqD (.tup (M.map tp)) (.tup (N.map tp)) = some (decide (M = N)) := by
  show (match toP (.tup (M.map tp)), toP (.tup (N.map tp)) with | some p, some q => if SeqAt.shaped p = true ∧ SeqAt.shaped q = true then some (PyData.eqv p q) else none | _, _ => none) = _
  rw [toP_tt, toP_tt]
  have hs : ∀ M : List (List Nat), SeqAt.shaped (PyData.tuple (M.map fun l => PyData.tuple (l.map fun n : Nat => PyData.int n))) = true := by
    intro M
    show (PyData.canLayAll0 _ && decide (PyData.depthAll _ + 1 ≤ 64)) = true
    have := dep_tp M
    rw [lay_tp, decide_eq_true (by omega)]; rfl
  show (if _ then some (PyData.eqvAll _ _) else none) = _
  rw [if_pos ⟨hs M, hs N⟩, eqv_tt]
section
variable {ps : List Nat} {ts : List (Nat × Nat)} {S : Sto} {l : List Nat} {x : Nat}
theorem isT_iff : isT ps ts l = true ↔ l.length = rk ps ts ∧ rk ps (tat ts l) = rk ps ts := by
  unfold isT
  rw [Bool.and_eq_true, decide_eq_true_eq, decide_eq_true_eq]
theorem tat_len : (tat ts l).length = l.length := by unfold tat; rw [List.length_map]
theorem mem_tat {t : Nat × Nat} : t ∈ tat ts l ↔ ∃ k ∈ l, ts.getD k (0, 0) = t := by unfold tat; exact List.mem_map
theorem on_at (W : WOk ps ts) (hx : x < ts.length) : (ts.getD x (0, 0)).1 ∈ ps ∧ (ts.getD x (0, 0)).2 ∈ ps := by
  rw [List.getD_eq_getElem?_getD, List.getElem?_eq_getElem hx]
  exact W.on _ (List.getElem_mem hx)
theorem tie_at {i : Nat} {P : D → Prop} (hi : i < ts.length) (h : P (tie (ts.getD i (0, 0)))) : G1 (idxD (.tup (ts.map tie)) (nt i)) P := by
  refine .of (ix_tup' (f := tie) (m := ts) (k := i) rfl hi) ?_
  rw [show ts.getD i (0, 0) = ts[i] by rw [List.getD_eq_getElem?_getD, List.getElem?_eq_getElem hi]; rfl] at h
  exact h
theorem law_trees_ok' (W : WOk ps ts) : G2 (f__law_trees [.d (.str (tx ps)), .d (.tup (ts.map tie))] S) fun r S' => S' = S ∧ ∃ L : List (List Nat), r = .new (.lst (L.map tp)) ∧ L.Perm ((lots ts.length).filter (isT ps ts)) ∧ L = (slots ts.length).filter (isT ps ts) := by
  have h4 := W.few
  have h6 := W.six
  unfold f__law_trees b__law_trees
  fail "evo"
  have e0 := fun S => law_rank_ok (S := S) (A := .tup (ts.map tie)) (us := ts) (.inl rfl) h4 W.nodup W.on h6
  refine st2 (xs' := [.d (.str (tx ps)), .d (.tup (ts.map tie))]) (S' := S) rfl rfl ?_
  have q0 := e0 S
  refine ⟨_, _, q0, ?_⟩
  fail "evo"
  rw [List.length_map]
  refine (law_lots_ok' (m := ts.length) h6).mono ?_
  rintro r S1 ⟨rfl, L, rfl, hp, hs⟩
  have hl : L.length ≤ 64 := by rw [hp.length_eq]; exact lots64 h6
  fail "evo"
  refine loop_inv (fun ds ρ S1 => ∃ (don rst : List (List Nat)) (k4 : Option Val), L = don ++ rst ∧ ds = rst.map tp ∧
    ρ = [some (.d (.str (tx ps))), some (.d (.tup (ts.map tie))), some (.d (.int (rk ps ts : Int))), some (.cell S.length), k4, none] ∧ S1 = S ++ [.lst ((don.filter (isT ps ts)).map tp)]) ⟨[], L, none, rfl, rfl, rfl, rfl⟩ ?_ ?_
  · rintro d ds ρ S1 ⟨don, rst, k4, e, e1, rfl, rfl⟩
    cases rst with
    | nil => cases e1
    | cons l rst =>
      rw [List.map_cons] at e1
      obtain ⟨rfl, rfl⟩ := List.cons.inj e1
      have hl1 : Lot ts.length l := lots_lot (hp.mem_iff.mp (by rw [e]; simp))
      have hll := hl1.len
      have hdl : don.length + (rst.length + 1) = L.length := by rw [e]; simp
      have hfl := (List.filter_sublist (l := don) (p := isT ps ts)).length_le
      generalize hacc : don.filter (isT ps ts) = acc at hfl ⊢
      have nxt : (don ++ [l]).filter (isT ps ts) = acc ++ if isT ps ts l = true then [l] else [] := by rw [List.filter_append, hacc, List.filter_cons, List.filter_nil]
      have iff : isT ps ts l = (decide (((l.map nt).length : Int) = (rk ps ts : Int)) && decide (((rk ps (tat ts l) : Nat) : Int) = (rk ps ts : Int))) := by
        unfold isT
        rw [List.length_map]
        congr 1
        · exact decide_eq_decide.mpr (by omega)
        · exact decide_eq_decide.mpr (by omega)
      unfold tp
      fail "evo"
      refine ⟨_, rfl, fun z => ?_, fun z => ?_⟩
      · fail "evo"
        refine e_lcMap (l := l) (em := nt) (va := fun k => tie (ts.getD k (0, 0))) ?_ (by omega) ?_ ?_
        · refine G2.eq ?_
          fail "evo"
          exact ⟨rfl, rfl⟩
        · intro k hk
          have hk := hl1.lt k hk
          fail "evo"
          refine ⟨rfl, ?_⟩
          fail "evo"
          refine tie_at hk ?_
          fail "evo"
          exact ⟨rfl, rfl⟩
        fail "evo"
        have e2 := fun S => law_rank_ok (S := S) (A := .lst ((tat ts l).map tie)) (us := tat ts l) (.inr rfl) h4 W.nodup (tat_on (m := 0) W hl1.lt) (by unfold tat; rw [List.length_map]; omega)
        rw [show (tat ts l).map tie = l.map (fun k => tie (ts.getD k (0, 0))) by unfold tat; rw [List.map_map]; rfl] at e2
        refine .of (e2 _) ?_
        fail "evo"
        refine ⟨fun y => ?_, fun y => ?_⟩
        · fail "evo"
          refine e_append ?_
          fail "evo"
          refine ⟨S.length, _, rfl, at_end S _, ?_⟩
          fail "evo"
          refine ⟨_, at_end S _, by rw [List.length_map, sizeLine_val]; omega, .inl ⟨.inl rfl, don ++ [l], rst, _, by rw [e]; simp, rfl, rfl, ?_⟩⟩
          rw [nxt, if_pos (by rw [iff, y, Bool.and_true]; exact z)]
          exact (set_end _ _ _).trans (by rw [List.map_append]; rfl)
        · fail "evo"
          refine .inl ⟨.inl rfl, don ++ [l], rst, _, by rw [e]; simp, rfl, rfl, ?_⟩
          rw [nxt, if_neg (by rw [iff, y, Bool.and_false]; exact Bool.false_ne_true), List.append_nil]; rfl
      · fail "evo"
        refine ⟨(fun y => nomatch y), fun _ => ?_⟩
        fail "evo"
        refine .inl ⟨.inl rfl, don ++ [l], rst, _, by rw [e]; simp, rfl, rfl, ?_⟩
        rw [nxt, if_neg (by rw [iff, z, Bool.false_and]; exact Bool.false_ne_true), List.append_nil]
  · rintro ρ S1 ⟨don, rst, k4, e, e1, rfl, rfl⟩
    have : rst = [] := by simpa using e1.symm
    subst this
    rw [List.append_nil] at e
    subst e
    fail "evo"
    refine trunc_c (Nat.le_refl _) (at_end S _) ?_
    exact ⟨List.take_left' rfl, _, rfl, hp.filter _, by rw [hs]⟩
end
end Law10
set_option Elab.async false
set_option linter.all false
set_option maxRecDepth 100000
set_option maxHeartbeats 400000
/-! Own text: heads. -/
namespace Law10
open PySem L2 Ev Gr
section
variable {ps : List Nat} {us : List (Nat × Nat)} {S : Sto}
def pt (t : Nat × Nat) : D := .tup [lt t.1, lt t.2]
theorem ky_nodup (hn : ps.Nodup) : (ps.map ky).Nodup := by
  unfold List.Nodup at *
  rw [List.pairwise_map]
  exact hn.imp fun h e => h (ky_inj.mp e)
theorem itemsK_dk (f : Nat → Nat) : itemsK (dk ps f) = ps.map fun p => .tup [lt p, lt (f p)] := by
  unfold itemsK dk
  rw [List.map_map]
  rfl
def sLow : StF := sAsg false (fBi .sorted [(fTup [(fDGet (fVar 2) (fVar 3)), (fDGet (fVar 2) (fVar 4))])]) (gTp [(gNm 5), (gNm 6)])
theorem low_ok {f : Nat → Nat} {a b : Nat} {k0 k1 k5 k6 k7 k8 : Option Val} {R : Flw → Rho → Sto → Prop} (ha : a ∈ ps) (hb : b ∈ ps)
    (h : R .nx [k0, k1, some (.d (.dcl (dk ps f))), some (.d (lt a)), some (.d (lt b)), some (.d (lt (min (f a) (f b)))), some (.d (lt (max (f a) (f b)))), k7, k8] S) :
    G3 (sLow [k0, k1, some (.d (.dcl (dk ps f))), some (.d (lt a)), some (.d (lt b)), k5, k6, k7, k8] S) R := by
  have e1 : fDGet (fVar 2) (fVar 3) [k0, k1, some (.d (.dcl (dk ps f))), some (.d (lt a)), some (.d (lt b)), k5, k6, k7, k8] S = some (.val (.d (lt (f a))), S) := by
    refine G2.eq (e_dgetL ?_)
    fail "evo"
    exact ⟨_, lt a, ky a, _, rfl, rfl, rfl, dk_get ha, rfl, rfl⟩
  have e2 : fDGet (fVar 2) (fVar 4) [k0, k1, some (.d (.dcl (dk ps f))), some (.d (lt a)), some (.d (lt b)), k5, k6, k7, k8] S = some (.val (.d (lt (f b))), S) := by
    refine G2.eq (e_dgetL ?_)
    fail "evo"
    exact ⟨_, lt b, ky b, _, rfl, rfl, rfl, dk_get hb, rfl, rfl⟩
  have e3 : fBi .sorted [(fTup [(fDGet (fVar 2) (fVar 3)), (fDGet (fVar 2) (fVar 4))])] [k0, k1, some (.d (.dcl (dk ps f))), some (.d (lt a)), some (.d (lt b)), k5, k6, k7, k8] S = some (.new (.lst [lt (min (f a) (f b)), lt (max (f a) (f b))]), S) := by
    refine G2.eq (e_bi1 (e_tup ?_))
    refine e_evs_cons (e_eD (.of e1 (toD_sv ?_)))
    refine e_evs_cons (e_eD (.of e2 (toD_sv ?_)))
    refine e_evs_nil ⟨by rw [sizeLine_val]; simp, pk_sv ?_⟩
    refine .of (a := .new (.lst [lt (min (f a) (f b)), lt (max (f a) (f b))])) ?_ ⟨rfl, rfl⟩
    show (if [lt (f a), lt (f b)].length ≤ sizeLine then (sortL [lt (f a), lt (f b)]).map (fun r => O1.new (.lst r)) else none) = _
    rw [if_pos (by rw [sizeLine_val]; simp), sort_two]; rfl
  exact ⟨_, _, _, by unfold sLow sAsg eA; rw [e3]; rfl, h⟩
theorem heads_eq : b_heads_by = (sSeq (sAsg false (fLk (fDc (iSeq (fVar 0)) (gNm 7) (fVar 7) (fVar 7) [7])) (gNm 2))
  (sSeq (sFor (iSeq (fVar 1)) (gTp [(gNm 3), (gNm 4)]) (sSeq sLow
  (sAsg false (fLk (fDc (iItm (fVar 2)) (gTp [(gNm 7), (gNm 8)]) (fVar 7) (fIte (fCmp .eq (fVar 8) (fVar 6)) (fVar 5) (fVar 8)) [7, 8])) (gNm 2))))
  (sRet (fVar 2)))) := rfl
theorem heads_ok {A : D} {pr : Nat × Nat → D} (hA : itemsOf A = some (ps.map lt)) (hpr : pr = tie ∨ pr = pt) (hn : ps.Nodup) (h4 : ps.length ≤ 4) (ho : On ps us) : f_heads_by [.d A, .d (.lst (us.map pr))] S = some (.val (.d (.dcl (dk ps (lab us)))), S) := by
  refine G2.eq ?_
  unfold f_heads_by
  rw [heads_eq]
  fail "evo"
  refine e_lk ?_
  refine e_dcG (l := ps) (em := lt) (ke := ky) (va := lt) (ky_nodup hn) (by omega) ?_ ?_ ?_
  · fail "evo"
    refine .of hA ?_
    exact ⟨rfl, rfl⟩
  · intro p _
    fail "evo"
    refine ⟨rfl, ?_⟩
    fail "evo"
    refine ⟨rfl, rfl, ?_⟩
    fail "evo"
    exact ⟨rfl, rfl⟩
  refine ⟨_, rfl, ?_⟩
  fail "evo"
  refine loop_inv (fun ds ρ S1 => ∃ (done rest : List (Nat × Nat)) (k3 k4 k5 k6 : Option Val), us = done ++ rest ∧ ds = rest.map pr ∧ ρ = [some (.d A), some (.d (.lst (us.map pr))), some (.d (.dcl (dk ps (lab done)))), k3, k4, k5, k6, none, none] ∧ S1 = S)
    ⟨[], us, none, none, none, none, rfl, rfl, rfl, rfl⟩ ?_ ?_
  · rintro d ds ρ S1 ⟨done, rest, k3, k4, k5, k6, e, e1, rfl, rfl⟩
    cases rest with
    | nil => cases e1
    | cons t rest0 =>
      rw [List.map_cons] at e1
      obtain ⟨rfl, rfl⟩ := List.cons.inj e1
      obtain ⟨hp, hq⟩ := ho t (by rw [e]; simp)
      have un : gTp [gNm 3, gNm 4] (.d (pr t)) [some (.d A), some (.d (.lst (us.map pr))), some (.d (.dcl (dk ps (lab done)))), k3, k4, k5, k6, none, none] S1 = some ([some (.d A), some (.d (.lst (us.map pr))), some (.d (.dcl (dk ps (lab done)))), some (.d (lt t.1)), some (.d (lt t.2)), k5, k6, none, none], S1) := by
        rcases hpr with rfl | rfl <;> rfl
      · refine .of un ?_
        fail "evo"
        refine low_ok hp hq ?_
        fail "evo"
        refine e_lk ?_
        refine e_dcG (l := ps) (em := fun p => .tup [lt p, lt (lab done p)]) (ke := ky) (va := fun p => lt (mg (lab done) t p)) (ky_nodup hn) (by omega) ?_ ?_ ?_
        · refine i_itm ?_
          fail "evo"
          exact ⟨_, rfl, itemsK_dk _, rfl⟩
        · intro p _
          fail "evo"
          refine ⟨_, rfl, rfl, ?_⟩
          fail "evo"
          refine ⟨rfl, ?_⟩
          fail "evo"
          refine ⟨rfl, rfl, ?_⟩
          fail "evo"
          refine ⟨fun z => ?_, fun z => ?_⟩
          · fail "evo"
            refine ⟨?_, rfl⟩
            unfold mg
            rw [if_pos (of_decide_eq_true z)]
          · fail "evo"
            refine ⟨?_, rfl⟩
            unfold mg
            rw [if_neg (of_decide_eq_false z)]
        refine ⟨_, rfl, ?_⟩
        fail "evo"
        refine .inl ⟨.inl rfl, done ++ [t], rest0, some (.d (lt t.1)), some (.d (lt t.2)), some (.d (lt (min (lab done t.1) (lab done t.2)))), some (.d (lt (max (lab done t.1) (lab done t.2)))), by rw [e]; simp, rfl, ?_, rfl⟩
        rw [lab_snoc]
        rfl
  · rintro ρ S1 ⟨done, rest, k3, k4, k5, k6, e, e1, rfl, rfl⟩
    have : rest = [] := by simpa using e1.symm
    subst this
    rw [List.append_nil] at e
    subst e
    fail "evo"
    exact ⟨rfl, List.take_length⟩
end
end Law10
set_option Elab.async false
set_option linter.all false
set_option maxRecDepth 100000
set_option maxHeartbeats 400000
/-! Own text: the table of a web's ties. -/
namespace Law10
open PySem L2 Ev Gr
theorem idx_ne {x a : Nat} {ns : List Nat} (e : ¬ x = a) : (x :: ns).idxOf a = ns.idxOf a + 1 := by
  rw [List.idxOf_cons, show (x == a) = false from beq_eq_false_iff_ne.mpr e]; rfl
theorem mset {α : Type} {h : Nat → α} {v : α} {a : Nat} : ∀ {ns : List Nat}, ns.Nodup → a ∈ ns → (ns.map h).set (ns.idxOf a) v = ns.map fun p => if p = a then v else h p
  | x :: ns, hn, ha => by
    rw [List.nodup_cons] at hn
    by_cases e : x = a
    · subst e
      rw [List.idxOf_cons_self, List.map_cons, List.set_cons_zero, List.map_cons, if_pos rfl]
      congr 1
      refine List.map_congr_left fun p hp => ?_
      rw [if_neg (fun z : p = x => hn.1 (z ▸ hp))]
    · have ha : a ∈ ns := by
        rcases List.mem_cons.mp ha with z | z
        · exact absurd z.symm e
        · exact z
      rw [idx_ne e, List.map_cons, List.set_cons_succ, mset hn.2 ha, List.map_cons, if_neg e]
theorem mget {α : Type} {h : Nat → α} {a : Nat} : ∀ {ns : List Nat}, a ∈ ns → (ns.map h)[ns.idxOf a]? = some (h a)
  | x :: ns, ha => by
    by_cases e : x = a
    · subst e
      rw [List.idxOf_cons_self]; rfl
    · have ha : a ∈ ns := by
        rcases List.mem_cons.mp ha with z | z
        · exact absurd z.symm e
        · exact z
      rw [idx_ne e, List.map_cons, List.getElem?_cons_succ, mget ha]
theorem lm_idx {a : Nat} {ns : List Nat} (ha : a ∈ ns) : lmD .index (lt a) (ns.map lt) = some (.int (ns.idxOf a : Nat)) := by
  have h1 : (ns.map lt).all flatD = true := by
    rw [List.all_eq_true]
    intro x hx
    obtain ⟨y, _, rfl⟩ := List.mem_map.mp hx
    rfl
  show (if flatD (lt a) = true ∧ (ns.map lt).all flatD = true then (idxF (lt a) (ns.map lt)).map fun j => D.int (j : Nat) else none) = _
  rw [if_pos ⟨rfl, h1⟩]
  have : ∀ ns : List Nat, a ∈ ns → idxF (lt a) (ns.map lt) = some (ns.idxOf a) := by
    intro ns ha
    induction ns with
    | nil => cases ha
    | cons x ns ih =>
      by_cases e : x = a
      · subst e
        rw [List.idxOf_cons_self]
        have h2 : eqF (lt x) (lt x) = true := (eqF_tx [x] [x]).trans (by simp)
        simp [idxF, h2]
      · have ha : a ∈ ns := by
          rcases List.mem_cons.mp ha with z | z
          · exact absurd z.symm e
          · exact z
        rw [idx_ne e, List.map_cons]
        have h2 : eqF (lt x) (lt a) = false := (eqF_tx [x] [a]).trans (by simp [e])
        simp [idxF, ih ha, h2]
  rw [this ns ha]
  rfl
/-- tables over names -/
def TT (ns : List Nat) (M : Nat → Nat → Int) : List (List D) := ns.map fun p => ns.map fun q => .int (M p q)
section
variable {ns : List Nat} {us : List (Nat × Nat)} {S : Sto} {M : Nat → Nat → Int} {a b : Nat}
theorem TT_get (ha : a ∈ ns) : (S ++ rowsC (TT ns M))[S.length + ns.idxOf a]? = some (.lst (ns.map fun q => .int (M a q))) := by
  rw [List.getElem?_append_right (by omega), Nat.add_sub_cancel_left]
  unfold rowsC TT
  rw [List.map_map, mget ha]
  rfl
theorem TT_set {v : Int} (hn : ns.Nodup) (ha : a ∈ ns) (hb : b ∈ ns) : (S ++ rowsC (TT ns M)).set (S.length + ns.idxOf a) (.lst ((ns.map fun q => D.int (M a q)).set (ns.idxOf b) (.int v))) = S ++ rowsC (TT ns fun p q => if p = a ∧ q = b then v else M p q) := by
  rw [List.set_append_right _ _ (by omega), Nat.add_sub_cancel_left]
  congr 1
  unfold rowsC TT
  rw [List.map_map, List.map_map, mset hn ha, mset hn hb]
  refine List.map_congr_left fun p hp => ?_
  by_cases e : p = a
  · subst e
    rw [if_pos rfl]
    show Cell.lst _ = Cell.lst _
    congr 1
    refine List.map_congr_left fun q hq => ?_
    by_cases e2 : q = b
    · subst e2; simp
    · simp [e2]
  · rw [if_neg e]
    show Cell.lst _ = Cell.lst _
    congr 1
    refine List.map_congr_left fun q hq => ?_
    simp [e]
theorem TT_congr {M' : Nat → Nat → Int} (h : ∀ p ∈ ns, ∀ q ∈ ns, M p q = M' p q) : TT ns M = TT ns M' := by
  unfold TT
  refine List.map_congr_left fun p hp => List.map_congr_left fun q hq => ?_
  rw [h p hp q hq]
theorem TT_len : (TT ns M).length = ns.length := by unfold TT; simp
/-- what one end of a tie adds -/
def hf (t : Nat × Nat) (x y : Nat) : Int := if t.1 = t.2 then 0 else if x = t.1 then (if y = t.1 then 1 else if y = t.2 then -1 else 0) else 0
theorem hf_w (t : Nat × Nat) (x y : Nat) : hf t x y + hf (t.2, t.1) x y = w t x y := by
  unfold hf w
  grind
def lB : StF := (sIf (fAnd (fCmp .ne (fVar 5) (fVar 6)) (fCmp .inn (fVar 5) (fVar 0))) (sSeq (sAugS false (fGIx (fVar 2) (fLm .index (fVar 0) (fVar 5))) (fLm .index (fVar 0) (fVar 5)) (fCst (.int (1))))
  (sIf (fCmp .inn (fVar 6) (fVar 0)) (sAugS true (fGIx (fVar 2) (fLm .index (fVar 0) (fVar 5))) (fLm .index (fVar 0) (fVar 6)) (fCst (.int (1)))) sNx)) sNx)
def rL (ns : List Nat) (B : D) (n : Nat) (k3 k4 k5 k6 : Option Val) : Rho := [some (.d (.lst (ns.map lt))), some (.d B), some (.grd (List.range' n ns.length)), k3, k4, k5, k6, none]
theorem e_idx0 {B : D} {k3 k4 k5 k6 : Option Val} {S2 : Sto} {n i a : Nat} {P : Res → Sto → Prop} (hi : (rL ns B n k3 k4 k5 k6)[i]? = some (some (.d (lt a)))) (ha : a ∈ ns) (h : P (.val (.d (.int (ns.idxOf a : Nat)))) S2) : G2 (fLm .index (fVar 0) (fVar i) (rL ns B n k3 k4 k5 k6) S2) P :=
  e_lm (e_var rfl ⟨_, rfl, e_var hi ⟨_, _, _, rfl, rfl, lm_idx ha, h⟩⟩)
theorem lB_ok {B : D} {k3 k4 : Option Val} {R : Flw → Rho → Sto → Prop} (hn : ns.Nodup) (h3 : ns.length ≤ 4)
    (h : R .nx (rL ns B S.length k3 k4 (some (.d (lt a))) (some (.d (lt b)))) (S ++ rowsC (TT ns fun p q => M p q + hf (a, b) p q))) :
    G3 (lB (rL ns B S.length k3 k4 (some (.d (lt a))) (some (.d (lt b)))) (S ++ rowsC (TT ns M))) R := by
  have set1 : ∀ {a b : Nat} {M : Nat → Nat → Int} {sub : Bool} {v : Int} {i : Nat} {R : Flw → Rho → Sto → Prop}, a ∈ ns → b ∈ ns → (∀ (k5 k6 : Option Val), (rL ns B S.length k3 k4 k5 k6)[5]? = some k5) → ∀ {k5 k6 : Option Val}, (rL ns B S.length k3 k4 k5 k6)[5]? = some (some (.d (lt a))) → (rL ns B S.length k3 k4 k5 k6)[i]? = some (some (.d (lt b))) →
      R .nx (rL ns B S.length k3 k4 k5 k6) (S ++ rowsC (TT ns fun p q => if p = a ∧ q = b then augI sub (M a b) 1 else M p q)) →
      G3 (sAugS sub (fGIx (fVar 2) (fLm .index (fVar 0) (fVar 5))) (fLm .index (fVar 0) (fVar i)) (fCst (.int (1))) (rL ns B S.length k3 k4 k5 k6) (S ++ rowsC (TT ns M))) R := by
    intro a b M sub v i R ha hb _ k5 k6 hi hj h
    refine s_aug' (e_gix (e_var rfl (e_idx0 hi ha ?_)))
    refine ⟨_, _, S.length + ns.idxOf a, rfl, rfl, at_range' rfl (List.idxOf_lt_length_of_mem ha), ?_⟩
    refine e_idx0 hj hb ?_
    refine ⟨_, _, ((ns.idxOf b : Nat) : Int), M a b, rfl, TT_get ha, rfl, by omega, ?_, ?_⟩
    · rw [Int.toNat_natCast, mget hb]
    refine e_cst ⟨1, ns.map (fun q => .int (M a q)), ns.idxOf b, rfl, TT_get ha, ixN_nat rfl (by rw [List.length_map]; exact List.idxOf_lt_length_of_mem hb), ?_⟩
    rw [TT_set hn ha hb]
    exact h
  unfold lB
  have noth : hf (a, b) = (fun _ _ => 0) ∨ (a ≠ b ∧ a ∈ ns) ∨ (a ≠ b ∧ a ∉ ns) := by
    by_cases e : a = b
    · left; funext x y; unfold hf; rw [if_pos e]
    · by_cases z : a ∈ ns
      · exact .inr (.inl ⟨e, z⟩)
      · exact .inr (.inr ⟨e, z⟩)
  have same : (∀ p ∈ ns, ∀ q ∈ ns, hf (a, b) p q = 0) → R .nx (rL ns B S.length k3 k4 (some (.d (lt a))) (some (.d (lt b)))) (S ++ rowsC (TT ns M)) := fun z => by
    rw [TT_congr (M' := fun p q => M p q + hf (a, b) p q) fun p hp q hq => by rw [z p hp q hq]; omega]
    exact h
  unfold rL
  fail "evo"
  refine ⟨_, rfl, fun z => ?_, fun z => ?_⟩
  · have ne : a ≠ b := by simpa using z
    fail "evo"
    refine ⟨fun z => ?_, fun z => ?_⟩
    · have ha : a ∈ ns := of_decide_eq_true z
      refine s_seq' ?_
      refine set1 (v := 0) ha ha (fun _ _ => rfl) rfl rfl ?_
      refine ⟨fun _ => ?_, fun z => absurd rfl z⟩
      unfold rL
      fail "evo"
      refine ⟨fun z => ?_, fun z => ?_⟩
      · have hb : b ∈ ns := of_decide_eq_true z
        refine set1 (v := 0) ha hb (fun _ _ => rfl) rfl rfl ?_
        rw [TT_congr (M' := fun p q => M p q + hf (a, b) p q) fun p hp q hq => ?_]
        · exact h
        · unfold hf augI
          have := ne
          grind
      · have hb : b ∉ ns := of_decide_eq_false z
        fail "evo"
        rw [TT_congr (M' := fun p q => M p q + hf (a, b) p q) fun p hp q hq => ?_]
        · exact h
        · unfold hf augI
          have := ne
          grind
    · have ha : a ∉ ns := of_decide_eq_false z
      fail "evo"
      refine same fun p hp q hq => ?_
      unfold hf
      rw [if_neg ne, if_neg (fun e : p = a => ha (e ▸ hp))]
  · have e : a = b := by simpa using z
    fail "evo"
    refine ⟨fun z => (nomatch z), fun _ => ?_⟩
    fail "evo"
    refine same fun p hp q hq => ?_
    unfold hf
    rw [if_pos e]
theorem lap_eq : b_laplacian = (sSeq (sAsg false (fGrd (iSeq (fVar 0)) (gNm 7) (fBop .mul (fLst [(fCst (.int (0)))]) (fLenO "Web" f_len (fVar 0))) [7]) (gNm 2))
  (sSeq (sFor (iSeq (fVar 1)) (gTp [(gNm 3), (gNm 4)]) (sFor (iSeq (fTup [(fTup [(fVar 3), (fVar 4)]), (fTup [(fVar 4), (fVar 3)])])) (gTp [(gNm 5), (gNm 6)]) lB))
  (sRet (fVar 2)))) := rfl
theorem Lp_snoc (t : Nat × Nat) : ∀ (us : List (Nat × Nat)) (p q : Nat), Lp (us ++ [t]) p q = Lp us p q + w t p q
  | [], p, q => by
    show 0 + w t p q = 0 + w t p q
    rfl
  | u :: us, p, q => by
    show Lp (us ++ [t]) p q + w u p q = Lp us p q + w u p q + w t p q
    rw [Lp_snoc t us]
    omega
theorem lap_ok (hn : ns.Nodup) (h3 : ns.length ≤ 4) : G2 (f_laplacian [.d (.lst (ns.map lt)), .d (.lst (us.map pt))] S) fun r S' => r = .val (.grd (List.range' S.length ns.length)) ∧ S' = S ++ rowsC (TT ns (Lp us)) := by
  unfold f_laplacian
  rw [lap_eq]
  fail "evo"
  refine e_grd (xs := (List.replicate ns.length (0 : Int)).map .int) (.of (a := ns.map lt) (b := S) rfl ⟨by rw [List.length_map, sizeLine_val]; omega, ?_, ?_⟩)
  · intro d _ S2
    fail "evo"
    refine ⟨rfl, ?_⟩
    fail "evo"
    rw [List.length_map]
    exact ⟨rfl, rfl⟩
  rw [List.length_map]
  have e0 : S ++ List.replicate ns.length (Cell.lst ((List.replicate ns.length (0 : Int)).map .int)) = S ++ rowsC (TT ns (Lp [])) := by
    congr 1
    unfold rowsC TT
    rw [List.map_map]
    refine List.ext_getElem? fun i => ?_
    rw [List.getElem?_replicate, List.getElem?_map]
    by_cases hi : i < ns.length
    · rw [if_pos hi, List.getElem?_eq_getElem hi]
      show some (Cell.lst _) = some (Cell.lst _)
      congr 2
      refine List.ext_getElem? fun j => ?_
      rw [List.getElem?_map, List.getElem?_replicate, List.getElem?_map]
      by_cases hj : j < ns.length
      · rw [if_pos hj, List.getElem?_eq_getElem hj]; rfl
      · rw [if_neg hj, List.getElem?_eq_none (by omega)]; rfl
    · rw [if_neg hi, List.getElem?_eq_none (by omega)]; rfl
  rw [e0]
  fail "evo"
  refine loop_inv (fun ds ρ S1 => ∃ (done rest : List (Nat × Nat)) (k3 k4 k5 k6 : Option Val), us = done ++ rest ∧ ds = rest.map pt ∧ ρ = rL ns (.lst (us.map pt)) S.length k3 k4 k5 k6 ∧ S1 = S ++ rowsC (TT ns (Lp done)))
    ⟨[], us, none, none, none, none, rfl, rfl, rfl, rfl⟩ ?_ ?_
  · rintro d ds ρ S1 ⟨done, rest, k3, k4, k5, k6, e, e1, rfl, rfl⟩
    cases rest with
    | nil => cases e1
    | cons t rest0 =>
      rw [List.map_cons] at e1
      obtain ⟨rfl, rfl⟩ := List.cons.inj e1
      unfold rL pt
      fail "evo"
      refine ⟨_, rfl, rfl, ?_⟩
      fail "evo"
      refine loop_inv (fun ds ρ S1 => ∃ (don rst : List (Nat × Nat)) (k5 k6 : Option Val), [t, (t.2, t.1)] = don ++ rst ∧ ds = rst.map pt ∧ ρ = rL ns (.lst (us.map pt)) S.length (some (.d (lt t.1))) (some (.d (lt t.2))) k5 k6 ∧ S1 = S ++ rowsC (TT ns fun p q => Lp done p q + (don.map fun t => hf t p q).sum))
        ⟨[], _, k5, k6, rfl, rfl, rfl, ?_⟩ ?_ ?_
      · congr 2
        refine (TT_congr fun p _ q _ => ?_)
        simp
      · rintro d2 ds2 ρ S1 ⟨don, rst, k5, k6, e3, e4, rfl, rfl⟩
        cases rst with
        | nil => cases e4
        | cons x rst =>
          rw [List.map_cons] at e4
          obtain ⟨rfl, rfl⟩ := List.cons.inj e4
          unfold rL
          refine .of (a := rL ns (.lst (us.map pt)) S.length (some (.d (lt t.1))) (some (.d (lt t.2))) (some (.d (lt x.1))) (some (.d (lt x.2)))) rfl ?_
          refine lB_ok hn h3 ?_
          refine .inl ⟨.inl rfl, don ++ [x], rst, _, _, by rw [e3]; simp, rfl, rfl, ?_⟩
          congr 2
          refine (TT_congr fun p _ q _ => ?_)
          have : hf (x.1, x.2) p q = hf x p q := rfl
          simp
          omega
      · rintro ρ S1 ⟨don, rst, k5, k6, e3, e4, rfl, rfl⟩
        have : rst = [] := by simpa using e4.symm
        subst this
        rw [List.append_nil] at e3
        subst e3
        refine .inl ⟨.inl rfl, done ++ [t], rest0, _, _, _, _, by rw [e]; simp, rfl, rfl, ?_⟩
        congr 2
        refine (TT_congr fun p _ q _ => ?_)
        rw [Lp_snoc, ← hf_w]
        simp
  · rintro ρ S1 ⟨done, rest, k3, k4, k5, k6, e, e1, rfl, rfl⟩
    have : rest = [] := by simpa using e1.symm
    subst this
    rw [List.append_nil] at e
    subst e
    unfold rL
    fail "evo"
    refine trunc_g (cs := rowsC (TT ns (Lp us))) ?_ ⟨rfl, rfl⟩
    unfold rowsC
    rw [List.length_map, TT_len]
end
end Law10
set_option Elab.async false
set_option linter.all false
set_option maxRecDepth 100000
set_option maxHeartbeats 800000
/-! Own text: elimination. -/
namespace Law10
open PySem L2 Ev Gr
def rowx (n : Nat) (f : Mx) (i : Nat) : D := .lst ((List.range n).map fun j => .int (f i j))
def tbx (n : Nat) (f : Mx) : List D := (List.range n).map (rowx n f)
section
variable {n k p j : Nat} {f : Mx} {z bf : Int} {S : Sto} {k3 k4 k5 k6 k7 : Option Val} {R : Flw → Rho → Sto → Prop}
theorem ix_tb (e : z = (p : Int)) (hp : p < n) : idxD (.lst (tbx n f)) (.int z) = some (rowx n f p) := by
  have := ix_lst' (f := rowx n f) (m := List.range n) e (by rw [List.length_range]; exact hp)
  rw [List.getElem_range] at this
  exact this
theorem ix_row (e : z = (j : Int)) (hj : j < n) : idxD (rowx n f p) (.int z) = some (.int (f p j)) := by
  have := ix_lst' (f := fun j => D.int (f p j)) (m := List.range n) e (by rw [List.length_range]; exact hj)
  rw [List.getElem_range] at this
  exact this
theorem rgL' (h : k ≤ n) : rgL (k : Int) (n : Int) = (List.range' k (n - k)).map nt := by
  have := rgL_from (a := k) (n := n - k)
  rw [show k + (n - k) = n by omega] at this
  rw [this, List.range'_eq_map_range, List.map_map]
  rfl
theorem tbx_len : (tbx n f).length = n := by unfold tbx; simp
theorem tbx_congr {g : Mx} (h : ∀ i, i < n → ∀ j, j < n → f i j = g i j) : tbx n f = tbx n g := by
  unfold tbx rowx
  refine List.map_congr_left fun i hi => ?_
  congr 1
  refine List.map_congr_left fun j hj => ?_
  rw [h i (List.mem_range.mp hi) j (List.mem_range.mp hj)]
theorem tbx_set {g : Mx} (hp : p < n) : (tbx n f).set p (rowx n g p) = tbx n fun i j => if i = p then g i j else f i j := by
  refine List.ext_getElem? fun i => ?_
  unfold tbx
  rw [List.getElem?_set]
  simp only [List.length_map, List.length_range, List.getElem?_map]
  by_cases hi : i < n
  · rw [List.getElem?_range hi]
    by_cases e : p = i
    · subst e
      rw [if_pos rfl, if_pos hp]
      simp [rowx]
    · rw [if_neg e]
      simp [rowx, show ¬ i = p from fun z => e z.symm]
  · rw [List.getElem?_eq_none (by simp; omega), if_neg (by omega)]; rfl
def spots (n k : Nat) (f : Mx) : List Nat := (List.range' k (n - k)).filter fun p => !decide (f p k = 0)
theorem spots_hd (hk : k < n) (h : f k k ≠ 0) : ∃ l, spots n k f = k :: l := by
  unfold spots
  rw [show n - k = (n - k - 1) + 1 by omega, List.range'_succ, List.filter_cons_of_pos (by simpa using h)]
  exact ⟨_, rfl⟩
theorem spots_nil (h : ∀ p, k ≤ p → p < n → f p k = 0) : spots n k f = [] := by
  unfold spots
  rw [List.filter_eq_nil_iff]
  intro p hp
  rw [List.mem_range'] at hp
  obtain ⟨i, hi, rfl⟩ := hp
  have := h (k + 1 * i) (by omega) (by omega)
  rw [this]
  simp
def dA : StF := (sAsg false (fLc (iRng2 (fVar 3) (fLenO "Web" f_len (fVar 0))) (gNm 4) (some (fCmp .ne (fIdx (fIdx (fVar 0) (fVar 4)) (fVar 3)) (fCst (.int (0))))) (fVar 4) [4]) (gNm 5))
def dB : StF := (sIf (fCmp .eq (fVar 5) (fLst [])) (sRet (fCst (.int (0)))) sNx)
def dC : StF := (sIf (fCmp .ne (fIdx (fVar 5) (fCst (.int (0)))) (fVar 3)) (sParN [(false, (fIdx (fVar 0) (fIdx (fVar 5) (fCst (.int (0)))))), (false, (fIdx (fVar 0) (fVar 3))), (false, (fNeg (fVar 1)))] [(gSb (fVar 0) (fVar 3)), (gSb (fVar 0) (fIdx (fVar 5) (fCst (.int (0))))), (gNm 1)]) sNx)
def dL : StF := (sAsg false (fIdx (fVar 0) (fVar 3)) (gNm 6))
def dX : StF := (sSeq (sAsg false (fIdx (fIdx (fVar 0) (fVar 4)) (fVar 3)) (gNm 7))
  (sAsg false (fLc (iZip (fIdx (fVar 0) (fVar 4)) (fVar 6)) (gTp [(gNm 9), (gNm 10)]) none (fBop .fdiv (fBop .sub (fBop .mul (fVar 9) (fIdx (fVar 6) (fVar 3))) (fBop .mul (fVar 7) (fVar 10))) (fVar 2)) [9, 10]) (gSb (fVar 0) (fVar 4))))
def dY : StF := (sFor (iRng2 (fBop .add (fVar 3) (fCst (.int (1)))) (fLenO "Web" f_len (fVar 0))) (gNm 4) dX)
def dZ : StF := (sAsg false (fIdx (fVar 6) (fVar 3)) (gNm 2))
def dAll : StF := sSeq dA (sSeq dB (sSeq dC (sSeq dL (sSeq dY dZ))))
def dH : StF := (sParN [(true, (fLc (iSeq (fVar 0)) (gNm 8) none (fBi .list [(fVar 8)]) [8])), (false, (fCst (.int (1)))), (false, (fCst (.int (1))))] [(gNm 0), (gNm 1), (gNm 2)])
theorem det_eq : b_determinant = sSeq dH (sSeq (sFor (iRng1 (fLenO "Web" f_len (fVar 0))) (gNm 3) dAll) (sRet (fBop .mul (fVar 1) (fVar 2)))) := rfl
def rD (m : Nat) (bf : Int) (k3 k4 k5 k6 k7 : Option Val) : Rho := [some (.cell m), some (.d (.int 1)), some (.d (.int bf)), k3, k4, k5, k6, k7, none, none, none]
def sD (S : Sto) (n : Nat) (f : Mx) : Sto := S ++ [.lst (tbx n f)]
theorem sD_at : (sD S n f)[S.length]? = some (.lst (tbx n f)) := at_end S _
theorem e_lenR {P : Res → Sto → Prop} (h3 : n ≤ 4) (h : P (.val (.d (.int (n : Int)))) (sD S n f)) : G2 (fLenO "Web" f_len (fVar 0) (rD S.length bf k3 k4 k5 k6 k7) (sD S n f)) P := by
  refine e_len (e_var rfl (pk_sc sD_at ⟨(fun _ _ z => nomatch z), .of (a := n) ?_ h⟩))
  show some (tbx n f).length = _
  rw [tbx_len]
theorem len_tb : lenD (.lst (tbx n f)) = some n := by
  show some (tbx n f).length = _
  rw [tbx_len]
theorem dA_ok (hk : k < n) (h3 : n ≤ 4) (h : R .nx (rD S.length bf (some (.d (nt k))) k4 (some (.d (.lst ((spots n k f).map nt)))) k6 k7) (sD S n f)) : G3 (dA (rD S.length bf (some (.d (nt k))) k4 k5 k6 k7) (sD S n f)) R := by
  unfold dA
  fail "evo"
  refine e_lcFilt (l := List.range' k (n - k)) (em := nt) (va := nt) (p := fun p => !decide (f p k = 0)) ?_ (by rw [List.length_range']; omega) ?_ ?_
  · refine G2.eq (i_rng2' (e_var rfl ?_))
    refine e_lenR h3 ⟨_, _, rfl, rfl, ?_, rgL' (by omega), rfl⟩
    unfold small62; omega
  · intro p hp
    rw [List.mem_range'] at hp
    unfold rD
    fail "evo"
    refine ⟨rfl, ?_⟩
    fail "evo"
    refine pk_sc sD_at ?_
    fail "evo"
    refine .of (ix_tb rfl (by omega)) ?_
    fail "evo"
    refine .of (ix_row rfl (by omega)) ?_
    fail "evo"
    refine ⟨rfl, rfl, fun _ => ?_⟩
    fail "evo"
    exact ⟨rfl, rfl⟩
  · fail "evo"
    exact h
theorem dB_nx {l : List Nat} (h : R .nx (rD S.length bf k3 k4 (some (.d (.lst ((k :: l).map nt)))) k6 k7) (sD S n f)) : G3 (dB (rD S.length bf k3 k4 (some (.d (.lst ((k :: l).map nt)))) k6 k7) (sD S n f)) R := by
  unfold dB rD
  fail "evo"
  refine .of (a := false) ?_ ?_
  · show eqD (.lst ((k :: l).map nt)) (.lst (([] : List Nat).map nt)) = _
    rw [eq_lst]
    simp
  fail "evo"
  refine ⟨fun z => (nomatch z), fun _ => ?_⟩
  fail "evo"
  exact h
theorem dB_rt (h : ∀ ρ, R (.rt (.val (.d (.int 0)))) ρ (sD S n f)) : G3 (dB (rD S.length bf k3 k4 (some (.d (.lst (([] : List Nat).map nt)))) k6 k7) (sD S n f)) R := by
  unfold dB rD
  fail "evo"
  refine ⟨fun _ => ?_, fun z => absurd z (by decide)⟩
  fail "evo"
  exact h _
theorem dC_ok {l : List Nat} (h : R .nx (rD S.length bf (some (.d (nt k))) k4 (some (.d (.lst ((k :: l).map nt)))) k6 k7) (sD S n f)) : G3 (dC (rD S.length bf (some (.d (nt k))) k4 (some (.d (.lst ((k :: l).map nt)))) k6 k7) (sD S n f)) R := by
  unfold dC rD
  fail "evo"
  refine .of (ix_lst' (f := nt) (m := k :: l) (k := 0) rfl (by simp)) ?_
  fail "evo"
  refine ⟨fun z => ?_, fun _ => ?_⟩
  · simp at z
  fail "evo"
  exact h
theorem dL_ok (hk : k < n) (h : R .nx (rD S.length bf (some (.d (nt k))) k4 k5 (some (.d (rowx n f k))) k7) (sD S n f)) : G3 (dL (rD S.length bf (some (.d (nt k))) k4 k5 k6 k7) (sD S n f)) R := by
  unfold dL rD
  fail "evo"
  refine pk_sc sD_at ?_
  fail "evo"
  refine .of (ix_tb rfl hk) ?_
  fail "evo"
  exact h
theorem dZ_ok (hk : k < n) (h : R .nx (rD S.length (f k k) (some (.d (nt k))) k4 k5 (some (.d (rowx n f k))) k7) (sD S n f)) : G3 (dZ (rD S.length bf (some (.d (nt k))) k4 k5 (some (.d (rowx n f k))) k7) (sD S n f)) R := by
  unfold dZ rD
  fail "evo"
  refine .of (ix_row rfl hk) ?_
  fail "evo"
  exact h
theorem dX_ok {g : Mx} (hk : k < p) (hp : p < n) (h3 : n ≤ 4) (hb : 0 < bf ∧ bf < 1073741824) (hd : ∀ i j, i < n → j < n → -400000 < f i j ∧ f i j < 400000) (hg : ∀ j, g p j = f p j)
    (h : ∀ k7, R .nx (rD S.length bf (some (.d (nt k))) (some (.d (nt p))) k5 (some (.d (rowx n f k))) k7) (sD S n fun i j => if i = p then el k bf f i j else g i j)) :
    G3 (dX (rD S.length bf (some (.d (nt k))) (some (.d (nt p))) k5 (some (.d (rowx n f k))) k7) (sD S n g)) R := by
  unfold dX rD
  fail "evo"
  refine pk_sc sD_at ?_
  fail "evo"
  refine .of (ix_tb rfl hp) ?_
  fail "evo"
  refine .of (ix_row rfl (by omega)) ?_
  fail "evo"
  rw [hg]
  refine e_lcMap (l := List.range n) (em := fun j => .tup [.int (f p j), .int (f k j)]) (va := fun j => .int ((f p j * f k k - f p k * f k j) / bf)) ?_ (by rw [List.length_range]; omega) ?_ ?_
  · refine G2.eq ?_
    fail "evo"
    refine pk_sc sD_at ?_
    fail "evo"
    refine .of (ix_tb rfl hp) ?_
    unfold rowx
    fail "evo"
    refine ⟨?_, rfl⟩
    rw [zip_map]
    simp [List.zip_eq_zipWith, hg]
  · intro j hj
    have hj := List.mem_range.mp hj
    have b1 := hd p j hp hj
    have b2 := hd k k (by omega) (by omega)
    have b3 := hd p k hp (by omega)
    have b4 := hd k j (by omega) hj
    fail "evo"
    refine ⟨_, rfl, rfl, ?_⟩
    fail "evo"
    refine ⟨rfl, ?_⟩
    fail "evo"
    refine .of (ix_row rfl (by omega)) ?_
    fail "evo"
    exact ⟨rfl, rfl⟩
  fail "evo"
  have e : (sD S n g).set S.length (.lst ((tbx n g).set p (rowx n (el k bf f) p))) = sD S n fun i j => if i = p then el k bf f i j else g i j := by
    unfold sD
    rw [tbx_set hp, set_end]
  have e2 : rowx n (el k bf f) p = .lst ((List.range n).map fun j => .int ((f p j * f k k - f p k * f k j) / bf)) := by
    unfold rowx el
    simp [show ¬ p ≤ k by omega]
  rw [e2] at e
  refine ⟨_, _, _, p, rfl, sD_at, rfl, ixN_nat rfl (by rw [tbx_len]; exact hp), ?_⟩
  show R .nx (rD S.length bf (some (.d (nt k))) (some (.d (nt p))) k5 (some (.d (rowx n f k))) _) ((sD S n g).set S.length _)
  rw [e]
  exact h _
theorem dY_ok (hk : k < n) (h3 : n ≤ 4) (hb : 0 < bf ∧ bf < 1073741824 ∨ n ≤ k + 1) (hd : ∀ i j, i < n → j < n → -400000 < f i j ∧ f i j < 400000)
    (h : ∀ k4 k7, R .nx (rD S.length bf (some (.d (nt k))) k4 k5 (some (.d (rowx n f k))) k7) (sD S n (el k bf f))) :
    G3 (dY (rD S.length bf (some (.d (nt k))) k4 k5 (some (.d (rowx n f k))) k7) (sD S n f)) R := by
  unfold dY
  refine s_for' ?_
  refine i_rng2' ?_
  unfold rD
  fail "evo"
  refine pk_sc sD_at ⟨(fun _ _ z => nomatch z), .of (a := n) len_tb ?_⟩
  refine ⟨_, _, rfl, rfl, by unfold small62; omega, ?_⟩
  have e0 : rgL ((k : Int) + 1) (n : Int) = (List.range' (k + 1) (n - (k + 1))).map nt := rgL' (k := k + 1) (by omega)
  rw [e0]
  refine loop_inv (fun ds ρ S1 => ∃ (p : Nat) (k4 k7 : Option Val), k + 1 ≤ p ∧ p ≤ n ∧ ds = (List.range' p (n - p)).map nt ∧ ρ = rD S.length bf (some (.d (nt k))) k4 k5 (some (.d (rowx n f k))) k7 ∧ S1 = sD S n fun i j => if i < p then el k bf f i j else f i j)
    ⟨k + 1, k4, k7, by omega, by omega, rfl, rfl, ?_⟩ ?_ ?_
  · unfold sD
    rw [tbx_congr fun i _ j _ => ?_]
    by_cases z : i < k + 1
    · rw [if_pos z]; unfold el; rw [if_pos (by omega)]
    · rw [if_neg z]
  · rintro d ds ρ S1 ⟨p, k4, k7, h1, h2, e, rfl, rfl⟩
    by_cases hp : p < n
    · rw [show n - p = (n - (p + 1)) + 1 by omega, List.range'_succ, List.map_cons] at e
      obtain ⟨rfl, rfl⟩ := List.cons.inj e
      unfold rD
      fail "evo"
      refine dX_ok (f := f) (k := k) (by omega) hp h3 (by omega) hd (fun j => if_neg (by omega)) fun k7 => ?_
      refine .inl ⟨.inl rfl, p + 1, _, k7, by omega, by omega, rfl, rfl, ?_⟩
      unfold sD
      rw [tbx_congr fun i _ j _ => ?_]
      by_cases z : i = p
      · rw [if_pos z, if_pos (by omega)]
      · rw [if_neg z]
        by_cases z2 : i < p
        · rw [if_pos z2, if_pos (by omega)]
        · rw [if_neg z2, if_neg (by omega)]
    · rw [show n - p = 0 by omega] at e
      cases e
  · rintro ρ S1 ⟨p, k4, k7, h1, h2, e, rfl, rfl⟩
    have hp : p = n := by
      have := congrArg List.length e
      simp at this
      omega
    subst hp
    have := h k4 k7
    unfold sD at this ⊢
    rw [tbx_congr (g := el k bf f) fun i hi j _ => if_pos hi]
    exact this
theorem dAll_ok (hk : k < n) (h3 : n ≤ 4) (hpv : f k k ≠ 0) (hb : 0 < bf ∧ bf < 1073741824 ∨ n ≤ k + 1) (hd : ∀ i j, i < n → j < n → -400000 < f i j ∧ f i j < 400000)
    (h : ∀ k4 k5 k6 k7, R .nx (rD S.length (f k k) (some (.d (nt k))) k4 k5 k6 k7) (sD S n (el k bf f))) :
    G3 (dAll (rD S.length bf (some (.d (nt k))) k4 k5 k6 k7) (sD S n f)) R := by
  obtain ⟨l, e⟩ := spots_hd hk hpv
  have next : ∀ {s t : StF} {ρ : Rho} {S : Sto} {R : Flw → Rho → Sto → Prop}, G3 (s ρ S) (fun o ρ S => o = .nx ∧ G3 (t ρ S) R) → G3 (sSeq s t ρ S) R := fun h => s_seq' (h.mono fun o ρ S ⟨a, b⟩ => ⟨fun _ => b, fun z => absurd a z⟩)
  unfold dAll
  refine next (dA_ok hk h3 ⟨rfl, ?_⟩)
  rw [e]
  refine next (dB_nx ⟨rfl, ?_⟩)
  refine next (dC_ok ⟨rfl, ?_⟩)
  refine next (dL_ok hk ⟨rfl, ?_⟩)
  refine next (dY_ok hk h3 hb hd fun k4 k7 => ⟨rfl, ?_⟩)
  have e2 : rowx n f k = rowx n (el k bf f) k := by
    unfold rowx el
    simp
  rw [e2]
  refine dZ_ok hk ?_
  have e3 : el k bf f k k = f k k := by unfold el; simp
  rw [e3]
  exact h _ _ _ _
theorem dAll_rt (hk : k < n) (h3 : n ≤ 4) (hz : ∀ p, k ≤ p → p < n → f p k = 0) (h : ∀ ρ, R (.rt (.val (.d (.int 0)))) ρ (sD S n f)) :
    G3 (dAll (rD S.length bf (some (.d (nt k))) k4 k5 k6 k7) (sD S n f)) R := by
  unfold dAll
  refine s_seq' (dA_ok hk h3 ⟨fun _ => ?_, fun z => absurd rfl z⟩)
  rw [spots_nil hz]
  refine s_seq' ?_
  refine dB_rt fun ρ => ?_
  exact ⟨fun z => (nomatch z), fun _ => h ρ⟩
theorem dH_ok {xss : List (List D)} (hx : xss.length = n) (h3 : n ≤ 4) (hf : xss.map D.lst = tbx n f)
    (h : R .nx (rD (S ++ xss.map fun xs => Cell.frz (.lst xs)).length 1 none none none none none) (sD (S ++ xss.map fun xs => .frz (.lst xs)) n f)) :
    G3 (dH [some (.grd (List.range' S.length n)), none, none, none, none, none, none, none, none, none, none] (S ++ rowsC xss)) R := by
  unfold dH
  fail "evp"
  have hi : iSeq (fVar 0) [some (.grd (List.range' S.length n)), none, none, none, none, none, none, none, none, none, none] (S ++ rowsC xss) = some (xss.map D.lst, S ++ xss.map fun xs => .frz (.lst xs)) := by
    refine G2.eq (i_seq' (e_eD (e_var rfl ?_)))
    refine toD_g hx.symm ?_
    exact ⟨_, rfl, rfl, rfl⟩
  refine e_lc (.of hi (.of (comp_map (l := xss) (em := D.lst) (va := D.lst) (by simp; omega) fun x _ => ?_) ?_))
  · fail "evo"
    refine ⟨rfl, ?_⟩
    fail "evo"
    exact ⟨rfl, rfl⟩
  rw [List.nil_append, hf]
  fail "evp"
  exact h
theorem det_ok {xss : List (List D)} {m : Nat} (hx : xss.length = n) (h3 : n ≤ 4) (hf : xss.map D.lst = tbx n f) (G : Goes n m f 400000) :
    G2 (f_determinant [.grd (List.range' S.length n)] (S ++ rowsC xss)) fun r S' => r = .val (.d (.int (valG n m f))) ∧ S' = S ++ xss.map fun xs => .frz (.lst xs) := by
  unfold f_determinant
  rw [det_eq]
  have hle := G.le
  have hl : (S ++ rowsC xss).length = (S ++ xss.map fun xs => Cell.frz (.lst xs)).length := by simp [rowsC]
  fail "evo"
  refine dH_ok hx h3 hf ⟨fun _ => ?_, fun z => absurd rfl z⟩
  rw [hl]
  generalize (S ++ xss.map fun xs => Cell.frz (.lst xs)) = T
  refine s_seq' (s_for' (i_rng' (e_lenR h3 ⟨_, rfl, by unfold small62; omega, ?_⟩)))
  have e0 : rgL 0 (n : Int) = (List.range' 0 (n - 0)).map nt := rgL' (k := 0) (by omega)
  rw [e0]
  refine loop_inv (fun ds ρ S1 => ∃ (k : Nat) (k3 k4 k5 k6 k7 : Option Val), k ≤ m ∧ ds = (List.range' k (n - k)).map nt ∧ ρ = rD T.length (Rf f k).2 k3 k4 k5 k6 k7 ∧ S1 = sD T n (Rf f k).1)
    ⟨0, none, none, none, none, none, by omega, rfl, rfl, rfl⟩ ?_ ?_
  · rintro d ds ρ S1 ⟨k, k3, k4, k5, k6, k7, h1, e, rfl, rfl⟩
    by_cases hk : k < n
    · rw [show n - k = (n - (k + 1)) + 1 by omega, List.range'_succ, List.map_cons] at e
      obtain ⟨rfl, rfl⟩ := List.cons.inj e
      refine .of (a := rD T.length (Rf f k).2 (some (.d (nt k))) k4 k5 k6 k7) rfl ?_
      by_cases hm : k < m
      · refine dAll_ok hk h3 (G.pos k hm).1 ?_ (G.bd k (by omega) hk) fun k4 k5 k6 k7 => ?_
        · by_cases z : n ≤ k + 1
          · exact .inr z
          · refine .inl ?_
            match k, hm, hk with
            | 0, _, _ => exact ⟨Int.one_pos, by show (1 : Int) < _; omega⟩
            | k + 1, hm, hk =>
              have h1 := (G.pos k (by omega)).2 (by omega)
              have h2 := (G.bd k (by omega) (by omega) k k (by omega) (by omega)).2
              show 0 < (Rf f k).1 k k ∧ (Rf f k).1 k k < _
              omega
        · exact .inl ⟨.inl rfl, k + 1, _, k4, k5, k6, k7, by omega, rfl, rfl, rfl⟩
      · obtain rfl : k = m := by omega
        refine dAll_rt hk h3 (G.stop hk) fun ρ => ?_
        refine .inr ⟨_, rfl, fun z => (nomatch z), fun _ => ?_⟩
        refine ⟨_, .inl rfl, ?_⟩
        unfold sD
        fail "evo"
        refine ⟨?_, List.take_left' rfl⟩
        unfold valG
        rw [if_neg (by omega)]
    · rw [show n - k = 0 by omega] at e
      cases e
  · rintro ρ S1 ⟨k, k3, k4, k5, k6, k7, h1, e, rfl, rfl⟩
    have hk : k = n := by
      have := congrArg List.length e
      simp at this
      omega
    subst hk
    obtain rfl : k = m := by omega
    refine ⟨fun _ => ?_, fun z => absurd rfl z⟩
    unfold rD sD
    fail "evo"
    refine ⟨?_, List.take_left' rfl⟩
    unfold valG
    rw [if_pos rfl]
    congr 3
    omega
end
end Law10
set_option Elab.async false
set_option linter.all false
set_option maxRecDepth 100000
set_option maxHeartbeats 800000
/-! Own text: trees by determinants. -/
namespace Law10
open PySem L2 Ev Gr
section
variable {ns ps : List Nat} {us ts : List (Nat × Nat)} {S : Sto} {M : Nat → Nat → Int} {I O : List Nat}
theorem TT_tbx : (TT ns M).map D.lst = tbx ns.length fun i j => M (ns.getD i 0) (ns.getD j 0) := by
  unfold TT tbx
  rw [List.map_map, ← map_range (m := ns) (d := 0) (f := D.lst ∘ fun p => ns.map fun q => D.int (M p q)) rfl]
  refine List.map_congr_left fun i _ => ?_
  show D.lst (ns.map fun q => D.int (M (ns.getD i 0) q)) = rowx _ _ _
  unfold rowx
  rw [← map_range (m := ns) (d := 0) (f := fun q => D.int (M (ns.getD i 0) q)) rfl]
theorem full_ok (hn : ns.Nodup) (h4 : ns.length ≤ 4) (ho : On ns us) (h6 : us.length ≤ 6) (h3 : (ns.filter fun p => !decide (lab us p = p)).length ≤ 3) :
    f_full_woods [.d (.lst (ns.map lt)), .d (.lst (us.map pt))] S = some (.val (.d (.int (Wd (Lp us) (ns.filter fun p => !decide (lab us p = p))))), S) := by
  refine G2.eq ?_
  unfold f_full_woods b_full_woods
  fail "evo"
  refine .of (heads_ok (A := .lst (ns.map lt)) (pr := pt) rfl (.inr rfl) hn h4 ho) ?_
  fail "evo"
  refine e_lcFilt (l := ns) (em := lt) (va := lt) (p := fun p => !decide (lab us p = p)) ?_ (by omega) ?_ ?_
  · refine G2.eq ?_
    fail "evo"
    exact ⟨rfl, rfl⟩
  · intro p hp
    fail "evo"
    refine ⟨rfl, ?_⟩
    fail "evo"
    refine e_dgetL ?_
    fail "evo"
    refine ⟨_, lt p, ky p, _, rfl, rfl, rfl, dk_get hp, ?_⟩
    fail "evo"
    refine ⟨rfl, rfl, fun _ => ?_⟩
    fail "evo"
    exact ⟨rfl, rfl⟩
  fail "evo"
  refine (lap_ok (hn.filter _) (by omega)).mono ?_
  rintro r S1 ⟨rfl, rfl⟩
  obtain ⟨m, G, e⟩ := goes h3 (lp_dom (qs := us) (hn.filter _) h6)
  fail "evo"
  refine (det_ok (TT_len) (by omega) TT_tbx G).mono ?_
  rintro r S1 ⟨rfl, rfl⟩
  fail "evo"
  rw [e, dt_Wd h3]
  refine ⟨rfl, ?_⟩
  show List.take S.length (List.take S.length (S ++ _)) = S
  rw [List.take_left' rfl, List.take_length]
theorem ties_of_okL {lot : List Nat} (h6 : lot.length ≤ 6) (hl : ∀ k ∈ lot, k < ts.length) : f_ties_of [.d (web ps ts), .d (.lst (lot.map nt))] S = some (.new (.lst ((tat ts lot).map tie)), S) := by
  refine G2.eq ?_
  unfold f_ties_of b_ties_of web
  fail "evo"
  refine e_lcMap (l := lot) (em := nt) (va := fun k => tie (ts.getD k (0, 0))) ?_ (by omega) ?_ ?_
  · refine G2.eq ?_
    fail "evo"
    exact ⟨rfl, rfl⟩
  · intro k hk
    have hk := hl k hk
    fail "evo"
    refine ⟨rfl, ?_⟩
    fail "evo"
    refine .of (ix_tup' (f := tie) (m := ts) (k := k) rfl hk) ?_
    fail "evo"
    rw [show ts.getD k (0, 0) = ts[k] by rw [List.getD_eq_getElem?_getD, List.getElem?_eq_getElem hk]; rfl]
    exact ⟨rfl, rfl⟩
  fail "evo"
  exact ⟨by unfold tat; rw [List.map_map]; rfl, List.take_length⟩
theorem rest_ok (h6 : ts.length ≤ 6) : f_rest_of [.d (web ps ts), .d (tp I)] S = some (.val (.d (.tup (((List.range ts.length).filter fun i => !decide (i ∈ I)).map nt))), S) := by
  refine G2.eq ?_
  unfold f_rest_of b_rest_of tp
  fail "evo"
  refine e_lcFilt (l := List.range ts.length) (em := nt) (va := nt) (p := fun i => !decide (i ∈ I)) ?_ (by rw [List.length_range]; omega) ?_ ?_
  · refine G2.eq ?_
    fail "evo"
    refine .of (every_ok h6) ?_
    fail "evo"
    exact ⟨rfl, rfl⟩
  · intro i _
    fail "evo"
    refine ⟨rfl, ?_⟩
    fail "evo"
    refine .of (a := !decide (i ∈ I)) ?_ ?_
    · show (inD (nt i) (.tup (I.map nt))).map _ = _
      rw [show inD (nt i) (.tup (I.map nt)) = some (decide (i ∈ I)) from inL_nt]
      rfl
    fail "evo"
    refine ⟨rfl, rfl, fun _ => ?_⟩
    fail "evo"
    exact ⟨rfl, rfl⟩
  fail "evo"
  exact ⟨rfl, List.take_length⟩
/-- the trees with some ties, without others -/
def cntIO (ps : List Nat) (ts : List (Nat × Nat)) (I O : List Nat) : Nat := (sb (List.range ts.length)).countP fun l => isT ps ts l && (inI I l (List.range ts.length) && ouO O l)
theorem lft_eq (xs : List Nat) : (xs.filter fun i => !decide (i ∈ I)).filter (fun i => !decide (i ∈ O)) = lft I O xs := by
  unfold lft
  rw [List.filter_filter]
  refine List.filter_congr fun i _ => ?_
  rw [Bool.and_comm]
theorem sb_nodup {α : Type} : ∀ {xs A : List α}, xs.Nodup → A ∈ sb xs → A.Nodup
  | [], A, _, h => by
    rw [List.mem_singleton.mp (show A ∈ [[]] from h)]
    exact List.nodup_nil
  | y :: ys, A, hn, h => by
    rw [List.nodup_cons] at hn
    rcases List.mem_append.mp (show A ∈ sb ys ++ (sb ys).map (y :: ·) from h) with h | h
    · exact sb_nodup hn.2 h
    · obtain ⟨B, hB, rfl⟩ := List.mem_map.mp h
      exact List.nodup_cons.mpr ⟨fun m => hn.1 (sb_mem hB y m), sb_nodup hn.2 hB⟩
theorem isT_perm {a b : List Nat} (h : a.Perm b) : isT ps ts a = isT ps ts b := by
  unfold isT
  rw [h.length_eq, rk_mem (ts := tat ts a) (us := tat ts b) fun t => (h.map _).mem_iff]
theorem in_all {l xs : List Nat} (h : inI I l xs = true) {i : Nat} (hi : i ∈ I) (hx : i ∈ xs) : i ∈ l := by
  unfold inI at h
  have := List.all_eq_true.mp h i hx
  simpa [hi] using this
theorem ou_all {l : List Nat} (h : ouO O l = true) {i : Nat} (hi : i ∈ l) : i ∉ O := by
  unfold ouO at h
  have := List.all_eq_true.mp h i hi
  simpa using this
theorem cnt_zero (h : ∀ l, l ∈ sb (List.range ts.length) → isT ps ts l = true → inI I l (List.range ts.length) = true → ouO O l = true → False) : cntIO ps ts I O = 0 := by
  unfold cntIO
  rw [List.countP_eq_zero]
  intro l hl z
  rw [Bool.and_eq_true, Bool.and_eq_true] at z
  exact h l hl z.1 z.2.1 z.2.2
theorem tat_app (a b : List Nat) : tat ts (a ++ b) = tat ts a ++ tat ts b := by unfold tat; simp
theorem cnt_z1 (hI : ∀ i ∈ I, i < ts.length) {i : Nat} (h1 : i ∈ I) (h2 : i ∈ O) : cntIO ps ts I O = 0 := cnt_zero fun l _ _ a b =>
  ou_all b (in_all a h1 (List.mem_range.mpr (hI i h1))) h2
theorem tat_on' (W : WOk ps ts) {l : List Nat} (h : ∀ k ∈ l, k < ts.length) : On ps (tat ts l) := tat_on (m := 0) W h
theorem cnt_z2 (W : WOk ps ts) (hI : ∀ i ∈ I, i < ts.length) (hn : I.Nodup) (h : I.length ≠ rk ps (tat ts I)) : cntIO ps ts I O = 0 := cnt_zero fun l hl ht a _ => by
  obtain ⟨t1, t2⟩ := isT_iff.mp ht
  have hln : l.Nodup := sb_nodup List.nodup_range hl
  have hlt : ∀ k ∈ l, k < ts.length := fun k hk => List.mem_range.mp (sb_mem hl k hk)
  have sub : ∀ i ∈ I, i ∈ l := fun i hi => in_all a hi (List.mem_range.mpr (hI i hi))
  have r1 := rk_len W.nodup (tat_on' W hI)
  rw [tat_len] at r1
  have two := filt_two (fun i => decide (i ∈ I)) l
  have c1 : I.length ≤ (l.filter fun i => decide (i ∈ I)).length := len_sub hn fun i hi => by
    rw [List.mem_filter, decide_eq_true_eq]
    exact ⟨sub i hi, hi⟩
  have r2 := (rk_app_le (ps := ps) (ts := tat ts I) (us := tat ts (l.filter fun i => !decide (i ∈ I))) (tat_on' W fun k hk => hlt k (List.mem_filter.mp hk).1)).2
  rw [tat_len, ← tat_app, rk_mem (ts := tat ts (I ++ l.filter fun i => !decide (i ∈ I))) (us := tat ts l) fun t => ?_] at r2
  · omega
  · rw [mem_tat, mem_tat]
    constructor
    · rintro ⟨k, hk, e⟩
      rcases List.mem_append.mp hk with hk | hk
      · exact ⟨k, sub k hk, e⟩
      · exact ⟨k, (List.mem_filter.mp hk).1, e⟩
    · rintro ⟨k, hk, e⟩
      refine ⟨k, ?_, e⟩
      by_cases z : k ∈ I
      · exact List.mem_append_left _ z
      · exact List.mem_append_right _ (List.mem_filter.mpr ⟨hk, by simpa using z⟩)
theorem lft_lt : ∀ k ∈ lft I O (List.range ts.length), k < ts.length := fun k hk => List.mem_range.mp (List.mem_filter.mp hk).1
theorem rk_all_le (W : WOk ps ts) {l : List Nat} (h : ∀ k ∈ l, k < ts.length) : rk ps (tat ts l) ≤ rk ps ts := rk_sub W.on fun t ht => by
  obtain ⟨k, hk, rfl⟩ := mem_tat.mp ht
  have hk := h k hk
  rw [List.getD_eq_getElem?_getD, List.getElem?_eq_getElem hk]
  exact List.getElem_mem _
theorem cnt_z3 (W : WOk ps ts) (hI : ∀ i ∈ I, i < ts.length) (h : rk ps (tat ts (I ++ lft I O (List.range ts.length))) < rk ps ts) : cntIO ps ts I O = 0 := cnt_zero fun l hl ht _ b => by
  obtain ⟨t1, t2⟩ := isT_iff.mp ht
  have := rk_sub (ps := ps) (ts := tat ts l) (us := tat ts (I ++ lft I O (List.range ts.length))) (tat_on' W fun k hk => by
    rcases List.mem_append.mp hk with hk | hk
    · exact hI k hk
    · exact lft_lt k hk) fun t ht => by
      obtain ⟨k, hk, rfl⟩ := mem_tat.mp ht
      refine mem_tat.mpr ⟨k, ?_, rfl⟩
      by_cases z : k ∈ I
      · exact List.mem_append_left _ z
      · refine List.mem_append_right _ (List.mem_filter.mpr ⟨sb_mem hl k hk, ?_⟩)
        have := ou_all b hk
        simp [z, this]
  omega
theorem cnt_det (W : WOk ps ts) (hI : ∀ i ∈ I, i < ts.length) (hn : I.Nodup) (hd : ∀ i ∈ I, i ∉ O) (h1 : I.length = rk ps (tat ts I)) (h2 : rk ps ts ≤ rk ps (tat ts (I ++ lft I O (List.range ts.length)))) :
    Wd (Lp (mp (lab (tat ts I)) (tat ts (lft I O (List.range ts.length))))) (lows ps (tat ts I) (tat ts (lft I O (List.range ts.length)))) = (cntIO ps ts I O : Int) := by
  have hlt : ∀ k ∈ I ++ lft I O (List.range ts.length), k < ts.length := fun k hk => by
    rcases List.mem_append.mp hk with hk | hk
    · exact hI k hk
    · exact lft_lt k hk
  have e1 : rk ps (tat ts (I ++ lft I O (List.range ts.length))) = rk ps ts := Nat.le_antisymm (rk_all_le W hlt) h2
  refine (det_cnt (V := ps) (g := fun k => ts.getD k (0, 0)) (I := I) (R := lft I O (List.range ts.length)) W.nodup W.few (tat_on' W hlt)).trans ?_
  congr 1
  unfold cntIO
  have key := cnt_lft (T := isT ps ts) (I := I) (O := O) isT_perm hd (List.range ts.length) [] List.nodup_range
  simp only [List.nil_append] at key
  rw [key]
  refine List.countP_congr fun A _ => ?_
  have pm : ((List.range ts.length).filter (fun i => decide (i ∈ I)) ++ A).Perm (I ++ A) := by
    refine .append_right _ ?_
    refine (List.perm_ext_iff_of_nodup (List.nodup_range.filter _) hn).mpr fun i => ?_
    rw [List.mem_filter, decide_eq_true_eq, List.mem_range]
    exact ⟨fun h => h.2, fun h => ⟨hI i h, h⟩⟩
  rw [isT_perm pm, isT_iff]
  show (decide (A.length + rk ps (tat ts I) = rk ps (tat ts (I ++ lft I O (List.range ts.length)))) && decide (rk ps (tat ts (I ++ A)) = rk ps (tat ts (I ++ lft I O (List.range ts.length))))) = true ↔ _
  rw [e1, Bool.and_eq_true, decide_eq_true_eq, decide_eq_true_eq, List.length_append]
  omega
end
end Law10
set_option Elab.async false
set_option linter.all false
set_option maxRecDepth 100000
set_option maxHeartbeats 800000
/-! Own text: trees with ties, without others. -/
namespace Law10
open PySem L2 Ev Gr
section
variable {ns ps : List Nat} {us ts : List (Nat × Nat)} {S : Sto} {I O : List Nat}
theorem nams_len : (nams ps us).length ≤ ps.length := List.length_filter_le _ _
theorem by_ok (W : WOk ps ts) (hI : ∀ i ∈ I, i < ts.length) (hn : I.Nodup) (hI6 : I.length ≤ 6) (hO6 : O.length ≤ 6) :
    f_trees_by [.d (web ps ts), .d (tp I), .d (tp O)] S = some (.val (.d (.int (cntIO ps ts I O : Int))), S) := by
  refine G2.eq ?_
  have h6 := W.six
  have h4 := W.few
  unfold f_trees_by b_trees_by tp
  fail "evo"
  refine e_lcMap (l := I) (em := nt) (va := fun i => .bl (decide (i ∈ O))) ?_ (by omega) ?_ ?_
  · refine G2.eq ?_
    fail "evo"
    exact ⟨rfl, rfl⟩
  · intro i _
    fail "evo"
    refine ⟨rfl, ?_⟩
    fail "evo"
    exact ⟨rfl, rfl⟩
  fail "evo"
  refine .of bi_any ?_
  fail "evo"
  have zero : ∀ {P : Prop}, cntIO ps ts I O = 0 → (Res.val (.d (.int 0)) = Res.val (.d (.int (cntIO ps ts I O : Int))) ∧ List.take S.length S = S) := fun h => ⟨by rw [h]; rfl, List.take_length⟩
  refine ⟨_, rfl, fun z => ?_, fun z => ?_⟩
  · have hd : ∀ i ∈ I, i ∉ O := by
      intro i hi
      have := (List.any_eq_false.mp z) i hi
      simpa using this
    fail "evo"
    refine .of (free_ok W (l := I) hI6 hI) ?_
    fail "evo"
    refine ⟨fun z => ?_, fun z => ?_⟩
    · have h1 : I.length ≠ rk ps (tat ts I) := by simpa using z
      fail "evo"
      exact zero (P := True) (cnt_z2 W hI hn h1)
    have h1 : I.length = rk ps (tat ts I) := by simpa using z
    fail "evo"
    refine e_lcFilt (l := (List.range ts.length).filter fun i => !decide (i ∈ I)) (em := nt) (va := nt) (p := fun i => !decide (i ∈ O)) ?_ (Nat.le_trans (List.length_filter_le _ _) (by rw [List.length_range]; omega)) ?_ ?_
    · refine G2.eq ?_
      fail "evo"
      refine .of (rest_ok h6) ?_
      fail "evo"
      exact ⟨rfl, rfl⟩
    · intro i _
      fail "evo"
      refine ⟨rfl, ?_⟩
      fail "evo"
      refine .of (a := !decide (i ∈ O)) ?_ ?_
      · show (inD (nt i) (.tup (O.map nt))).map _ = _
        rw [show inD (nt i) (.tup (O.map nt)) = some (decide (i ∈ O)) from inL_nt]
        rfl
      fail "evo"
      refine ⟨rfl, rfl, fun _ => ?_⟩
      fail "evo"
      exact ⟨rfl, rfl⟩
    rw [lft_eq]
    have hlt : ∀ k ∈ I ++ lft I O (List.range ts.length), k < ts.length := fun k hk => by
      rcases List.mem_append.mp hk with hk | hk
      · exact hI k hk
      · exact lft_lt k hk
    have hl6 : (lft I O (List.range ts.length)).length ≤ 6 := Nat.le_trans (List.length_filter_le _ _) (by rw [List.length_range]; omega)
    have hl12 : (I ++ lft I O (List.range ts.length)).length ≤ 6 := by
      refine Nat.le_trans (len_sub (m := List.range ts.length) ?_ fun k hk => List.mem_range.mpr (hlt k hk)) (by rw [List.length_range]; exact h6)
      rw [List.nodup_append]
      refine ⟨hn, List.nodup_range.filter _, fun a ha b hb e => ?_⟩
      subst e
      have := (List.mem_filter.mp hb).2
      simp [ha] at this
    have fin := cnt_det W hI hn hd h1
    have z3 := cnt_z3 W (O := O) hI
    generalize hL : lft I O (List.range ts.length) = L at *
    fail "evo"
    refine .of (a := .d (.tup ((I ++ L).map nt))) ?_ ?_
    · show (if (I.map nt).length + (L.map nt).length ≤ sizeLine then some (O1.d (.tup (I.map nt ++ L.map nt))) else none) = _
      rw [if_pos (by rw [List.length_map, List.length_map, sizeLine_val]; omega), List.map_append]
    fail "evo"
    refine (pieces_ok W hl12 hlt).mono ?_
    rintro r S1 ⟨rfl, gs, rfl, hg⟩
    fail "evo"
    refine .of (every_ok h6) ?_
    fail "evo"
    refine (pieces_ok W (lot := List.range ts.length) (by rw [List.length_range]; exact h6) fun k hk => List.mem_range.mp hk).mono ?_
    rintro r S2 ⟨rfl, gs2, rfl, hg2⟩
    rw [tat_all] at hg2
    fail "evo"
    have k1 := rk_all_le W hlt
    have k2 := rk_le_ps (ps := ps) (ts := ts) (lot := I ++ L)
    have k3 : rk ps ts ≤ ps.length := by unfold rk; omega
    refine ⟨fun z => ?_, fun z => ?_⟩
    · have z := of_decide_eq_true z
      rw [List.length_map, List.length_map] at z
      fail "evo"
      exact zero (P := True) (z3 (by omega))
    have z := of_decide_eq_false z
    rw [List.length_map, List.length_map] at z
    have fin := fin (by omega)
    have onI : On ps (tat ts I) := tat_on' W hI
    have onL : On ps (tat ts L) := tat_on' W fun k hk => hlt k (List.mem_append_right _ hk)
    have noL := nams_on onI onL
    have nn : (nams ps (tat ts I)).Nodup := W.nodup.filter _
    have n4 : (nams ps (tat ts I)).length ≤ 4 := Nat.le_trans nams_len h4
    have n3 := lows_few h4 onI onL
    unfold web
    fail "evo"
    refine .of (ties_of_ok hI6 hI) ?_
    fail "evo"
    refine .of (heads_ok (A := .str (tx ps)) (pr := tie) (items_tx (by omega)) (.inl rfl) W.nodup h4 onI) ?_
    fail "evo"
    refine e_lcFilt (l := ps) (em := lt) (va := lt) (p := fun p => decide (lab (tat ts I) p = p)) ?_ (by omega) ?_ ?_
    · refine G2.eq ?_
      fail "evo"
      refine .of (items_tx (by omega)) ?_
      exact ⟨rfl, rfl⟩
    · intro p hp
      fail "evo"
      refine ⟨rfl, ?_⟩
      fail "evo"
      refine e_dgetL ?_
      fail "evo"
      refine ⟨_, lt p, ky p, _, rfl, rfl, rfl, dk_get hp, ?_⟩
      fail "evo"
      refine ⟨rfl, rfl, fun _ => ?_⟩
      fail "evo"
      exact ⟨rfl, rfl⟩
    fail "evo"
    refine e_lcMap (l := tat ts L) (em := tie) (va := fun t => pt (lab (tat ts I) t.1, lab (tat ts I) t.2)) ?_ (by rw [tat_len]; omega) ?_ ?_
    · refine G2.eq ?_
      fail "evo"
      refine .of (ties_of_okL hl6 fun k hk => hlt k (List.mem_append_right _ hk)) ?_
      fail "evo"
      exact ⟨rfl, rfl⟩
    · intro t ht
      obtain ⟨p1, p2⟩ := onL t ht
      refine .of (a := _) (b := _) rfl ⟨rfl, ?_⟩
      fail "evo"
      refine e_dgetL ?_
      fail "evo"
      refine ⟨_, lt t.1, ky t.1, _, rfl, rfl, rfl, dk_get p1, ?_⟩
      fail "evo"
      refine e_dgetL ?_
      fail "evo"
      refine ⟨_, lt t.2, ky t.2, _, rfl, rfl, rfl, dk_get p2, ?_⟩
      fail "evo"
      exact ⟨rfl, rfl⟩
    rw [show (tat ts L).map (fun t => pt (lab (tat ts I) t.1, lab (tat ts I) t.2)) = (mp (lab (tat ts I)) (tat ts L)).map pt by unfold mp; rw [List.map_map]; rfl]
    fail "evo"
    refine .of (full_ok nn n4 noL (by unfold mp; rw [List.length_map, tat_len]; omega) n3) ?_
    fail "evo"
    refine ⟨?_, List.take_length⟩
    rw [← fin]
    rfl
  · obtain ⟨i, hi, hO⟩ := List.any_eq_true.mp z
    fail "evo"
    refine ⟨fun _ => ?_, fun z => (nomatch z)⟩
    fail "evo"
    exact zero (P := True) (cnt_z1 hI hi (of_decide_eq_true hO))
end
end Law10
set_option Elab.async false
set_option linter.all false
set_option maxRecDepth 100000
set_option maxHeartbeats 800000
/-! Own text: what is asked, what is told. -/
namespace Law10
open PySem L2 Ev Gr
theorem len_guard {ρ : Rho} {S : Sto} {P : Res → Sto → Prop} (h : G2 (fLenO "Web" f_len (fVar 0) ρ S) P) : G2 (fLenO "Web" f_len (fVar 0) ρ S) P := h
end Law10
open PySem L2 Ev Law10
local macro_rules | `(tactic| fail "evw") => `(tactic| repeat (first
  | ((with_reducible refine len_guard ?_); (refine len_web (i := 0) rfl (by assumption) ?_))
  | fail "evo1"))
namespace Law10
open PySem L2 Ev Gr
section
variable {ps : List Nat} {ts : List (Nat × Nat)} {S : Sto} {l : List Nat} {x y : Nat}
theorem between_ok {i a c : Int} : f_is_between [.d (.int i), .d (.int a), .d (.int c)] S = some (.val (.d (.bl (decide (a ≤ i ∧ i ≤ c)))), S) := by
  have e : f_is_integer [.d (.int i)] S = some (.val (.d (.bl true)), S) := by
    refine G2.eq ?_
    unfold f_is_integer b_is_integer
    fail "evo"
    refine ⟨true, rfl, fun _ => ?_, (fun z => nomatch z)⟩
    fail "evo"
    exact ⟨rfl, List.take_length⟩
  refine G2.eq ?_
  unfold f_is_between b_is_between
  fail "evo"
  refine .of e ?_
  refine ⟨true, rfl, fun _ => ?_, (fun z => nomatch z)⟩
  refine e_chain ?_
  fail "evo"
  refine ⟨fun z => ?_, fun z => ?_⟩
  · have z := of_decide_eq_true z
    fail "evo"
    exact ⟨by rw [show decide (a ≤ i ∧ i ≤ c) = decide (i ≤ c) from decide_eq_decide.mpr ⟨fun h => h.2, fun h => ⟨z, h⟩⟩], List.take_length⟩
  · have z := of_decide_eq_false z
    fail "evo"
    exact ⟨by rw [decide_eq_false (fun h => z h.1)], List.take_length⟩
theorem wrong_in_ok (h6 : ts.length ≤ 6) (hl : Lot ts.length l) : f_wrong_in [.d (web ps ts), .d (.tup (l.map nt))] S = some (.val (.d .non), S) := by
  have hll := hl.len
  refine G2.eq ?_
  unfold f_wrong_in b_wrong_in
  fail "evo"
  refine e_neg (j := 0) ?_
  fail "evo"
  refine ⟨1, rfl, ?_⟩
  fail "evo"
  refine loop_inv (fun ds ρ S1 => S1 = S ∧ ∃ (i : Nat) (rst : List Nat) (last : Int) (k3 k4 : Option Val), ds = enumL i (rst.map nt) ∧ (∀ k ∈ rst, k < ts.length ∧ last < k) ∧ rst.Pairwise (· < ·) ∧
    ρ = [some (.d (web ps ts)), some (.d (.tup (l.map nt))), some (.d (.int last)), k3, k4]) ⟨rfl, 0, l, -1, _, _, rfl, fun k hk => ⟨hl.lt k hk, by omega⟩, hl.up, rfl⟩ ?_ ?_
  · rintro d ds ρ S1 ⟨rfl, i, rst, last, k3, k4, e, hr, hu, rfl⟩
    cases rst with
    | nil => cases e
    | cons k rst =>
      rw [List.map_cons] at e
      unfold enumL at e
      obtain ⟨rfl, rfl⟩ := List.cons.inj e
      rw [List.pairwise_cons] at hu
      obtain ⟨h1, h2⟩ := hr k List.mem_cons_self
      fail "evo"
      refine ⟨_, rfl, rfl, ?_⟩
      fail "evw"
      refine .of between_ok ?_
      rw [decide_eq_true ⟨by omega, by omega⟩]
      fail "evo"
      refine ⟨(fun z => nomatch z), fun _ => ?_⟩
      fail "evo"
      exact .inl ⟨.inl rfl, rfl, i + 1, rst, (k : Int), _, _, rfl, fun q hq => ⟨(hr q (List.mem_cons_of_mem _ hq)).1, by have := hu.1 q hq; omega⟩, hu.2, rfl⟩
  · rintro ρ S1 ⟨rfl, i, rst, last, k3, k4, e, hr, hu, rfl⟩
    fail "evo"
    exact ⟨rfl, List.take_length⟩
theorem check_web_ok : f_check_web [.d (web ps ts)] S = some (.val (.d .non), S) := by
  refine G2.eq ?_
  unfold f_check_web b_check_web
  fail "evo"
  refine e_isiC ?_
  fail "evo"
  refine ⟨_, rfl, ?_⟩
  fail "evo"
  refine ⟨(fun z => nomatch z), fun _ => ?_⟩
  fail "evo"
  exact ⟨rfl, List.take_length⟩
theorem str_dec : (let8.all fun a => let8.all fun b => PyData.showable (.str (tx [a, b])) && decide ((PyData.shown (.str (tx [a, b]))).length ≤ 10)) = true := by decide +kernel
theorem check_lot_ok (W : WOk ps ts) (hl : Lot ts.length l) : f_check_lot [.d (web ps ts), .d (tp l)] S = some (.val (.d .non), S) := by
  have h6 := W.six
  have hll := hl.len
  refine G2.eq ?_
  unfold f_check_lot b_check_lot tp
  fail "evo"
  refine ⟨(fun z => nomatch z), fun _ => ?_⟩
  fail "evo"
  refine .of (wrong_in_ok h6 hl) ?_
  fail "evo"
  refine ⟨(fun z => nomatch z), fun _ => ?_⟩
  fail "evo"
  exact ⟨rfl, List.take_length⟩
theorem Lot.nodup {m : Nat} (hl : Lot m l) : l.Nodup := hl.up.imp fun h => by omega
variable {I O : List Nat}
theorem with_ok (W : WOk ps ts) (hI : Lot ts.length I) (hO : Lot ts.length O) : f_trees_with [.d (web ps ts), .d (tp I), .d (tp O)] S = some (.val (.d (.int (cntIO ps ts I O : Int))), S) := by
  have h6 := W.six
  have l1 := hI.len
  have l2 := hO.len
  refine G2.eq ?_
  unfold f_trees_with b_trees_with
  fail "evo"
  refine .of check_web_ok ?_
  fail "evo"
  refine .of (check_lot_ok W hI) ?_
  fail "evo"
  refine .of (check_lot_ok W hO) ?_
  fail "evo"
  refine .of (by_ok W hI.lt hI.nodup (by omega) (by omega)) ?_
  fail "evo"
  exact ⟨rfl, List.take_length⟩
theorem counted_ok (W : WOk ps ts) : f_trees_counted [.d (web ps ts)] S = some (.val (.d (.int (cntIO ps ts [] [] : Int))), S) := by
  refine G2.eq ?_
  unfold f_trees_counted b_trees_counted
  fail "evo"
  refine .of (by_ok (I := []) (O := []) W (fun i h => by cases h) List.nodup_nil (by simp) (by simp)) ?_
  fail "evo"
  exact ⟨rfl, List.take_length⟩
theorem count_ok (W : WOk ps ts) : f_count_trees [.d (web ps ts)] S = some (.val (.d (.int (cntIO ps ts [] [] : Int))), S) := by
  refine G2.eq ?_
  unfold f_count_trees b_count_trees
  fail "evo"
  refine .of check_web_ok ?_
  fail "evo"
  refine .of (counted_ok W) ?_
  fail "evo"
  exact ⟨rfl, List.take_length⟩
noncomputable def trs (ps : List Nat) (ts : List (Nat × Nat)) : List (List Nat) := (slots ts.length).filter (isT ps ts)
theorem trs_perm (W : WOk ps ts) : (trs ps ts).Perm ((lots ts.length).filter (isT ps ts)) := (slots_ok W.six).2.filter _
theorem all_ok (W : WOk ps ts) : f_all_trees [.d (web ps ts)] S = some (.val (.d (.tup ((trs ps ts).map tp))), S) := by
  refine G2.eq ?_
  unfold f_all_trees b_all_trees
  fail "evo"
  refine .of check_web_ok ?_
  fail "evo"
  refine (every_tree_ok W).mono ?_
  rintro r S1 ⟨rfl, L, rfl, hp, hs⟩
  fail "evo"
  refine ⟨?_, List.take_length⟩
  rw [hs]
  rfl
theorem trs_few (W : WOk ps ts) : (trs ps ts).length ≤ 64 := by
  rw [(trs_perm W).length_eq]
  exact Nat.le_trans (List.length_filter_le _ _) (lots64 W.six)
theorem trs_lot (W : WOk ps ts) {t : List Nat} (h : t ∈ trs ps ts) : Lot ts.length t := lots_lot (List.mem_filter.mp ((trs_perm W).mem_iff.mp h)).1
/-- how many have some, not others -/
theorem cnt_trs (W : WOk ps ts) (hI : ∀ i ∈ I, i < ts.length) : (trs ps ts).countP (fun t => (I.all fun k => decide (k ∈ t)) && !(O.any fun k => decide (k ∈ t))) = cntIO ps ts I O := by
  rw [(trs_perm W).countP_eq, List.countP_filter, (lots_sb ts.length).countP_eq]
  unfold cntIO
  refine List.countP_congr fun t _ => ?_
  have e1 : (I.all fun k => decide (k ∈ t)) = inI I t (List.range ts.length) := by
    unfold inI
    rw [Bool.eq_iff_iff, List.all_eq_true, List.all_eq_true]
    constructor
    · intro h i _
      by_cases z : i ∈ I
      · have := h i z
        simp at this
        simp [this]
      · simp [z]
    · intro h i hi
      have := h i (List.mem_range.mpr (hI i hi))
      simpa [hi] using this
  have e2 : (!(O.any fun k => decide (k ∈ t))) = ouO O t := by
    unfold ouO
    rw [Bool.eq_iff_iff, List.all_eq_true]
    simp
    exact ⟨fun h x hx ho => h x ho hx, fun h x hx ho => h x ho hx⟩
  rw [e1, e2, Bool.and_comm]
theorem cnt_all (W : WOk ps ts) : cntIO ps ts [] [] = (trs ps ts).length := by
  rw [← cnt_trs W (fun i h => by cases h)]
  simp
theorem cnt_pair (W : WOk ps ts) {k : Nat} (hk : k < ts.length) : cntIO ps ts [k] [] + cntIO ps ts [] [k] = (trs ps ts).length := by
  rw [← cnt_trs W (fun i h => by rw [List.mem_singleton.mp h]; exact hk), ← cnt_trs W (fun i h => by cases h)]
  have := filt_two (fun t : List Nat => decide (k ∈ t)) (trs ps ts)
  rw [← List.countP_eq_length_filter, ← List.countP_eq_length_filter] at this
  rw [← this]
  congr 1
  · exact List.countP_congr fun t _ => by simp
  · exact List.countP_congr fun t _ => by simp
end
end Law10
set_option Elab.async false
set_option linter.all false
set_option maxRecDepth 100000
set_option maxHeartbeats 800000
/-! Own text: the law. -/
namespace Law10
open PySem L2 Ev Gr
section
variable {ps : List Nat} {ts us : List (Nat × Nat)} {S : Sto} {l I O : List Nat} {x y k : Nat}
theorem law_with_ok {L : List (List Nat)} (hL : L.length ≤ 64) (hI : I.length ≤ 6) (hO : O.length ≤ 6) :
    f__law_with [.d (.lst (L.map tp)), .d (tp I), .d (tp O)] S = some (.val (.d (.int ((L.countP fun t => (I.all fun k => decide (k ∈ t)) && !(O.any fun k => decide (k ∈ t)) : Nat) : Int))), S) := by
  refine G2.eq ?_
  unfold f__law_with b__law_with
  fail "evo"
  refine loop_inv (fun ds ρ S1 => S1 = S ∧ ∃ (don rst : List (List Nat)) (k4 : Option Val), L = don ++ rst ∧ ds = rst.map tp ∧
    ρ = [some (.d (.lst (L.map tp))), some (.d (tp I)), some (.d (tp O)), some (.d (.int ((don.countP fun t => (I.all fun k => decide (k ∈ t)) && !(O.any fun k => decide (k ∈ t)) : Nat) : Int))), k4, none]) ⟨rfl, [], L, none, rfl, rfl, rfl⟩ ?_ ?_
  · rintro d ds ρ S1 ⟨rfl, don, rst, k4, e, e1, rfl⟩
    cases rst with
    | nil => cases e1
    | cons t rst =>
      rw [List.map_cons] at e1
      obtain ⟨rfl, rfl⟩ := List.cons.inj e1
      have all1 : ∀ {ρ : Rho} {P : Res → Sto → Prop}, ρ[1]? = some (some (.d (tp I))) → ρ[4]? = some (some (.d (tp t))) → ρ.length = 6 → P (.val (.d (.bl (I.all fun k => decide (k ∈ t))))) S1 → G2 (fBi .all [(fLc (iSeq (fVar 1)) (gNm 5) none (fCmp .inn (fVar 5) (fVar 4)) [5])] ρ S1) P := by
        intro ρ P h1 h4 h6 h
        refine e_bi1 (e_lcMap (l := I) (em := nt) (va := fun k => .bl (decide (k ∈ t))) (i_tup h1) (by omega) (fun k _ => ?_) (pk_sn (.of bi_all h)))
        match ρ, h6, h1, h4 with
        | [r0, r1, r2, r3, r4, r5], _, h1, h4 =>
          obtain rfl : r1 = some (.d (tp I)) := by injection h1
          obtain rfl : r4 = some (.d (tp t)) := by injection h4
          unfold tp
          fail "evo"
          refine ⟨rfl, ?_⟩
          fail "evo"
          exact ⟨rfl, rfl⟩
      have any1 : ∀ {ρ : Rho} {P : Res → Sto → Prop}, ρ[2]? = some (some (.d (tp O))) → ρ[4]? = some (some (.d (tp t))) → ρ.length = 6 → P (.val (.d (.bl (O.any fun k => decide (k ∈ t))))) S1 → G2 (fBi .any [(fLc (iSeq (fVar 2)) (gNm 5) none (fCmp .inn (fVar 5) (fVar 4)) [5])] ρ S1) P := by
        intro ρ P h1 h4 h6 h
        refine e_bi1 (e_lcMap (l := O) (em := nt) (va := fun k => .bl (decide (k ∈ t))) (i_tup h1) (by omega) (fun k _ => ?_) (pk_sn (.of bi_any h)))
        match ρ, h6, h1, h4 with
        | [r0, r1, r2, r3, r4, r5], _, h1, h4 =>
          obtain rfl : r2 = some (.d (tp O)) := by injection h1
          obtain rfl : r4 = some (.d (tp t)) := by injection h4
          unfold tp
          fail "evo"
          refine ⟨rfl, ?_⟩
          fail "evo"
          exact ⟨rfl, rfl⟩
      have nxt : ∀ b : Bool, (((I.all fun k => decide (k ∈ t)) && !(O.any fun k => decide (k ∈ t))) = b) → ((don ++ [t]).countP fun t => (I.all fun k => decide (k ∈ t)) && !(O.any fun k => decide (k ∈ t))) = (don.countP fun t => (I.all fun k => decide (k ∈ t)) && !(O.any fun k => decide (k ∈ t))) + if b then 1 else 0 := fun b hb => by
        rw [List.countP_append, List.countP_singleton, hb]
      refine .of (a := [some (.d (.lst (L.map tp))), some (.d (tp I)), some (.d (tp O)), some (.d (.int ((don.countP fun t => (I.all fun k => decide (k ∈ t)) && !(O.any fun k => decide (k ∈ t)) : Nat) : Int))), some (.d (tp t)), none]) rfl ?_
      refine s_if' (e_tst (e_and (all1 rfl rfl rfl ⟨_, rfl, fun z => ?_, fun z => ?_⟩)))
      · refine e_not (e_tst (any1 rfl rfl rfl ?_))
        fail "evo"
        refine ⟨fun z2 => ?_, fun z2 => ?_⟩
        · fail "evo"
          refine .inl ⟨.inl rfl, rfl, don ++ [t], rst, some (.d (tp t)), by rw [e]; simp, rfl, ?_⟩
          rw [nxt true (by rw [z, z2]; rfl)]
          rfl
        · fail "evo"
          refine .inl ⟨.inl rfl, rfl, don ++ [t], rst, some (.d (tp t)), by rw [e]; simp, rfl, ?_⟩
          rw [nxt false (by rw [z, z2]; rfl)]
          rfl
      · fail "evo"
        refine ⟨fun z2 => (nomatch z2), fun _ => ?_⟩
        fail "evo"
        refine .inl ⟨.inl rfl, rfl, don ++ [t], rst, some (.d (tp t)), by rw [e]; simp, rfl, ?_⟩
        rw [nxt false (by rw [z]; rfl)]
        rfl
  · rintro ρ S1 ⟨rfl, don, rst, k4, e, e1, rfl⟩
    have : rst = [] := by simpa using e1.symm
    subst this
    rw [List.append_nil] at e
    subst e
    fail "evo"
    exact ⟨rfl, List.take_length⟩
theorem law_lot_ok {a b c : Int} {m : Nat} (h6 : m ≤ 6) : G2 (f__law_lot [.cell 0, .d (.int (m : Int))] [pw a b c]) fun r S => ∃ (a b c : Int) (l : List Nat), Lot m l ∧ r = .val (.d (tp l)) ∧ S = [pw a b c] := by
  unfold f__law_lot b__law_lot
  fail "evo"
  refine (dip_ok (m := 3) (T := []) (by omega) (by omega)).mono ?_
  rintro r S ⟨a, b, c, w, hw, rfl, rfl⟩
  fail "evo"
  refine e_lc ?_
  fail "evo"
  refine ⟨(m : Int), rfl, ⟨by omega, by omega⟩, ?_⟩
  rw [rgL_nat]
  refine comp_invT (fun ds acc S => ∃ (a b c : Int) (don rst l : List Nat), List.range m = don ++ rst ∧ ds = rst.map nt ∧ acc = l.map nt ∧ l.Sublist don ∧ S = [pw a b c]) ⟨a, b, c, [], List.range m, [], rfl, rfl, rfl, .slnil, rfl⟩ ?_ ?_
  · rintro d ds acc S ⟨a, b, c, don, rst, l, e, e1, rfl, hs, rfl⟩
    cases rst with
    | nil => cases e1
    | cons k rst =>
      rw [List.map_cons] at e1
      obtain ⟨rfl, rfl⟩ := List.cons.inj e1
      have hl := hs.length_le
      have hd := congrArg List.length e
      rw [List.length_range, List.length_append, List.length_cons] at hd
      fail "evo"
      refine (dip_ok (m := 2 + w) (T := []) (by omega) (by omega)).mono ?_
      rintro r S ⟨a', b', c', x, hx, rfl, rfl⟩
      fail "evo"
      refine ⟨fun z => ?_, fun z => ?_⟩
      · fail "evo"
        refine ⟨by rw [List.length_map, sizeLine_val]; omega, a', b', c', don ++ [k], rst, l ++ [k], by rw [e]; simp, rfl, by rw [List.map_append]; rfl, hs.append (List.Sublist.refl _), rfl⟩
      · exact ⟨a', b', c', don ++ [k], rst, l, by rw [e]; simp, rfl, rfl, hs.trans (List.sublist_append_left _ _), rfl⟩
  · rintro acc S ⟨a, b, c, don, rst, l, e, e1, rfl, hs, rfl⟩
    have : rst = [] := by simpa using e1.symm
    subst this
    rw [List.append_nil] at e
    rw [← e] at hs
    refine pk_sn ?_
    refine .of (a := .d (tp l)) rfl ?_
    fail "evo"
    refine ⟨a, b, c, l, ⟨?_, fun k hk => List.mem_range.mp (hs.subset hk)⟩, rfl, rfl⟩
    exact List.Pairwise.sublist hs List.pairwise_lt_range
end
end Law10
set_option Elab.async false
set_option linter.all false
set_option maxRecDepth 100000
set_option maxHeartbeats 1600000
/-! Own text: the law, whole. -/
namespace Law10
open PySem L2 Ev Gr
section
variable {ps : List Nat} {ts us : List (Nat × Nat)} {S : Sto} {l I O : List Nat} {x y k : Nat}
def psT (ts : List (Nat × Nat)) : List PyData := ts.map fun t => PyData.str (tx [t.1, t.2])
theorem toPs_tie : ∀ ts : List (Nat × Nat), toPs (ts.map tie) = some (psT ts)
  | [] => rfl
  | t :: ts => by
    rw [List.map_cons]
    show (match toP (tie t), toPs (ts.map tie) with | some p, some ps => some (p :: ps) | _, _ => none) = _
    rw [toPs_tie ts]
    rfl
theorem shown_ties : ∀ {ts : List (Nat × Nat)}, (∀ t ∈ ts, t.1 ∈ let8 ∧ t.2 ∈ let8) → ((PyData.shownAll (psT ts)).map (·.length)).sum ≤ 10 * ts.length ∧ (PyData.shownAll (psT ts)).length = ts.length ∧ PyData.showableAll (psT ts) = true ∧ PyData.depthAll (psT ts) = 0
  | [], _ => ⟨Nat.le_refl _, rfl, rfl, rfl⟩
  | t :: ts, h => by
    obtain ⟨h1, h2, h3, h4⟩ := shown_ties (ts := ts) fun x hx => h x (List.mem_cons_of_mem _ hx)
    obtain ⟨a, b⟩ := h t List.mem_cons_self
    have d := List.all_eq_true.mp (List.all_eq_true.mp str_dec t.1 a) t.2 b
    rw [Bool.and_eq_true, decide_eq_true_eq] at d
    refine ⟨?_, ?_, ?_, ?_⟩
    · show (PyData.shown (.str (tx [t.1, t.2]))).length + ((PyData.shownAll (psT ts)).map (·.length)).sum ≤ 10 * (ts.length + 1)
      omega
    · show (PyData.shownAll (psT ts)).length + 1 = ts.length + 1
      omega
    · show (PyData.showable (.str (tx [t.1, t.2])) && PyData.showableAll (psT ts)) = true
      rw [d.1, h3]; rfl
    · show max (PyData.depth (.str (tx [t.1, t.2]))) (PyData.depthAll (psT ts)) = 0
      rw [h4]; rfl
theorem repr_int {n : Nat} (h : n ≤ 64) : ∃ z, reprD (.int (n : Int)) = some z := by
  obtain ⟨h1, h2, h3⟩ := shown_ints (l := [(n : Int)]) fun x hx => by
    rw [List.mem_singleton.mp hx]
    omega
  refine ⟨_, if_pos ⟨?_, ?_, ?_⟩⟩
  · have : (PyData.showable (.int (n : Int)) && true) = true := h3
    rwa [Bool.and_true] at this
  · have : (PyData.shown (.int (n : Int))).length + 0 ≤ 10 * 1 := h1
    rw [sizeLine_val]
    omega
  · exact Nat.zero_le _
theorem repr_fin {M : List (List Nat)} {n : Nat} (hn : n ≤ 64) (hM : M.length ≤ 64) (h : ∀ l ∈ M, l.length ≤ 10 ∧ ∀ x ∈ l, x < 100) (h6 : ts.length ≤ 6) (ht : ∀ t ∈ ts, t.1 ∈ let8 ∧ t.2 ∈ let8) :
    ∃ z, reprD (.lst [.tup (M.map tp), .int (n : Int), .tup (ts.map tie)]) = some z := by
  obtain ⟨h1, h2, h3⟩ := shown_tps h
  have t1 := tupleText_len_le (PyData.shownAll (M.map fun l => PyData.tuple (l.map fun n : Nat => PyData.int n)))
  obtain ⟨i1, i2, i3⟩ := shown_ints (l := [(n : Int)]) fun x hx => by
    rw [List.mem_singleton.mp hx]
    omega
  obtain ⟨s1, s2, s3, s4⟩ := shown_ties ht
  have t2 := tupleText_len_le (PyData.shownAll (psT ts))
  have e : toP (.lst [.tup (M.map tp), .int (n : Int), .tup (ts.map tie)]) = some (.list [.tuple (M.map fun l => PyData.tuple (l.map fun n : Nat => PyData.int n)), .int (n : Int), .tuple (psT ts)]) := by
    have e3 : toP (.tup (ts.map tie)) = some (.tuple (psT ts)) := by
      show (toPs (ts.map tie)).map PyData.tuple = _
      rw [toPs_tie]; rfl
    show (match toP (.tup (M.map tp)), (match toP (.int (n : Int)), (match toP (.tup (ts.map tie)), some [] with | some p, some ps => some (p :: ps) | _, _ => none) with | some p, some ps => some (p :: ps) | _, _ => none) with | some p, some ps => some (p :: ps) | _, _ => none : Option (List PyData)).map PyData.list = _
    rw [toP_tt, e3]
    rfl
  have t3 := listText_len_le (PyData.shownAll [.tuple (M.map fun l => PyData.tuple (l.map fun n : Nat => PyData.int n)), .int (n : Int), .tuple (psT ts)])
  have hsum : ((PyData.shownAll [.tuple (M.map fun l => PyData.tuple (l.map fun n : Nat => PyData.int n)), .int (n : Int), .tuple (psT ts)]).map (·.length)).sum = (tupleText (PyData.shownAll (M.map fun l => PyData.tuple (l.map fun n : Nat => PyData.int n)))).length + ((PyData.shown (.int (n : Int))).length + ((tupleText (PyData.shownAll (psT ts))).length + 0)) := rfl
  have hlen : (PyData.shownAll [.tuple (M.map fun l => PyData.tuple (l.map fun n : Nat => PyData.int n)), .int (n : Int), .tuple (psT ts)]).length = 3 := rfl
  have i1 : (PyData.shown (.int (n : Int))).length + 0 ≤ 10 * 1 := i1
  have i3 : (PyData.showable (.int (n : Int)) && true) = true := i3
  refine ⟨PyData.shown (.list [.tuple (M.map fun l => PyData.tuple (l.map fun n : Nat => PyData.int n)), .int (n : Int), .tuple (psT ts)]), ?_⟩
  unfold reprD
  rw [e, Option.bind_some]
  refine if_pos ⟨?_, ?_, ?_⟩
  · show (PyData.showableAll (M.map fun l => PyData.tuple (l.map fun n : Nat => PyData.int n)) && (PyData.showable (.int (n : Int)) && (PyData.showableAll (psT ts) && true))) = true
    rw [Bool.and_true] at i3
    rw [h3, i3, s3]; rfl
  · rw [sizeLine_val]
    refine Nat.le_trans t3 ?_
    omega
  · have := dep_tp M
    show max (PyData.depthAll (M.map fun l => PyData.tuple (l.map fun n : Nat => PyData.int n)) + 1) (max 0 (max (PyData.depthAll (psT ts) + 1) 0)) + 1 ≤ 60
    rw [s4]
    omega
theorem W_ties (W : WOk ps ts) : ∀ t ∈ ts, t.1 ∈ let8 ∧ t.2 ∈ let8 := fun t ht => ⟨W.sub _ (W.ok t ht).1, W.sub _ (W.ok t ht).2.1⟩
theorem trs_ok (W : WOk ps ts) : ∀ l ∈ trs ps ts, l.length ≤ 10 ∧ ∀ x ∈ l, x < 100 := fun l hl => by
  have h := trs_lot W hl
  have h6 := W.six
  have := h.len
  exact ⟨by omega, fun x hx => by have := h.lt x hx; omega⟩
theorem lot_nil {m : Nat} : Lot m [] := ⟨List.Pairwise.nil, fun k h => by cases h⟩
theorem lot_one {m k : Nat} (h : k < m) : Lot m [k] := ⟨List.pairwise_singleton _ _, fun x hx => by rw [List.mem_singleton.mp hx]; exact h⟩
noncomputable def rR (ps : List Nat) (ts : List (Nat × Nat)) (k5 k6 k7 k8 k9 : Option Val) : Rho := [some (.cell 0), some (.d (.str (tx ps))), some (.d (.tup (ts.map tie))), some (.d (web ps ts)), some (.d (.lst ((trs ps ts).map tp))), k5, k6, k7, k8, k9]
def r1 : StF := (sSeq (sPar false false (fCall f__law_lot [(true, (fVar 0)), (false, (fLenO "Web" f_len (fVar 2)))]) (fCall f__law_lot [(true, (fVar 0)), (false, (fLenO "Web" f_len (fVar 2)))]) (gNm 6) (gNm 7))
  (sSeq (sAsg false (fCall f__law_with [(false, (fVar 4)), (false, (fVar 6)), (false, (fVar 7))]) (gNm 8))
  (sSeq (sIf (fCmp .ne (fRepr (fCall f_trees_with [(false, (fVar 3)), (false, (fVar 6)), (false, (fVar 7))])) (fRepr (fVar 8))) (sRet (fCst (.bl false))) sNx)
  (sIf (fCmp .ne (fCallK f_trees_with [1, 2, 0] [(false, (fVar 7)), (false, (fVar 3)), (false, (fVar 6))]) (fVar 8)) (sRet (fCst (.bl false))) sNx))))
theorem cnt_few (W : WOk ps ts) (hI : ∀ i ∈ I, i < ts.length) : cntIO ps ts I O ≤ 64 := by
  rw [← cnt_trs W hI]
  exact Nat.le_trans List.countP_le_length (trs_few W)
theorem r1_ok (W : WOk ps ts) {a b c : Int} {k5 k6 k7 k8 k9 : Option Val} : G3 (r1 (rR ps ts k5 k6 k7 k8 k9) [pw a b c]) fun o ρ S => o = .nx ∧ ∃ (a b c : Int) (k6 k7 k8 : Option Val), ρ = rR ps ts k5 k6 k7 k8 k9 ∧ S = [pw a b c] := by
  have h6 := W.six
  have h64 := trs_few W
  unfold r1 rR
  fail "evo"
  rw [List.length_map]
  refine (law_lot_ok h6).mono ?_
  rintro r S ⟨a, b, c, I, hI, rfl, rfl⟩
  fail "evo"
  rw [List.length_map]
  refine (law_lot_ok h6).mono ?_
  rintro r S ⟨a, b, c, O, hO, rfl, rfl⟩
  have i6 := hI.len
  have o6 := hO.len
  have w1 := fun S => with_ok (S := S) W hI hO
  obtain ⟨z, hz⟩ := repr_int (cnt_few (O := O) W hI.lt)
  fail "evo"
  refine .of (law_with_ok (L := trs ps ts) h64 (by omega) (by omega)) ?_
  rw [cnt_trs W hI.lt]
  fail "evo"
  refine e_repr ?_
  fail "evo"
  refine .of (w1 _) ?_
  fail "evo"
  refine ⟨z, hz, ?_⟩
  refine e_repr ?_
  fail "evo"
  refine ⟨z, hz, ?_⟩
  fail "evo"
  refine ⟨fun y => absurd y (by simp), fun _ => ?_⟩
  fail "evo"
  refine .of (w1 _) ?_
  fail "evo"
  refine ⟨fun y => absurd y (by simp), fun _ => ?_⟩
  fail "evo"
  exact ⟨rfl, a, b, c, _, _, _, rfl, rfl⟩
def r2 : StF := (sIf (fOr (fCmp .ne (fBop .add (fCall f_trees_with [(false, (fVar 3)), (false, (fTup [(fVar 9)])), (false, (fTup []))]) (fCall f_trees_with [(false, (fVar 3)), (false, (fTup [])), (false, (fTup [(fVar 9)]))])) (fLenO "Web" f_len (fVar 4))) (fCmp .ne (fCall f_trees_with [(false, (fVar 3)), (false, (fTup [(fVar 9)])), (false, (fTup [(fVar 9)]))]) (fCst (.int (0))))) (sRet (fCst (.bl false))) sNx)
theorem r2_ok (W : WOk ps ts) {k : Nat} (hk : k < ts.length) {k5 k6 k7 k8 : Option Val} {R : Flw → Rho → Sto → Prop} (h : R .nx (rR ps ts k5 k6 k7 k8 (some (.d (nt k)))) S) : G3 (r2 (rR ps ts k5 k6 k7 k8 (some (.d (nt k)))) S) R := by
  have w1 := fun S => with_ok (S := S) W (lot_one hk) lot_nil
  have w2 := fun S => with_ok (S := S) W lot_nil (lot_one hk)
  have w3 := fun S => with_ok (S := S) W (lot_one hk) (lot_one hk)
  have z3 : cntIO ps ts [k] [k] = 0 := cnt_z1 (i := k) (fun i hi => by rw [List.mem_singleton.mp hi]; exact hk) (List.mem_singleton.mpr rfl) (List.mem_singleton.mpr rfl)
  have pr := cnt_pair W hk
  unfold r2 rR
  fail "evo"
  refine .of (w1 _) ?_
  fail "evo"
  refine .of (w2 _) ?_
  fail "evo"
  refine ⟨_, rfl, fun _ => ?_, fun z => ?_⟩
  · fail "evo"
    refine .of (w3 _) ?_
    rw [z3]
    fail "evo"
    refine ⟨fun z => (nomatch z), fun _ => ?_⟩
    fail "evo"
    exact h
  · exfalso
    rw [List.length_map, ← pr] at z
    simp at z
theorem right_eq : b__law_right = (sSeq (sAsg false (fCall f__law_parts [(true, (fVar 0)), (false, (fCst (.int (4)))), (false, (fCst (.int (6))))]) (gTp [(gNm 1), (gNm 2)]))
  (sSeq (sPar false false (fCall (mkF "Web" f_init) [(false, (fVar 1)), (false, (fVar 2))]) (fCall f__law_trees [(false, (fVar 1)), (false, (fVar 2))]) (gNm 3) (gNm 4))
  (sSeq (sIf (fOr (fCmp .ne (fRepr (fCall f_all_trees [(false, (fVar 3))])) (fRepr (fBi .tuple [(fVar 4)]))) (fCmp .ne (fRepr (fCallK f_count_trees [0] [(false, (fVar 3))])) (fRepr (fLenO "Web" f_len (fVar 4))))) (sRet (fCst (.bl false))) sNx)
  (sSeq (sFor (iRng1 (fCst (.int (3)))) (gNm 5) r1)
  (sSeq (sFor (iRng1 (fLenO "Web" f_len (fVar 2))) (gNm 9) r2)
  (sRet (fCmp .eq (fRepr (fLst [(fCallK f_all_trees [0] [(false, (fVar 3))]), (fCall f_count_trees [(false, (fVar 3))]), (fFldC "Web" (fVar 3) "ties")])) (fRepr (fLst [(fBi .tuple [(fVar 4)]), (fLenO "Web" f_len (fVar 4)), (fVar 2)]))))))))) := rfl
theorem right_ok {a b c : Int} : G2 (f__law_right [.cell 0] [pw a b c]) fun r S => r = .val (.d (.bl true)) := by
  unfold f__law_right
  rw [right_eq]
  fail "evo"
  refine parts_ok.mono ?_
  rintro r S ⟨a, b, c, ps, ts, W, rfl, rfl⟩
  have h6 := W.six
  have h4 := W.few
  have h64 := trs_few W
  have ca := cnt_all W
  obtain ⟨z1, hz1⟩ := repr_tt (M := trs ps ts) h64 (trs_ok W)
  obtain ⟨z2, hz2⟩ := repr_int h64
  obtain ⟨z3, hz3⟩ := repr_fin (M := trs ps ts) (ts := ts) h64 h64 (trs_ok W) h6 (W_ties W)
  fail "evo"
  refine ⟨_, rfl, rfl, ?_⟩
  fail "evo"
  refine .of (make_ok W) ?_
  fail "evo"
  refine (law_trees_ok' W).mono ?_
  rintro r S1 ⟨rfl, L, rfl, hp, hs⟩
  obtain rfl : L = trs ps ts := hs
  fail "evo"
  refine e_repr ?_
  fail "evo"
  refine .of (all_ok W) ?_
  fail "evo"
  refine ⟨z1, hz1, ?_⟩
  refine e_repr ?_
  fail "evo"
  refine ⟨z1, hz1, ?_⟩
  fail "evo"
  refine ⟨_, rfl, fun _ => ?_, fun y => absurd y (by simp)⟩
  fail "evo"
  refine e_repr ?_
  fail "evo"
  refine .of (count_ok W) ?_
  rw [ca]
  fail "evo"
  refine ⟨z2, hz2, ?_⟩
  refine e_repr ?_
  fail "evo"
  rw [List.length_map]
  refine ⟨z2, hz2, ?_⟩
  fail "evo"
  refine ⟨fun y => absurd y (by simp), fun _ => ?_⟩
  fail "evo"
  refine ⟨3, rfl, ⟨by omega, by omega⟩, ?_⟩
  refine loop_inv (fun ds ρ S => (∃ rs : List Nat, ds = rs.map nt) ∧ ∃ (a b c : Int) (k5 k6 k7 k8 : Option Val), ρ = rR ps ts k5 k6 k7 k8 none ∧ S = [pw a b c]) ⟨⟨[0, 1, 2], rfl⟩, a, b, c, none, none, none, none, rfl, rfl⟩ ?_ ?_
  · rintro d ds ρ S ⟨⟨rs, e⟩, a, b, c, k5, k6, k7, k8, rfl, rfl⟩
    cases rs with
    | nil => cases e
    | cons k rs =>
      rw [List.map_cons] at e
      obtain ⟨rfl, rfl⟩ := List.cons.inj e
      refine .of (a := rR ps ts (some (.d (nt k))) k6 k7 k8 none) rfl ?_
      refine (r1_ok W).mono ?_
      rintro o ρ S ⟨rfl, a, b, c, k6, k7, k8, rfl, rfl⟩
      exact .inl ⟨.inl rfl, ⟨rs, rfl⟩, a, b, c, _, k6, k7, k8, rfl, rfl⟩
  rintro ρ S ⟨_, a, b, c, k5, k6, k7, k8, rfl, rfl⟩
  unfold rR
  fail "evo"
  rw [List.length_map]
  refine ⟨(ts.length : Int), rfl, ⟨by omega, by omega⟩, ?_⟩
  rw [rgL_nat]
  refine loop_inv (fun ds ρ S => (∃ rs : List Nat, ds = rs.map nt ∧ ∀ k ∈ rs, k < ts.length) ∧ ∃ (k9 : Option Val), ρ = rR ps ts k5 k6 k7 k8 k9 ∧ S = [pw a b c]) ⟨⟨List.range ts.length, rfl, fun k hk => List.mem_range.mp hk⟩, none, rfl, rfl⟩ ?_ ?_
  · rintro d ds ρ S ⟨⟨rs, e, hr⟩, k9, rfl, rfl⟩
    cases rs with
    | nil => cases e
    | cons k rs =>
      rw [List.map_cons] at e
      obtain ⟨rfl, rfl⟩ := List.cons.inj e
      refine .of (a := rR ps ts k5 k6 k7 k8 (some (.d (nt k)))) rfl ?_
      refine r2_ok W (hr k List.mem_cons_self) ?_
      exact .inl ⟨.inl rfl, ⟨rs, rfl, fun k hk => hr k (List.mem_cons_of_mem _ hk)⟩, _, rfl, rfl⟩
  rintro ρ S ⟨_, k9, rfl, rfl⟩
  unfold rR
  fail "evo"
  refine e_repr ?_
  fail "evo"
  refine .of (all_ok W) ?_
  fail "evo"
  refine .of (count_ok W) ?_
  rw [ca]
  unfold web
  fail "evo"
  refine ⟨z3, hz3, ?_⟩
  refine e_repr ?_
  fail "evo"
  rw [List.length_map]
  refine ⟨z3, hz3, ?_⟩
  fail "evo"
  exact congrArg (fun k => Res.val (Val.d (D.bl k))) (decide_eq_true rfl)
theorem law_ok (ns : List Int) (hn : ns.length ≤ 63) : f_law [.d (.scr (ns.map .int))] [] = some (.val (.d (.bl true)), []) := by
  refine G2.eq ?_
  unfold f_law b_law
  fail "evo"
  refine e_lc ?_
  fail "evo"
  refine ⟨((max 2 (min ns.length 3) : Nat) : Int), ?_, ⟨by omega, by omega⟩, ?_⟩
  · rw [List.length_map]
    refine congrArg (fun i => Val.d (D.int i)) ?_
    split <;> split at * <;> omega
  rw [rgL_nat]
  refine comp_inv (fun ds acc S => S = [] ∧ ∃ rs : List Nat, ds = rs.map nt ∧ (∀ k ∈ rs, k < 64) ∧ acc = (List.range acc.length).map (fun _ => D.bl true) ∧ acc.length + rs.length ≤ 4) ⟨rfl, List.range (max 2 (min ns.length 3)), rfl, ?_, rfl, ?_⟩ ?_ ?_
  · intro k hk
    rw [List.mem_range] at hk
    omega
  · rw [List.length_range]
    show 0 + _ ≤ _
    omega
  · rintro d ds acc S ⟨rfl, rs, e, h1, h2, h3⟩
    cases rs with
    | nil => cases e
    | cons k rs =>
      rw [List.map_cons] at e
      obtain ⟨rfl, rfl⟩ := List.cons.inj e
      rw [List.length_cons] at h3
      fail "evo"
      refine (pot_ok (ns := ns) (h1 k List.mem_cons_self)).mono ?_
      rintro r S ⟨rfl, a, b, c, rfl⟩
      fail "evo"
      refine (right_ok (a := a) (b := b) (c := c)).mono ?_
      rintro r S rfl
      fail "evo"
      refine ⟨by rw [sizeLine_val]; omega, List.take_zero, rs, rfl, fun k hk => h1 k (List.mem_cons_of_mem _ hk), ?_, by rw [List.length_append, List.length_singleton]; omega⟩
      rw [List.length_append, List.length_singleton, List.range_succ, List.map_append, ← h2]
      rfl
  rintro acc S ⟨rfl, rs, e, h1, h2, h3⟩
  fail "evo"
  rw [h2]
  refine .of (bi_all (p := fun _ => true)) ?_
  fail "evo"
  exact ⟨by simp, rfl⟩
end
end Law10
set_option maxRecDepth 100000
theorem PySem.Challenge.cw_webcounts_k10_whole_trees_listed_and_cou_holds : PySem.Challenge.rw_webcounts_k10_whole_trees_listed_and_cou.Holds :=
  Law10.holds_of fun ns hn => Law10.law_ok ns hn
