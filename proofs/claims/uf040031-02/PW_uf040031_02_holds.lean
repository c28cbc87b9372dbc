import PyProof.Rows.All
import Wide.All
import Open.Line
import Wide.FinOn
import PyProof.TableCode
import PyProof.CompFree
import PyProof.RaisesMany
import PyProof.Calls
import PyProof.Cells
import PyProof.DictList
import PyProof.DictKinds
import PyProof.AutoIntOps
import PyProof.PureInt
import PyProof.StrBlock
import PyProof.TupleOps
import PyProof.SliceStr2
import PyProof.SliceList
import PyProof.IsRules
import PyProof.NoPylong
import PyProof.AutoIntOpsIf
import PyProof.Rows.TupSub
import PyProof.Rows.StrTemp
import PyProof.Rows.Nodes
import PyProof.TupleIter
import PyProof.Rows.SeqMore
import PyProof.ListIndexNeg
import PyProof.Rows.TupMore
import PyProof.RulesAssignMore
import PyProof.ForAny
import PyProof.WalksPairs
import PyProof.WalksMore
import PyProof.CompMap
import PyProof.CompUse
import PyProof.StrWalks
import PyProof.RangeFor
import PyProof.CallRoads
import PyProof.Methods
import PyProof.WalkInts
import PyProof.IsiPairs
import PyProof.IsiHeapPairs
import PyProof.Rows.StrJoin2
import PyProof.DefCall
import PyProof.Rows.Top
import Open.Row
import Wide.BridgeG
import PyProof.Rows.RuleC_bool
import Wide.Well
import Wide.Ends
import PyProof.ConsumeWalk
import PyProof.SumWalkG
import PyProof.ListOps
import PyProof.ListCopy
import PyProof.TupleOfSeq
import PyProof.TupleCall
import PyProof.EqLayable
import PyProof.P3In
import PyProof.PlainList
import PyProof.FactsAll.list_0
import PyProof.FactsAll.list_3
import PyProof.ListIndex
import PyProof.Dict
import PyProof.RulesDelMore
import PyProof.DictRoads
import PyProof.DictStraight
import PyProof.IsiNone
import PyProof.FactsAll.list_4
import PyProof.AutoListH
import PyProof.FactsAll.dict_2
import PyProof.FactsAll.subtypes_5
import PyProof.ExcClsAt2
import PyProof.ExcClass3
import PyProof.ExcBaseAll.ValueError
import PyProof.ExcArgs
import PyProof.IsInstanceT
import PyProof.RulesAs
import PyProof.RulesDel
import PyProof.IsiTuple
import PyProof.Rows.SortRuns
import PyProof.Rows.SortShell
import PyProof.Rows.SortWalk
import PyProof.Rows.SortKeyStr
import PyProof.Rows.SortStr
import PyProof.SetKind
import PyProof.Rows.SetFrom
import PyProof.SetNew
import PyProof.FactsAll.set
import PyProof.DictIter
import PyProof.WalksS
import PyProof.MakeMany
import PyProof.Walks
import PyProof.CollectWalk
import PyProof.DictWalks
import PyProof.FactsAll.tuple_2
import PyProof.TupleKey
import PyProof.Conv_int_bool
import Open.Head
import PySem.Challenge.RW_uf040031_02
set_option tactic.hygienic false
section
set_option Elab.async false
set_option linter.unusedVariables false
set_option genSizeOf false
set_option genInjectivity false
namespace Mine.Ar
noncomputable abbrev Lin := List Int × Int
noncomputable def dot : List Int → List Int → Int
  | [], _ => 0
  | _ :: _, [] => 0
  | a :: as, x :: xs => a * x + dot as xs
noncomputable def addl : List Int → List Int → List Int
  | [], b => b
  | a :: as, [] => a :: as
  | a :: as, b :: bs => (a + b) :: addl as bs
noncomputable def ev (ρ : List Int) (f : Lin) : Int := dot f.1 ρ + f.2
noncomputable def add (f g : Lin) : Lin := (addl f.1 g.1, f.2 + g.2)
noncomputable def smul (k : Int) (f : Lin) : Lin := (f.1.map (k * ·), k * f.2)
theorem dot_add : ∀ (a b ρ : List Int), dot (addl a b) ρ = dot a ρ + dot b ρ
  | [], b, ρ => by simp [addl, dot]
  | a :: as, [], ρ => by simp [addl, dot]
  | a :: as, b :: bs, [] => by simp [addl, dot]
  | a :: as, b :: bs, x :: ρ => by simp only [addl, dot, dot_add as bs ρ, Int.add_mul]; omega
theorem dot_smul (k : Int) : ∀ (a ρ : List Int), dot (a.map (k * ·)) ρ = k * dot a ρ
  | [], ρ => by simp [dot]
  | a :: as, [] => by simp [dot]
  | a :: as, x :: ρ => by simp only [List.map_cons, dot, dot_smul k as ρ, Int.mul_add, Int.mul_assoc]
theorem ev_add (ρ : List Int) (f g : Lin) : ev ρ (add f g) = ev ρ f + ev ρ g := by simp only [ev, add, dot_add]; omega
theorem ev_smul (ρ : List Int) (k : Int) (f : Lin) : ev ρ (smul k f) = k * ev ρ f := by simp only [ev, smul, dot_smul, Int.mul_add]
noncomputable def sub (f g : Lin) : Lin := add f (smul (-1) g)
theorem ev_sub (ρ : List Int) (f g : Lin) : ev ρ (sub f g) = ev ρ f - ev ρ g := by rw [sub, ev_add, ev_smul]; omega
noncomputable def hd (f : Lin) : Int := f.1.headD 0
noncomputable def tl (f : Lin) : Lin := (f.1.tail, f.2)
theorem ev_cons (x : Int) (ρ : List Int) (f : Lin) : ev (x :: ρ) f = hd f * x + ev ρ (tl f) := by
  obtain ⟨cs, k⟩ := f
  cases cs with
  | nil => simp [ev, hd, tl, dot]
  | cons a as => simp only [ev, hd, tl, dot, List.headD, List.tail]; omega
noncomputable def elim (cs : List Lin) : List Lin :=
  ((cs.filter fun f => hd f == 0).map tl) ++ (cs.filter fun f => decide (0 < hd f)).flatMap fun p => (cs.filter fun f => decide (hd f < 0)).map fun q => add (smul (-hd q) (tl p)) (smul (hd p) (tl q))
noncomputable def fm : Nat → List Lin → Bool
  | 0, cs => cs.any fun f => decide (f.2 < 0)
  | n + 1, cs => fm n (elim cs)
noncomputable def Sat (ρ : List Int) (cs : List Lin) : Prop := ∀ f ∈ cs, 0 ≤ ev ρ f
theorem elim_sat {x : Int} {ρ : List Int} {cs : List Lin} (h : Sat (x :: ρ) cs) : Sat ρ (elim cs) := fun f hf => by
  rcases List.mem_append.mp hf with hf | hf
  · obtain ⟨g, hg, rfl⟩ := List.mem_map.mp hf
    obtain ⟨h1, h2⟩ := List.mem_filter.mp hg
    have := h g h1
    rw [ev_cons, eq_of_beq h2, Int.zero_mul, Int.zero_add] at this
    exact this
  · obtain ⟨p, hp, hf⟩ := List.mem_flatMap.mp hf
    obtain ⟨q, hq, rfl⟩ := List.mem_map.mp hf
    obtain ⟨p1, p2⟩ := List.mem_filter.mp hp
    obtain ⟨q1, q2⟩ := List.mem_filter.mp hq
    have p2 := of_decide_eq_true p2
    have q2 := of_decide_eq_true q2
    have e1 := h p p1
    have e2 := h q q1
    rw [ev_cons] at e1 e2
    have e1 := Int.mul_nonneg (show 0 ≤ -hd q by omega) e1
    have e2 := Int.mul_nonneg (show 0 ≤ hd p by omega) e2
    rw [ev_add, ev_smul, ev_smul]
    rw [Int.mul_add, ← Int.mul_assoc] at e1 e2
    have : -hd q * hd p * x = -(hd p * hd q * x) := by rw [Int.neg_mul, Int.neg_mul, Int.mul_comm (hd q)]
    rw [this] at e1
    omega
theorem fm_sound : ∀ (n : Nat) (cs : List Lin) (ρ : List Int), ρ.length = n → fm n cs = true → ¬ Sat ρ cs
  | 0, cs, ρ, hl, h, hs => by
    obtain ⟨f, hf, h2⟩ := List.any_eq_true.mp h
    have := hs f hf
    rw [List.eq_nil_of_length_eq_zero hl] at this
    have e : dot f.1 [] = 0 := by cases f.1 <;> rfl
    have := of_decide_eq_true h2
    unfold ev at *
    omega
  | n + 1, cs, x :: ρ, hl, h, hs => fm_sound n (elim cs) ρ (Nat.succ.inj hl) h (elim_sat hs)
inductive NT where
  | v (i : Nat) | k (n : Nat) | a (x y : NT) | s (x y : NT) | m (n : Nat) (x : NT)
noncomputable def nth : List Nat → Nat → Nat
  | [], _ => 0
  | x :: _, 0 => x
  | _ :: r, i + 1 => nth r i
noncomputable def NT.den (ρ : List Nat) : NT → Nat
  | .v i => nth ρ i
  | .k n => n
  | .a x y => x.den ρ + y.den ρ
  | .s x y => x.den ρ - y.den ρ
  | .m n x => n * x.den ρ
noncomputable def unit (i : Nat) : List Int := List.replicate i 0 ++ [1]
noncomputable def NT.lin (o : Nat) : NT → List (List Lin × Lin)
  | .v i => [([], (unit (o + i), 0))]
  | .k n => [([], ([], n))]
  | .a x y => (x.lin o).flatMap fun p => (y.lin o).map fun q => (p.1 ++ q.1, add p.2 q.2)
  | .s x y => (x.lin o).flatMap fun p => (y.lin o).flatMap fun q => [(sub p.2 q.2 :: (p.1 ++ q.1), sub p.2 q.2), (sub q.2 p.2 :: (p.1 ++ q.1), ([], 0))]
  | .m n x => (x.lin o).map fun p => (p.1, smul n p.2)
inductive IT where
  | v (i : Nat) | c (x : NT) | k (n : Nat) | g (x : IT) | a (x y : IT) | s (x y : IT) | m (n : Nat) (x : IT)
noncomputable def inth : List Int → Nat → Int
  | [], _ => 0
  | x :: _, 0 => x
  | _ :: r, i + 1 => inth r i
noncomputable def IT.den (τ : List Int) (ρ : List Nat) : IT → Int
  | .v i => inth τ i
  | .c x => (x.den ρ : Nat)
  | .k n => (OfNat.ofNat n : Int)
  | .g x => -x.den τ ρ
  | .a x y => x.den τ ρ + y.den τ ρ
  | .s x y => x.den τ ρ - y.den τ ρ
  | .m n x => (OfNat.ofNat n : Int) * x.den τ ρ
noncomputable def IT.lin (o : Nat) : IT → List (List Lin × Lin)
  | .v i => [([], (unit i, 0))]
  | .c x => x.lin o
  | .k n => [([], ([], n))]
  | .g x => (x.lin o).map fun p => (p.1, smul (-1) p.2)
  | .a x y => (x.lin o).flatMap fun p => (y.lin o).map fun q => (p.1 ++ q.1, add p.2 q.2)
  | .s x y => (x.lin o).flatMap fun p => (y.lin o).map fun q => (p.1 ++ q.1, sub p.2 q.2)
  | .m n x => (x.lin o).map fun p => (p.1, smul n p.2)
noncomputable def nints (ρ : List Nat) : List Int := ρ.map fun (n : Nat) => (n : Int)
theorem dot_unit : ∀ (i : Nat) (ρ : List Int), dot (unit i) ρ = inth ρ i
  | 0, [] => rfl
  | _ + 1, [] => rfl
  | 0, x :: ρ => by simp [unit, dot, inth]
  | i + 1, x :: ρ => by
    have := dot_unit i ρ
    simp only [unit, List.replicate_succ, List.cons_append, dot, inth, Int.zero_mul, Int.zero_add] at this ⊢
    exact this
noncomputable def env (τ : List Int) (ρ : List Nat) : List Int := τ ++ nints ρ
theorem inth_nints : ∀ (ρ : List Nat) (i : Nat), inth (nints ρ) i = (nth ρ i : Nat)
  | [], _ => rfl
  | _ :: _, 0 => rfl
  | _ :: r, i + 1 => inth_nints r i
theorem inth_right (ρ : List Int) (i : Nat) : ∀ τ : List Int, inth (τ ++ ρ) (τ.length + i) = inth ρ i
  | [] => by simp
  | x :: τ => by
    have := inth_right ρ i τ
    rw [List.length_cons, Nat.succ_add]; exact this
theorem inth_left (ρ : List Int) : ∀ (τ : List Int) (i : Nat), i < τ.length → inth (τ ++ ρ) i = inth τ i
  | x :: τ, 0, _ => rfl
  | x :: τ, i + 1, h => inth_left ρ τ i (Nat.lt_of_succ_lt_succ h)
theorem lin_ok (τ : List Int) (ρ : List Nat) : ∀ t : NT, ∃ p ∈ t.lin τ.length, Sat (env τ ρ) p.1 ∧ ev (env τ ρ) p.2 = (t.den ρ : Nat)
  | .v i => ⟨_, .head _, (fun z1 h => by cases h), (by simp only [ev, NT.den, dot_unit, env, inth_right, inth_nints]; omega)⟩
  | .k n => ⟨_, .head _, (fun z1 h => by cases h), (by simp [ev, NT.den, dot])⟩
  | .a x y => by
    obtain ⟨p, hp, p1, p2⟩ := lin_ok τ ρ x
    obtain ⟨q, hq, q1, q2⟩ := lin_ok τ ρ y
    refine ⟨_, List.mem_flatMap.mpr ⟨p, hp, List.mem_map.mpr ⟨q, hq, rfl⟩⟩, fun f hf => ?_, ?_⟩
    · rcases List.mem_append.mp hf with h | h
      · exact p1 f h
      · exact q1 f h
    · show ev _ (add p.2 q.2) = _
      rw [ev_add, p2, q2]; simp [NT.den]
  | .s x y => by
    obtain ⟨p, hp, p1, p2⟩ := lin_ok τ ρ x
    obtain ⟨q, hq, q1, q2⟩ := lin_ok τ ρ y
    have hs : ∀ f ∈ p.1 ++ q.1, 0 ≤ ev (env τ ρ) f := fun f hf => by
      rcases List.mem_append.mp hf with h | h
      · exact p1 f h
      · exact q1 f h
    by_cases h : y.den ρ ≤ x.den ρ
    · refine ⟨_, List.mem_flatMap.mpr ⟨p, hp, List.mem_flatMap.mpr ⟨q, hq, .head _⟩⟩, fun f hf => ?_, ?_⟩
      · rcases List.mem_cons.mp hf with rfl | hf
        · rw [ev_sub, p2, q2]; omega
        · exact hs f hf
      · show ev _ (sub p.2 q.2) = _
        rw [ev_sub, p2, q2]; simp only [NT.den]; omega
    · refine ⟨_, List.mem_flatMap.mpr ⟨p, hp, List.mem_flatMap.mpr ⟨q, hq, .tail _ (.head _)⟩⟩, fun f hf => ?_, ?_⟩
      · rcases List.mem_cons.mp hf with rfl | hf
        · rw [ev_sub, p2, q2]; omega
        · exact hs f hf
      · simp only [ev, dot, NT.den]; omega
  | .m n x => by
    obtain ⟨p, hp, p1, p2⟩ := lin_ok τ ρ x
    refine ⟨_, List.mem_map.mpr ⟨p, hp, rfl⟩, p1, ?_⟩
    show ev _ (smul n p.2) = _
    rw [ev_smul, p2]; simp [NT.den]
noncomputable def IT.in (o : Nat) : IT → Bool
  | .v i => decide (i < o)
  | .c _ => true
  | .k _ => true
  | .g x => x.in o
  | .a x y => x.in o && y.in o
  | .s x y => x.in o && y.in o
  | .m _ x => x.in o
theorem and_tt {a b : Bool} (h : (a && b) = true) : a = true ∧ b = true := Bool.and_eq_true_iff.mp h
theorem ilin_ok (τ : List Int) (ρ : List Nat) : ∀ t : IT, t.in τ.length = true → ∃ p ∈ t.lin τ.length, Sat (env τ ρ) p.1 ∧ ev (env τ ρ) p.2 = t.den τ ρ
  | .v i, h => ⟨_, .head _, (fun z1 h => by cases h), (by simp only [ev, IT.den, dot_unit, env, inth_left _ τ i (of_decide_eq_true h), Int.add_zero])⟩
  | .c x, _ => lin_ok τ ρ x
  | .k n, _ => ⟨_, .head _, (fun z1 h => by cases h), (by simp only [ev, IT.den, dot, Int.zero_add]; rfl)⟩
  | .g x, h => by
    obtain ⟨p, hp, p1, p2⟩ := ilin_ok τ ρ x h
    refine ⟨_, List.mem_map.mpr ⟨p, hp, rfl⟩, p1, ?_⟩
    show ev _ (smul (-1) p.2) = _
    rw [ev_smul, p2]; simp only [IT.den]; omega
  | .a x y, h => by
    obtain ⟨p, hp, p1, p2⟩ := ilin_ok τ ρ x (and_tt h).1
    obtain ⟨q, hq, q1, q2⟩ := ilin_ok τ ρ y (and_tt h).2
    refine ⟨_, List.mem_flatMap.mpr ⟨p, hp, List.mem_map.mpr ⟨q, hq, rfl⟩⟩, fun f hf => ?_, ?_⟩
    · rcases List.mem_append.mp hf with h | h
      · exact p1 f h
      · exact q1 f h
    · show ev _ (add p.2 q.2) = _
      rw [ev_add, p2, q2]; rfl
  | .s x y, h => by
    obtain ⟨p, hp, p1, p2⟩ := ilin_ok τ ρ x (and_tt h).1
    obtain ⟨q, hq, q1, q2⟩ := ilin_ok τ ρ y (and_tt h).2
    refine ⟨_, List.mem_flatMap.mpr ⟨p, hp, List.mem_map.mpr ⟨q, hq, rfl⟩⟩, fun f hf => ?_, ?_⟩
    · rcases List.mem_append.mp hf with h | h
      · exact p1 f h
      · exact q1 f h
    · show ev _ (sub p.2 q.2) = _
      rw [ev_sub, p2, q2]; rfl
  | .m n x, h => by
    obtain ⟨p, hp, p1, p2⟩ := ilin_ok τ ρ x h
    refine ⟨_, List.mem_map.mpr ⟨p, hp, rfl⟩, p1, ?_⟩
    show ev _ (smul n p.2) = _
    rw [ev_smul, p2]; rfl
inductive NF where
  | le (x y : NT) | lt (x y : NT) | eq (x y : NT) | ile (x y : IT) | ilt (x y : IT) | ieq (x y : IT) | no (f : NF) | an (f g : NF)
noncomputable def NF.den (τ : List Int) (ρ : List Nat) : NF → Prop
  | .le x y => x.den ρ ≤ y.den ρ
  | .lt x y => x.den ρ < y.den ρ
  | .eq x y => x.den ρ = y.den ρ
  | .ile x y => x.den τ ρ ≤ y.den τ ρ
  | .ilt x y => x.den τ ρ < y.den τ ρ
  | .ieq x y => x.den τ ρ = y.den τ ρ
  | .no f => ¬ f.den τ ρ
  | .an f g => f.den τ ρ ∧ g.den τ ρ
noncomputable def NF.in (o : Nat) : NF → Bool
  | .ile x y => x.in o && y.in o
  | .ilt x y => x.in o && y.in o
  | .ieq x y => x.in o && y.in o
  | .no f => f.in o
  | .an f g => f.in o && g.in o
  | _ => true
noncomputable def two (x y : List (List Lin × Lin)) (g : Lin → Lin → List (List Lin)) : List (List Lin) := x.flatMap fun p => y.flatMap fun q => (g p.2 q.2).map fun c => c ++ (p.1 ++ q.1)
noncomputable def one : Lin := ([], 1)
noncomputable def cle (p q : Lin) : List (List Lin) := [[sub q p]]
noncomputable def clt (p q : Lin) : List (List Lin) := [[sub (sub q p) one]]
noncomputable def ceq (p q : Lin) : List (List Lin) := [[sub q p, sub p q]]
noncomputable def cne (p q : Lin) : List (List Lin) := [[sub (sub q p) one], [sub (sub p q) one]]
noncomputable def NF.cs (o : Nat) : NF → Bool → List (List Lin)
  | .le x y, b => if b then two (x.lin o) (y.lin o) cle else two (y.lin o) (x.lin o) clt
  | .lt x y, b => if b then two (x.lin o) (y.lin o) clt else two (y.lin o) (x.lin o) cle
  | .eq x y, b => if b then two (x.lin o) (y.lin o) ceq else two (x.lin o) (y.lin o) cne
  | .ile x y, b => if b then two (x.lin o) (y.lin o) cle else two (y.lin o) (x.lin o) clt
  | .ilt x y, b => if b then two (x.lin o) (y.lin o) clt else two (y.lin o) (x.lin o) cle
  | .ieq x y, b => if b then two (x.lin o) (y.lin o) ceq else two (x.lin o) (y.lin o) cne
  | .no f, b => f.cs o (!b)
  | .an f g, b => if b then (f.cs o true).flatMap fun c => (g.cs o true).map fun e => c ++ e else f.cs o false ++ g.cs o false
noncomputable def Fits (E : List Int) (l : List (List Lin × Lin)) (v : Int) : Prop := ∃ p ∈ l, Sat E p.1 ∧ ev E p.2 = v
theorem two_ok {E : List Int} {x y : List (List Lin × Lin)} {a b : Int} (hx : Fits E x a) (hy : Fits E y b) {g : Lin → Lin → List (List Lin)} (h : ∀ p q : Lin, ev E p = a → ev E q = b → ∃ c ∈ g p q, Sat E c) : ∃ c ∈ two x y g, Sat E c := by
  obtain ⟨p, hp, p1, p2⟩ := hx
  obtain ⟨q, hq, q1, q2⟩ := hy
  obtain ⟨c, hc, h⟩ := h _ _ p2 q2
  refine ⟨_, List.mem_flatMap.mpr ⟨p, hp, List.mem_flatMap.mpr ⟨q, hq, List.mem_map.mpr ⟨c, hc, rfl⟩⟩⟩, fun f hf => ?_⟩
  rcases List.mem_append.mp hf with k | k
  · exact h f k
  · rcases List.mem_append.mp k with k | k
    · exact p1 f k
    · exact q1 f k
theorem sat_one {ρ : List Int} {f : Lin} (h : 0 ≤ ev ρ f) : Sat ρ [f] := fun g hg => by rw [List.mem_singleton.mp hg]; exact h
theorem ev_one (ρ : List Int) : ev ρ one = 1 := by simp [ev, one, dot]
section
variable {E : List Int} {x y : List (List Lin × Lin)} {a b : Int} (hx : Fits E x a) (hy : Fits E y b)
include hx hy
theorem c_le (h : a ≤ b) : ∃ c ∈ two x y cle, Sat E c := two_ok hx hy fun p q e1 e2 => ⟨_, .head _, sat_one (by rw [ev_sub, e1, e2]; omega)⟩
theorem c_lt (h : a < b) : ∃ c ∈ two x y clt, Sat E c := two_ok hx hy fun p q e1 e2 => ⟨_, .head _, sat_one (by rw [ev_sub, ev_sub, e1, e2, ev_one]; omega)⟩
theorem c_eq (h : a = b) : ∃ c ∈ two x y ceq, Sat E c := two_ok hx hy fun p q e1 e2 => ⟨_, .head _, fun f hf => by
  rcases List.mem_cons.mp hf with rfl | hf
  · rw [ev_sub, e1, e2]; omega
  · rw [List.mem_singleton.mp hf, ev_sub, e1, e2]; omega⟩
theorem c_ne (h : ¬ a = b) : ∃ c ∈ two x y cne, Sat E c := two_ok hx hy fun p q e1 e2 => by
  rcases Int.lt_or_gt_of_ne h with k | k
  · exact ⟨_, .head _, sat_one (by rw [ev_sub, ev_sub, e1, e2, ev_one]; omega)⟩
  · exact ⟨_, .tail _ (.head _), sat_one (by rw [ev_sub, ev_sub, e1, e2, ev_one]; omega)⟩
end
theorem cs_ok (τ : List Int) (ρ : List Nat) : ∀ (f : NF) (b : Bool), f.in τ.length = true → (if b = true then f.den τ ρ else ¬ f.den τ ρ) → ∃ c ∈ f.cs τ.length b, Sat (env τ ρ) c
  | .le x y, true, _, h => c_le (lin_ok τ ρ x) (lin_ok τ ρ y) (Int.ofNat_le.mpr h)
  | .le x y, false, _, h => c_lt (lin_ok τ ρ y) (lin_ok τ ρ x) (Int.ofNat_lt.mpr (Nat.lt_of_not_le h))
  | .lt x y, true, _, h => c_lt (lin_ok τ ρ x) (lin_ok τ ρ y) (Int.ofNat_lt.mpr h)
  | .lt x y, false, _, h => c_le (lin_ok τ ρ y) (lin_ok τ ρ x) (Int.ofNat_le.mpr (Nat.le_of_not_lt h))
  | .eq x y, true, _, h => c_eq (lin_ok τ ρ x) (lin_ok τ ρ y) (congrArg _ h)
  | .eq x y, false, _, h => c_ne (lin_ok τ ρ x) (lin_ok τ ρ y) (fun q => h (Int.ofNat.inj q))
  | .ile x y, true, i, h => c_le (ilin_ok τ ρ x (and_tt i).1) (ilin_ok τ ρ y (and_tt i).2) h
  | .ile x y, false, i, h => c_lt (ilin_ok τ ρ y (and_tt i).2) (ilin_ok τ ρ x (and_tt i).1) (Int.lt_of_not_ge h)
  | .ilt x y, true, i, h => c_lt (ilin_ok τ ρ x (and_tt i).1) (ilin_ok τ ρ y (and_tt i).2) h
  | .ilt x y, false, i, h => c_le (ilin_ok τ ρ y (and_tt i).2) (ilin_ok τ ρ x (and_tt i).1) (Int.not_lt.mp h)
  | .ieq x y, true, i, h => c_eq (ilin_ok τ ρ x (and_tt i).1) (ilin_ok τ ρ y (and_tt i).2) h
  | .ieq x y, false, i, h => c_ne (ilin_ok τ ρ x (and_tt i).1) (ilin_ok τ ρ y (and_tt i).2) h
  | .no f, true, i, h => cs_ok τ ρ f false i h
  | .no f, false, i, h => cs_ok τ ρ f true i (Classical.not_not.mp h)
  | .an f g, true, i, h => by
    obtain ⟨c, hc, h1⟩ := cs_ok τ ρ f true (and_tt i).1 (show f.den τ ρ ∧ g.den τ ρ from h).1
    obtain ⟨e, he, h2⟩ := cs_ok τ ρ g true (and_tt i).2 (show f.den τ ρ ∧ g.den τ ρ from h).2
    refine ⟨_, List.mem_flatMap.mpr ⟨c, hc, List.mem_map.mpr ⟨e, he, rfl⟩⟩, fun f hf => ?_⟩
    rcases List.mem_append.mp hf with k | k
    · exact h1 f k
    · exact h2 f k
  | .an f g, false, i, h => by
    by_cases k : f.den τ ρ
    · obtain ⟨e, he, h2⟩ := cs_ok τ ρ g false (and_tt i).2 (fun q => (show ¬ (f.den τ ρ ∧ g.den τ ρ) from h) ⟨k, q⟩)
      exact ⟨e, List.mem_append_right _ he, h2⟩
    · obtain ⟨e, he, h2⟩ := cs_ok τ ρ f false (and_tt i).1 k
      exact ⟨e, List.mem_append_left _ he, h2⟩
noncomputable def go (o n : Nat) : List NF → List Lin → Bool
  | [], acc => fm (o + n) acc
  | f :: fs, acc => f.in o && (f.cs o true).all fun c => go o n fs (c ++ acc)
noncomputable def imp (τ : List Int) (ρ : List Nat) : List NF → Prop → Prop
  | [], g => g
  | f :: fs, g => f.den τ ρ → imp τ ρ fs g
noncomputable def units (o : Nat) : Nat → List Lin
  | 0 => []
  | n + 1 => (unit (o + n), 0) :: units o n
theorem units_ok (τ : List Int) (ρ : List Nat) : ∀ n, Sat (env τ ρ) (units τ.length n)
  | 0 => fun z1 h => by cases h
  | n + 1 => fun f h => by
    rcases List.mem_cons.mp h with rfl | h
    · simp only [ev, dot_unit, env, inth_right, inth_nints]; omega
    · exact units_ok τ ρ n f h
theorem go_ok (τ : List Int) (ρ : List Nat) (g : Prop) : ∀ (fs : List NF) (acc : List Lin), go τ.length ρ.length fs acc = true → Sat (env τ ρ) acc → imp τ ρ fs g
  | [], acc, h, hs => absurd hs (fm_sound _ acc _ (by simp [env, nints]) h)
  | f :: fs, acc, h, hs => fun hf => by
    obtain ⟨c, hc, h1⟩ := cs_ok τ ρ f true (and_tt h).1 hf
    refine go_ok τ ρ g fs (c ++ acc) (List.all_eq_true.mp (and_tt h).2 c hc) fun f hf => ?_
    rcases List.mem_append.mp hf with k | k
    · exact h1 f k
    · exact hs f k
theorem fls (o n : Nat) (fs : List NF) (h : go o n fs (units o n) = true) (τ : List Int) (ρ : List Nat) (ho : τ.length = o) (hl : ρ.length = n) : imp τ ρ fs False := by
  subst hl ho
  exact go_ok τ ρ False fs _ h (units_ok τ ρ _)
theorem imp_dn {τ : List Int} {ρ : List Nat} {g : Prop} : ∀ (fs : List NF), (¬ g → imp τ ρ fs False) → imp τ ρ fs g
  | [], h => Classical.byContradiction h
  | _ :: fs, h => fun q => imp_dn fs fun k => h k q
theorem lin (o n : Nat) (g : NF) (fs : List NF) (h : go o n (.no g :: fs) (units o n) = true) (τ : List Int) (ρ : List Nat) (ho : τ.length = o) (hl : ρ.length = n) : imp τ ρ fs (g.den τ ρ) :=
  imp_dn fs (fls o n (.no g :: fs) h τ ρ ho hl)
end Mine.Ar
end
section
set_option linter.unusedSimpArgs false
namespace Mine
open PySem
inductive V where
  | none
  | bool (b : Bool)
  | int (i : Int)
  | str (s : Str)
  | tup (vs : List V)
  | lst (vs : List V)
  | set (led : Bool) (vs : List V)
  | rng (lo hi : Int)
  | ref (a : Addr)
  | raw (v : Value)
  deriving Inhabited
inductive O where
  | list (vs : List V)
  | dictI (kvs : List (Int × V))
  | dictS (kvs : List (Str × V))
  | inst (C d : Addr) (fs : List (Str × V))
  | exc (C : Addr)
  deriving Inhabited
noncomputable abbrev Led := List (Addr × O)
noncomputable abbrev AEnv := List (Str × V)
noncomputable def O.addrs (a : Addr) : O → List Addr
  | .inst _ d _ => [a, d]
  | _ => [a]
noncomputable def owned : Led → List Addr
  | [] => []
  | (a, o) :: r => o.addrs a ++ owned r
noncomputable def PlainSeq (h : Heap) (T : String) (a : Addr) (cs : List Value) : Prop := ∃ n, h.get? a = some { cls := .type T, data := .seq cs.toArray n }
mutual
noncomputable def VRel (h : Heap) (own : List Addr) : V → Value → Prop
  | .none, c => c = .none
  | .bool b, c => c = .bool b
  | .int i, c => ∃ t, c = .int i t
  | .str x, c => ∃ t, c = .str x t
  | .tup vs, c => ∃ a cs, c = .ref a ∧ a ∉ own ∧ PlainSeq h "tuple" a cs ∧ cs.length ≤ sizeLine ∧ VRels h own vs cs
  | .lst vs, c => ∃ a cs, c = .ref a ∧ a ∉ own ∧ PlainSeq h "list" a cs ∧ cs.length ≤ sizeLine ∧ VRels h own vs cs
  | .set led vs, c => ∃ a es ep t, c = .ref a ∧ a ∉ own ∧ h.get? a = some { cls := .type "set", data := .set es ep t } ∧ (t.fits es.size = true ∧ es.size ≤ sizeLine ∧ t.led = led ∧ (t.plain = false ∨ t.place.toList.Pairwise (· < ·))) ∧ VRels h own vs (es.toList.map (·.2))
  | .rng lo hi, c => ∃ a t u v, c = .ref a ∧ a ∉ own ∧ h.get? a = some { cls := .type "range", data := .fields #[.int lo t, .int hi u, .int 1 v] }
  | .ref a, c => c = .ref a
  | .raw v, c => c = v
noncomputable def VRels (h : Heap) (own : List Addr) : List V → List Value → Prop
  | [], cs => cs = []
  | v :: vs, cs => ∃ c cs', cs = c :: cs' ∧ VRel h own v c ∧ VRels h own vs cs'
end
noncomputable def Obj.isDict (o : Obj) : Prop := ∃ es ep, o.data = .dict es ep
noncomputable def Kept (own : List Addr) (h h' : Heap) : Prop :=
  ∀ b o, h.get? b = some o → b ∉ own → ∃ sl, h'.get? b = some { o with slots := sl } ∧ (¬ Obj.isDict o → sl = o.slots)
theorem Kept.refl {own : List Addr} {h : Heap} : Kept own h h := fun z1 o e z2 => ⟨o.slots, e, fun z1 => rfl⟩
theorem Kept.exact {own : List Addr} {h h' : Heap} (k : Kept own h h') {b : Addr} {o : Obj} (e : h.get? b = some o) (hb : b ∉ own) (hd : ¬ Obj.isDict o) : h'.get? b = some o := by
  obtain ⟨sl, e', hs⟩ := k b o e hb
  rw [e', hs hd]
theorem Kept.of {own : List Addr} {h h' : Heap} (k : ∀ b o, h.get? b = some o → b ∉ own → h'.get? b = some o) : Kept own h h' :=
  fun b o e hb => ⟨o.slots, k b o e hb, fun z1 => rfl⟩
theorem PlainSeq.notDict {T : String} {cs : List Value} {n : Nat} : ¬ Obj.isDict ({ cls := .type T, data := .seq cs.toArray n } : Obj) := by
  rintro ⟨es, ep, e⟩; cases e
noncomputable def Grow (own own' : List Addr) (h : Heap) : Prop := ∀ b ∈ own', b ∈ own ∨ h.get? b = none
noncomputable def Frozen (o : Obj) : Prop := (∃ xs n, o.data = .seq xs n) ∨ ((∃ xs, o.data = .fields xs) ∧ o.cls = .type "range") ∨ ∃ es ep t, o.data = .set es ep t
theorem Frozen.notDict {o : Obj} (f : Frozen o) : ¬ Obj.isDict o := by
  rintro ⟨es, ep, e⟩
  rcases f with ⟨xs, n, q⟩ | ⟨⟨xs, q⟩, _⟩ | ⟨_, _, _, q⟩ <;> rw [e] at q <;> cases q
noncomputable def Carries (own own' : List Addr) (h h' : Heap) : Prop := ∀ a o, h.get? a = some o → a ∉ own → Frozen o → h'.get? a = some o ∧ a ∉ own'
mutual
theorem VRel.carry {own own' : List Addr} {h h' : Heap} (k : Carries own own' h h') : ∀ (v : V) (c : Value), VRel h own v c → VRel h' own' v c
  | .none, _, x => x
  | .bool _, _, x => x
  | .int _, _, x => x
  | .str _, _, x => x
  | .tup vs, c, x => by
    simp only [VRel] at x ⊢
    obtain ⟨a, cs, e, ha, ⟨n, hp⟩, hl, r⟩ := x
    obtain ⟨hp', ha'⟩ := k a _ hp ha (.inl ⟨_, _, rfl⟩)
    exact ⟨a, cs, e, ha', ⟨n, hp'⟩, hl, VRels.carry k vs cs r⟩
  | .lst vs, c, x => by
    simp only [VRel] at x ⊢
    obtain ⟨a, cs, e, ha, ⟨n, hp⟩, hl, r⟩ := x
    obtain ⟨hp', ha'⟩ := k a _ hp ha (.inl ⟨_, _, rfl⟩)
    exact ⟨a, cs, e, ha', ⟨n, hp'⟩, hl, VRels.carry k vs cs r⟩
  | .set _ vs, c, x => by
    simp only [VRel] at x ⊢
    obtain ⟨a, es, ep, t, e, ha, hp, q, r⟩ := x
    obtain ⟨hp', ha'⟩ := k a _ hp ha (.inr (.inr ⟨_, _, _, rfl⟩))
    exact ⟨a, es, ep, t, e, ha', hp', q, VRels.carry k vs _ r⟩
  | .rng _ _, _, x => by
    simp only [VRel] at x ⊢
    obtain ⟨a, t, u, v, e, ha, hp⟩ := x
    obtain ⟨hp', ha'⟩ := k a _ hp ha (.inr (.inl ⟨⟨_, rfl⟩, rfl⟩))
    exact ⟨a, t, u, v, e, ha', hp'⟩
  | .ref _, _, x => x
  | .raw _, _, x => x
theorem VRels.carry {own own' : List Addr} {h h' : Heap} (k : Carries own own' h h') : ∀ (vs : List V) (cs : List Value), VRels h own vs cs → VRels h' own' vs cs
  | [], _, x => x
  | v :: vs, cs, x => by
    simp only [VRels] at x ⊢
    obtain ⟨c, cs', e, r, rs⟩ := x
    exact ⟨c, cs', e, VRel.carry k v c r, VRels.carry k vs cs' rs⟩
end
theorem Kept.carries {own own' : List Addr} {h h' : Heap} (k : Kept own h h') (g : Grow own own' h) : Carries own own' h h' := fun a o e ha f => ⟨k.exact e ha f.notDict, fun hm => by
  rcases g a hm with q | q
  · exact ha q
  · rw [e] at q; cases q⟩
theorem VRel.mono {own own' : List Addr} {h h' : Heap} (k : Kept own h h') (g : Grow own own' h) (v : V) (c : Value) (r : VRel h own v c) : VRel h' own' v c := r.carry (k.carries g)
theorem VRels.mono {own own' : List Addr} {h h' : Heap} (k : Kept own h h') (g : Grow own own' h) (vs : List V) (cs : List Value) (r : VRels h own vs cs) : VRels h' own' vs cs := r.carry (k.carries g)
structure Base where
  prog : Program
  w : World
  h0 : Heap
  mg : Str → Option Value
  mb : Str → Option Value
  hd : Bool
noncomputable def DictR (k : Base) {K : Type} [DecidableEq K] (knd : KeyKind k.prog k.w K) (h : Heap) (own : List Addr) (a : Addr) (kvs : List (K × V)) : Prop :=
  ∃ cs : List (K × Value), (a == sysModules) = false ∧ h.DictOf knd a cs ∧ cs.map (·.1) = kvs.map (·.1) ∧ VRels h own (kvs.map (·.2)) (cs.map (·.2))
theorem DictR.carry {k : Base} {K : Type} [DecidableEq K] {knd : KeyKind k.prog k.w K} {h h' : Heap} {own own' : List Addr} {a : Addr} {kvs : List (K × V)} (r : DictR k knd h own a kvs) (hk : ∀ o, h.get? a = some o → h'.get? a = some o) (hc : Carries own own' h h') : DictR k knd h' own' a kvs := by
  obtain ⟨cs, hs, ⟨o, es, ep, ho, q⟩, e, rs⟩ := r
  exact ⟨cs, hs, ⟨o, es, ep, hk o ho, q⟩, e, rs.carry hc⟩
theorem DictR.there {k : Base} {K : Type} [DecidableEq K] {knd : KeyKind k.prog k.w K} {h : Heap} {own : List Addr} {a : Addr} {kvs : List (K × V)} (r : DictR k knd h own a kvs) : ∃ o, h.get? a = some o := by
  obtain ⟨_, _, ⟨o, _, _, ho, _⟩, _⟩ := r
  exact ⟨o, ho⟩
noncomputable def ORel (k : Base) (h : Heap) (own : List Addr) (a : Addr) : O → Prop
  | .list vs => ∃ cs, PlainSeq h "list" a cs ∧ cs.length ≤ sizeLine ∧ VRels h own vs cs
  | .dictI kvs => DictR k (intKind k.prog k.w) h own a kvs
  | .dictS kvs => DictR k (strKind k.prog k.w) h own a kvs
  | .inst _ _ _ => False
  | .exc C => ∃ o vs, h.get? a = some o ∧ o.cls = .ref C ∧ o.data = .fields vs
structure Base.OK (k : Base) : Prop where
  g : k.h0.Ns mainGlobals k.mg
  b : k.h0.Ns builtinsNs k.mb
  nolimit : k.h0.NoLimit
structure Cx where
  k : Base
  F : List Addr := []
  H : List Addr := []
noncomputable abbrev ownS (c : Cx) (σ : Led) : List Addr := c.H ++ owned σ
structure St (c : Cx) (A : Around) (σ : Led) (h : Heap) : Prop where
  keep : ∀ b o, c.k.h0.get? b = some o → h.get? b = some o
  nodup : (owned σ).Nodup
  fresh : ∀ a ∈ owned σ, c.k.h0.get? a = none
  objs : ∀ a o, (a, o) ∈ σ → ORel c.k h (ownS c σ) a o
  frames : ∃ l, A.frames = some l ∧ h.FunFrames c.k.h0 l ∧ ∀ L ∈ l.filterMap (·.frame), L ∉ owned σ ∧ L ∉ c.F ∧ ∀ o, h.get? L = some o → Obj.isDict o
  prot : ∀ b ∈ c.F, ∃ o, h.get? b = some o
  hid : ∀ b ∈ c.H, b ∉ owned σ ∧ ∃ o, h.get? b = some o
structure Step (F own own' : List Addr) (s s' : Shared) : Prop where
  kept : Kept own s.heap s'.heap
  there : ∀ b o, s.heap.get? b = some o → ∃ o', s'.heap.get? b = some o'
  prot : ∀ b ∈ F, ∀ o, s.heap.get? b = some o → s'.heap.get? b = some o
  grow : Grow own own' s.heap
  os : s'.os = s.os
  gens : s'.gens = s.gens
theorem Step.refl {F own : List Addr} {s : Shared} : Step F own own s s := ⟨.refl, fun z1 o e => ⟨o, e⟩, fun z1 z2 z3 e => e, fun z1 h => .inl h, rfl, rfl⟩
theorem Step.toks {F own : List Addr} {s : Shared} {t : Nat} : Step F own own s { s with toks := t } := ⟨.refl, fun z1 o e => ⟨o, e⟩, fun z1 z2 z3 e => e, fun z1 h => .inl h, rfl, rfl⟩
theorem Obj.isDict_slots {o : Obj} {sl : Array (Option Value)} : Obj.isDict { o with slots := sl } ↔ Obj.isDict o := Iff.rfl
theorem Kept.trans {own own' : List Addr} {h h' h'' : Heap} (x : Kept own h h') (g : Grow own own' h) (y : Kept own' h' h'') : Kept own h h'' := by
  intro b o e hb
  obtain ⟨sl, e1, s1⟩ := x b o e hb
  have hb' : b ∉ own' := fun hm => by
    rcases g b hm with q | q
    · exact hb q
    · rw [e] at q; cases q
  obtain ⟨sl2, e2, s2⟩ := y b _ e1 hb'
  exact ⟨sl2, e2, fun hd => (s2 hd).trans (s1 hd)⟩
theorem Grow.trans {own own' own'' : List Addr} {h h' : Heap} (k : Kept own h h') (x : Grow own own' h) (y : Grow own' own'' h') : Grow own own'' h := by
  intro b hb
  rcases y b hb with q | q
  · exact x b q
  · by_cases ho : b ∈ own
    · exact .inl ho
    · cases e : h.get? b with
      | none => exact .inr rfl
      | some o => obtain ⟨sl, e1, _⟩ := k b o e ho; rw [e1] at q; cases q
theorem Step.trans {F own own' own'' : List Addr} {s s' s'' : Shared} (x : Step F own own' s s') (y : Step F own' own'' s' s'') : Step F own own'' s s'' :=
  ⟨x.kept.trans x.grow y.kept, fun b o e => (x.there b o e).elim fun o' e' => y.there b o' e', fun b hb o e => y.prot b hb o (x.prot b hb o e), x.grow.trans x.kept y.grow, y.os.trans x.os, y.gens.trans x.gens⟩
theorem Kept.wider {own W : List Addr} {h h' : Heap} (x : Kept own h h') : Kept (W ++ own) h h' := fun b o e hb => x b o e fun hm => hb (List.mem_append_right _ hm)
theorem Grow.wider {own own' W : List Addr} {h : Heap} (x : Grow own own' h) : Grow (W ++ own) (W ++ own') h := fun b hb => by
  rcases List.mem_append.mp hb with q | q
  · exact .inl (List.mem_append_left _ q)
  · exact (x b q).imp (List.mem_append_right _) id
theorem Step.v {F own own' H : List Addr} {s s' : Shared} (x : Step F own own' s s') {v : V} {c : Value} (r : VRel s.heap (H ++ own) v c) : VRel s'.heap (H ++ own') v c := VRel.mono x.kept.wider x.grow.wider v c r
theorem Step.vs {F own own' H : List Addr} {s s' : Shared} (x : Step F own own' s s') {vs : List V} {cs : List Value} (r : VRels s.heap (H ++ own) vs cs) : VRels s'.heap (H ++ own') vs cs := VRels.mono x.kept.wider x.grow.wider vs cs r
structure EnvOk (env : Env) : Prop where
  kind : env.scope.kind = .function
  nodebug : env.kindOf "__debug__" = none
  noclassdict : env.kindOf "__classdict__" ≠ some .free
  globals : env.globals = mainGlobals
  builtins : env.builtins = builtinsNs
  cell : ∀ x, env.kindOf x = some .cell ∨ env.kindOf x = some .free → ∃ a, env.cells.lookup x = some a
structure EnvRel (c : Cx) (own : List Addr) (env : Env) (m : AEnv) (h : Heap) : Prop where
  ns : ∃ mc, h.Ns env.locals mc ∧ ∀ x v, m.lookup x = some v → env.kindOf x = some .local → ∃ cv, mc x = some cv ∧ VRel h own v cv
  cell : ∀ x v, m.lookup x = some v → (env.kindOf x = some .cell ∨ env.kindOf x = some .free) → ∃ a cv, env.cells.lookup x = some a ∧ h.IsCell a (some cv) ∧ VRel h own v cv
  lnot : env.locals ∉ own ∧ c.k.h0.get? env.locals = none ∧ env.locals ∉ c.F
  cnot : ∀ x a, (x, a) ∈ env.cells → a ∉ own ∧ a ≠ env.locals ∧ c.k.h0.get? a = none ∧ a ∉ c.F ∧ ∃ v, h.IsCell a v
  apart : env.cells.Pairwise (fun x y => x.2 ≠ y.2)
theorem Kept.ns {own : List Addr} {h h' : Heap} {a : Addr} {m : Str → Option Value} (k : Kept own h h') (ha : a ∉ own) (x : h.Ns a m) : h'.Ns a m := by
  obtain ⟨o, es, ep, ho, hd, hk, hm⟩ := x
  obtain ⟨sl, e, _⟩ := k a o ho ha
  exact ⟨_, es, ep, e, hd, hk, hm⟩
theorem Kept.isCell {own : List Addr} {h h' : Heap} {a : Addr} {v : Option Value} (k : Kept own h h') (ha : a ∉ own) (x : h.IsCell a v) : h'.IsCell a v := by
  obtain ⟨o, ho, hd⟩ := x
  obtain ⟨sl, e, _⟩ := k a o ho ha
  exact ⟨_, e, hd⟩
theorem Grow.notin {own own' : List Addr} {h : Heap} {a : Addr} {o : Obj} (g : Grow own own' h) (ha : a ∉ own) (e : h.get? a = some o) : a ∉ own' := fun hm => by
  rcases g a hm with q | q
  · exact ha q
  · rw [e] at q; cases q
theorem EnvRel.mono {c : Cx} {own own' : List Addr} {env : Env} {m : AEnv} {h h' : Heap} (k : Kept own h h') (g : Grow own own' h) (x : EnvRel c own env m h) : EnvRel c own' env m h' := by
  obtain ⟨mc, hn, hm⟩ := x.ns
  have hL : env.locals ∉ own' := by
    obtain ⟨o, _, _, e, _⟩ := id hn
    exact g.notin x.lnot.1 e
  refine ⟨⟨mc, k.ns x.lnot.1 hn, fun y v hy hk => ?_⟩, fun y v hy hk => ?_, ⟨hL, x.lnot.2⟩, fun y a ha => ?_, x.apart⟩
  · obtain ⟨cv, e, r⟩ := hm y v hy hk
    exact ⟨cv, e, r.mono k g v cv⟩
  · obtain ⟨a, cv, e, hc, r⟩ := x.cell y v hy hk
    exact ⟨a, cv, e, k.isCell (x.cnot y a (mem_of_lookup e)).1 hc, r.mono k g v cv⟩
  · obtain ⟨h1, h2, h3, hf, v, h4⟩ := x.cnot y a ha
    obtain ⟨o, e, _⟩ := id h4
    exact ⟨g.notin h1 e, h2, h3, hf, v, k.isCell h1 h4⟩
structure AOk (k : Base) (d : Nat) (A : Around) : Prop where
  handled : k.hd = true → A.handled = none
  depth : A.depth + d < 900
  units : A.units + 20 * d < 9000
  le : d ≤ 100
structure ExcAt (e : Addr) (cls : Value) (base h : Heap) : Prop where
  new : base.get? e = none
  own : ∃ C, cls = .ref C
  obj : ∃ oe vs, h.get? e = some oe ∧ oe.cls = cls ∧ oe.data = .fields vs ∧
    (vs[1]? = some .none ∨ ∃ T oT ts, vs[1]? = some (.ref T) ∧ base.get? T = none ∧ T ≠ e ∧ h.get? T = some oT ∧ oT.cls = .type "traceback" ∧ oT.data = .fields ts ∧ ts[3]? = some .none)
theorem ExcAt.sooner {e : Addr} {cls : Value} {base base' h : Heap} (k : ∀ b o, base.get? b = some o → ∃ o', base'.get? b = some o') (x : ExcAt e cls base' h) : ExcAt e cls base h := by
  have no : ∀ b, base'.get? b = none → base.get? b = none := fun b q => by
    cases r : base.get? b with
    | none => rfl
    | some o => obtain ⟨o', e'⟩ := k b o r; rw [q] at e'; cases e'
  obtain ⟨h1, hC, oe, vs, h2, h3, h4, h5⟩ := x
  refine ⟨no e h1, hC, oe, vs, h2, h3, h4, h5.imp id fun q => ?_⟩
  obtain ⟨T, oT, ts, q1, q2, q3⟩ := q
  exact ⟨T, oT, ts, q1, no T q2, q3⟩
noncomputable abbrev XP := Value → Led → Prop
noncomputable def EOk (c : Cx) (A : Around) (X : XP) (own : List Addr) (s : Shared) (E : Value → Shared → Prop) : Prop :=
  ∀ e cls σ' s', X cls σ' → Step c.F own (owned σ') s s' → St c A σ' s'.heap → ExcAt e cls s.heap s'.heap → E (.ref e) s'
theorem EOk.step {c : Cx} {A : Around} {X : XP} {own own' : List Addr} {s s' : Shared} {E : Value → Shared → Prop} (x : EOk c A X own s E) (st : Step c.F own own' s s') : EOk c A X own' s' E :=
  fun e cls σ' s'' hx st' h he => x e cls σ' s'' hx (st.trans st') h (he.sooner st.there)
noncomputable def Post (c : Cx) (A : Around) (σ : Led) (s : Shared) (P : V → Led → Prop) (cv : Value) (s' : Shared) : Prop :=
  ∃ v σ', P v σ' ∧ Step c.F (owned σ) (owned σ') s s' ∧ St c A σ' s'.heap ∧ VRel s'.heap (ownS c σ') v cv
theorem Post.step {c : Cx} {A : Around} {σ σ₁ : Led} {s s₁ s' : Shared} {P : V → Led → Prop} {cv : Value} (st : Step c.F (owned σ) (owned σ₁) s s₁) (x : Post c A σ₁ s₁ P cv s') : Post c A σ s P cv s' := by
  obtain ⟨v, σ', hp, st', h, r⟩ := x
  exact ⟨v, σ', hp, st.trans st', h, r⟩
noncomputable abbrev Cx.M (c : Cx) : Model := model c.k.prog c.k.w
noncomputable def isVar (sc : Scope) (x : Str) : Bool := match sc.names.lookup x with
  | some .local | some .cell | some .free => true
  | _ => false
theorem isVar_kind {sc : Scope} {x : Str} (h : isVar sc x = true) : sc.names.lookup x = some .local ∨ sc.names.lookup x = some .cell ∨ sc.names.lookup x = some .free := by
  unfold isVar at h
  split at h <;> simp_all
structure RE (c : Cx) (d : Nat) (sc : Scope) (m : AEnv) (σ : Led) (X : XP) (env : Env) (A : Around) (s : Shared) (E : Value → Shared → Prop) : Prop where
  sc : env.scope = sc
  ok : EnvOk env
  a : AOk c.k d A
  st : St c A σ s.heap
  er : EnvRel c (ownS c σ) env m s.heap
  e : EOk c A X (owned σ) s E
theorem RE.step {c : Cx} {d : Nat} {sc : Scope} {m : AEnv} {σ σ₁ : Led} {X : XP} {env : Env} {A : Around} {s s₁ : Shared} {E : Value → Shared → Prop} (x : RE c d sc m σ X env A s E)
    (t : Step c.F (owned σ) (owned σ₁) s s₁) (h : St c A σ₁ s₁.heap) : RE c d sc m σ₁ X env A s₁ E := ⟨x.sc, x.ok, x.a, h, x.er.mono t.kept.wider t.grow.wider, x.e.step t⟩
noncomputable def WE (c : Cx) (d : Nat) (sc : Scope) (e : Expr) (m : AEnv) (σ : Led) (P : V → Led → Prop) (X : XP) : Prop :=
  ∀ (env : Env) (A : Around) (s : Shared) (E : Value → Shared → Prop), RE c d sc m σ X env A s E → wpAny c.M A (eval e env) (Post c A σ s P) E s
noncomputable def PostL (c : Cx) (A : Around) (σ : Led) (s : Shared) (P : List V → Led → Prop) (cvs : List Value) (s' : Shared) : Prop :=
  ∃ vs σ', P vs σ' ∧ Step c.F (owned σ) (owned σ') s s' ∧ St c A σ' s'.heap ∧ VRels s'.heap (ownS c σ') vs cvs
noncomputable def WEs (c : Cx) (d : Nat) (sc : Scope) (es : List Expr) (m : AEnv) (σ : Led) (P : List V → Led → Prop) (X : XP) : Prop :=
  ∀ (env : Env) (A : Around) (s : Shared) (E : Value → Shared → Prop) (pos : Pos), RE c d sc m σ X env A s E →
    (starEach es env).any (·.1) = false ∧ wpAny c.M A (spliced (backTo pos (starEach es env))) (PostL c A σ s (fun vs σ' => vs.length = es.length ∧ P vs σ')) E s
noncomputable def PostB (c : Cx) (A : Around) (σ : Led) (s : Shared) (P : Bool → Led → Prop) (b : Bool) (s' : Shared) : Prop :=
  ∃ σ', P b σ' ∧ Step c.F (owned σ) (owned σ') s s' ∧ St c A σ' s'.heap
theorem PostB.step {c : Cx} {A : Around} {σ σ₁ : Led} {s s₁ s' : Shared} {P : Bool → Led → Prop} {b : Bool} (st : Step c.F (owned σ) (owned σ₁) s s₁) (x : PostB c A σ₁ s₁ P b s') : PostB c A σ s P b s' := by
  obtain ⟨σ', hp, st', h⟩ := x
  exact ⟨σ', hp, st.trans st', h⟩
noncomputable def WT (c : Cx) (d : Nat) (sc : Scope) (e : Expr) (m : AEnv) (σ : Led) (P : Bool → Led → Prop) (X : XP) : Prop :=
  ∀ (env : Env) (A : Around) (s : Shared) (E : Value → Shared → Prop), RE c d sc m σ X env A s E → wpAny c.M A (isTrue e env (eval e env)) (PostB c A σ s P) E s
noncomputable def WTs (c : Cx) (d : Nat) (sc : Scope) (op : BoolOp) (es : List Expr) (m : AEnv) (σ : Led) (P : Bool → Led → Prop) (X : XP) : Prop :=
  ∀ (env : Env) (A : Around) (s : Shared) (E : Value → Shared → Prop), RE c d sc m σ X env A s E → wpAny c.M A (allTrue op es env) (PostB c A σ s P) E s
noncomputable def WEb (c : Cx) (d : Nat) (sc : Scope) (op : BoolOp) (es : List Expr) (m : AEnv) (σ : Led) (P : V → Led → Prop) (X : XP) : Prop :=
  ∀ (env : Env) (A : Around) (s : Shared) (E : Value → Shared → Prop) (pos : Pos), RE c d sc m σ X env A s E → wpAny c.M A (boolOp pos op (evalEach es env)) (Post c A σ s P) E s
noncomputable def Op1 (c : Cx) (d : Nat) (t : Value → Sem Value) (a : V) (σ : Led) (P : V → Led → Prop) : Prop :=
  ∀ (A : Around) (s : Shared) (E : Value → Shared → Prop) (ca : Value), AOk c.k d A → St c A σ s.heap → VRel s.heap (ownS c σ) a ca → wpAny c.M A (t ca) (Post c A σ s P) E s
noncomputable def Op2 (c : Cx) (d : Nat) (t : Value → Value → Sem Value) (a b : V) (σ : Led) (P : V → Led → Prop) : Prop :=
  ∀ (A : Around) (s : Shared) (E : Value → Shared → Prop) (ca cb : Value), AOk c.k d A → St c A σ s.heap → VRel s.heap (ownS c σ) a ca → VRel s.heap (ownS c σ) b cb → wpAny c.M A (t ca cb) (Post c A σ s P) E s
noncomputable def CallS (c : Cx) (d : Nat) (f : Value) (vs : List V) (σ : Led) (P : V → Led → Prop) (X : XP) : Prop :=
  ∀ (A : Around) (s : Shared) (E : Value → Shared → Prop) (cs : List Value), AOk c.k d A → St c A σ s.heap → VRels s.heap (ownS c σ) vs cs → EOk c A X (owned σ) s E →
    wpAny c.M A (call f cs) (Post c A σ s P) E s
inductive Fl where
  | next | brk | cont
  | ret (v : V)
noncomputable def FlRel (h : Heap) (own : List Addr) : Fl → Flow → Prop
  | .next, f => f = .next
  | .brk, f => f = .brk
  | .cont, f => f = .cont
  | .ret v, f => ∃ cv, f = .ret cv ∧ VRel h own v cv
noncomputable def places (env : Env) : List Addr := env.locals :: env.cells.map (·.2)
noncomputable def PostS (c : Cx) (A : Around) (env : Env) (σ : Led) (s : Shared) (K : Fl → AEnv → Led → Prop) (f : Flow) (s' : Shared) : Prop :=
  ∃ fl m' σ', K fl m' σ' ∧ Step c.F (places env ++ owned σ) (places env ++ owned σ') s s' ∧ St c A σ' s'.heap ∧ EnvRel c (ownS c σ') env m' s'.heap ∧ FlRel s'.heap (ownS c σ') fl f
theorem PostS.step {c : Cx} {A : Around} {env : Env} {σ σ₁ : Led} {s s₁ s' : Shared} {K : Fl → AEnv → Led → Prop} {f : Flow} (st : Step c.F (places env ++ owned σ) (places env ++ owned σ₁) s s₁) (x : PostS c A env σ₁ s₁ K f s') :
    PostS c A env σ s K f s' := by
  obtain ⟨v, m', σ', hp, st', h, r⟩ := x
  exact ⟨v, m', σ', hp, st.trans st', h, r⟩
noncomputable def EOkS (c : Cx) (A : Around) (X : XP) (env : Env) (σ : Led) (s : Shared) (E : Value → Shared → Prop) : Prop :=
  ∀ e cls σ' s', X cls σ' → Step c.F (places env ++ owned σ) (places env ++ owned σ') s s' → St c A σ' s'.heap → EnvRel c (ownS c σ') env [] s'.heap → ExcAt e cls s.heap s'.heap → E (.ref e) s'
theorem EOkS.step {c : Cx} {A : Around} {X : XP} {env : Env} {σ σ₁ : Led} {s s' : Shared} {E : Value → Shared → Prop} (x : EOkS c A X env σ s E) (st : Step c.F (places env ++ owned σ) (places env ++ owned σ₁) s s') : EOkS c A X env σ₁ s' E :=
  fun e cls σ' s'' hx st' h er he => x e cls σ' s'' hx (st.trans st') h er (he.sooner st.there)
structure RS (c : Cx) (d : Nat) (sc : Scope) (m : AEnv) (σ : Led) (X : XP) (env : Env) (A : Around) (s : Shared) (E : Value → Shared → Prop) : Prop where
  sc : env.scope = sc
  ok : EnvOk env
  fr : ∃ outer, A.frames = some (env :: outer)
  a : AOk c.k d A
  st : St c A σ s.heap
  er : EnvRel c (ownS c σ) env m s.heap
  e : EOkS c A X env σ s E
theorem Step.wider {F own own' W : List Addr} {s s' : Shared} (x : Step F own own' s s') : Step F (W ++ own) (W ++ own') s s' := ⟨x.kept.wider, x.there, x.prot, x.grow.wider, x.os, x.gens⟩
theorem EnvRel.nil {c : Cx} {own : List Addr} {env : Env} {m : AEnv} {h : Heap} (x : EnvRel c own env m h) : EnvRel c own env [] h :=
  ⟨x.ns.imp fun mc q => ⟨q.1, fun z1 z2 q => by cases q⟩, (fun z1 z2 q => by cases q), x.lnot, x.cnot, x.apart⟩
theorem RS.re {c : Cx} {d : Nat} {sc : Scope} {m : AEnv} {σ : Led} {X : XP} {env : Env} {A : Around} {s : Shared} {E : Value → Shared → Prop} (x : RS c d sc m σ X env A s E) : RE c d sc m σ X env A s E :=
  ⟨x.sc, x.ok, x.a, x.st, x.er, fun e cls σ' s' hx st h he => x.e e cls σ' s' hx st.wider h (x.er.mono st.kept.wider st.grow.wider).nil he⟩
theorem RS.step {c : Cx} {d : Nat} {sc : Scope} {m m₁ : AEnv} {σ σ₁ : Led} {X : XP} {env : Env} {A : Around} {s s₁ : Shared} {E : Value → Shared → Prop} (x : RS c d sc m σ X env A s E)
    (t : Step c.F (places env ++ owned σ) (places env ++ owned σ₁) s s₁) (h : St c A σ₁ s₁.heap) (er : EnvRel c (ownS c σ₁) env m₁ s₁.heap) : RS c d sc m₁ σ₁ X env A s₁ E := ⟨x.sc, x.ok, x.fr, x.a, h, er, x.e.step t⟩
noncomputable def WS (c : Cx) (d : Nat) (sc : Scope) (st : Stmt) (m : AEnv) (σ : Led) (K : Fl → AEnv → Led → Prop) (X : XP) : Prop :=
  ∀ (env : Env) (A : Around) (s : Shared) (E : Value → Shared → Prop), RS c d sc m σ X env A s E → wpAny c.M A (exec st env) (PostS c A env σ s K) E s
noncomputable def WSs (c : Cx) (d : Nat) (sc : Scope) (sts : List Stmt) (m : AEnv) (σ : Led) (K : Fl → AEnv → Led → Prop) (X : XP) : Prop :=
  ∀ (env : Env) (A : Around) (s : Shared) (E : Value → Shared → Prop), RS c d sc m σ X env A s E → wpAny c.M A (execs sts env) (PostS c A env σ s K) E s
end Mine
end
section
namespace Mine
open PySem
variable {c : Cx} {d : Nat} {sc : Scope} {m : AEnv} {σ : Led} {P : V → Led → Prop} {X : XP}
theorem Post.same {A : Around} {s : Shared} {v : V} {cv : Value} {t : Nat} (hs : St c A σ s.heap) (h : P v σ) (r : VRel s.heap (ownS c σ) v cv) : Post c A σ s P cv { s with toks := t } :=
  ⟨v, σ, h, .toks, hs, r⟩
theorem Post.same' {A : Around} {s : Shared} {v : V} {cv : Value} (hs : St c A σ s.heap) (h : P v σ) (r : VRel s.heap (ownS c σ) v cv) : Post c A σ s P cv s :=
  ⟨v, σ, h, .refl, hs, r⟩
theorem WE_int {i : Int} {k : Nat} {pos : Pos} (h : P (.int i) σ) : WE c d sc (.Constant (.int i) k pos) m σ P X :=
  fun z1 z2 z3 z4 r => wpAny_Constant_int (Post.same r.st h (by simp only [VRel]; exact ⟨_, rfl⟩))
theorem WE_str {x : Str} {k : Nat} {pos : Pos} (h : P (.str x) σ) : WE c d sc (.Constant (.str x) k pos) m σ P X :=
  fun z1 z2 z3 z4 r => Calls.Constant_str (Post.same r.st h (by simp only [VRel]; exact ⟨_, rfl⟩))
theorem WE_bool {b : Bool} {k : Nat} {pos : Pos} (h : P (.bool b) σ) : WE c d sc (.Constant (.bool b) k pos) m σ P X :=
  fun z1 z2 z3 z4 r => wpAny_Constant_bool (Post.same' r.st h (by simp only [VRel]))
theorem WE_none {k : Nat} {pos : Pos} (h : P .none σ) : WE c d sc (.Constant .none k pos) m σ P X :=
  fun z1 z2 z3 z4 r => wpAny_Constant_none (Post.same' r.st h (by simp only [VRel]))
theorem nodebug {env : Env} (ok : EnvOk env) {x : Str} {k : NameKind} (h : env.kindOf x = some k) : (x == ("__debug__" : Str)) = false := by
  rw [beq_eq_false_iff_ne]
  rintro rfl
  rw [ok.nodebug] at h; cases h
theorem WE_name {x : Str} {pos : Pos} {v : V} (hx : m.lookup x = some v) (h : P v σ) (hk : isVar sc x = true) : WE c d sc (.Name x pos) m σ P X := by
  intro env A s E r
  have hk' : env.kindOf x = some .local ∨ env.kindOf x = some .cell ∨ env.kindOf x = some .free := by unfold Env.kindOf; rw [r.sc]; exact isVar_kind hk
  rcases hk' with hk | hk | hk
  · obtain ⟨mc, hn, hm⟩ := r.er.ns
    obtain ⟨cv, e, rv⟩ := hm x v hx hk
    exact wpAny_Name (wpAny_loadName_local r.ok.kind hk hn e (Post.same' r.st h rv)) (nodebug r.ok hk)
  · obtain ⟨a, cv, e, hc, rv⟩ := r.er.cell x v hx (.inl hk)
    exact wpAny_Name (wpAny_loadName_cell r.ok.kind hk e hc (Post.same' r.st h rv)) (nodebug r.ok hk)
  · obtain ⟨a, cv, e, hc, rv⟩ := r.er.cell x v hx (.inr hk)
    by_cases hcd : (x == ("__classdict__" : Str)) = true
    · exfalso
      exact r.ok.noclassdict (by rw [beq_iff_eq] at hcd; rw [← hcd]; exact hk)
    · exact wpAny_Name (wpAny_loadName_free r.ok.kind hk e hc (Post.same' r.st h rv) (by simpa using hcd)) (nodebug r.ok hk)
theorem WE_global (hc : c.k.OK) {x : Str} {pos : Pos} {v : V} {cv : Value} (hk : sc.names.lookup x = some .globalImplicit) (hg : c.k.mg x = some cv) (hv : ∀ h own, VRel h own v cv) (h : P v σ) : WE c d sc (.Name x pos) m σ P X := by
  intro env A s E r
  have hk' : env.kindOf x = some .globalImplicit := by unfold Env.kindOf; rw [r.sc]; exact hk
  refine Calls.Name_function_global r.ok.kind hk' (Calls.loadGlobal_global (mg := c.k.mg) ?_ hg (Post.same' r.st h (hv _ _))) (nodebug r.ok hk')
  rw [r.ok.globals]; exact hc.g.keeps r.st.keep
theorem WE_builtin (hc : c.k.OK) {x : Str} {pos : Pos} {cv : Value} (hk : sc.names.lookup x = some .globalImplicit) (hg : c.k.mg x = none) (hb : c.k.mb x = some cv) (h : P (.raw cv) σ) : WE c d sc (.Name x pos) m σ P X := by
  intro env A s E r
  have hk' : env.kindOf x = some .globalImplicit := by unfold Env.kindOf; rw [r.sc]; exact hk
  refine Calls.Name_function_global r.ok.kind hk' (Calls.loadGlobal_builtin (mg := c.k.mg) (mb := c.k.mb) ?_ hg ?_ hb (Post.same' r.st h (by simp only [VRel]))) (nodebug r.ok hk')
  · rw [r.ok.globals]; exact hc.g.keeps r.st.keep
  · rw [r.ok.builtins]; exact hc.b.keeps r.st.keep
theorem WE_binop {l r' : Expr} {op : Operator} {pos : Pos} (h : WE c d sc l m σ (fun a σ₁ => WE c d sc r' m σ₁ (fun b σ₂ => Op2 c d (binaryOp op) a b σ₂ P) X) X) : WE c d sc (.BinOp l op r' pos) m σ P X := by
  intro env A s E r
  refine wpAny_BinOp (wpAny_mono (h env A s E r) ?_ fun z1 z2 x => x)
  rintro ca s₁ ⟨a, σ₁, h₁, t₁, hs₁, ra⟩
  refine wpAny_mono (h₁ env A s₁ E (r.step t₁ hs₁)) ?_ fun z1 z2 x => x
  rintro cb s₂ ⟨b, σ₂, h₂, t₂, hs₂, rb⟩
  exact wpAny_mono (h₂ A s₂ E ca cb r.a hs₂ (t₂.v ra) rb) (fun z1 z2 p => (p.step t₂).step t₁) fun z1 z2 x => x
theorem WE_unary {e : Expr} {op : UnaryOp} {pos : Pos} (h : WE c d sc e m σ (fun a σ₁ => Op1 c d (unaryOp op) a σ₁ P) X) : WE c d sc (.UnaryOp op e pos) m σ P X := by
  intro env A s E r
  refine wpAny_UnaryOp (wpAny_mono (h env A s E r) ?_ fun z1 z2 x => x)
  rintro ca s₁ ⟨a, σ₁, h₁, t₁, hs₁, ra⟩
  exact wpAny_mono (h₁ A s₁ E ca r.a hs₁ ra) (fun z1 z2 p => p.step t₁) fun z1 z2 x => x
theorem Op_neg {i : Int} (h : P (.int (-i)) σ) : Op1 c d (unaryOp .USub) (.int i) σ P := by
  intro A s E ca _ st ra
  simp only [VRel] at ra; obtain ⟨t, rfl⟩ := ra
  exact PySem.P.neg_int (Post.same st h (by simp only [VRel]; exact ⟨_, rfl⟩))
section intOps
variable {x y : Int}
theorem op_int {op : Operator} {z : Int} (hz : ∀ {A : Around} {E : Value → Shared → Prop} {s : Shared} {t u : Tok} {Q : Value → Shared → Prop}, Q (.int z s.toks) { s with toks := s.toks + 1 } → wpAny c.M A (binaryOp op (.int x t) (.int y u)) Q E s)
    (h : P (.int z) σ) : Op2 c d (binaryOp op) (.int x) (.int y) σ P := by
  intro A s E ca cb _ st ra rb
  simp only [VRel] at ra rb; obtain ⟨t, rfl⟩ := ra; obtain ⟨u, rfl⟩ := rb
  exact hz (Post.same st h (by simp only [VRel]; exact ⟨_, rfl⟩))
theorem Op_add (h : P (.int (x + y)) σ) : Op2 c d (binaryOp .Add) (.int x) (.int y) σ P := op_int (fun q => AutoIntOps.add_0 q) h
theorem Op_sub (h : P (.int (x - y)) σ) : Op2 c d (binaryOp .Sub) (.int x) (.int y) σ P := op_int (fun q => AutoIntOps.sub_0 q) h
theorem Op_mul (hm : IntMulOk x y) (h : P (.int (x * y)) σ) : Op2 c d (binaryOp .Mult) (.int x) (.int y) σ P := op_int (fun q => AutoIntOps.mul_0 q hm) h
theorem Op_mod (hy : y ≠ 0) (h : P (.int (x.fmod y)) σ) : Op2 c d (binaryOp .Mod) (.int x) (.int y) σ P := op_int (fun q => AutoIntOps.mod_1 (by simpa using hy) q) h
theorem Op_div (hy : y ≠ 0) (hl : y.natAbs.log2 < 9000) (h : P (.int (x.fdiv y)) σ) : Op2 c d (binaryOp .FloorDiv) (.int x) (.int y) σ P :=
  op_int (fun q => AutoIntOps.floordiv_1 (by simpa using hy) (by rw [PyProof.noPylong_of_log2 hl]; decide) q) h
theorem Op_pow {n : Nat} (hn : n ≠ 0) (hb : Builtin.Int.intBits x * n ≤ 134217728) (h : P (.int (x ^ n)) σ) : Op2 c d (binaryOp .Pow) (.int x) (.int (n : Int)) σ P := by
  refine op_int (z := x ^ n) (fun {A E s t u Q} q => ?_) h
  refine AutoIntOpsIf.pow ?_
  have h0 : ((n : Int) ≥ 0) := by lia
  have h1 : ((n : Int) == 0) = false := by simpa using hn
  rw [if_pos h0, h1]
  simp only [Bool.false_eq_true, if_false]
  by_cases h2 : (x == 0 || x == 1) = true
  · rw [if_pos h2]
    have : x ^ n = x := by
      simp only [Bool.or_eq_true, beq_iff_eq] at h2
      rcases h2 with rfl | rfl
      · exact Int.zero_pow hn
      · exact Int.one_pow ..
    rw [this] at q; exact q
  · rw [if_neg h2]
    by_cases h3 : (x == -1) = true
    · rw [if_pos h3]
      have hx : x = -1 := by simpa using h3
      subst hx
      have : (-1 : Int) ^ n = if (n : Int) % 2 == 0 then 1 else -1 := by
        rcases Nat.mod_two_eq_zero_or_one n with hn2 | hn2
        · have e : n = 2 * (n / 2) := by lia
          have : ((n : Nat) : Int) % 2 = 0 := by lia
          rw [this, e, Int.pow_mul]; exact Int.one_pow ..
        · have e : n = 2 * (n / 2) + 1 := by lia
          have : ((n : Nat) : Int) % 2 = 1 := by lia
          rw [this, e, Int.pow_succ, Int.pow_mul]; exact (by rw [show ((-1 : Int) ^ 2) = 1 from rfl, Int.one_pow]; rfl)
      rw [this] at q
      exact q
    · rw [if_neg h3, if_neg]
      · rw [Int.toNat_natCast]; exact q
      · intro hh
        have h4 : ((Builtin.Int.intBits x : Nat) : Int) * (n : Int) > ((bitsLine : Nat) : Int) := of_decide_eq_true hh
        have h5 : ((Builtin.Int.intBits x * n : Nat) : Int) > ((bitsLine : Nat) : Int) := by rw [Int.natCast_mul]; exact h4
        have h6 : bitsLine = 134217728 := by decide
        lia
end intOps
section cmp
variable {x y : Int}
theorem cmp_int {op : CmpOp} {b : Bool} (hz : ∀ {A : Around} {E : Value → Shared → Prop} {s : Shared} {t u : Tok} {Q : Value → Shared → Prop}, Q (.bool b) s → wpAny c.M A (compareOp op (.int x t) (.int y u)) Q E s)
    (h : P (.bool b) σ) : Op2 c d (compareOp op) (.int x) (.int y) σ P := by
  intro A s E ca cb _ st ra rb
  simp only [VRel] at ra rb; obtain ⟨t, rfl⟩ := ra; obtain ⟨u, rfl⟩ := rb
  exact hz (Post.same' st h (by simp only [VRel]))
theorem Cmp_eq (h : P (.bool (x == y)) σ) : Op2 c d (compareOp .Eq) (.int x) (.int y) σ P := cmp_int (fun q => PySem.P.eq_int q) h
theorem Cmp_ne (h : P (.bool (x != y)) σ) : Op2 c d (compareOp .NotEq) (.int x) (.int y) σ P := cmp_int (fun q => PySem.P.ne_int q) h
theorem Cmp_lt (h : P (.bool (decide (x < y))) σ) : Op2 c d (compareOp .Lt) (.int x) (.int y) σ P := cmp_int (fun q => PySem.P.lt_int q) h
theorem Cmp_le (h : P (.bool (decide (x ≤ y))) σ) : Op2 c d (compareOp .LtE) (.int x) (.int y) σ P := cmp_int (fun q => PySem.P.le_int q) h
theorem Cmp_gt (h : P (.bool (decide (y < x))) σ) : Op2 c d (compareOp .Gt) (.int x) (.int y) σ P := cmp_int (fun q => PySem.P.gt_int q) h
theorem Cmp_ge (h : P (.bool (decide (y ≤ x))) σ) : Op2 c d (compareOp .GtE) (.int x) (.int y) σ P := cmp_int (fun q => PySem.P.ge_int q) h
end cmp
theorem str_beq (x y : Str) : (x.cps.toList == y.cps.toList) = (x == y) := by
  by_cases e : x = y
  · subst e; simp
  · have : ¬ x.cps.toList = y.cps.toList := fun q => e (by obtain ⟨a⟩ := x; obtain ⟨b⟩ := y; exact congrArg Str.mk (Array.toList_inj.mp q))
    rw [beq_eq_false_iff_ne.mpr e, beq_eq_false_iff_ne.mpr this]
theorem Cmp_eq_str {x y : Str} (h : P (.bool (x == y)) σ) : Op2 c d (compareOp .Eq) (.str x) (.str y) σ P := by
  intro A s E ca cb _ st ra rb
  simp only [VRel] at ra rb; obtain ⟨t, rfl⟩ := ra; obtain ⟨u, rfl⟩ := rb
  refine PySem.P.eq_str (Post.same' st h ?_)
  simp only [VRel]
  rw [str_beq]
theorem Cmp_ne_str {x y : Str} (h : P (.bool (x != y)) σ) : Op2 c d (compareOp .NotEq) (.str x) (.str y) σ P := by
  intro A s E ca cb _ st ra rb
  simp only [VRel] at ra rb; obtain ⟨t, rfl⟩ := ra; obtain ⟨u, rfl⟩ := rb
  refine PySem.P.ne_str (Post.same' st h ?_)
  simp only [VRel]
  rw [bne, bne, str_beq]
theorem Cmp_in_str {x y : Str} (h : P (.bool (Txt.contains x y)) σ) : Op2 c d (compareOp .In) (.str y) (.str x) σ P := by
  intro A s E ca cb _ st ra rb
  simp only [VRel] at ra rb; obtain ⟨t, rfl⟩ := ra; obtain ⟨u, rfl⟩ := rb
  exact PySem.P.in_str (Post.same' st h (by simp only [VRel]; rfl))
theorem Cmp_notIn_str {x y : Str} (h : P (.bool (!Txt.contains x y)) σ) : Op2 c d (compareOp .NotIn) (.str y) (.str x) σ P := by
  intro A s E ca cb _ st ra rb
  simp only [VRel] at ra rb; obtain ⟨t, rfl⟩ := ra; obtain ⟨u, rfl⟩ := rb
  exact PySem.P.notIn_str (Post.same' st h (by simp only [VRel]; rfl))
theorem WE_cmp {l r' : Expr} {op : CmpOp} {pos : Pos} (h : WE c d sc l m σ (fun a σ₁ => WE c d sc r' m σ₁ (fun b σ₂ => Op2 c d (compareOp op) a b σ₂ P) X) X)
    (hm : behindInMarks op r' = false) : WE c d sc (.Compare l [op] [r'] pos) m σ P X := by
  intro env A s E r
  refine wpAny_Compare1 (wpAny_mono (h env A s E r) ?_ fun z1 z2 x => x) hm
  rintro ca s₁ ⟨a, σ₁, h₁, t₁, hs₁, ra⟩
  refine wpAny_mono (h₁ env A s₁ E (r.step t₁ hs₁)) ?_ fun z1 z2 x => x
  rintro cb s₂ ⟨b, σ₂, h₂, t₂, hs₂, rb⟩
  exact wpAny_mono (h₂ A s₂ E ca cb r.a hs₂ (t₂.v ra) rb) (fun z1 z2 p => (p.step t₂).step t₁) fun z1 z2 x => x
theorem compareChain2 (pos : Pos) (left : Value) (op1 op2 : CmpOp) (x y : Sem Value) : compareChain pos left [op1, op2] [x, y] = (do
    let rv ← holding [left] x
    standAt pos
    let c ← holding [left, rv] (compareOp op1 left rv)
    release [left, rv] [c]
    if ← holding [c, rv] (truthy c) then (do
      let rw' ← holding [rv] y
      standAt pos
      operate [rv, rw'] (compareOp op2 rv rw')) else pure c) := rfl
theorem testChain2 (pos : Pos) (left : Value) (op1 op2 : CmpOp) (x y : Sem Value) : testChain pos left [op1, op2] [x, y] = (do
    let rv ← holding [left] x
    standAt pos
    let c ← holding [left, rv] (compareOp op1 left rv)
    release [left, rv] [c]
    if ← holding [c, rv] (truthy c) then (do
      let rw' ← holding [rv] y
      standAt pos
      let c ← operate [rv, rw'] (compareOp op2 rv rw')
      holding [c] (truthy c)) else pure false) := rfl
theorem wpAny_release {M : Model} {A : Around} {E : Value → Shared → Prop} {s : Shared} {vs keep : List Value} {Q : Unit → Shared → Prop} (h : Q () s) : wpAny M A (release vs keep) Q E s :=
  fun Γ p z1 => by rw [Sem.wp_release]; exact h
theorem wpAny_operate' {M : Model} {A : Around} {E : Value → Shared → Prop} {s : Shared} {vs : List Value} {t : Sem Value} {Q : Value → Shared → Prop} (h : wpAny M A t Q E s) : wpAny M A (operate vs t) Q E s :=
  fun Γ p hΓ => by rw [Sem.wp_operate]; exact h Γ p hΓ
theorem WE_cmp2 {l r₁ r₂ : Expr} {op₁ op₂ : CmpOp} {pos : Pos}
    (h : WE c d sc l m σ (fun a σ₁ => WE c d sc r₁ m σ₁ (fun b σ₂ => Op2 c d (compareOp op₁) a b σ₂ (fun v σ₃ => ∃ t, v = .bool t ∧
      if t = true then WE c d sc r₂ m σ₃ (fun b' σ₄ => Op2 c d (compareOp op₂) b b' σ₄ P) X else P (.bool false) σ₃)) X) X)
    (hm₂ : behindInMarks op₂ r₂ = false) : WE c d sc (.Compare l [op₁, op₂] [r₁, r₂] pos) m σ P X := by
  intro env A s E r
  show wpAny _ _ (do compareChain pos (← eval l env) [op₁, op₂] [eval r₁ env, markedBehindIn op₂ r₂ (eval r₂ env)]) _ _ _
  rw [markedBehindIn_of_false hm₂]
  refine wpAny_bind (wpAny_mono (h env A s E r) ?_ fun z1 z2 x => x)
  rintro ca s₁ ⟨a, σ₁, h₁, t₁, hs₁, ra⟩
  rw [compareChain2]
  refine wpAny_bind (wpAny_holding (wpAny_mono (h₁ env A s₁ E (r.step t₁ hs₁)) ?_ fun z1 z2 x => x))
  rintro cb s₂ ⟨b, σ₂, h₂, t₂, hs₂, rb⟩
  refine wpAny_bind (wpAny_standAt (wpAny_bind (wpAny_holding (wpAny_mono (h₂ A s₂ E ca cb r.a hs₂ (t₂.v ra) rb) ?_ fun z1 z2 x => x))))
  rintro cv s₃ ⟨v, σ₃, ⟨t, rfl, h₃⟩, t₃, hs₃, rv⟩
  simp only [VRel] at rv; subst rv
  refine wpAny_bind (wpAny_release (wpAny_bind (wpAny_holding (wpAny_truthy_bool ?_))))
  cases t with
  | false => exact wpAny_pure (((Post.same' hs₃ h₃ (by simp only [VRel])).step t₃).step t₂ |>.step t₁)
  | true =>
    refine wpAny_bind (wpAny_holding (wpAny_mono (h₃ env A s₃ E (((r.step t₁ hs₁).step t₂ hs₂).step t₃ hs₃)) ?_ fun z1 z2 x => x))
    rintro cb' s₄ ⟨b', σ₄, h₄, t₄, hs₄, rb'⟩
    exact wpAny_bind (wpAny_standAt (wpAny_operate' (wpAny_mono (h₄ A s₄ E cb cb' r.a hs₄ (t₄.v (t₃.v rb)) rb') (fun z1 z2 p => (((p.step t₄).step t₃).step t₂).step t₁) fun z1 z2 x => x)))
theorem WT_value {e : Expr} {P : Bool → Led → Prop} (h : WE c d sc e m σ (fun v σ₁ => ∃ t, v = .bool t ∧ P t σ₁) X)
    (he : ∀ env whole, isTrue e env whole = (do let v ← whole; standAt e.pos; holding [v] (truthy v))) : WT c d sc e m σ P X := by
  intro env A s E r
  refine wpAny_isTrue_value (wpAny_mono (h env A s E r) ?_ fun z1 z2 x => x) (he _ _)
  rintro cv s₁ ⟨v, σ₁, ⟨t, rfl, h₁⟩, t₁, hs₁, rv⟩
  simp only [VRel] at rv; subst rv
  exact wpAny_truthy_bool ⟨σ₁, h₁, t₁, hs₁⟩
theorem WT_not {e : Expr} {pos : Pos} {P : Bool → Led → Prop} (h : WT c d sc e m σ (fun b σ₁ => P (!b) σ₁) X) : WT c d sc (.UnaryOp .Not e pos) m σ P X :=
  fun env A s E r => wpAny_isTrue_Not (wpAny_mono (h env A s E r) (fun z1 z2 p => p) fun z1 z2 x => x)
theorem WT_bool {op : BoolOp} {es : List Expr} {pos : Pos} {P : Bool → Led → Prop} (h : WTs c d sc op es m σ P X) : WT c d sc (.BoolOp op es pos) m σ P X :=
  fun env A s E r => wpAny_isTrue_BoolOp (h env A s E r)
theorem WTs_and_nil {P : Bool → Led → Prop} (h : P true σ) : WTs c d sc .And [] m σ P X := fun z1 z2 z3 z4 r => wpAny_allTrue_And_nil ⟨σ, h, .refl, r.st⟩
theorem WTs_or_nil {P : Bool → Led → Prop} (h : P false σ) : WTs c d sc .Or [] m σ P X := fun z1 z2 z3 z4 r => wpAny_allTrue_Or_nil ⟨σ, h, .refl, r.st⟩
theorem WTs_and {e : Expr} {es : List Expr} {P : Bool → Led → Prop} (h : WT c d sc e m σ (fun b σ₁ => if b = true then WTs c d sc .And es m σ₁ P X else P false σ₁) X) : WTs c d sc .And (e :: es) m σ P X := by
  intro env A s E r
  refine wpAny_allTrue_And_cons (wpAny_mono (h env A s E r) ?_ fun z1 z2 x => x)
  rintro b s₁ ⟨σ₁, h₁, t₁, hs₁⟩
  cases b with
  | true => exact wpAny_mono (h₁ env A s₁ E (r.step t₁ hs₁)) (fun z1 z2 p => p.step t₁) fun z1 z2 x => x
  | false => exact ⟨σ₁, h₁, t₁, hs₁⟩
theorem WTs_or {e : Expr} {es : List Expr} {P : Bool → Led → Prop} (h : WT c d sc e m σ (fun b σ₁ => if b = true then P true σ₁ else WTs c d sc .Or es m σ₁ P X) X) : WTs c d sc .Or (e :: es) m σ P X := by
  intro env A s E r
  refine wpAny_allTrue_Or_cons (wpAny_mono (h env A s E r) ?_ fun z1 z2 x => x)
  rintro b s₁ ⟨σ₁, h₁, t₁, hs₁⟩
  cases b with
  | false => exact wpAny_mono (h₁ env A s₁ E (r.step t₁ hs₁)) (fun z1 z2 p => p.step t₁) fun z1 z2 x => x
  | true => exact ⟨σ₁, h₁, t₁, hs₁⟩
theorem WT_cmp {l r' : Expr} {op : CmpOp} {pos : Pos} {P : Bool → Led → Prop} (h : WE c d sc l m σ (fun a σ₁ => WE c d sc r' m σ₁ (fun b σ₂ => Op2 c d (compareOp op) a b σ₂ (fun v σ₃ => ∃ t, v = .bool t ∧ P t σ₃)) X) X)
    (hm : behindInMarks op r' = false) : WT c d sc (.Compare l [op] [r'] pos) m σ P X := by
  intro env A s E r
  refine wpAny_isTrue_Compare1 (wpAny_mono (h env A s E r) ?_ fun z1 z2 x => x) hm
  rintro ca s₁ ⟨a, σ₁, h₁, t₁, hs₁, ra⟩
  refine wpAny_mono (h₁ env A s₁ E (r.step t₁ hs₁)) ?_ fun z1 z2 x => x
  rintro cb s₂ ⟨b, σ₂, h₂, t₂, hs₂, rb⟩
  refine wpAny_mono (h₂ A s₂ E ca cb r.a hs₂ (t₂.v ra) rb) ?_ fun z1 z2 x => x
  rintro cv s₃ ⟨v, σ₃, ⟨t, rfl, h₃⟩, t₃, hs₃, rv⟩
  simp only [VRel] at rv; subst rv
  exact wpAny_truthy_bool ⟨σ₃, h₃, (t₁.trans t₂).trans t₃, hs₃⟩
theorem WT_cmp2 {l r₁ r₂ : Expr} {op₁ op₂ : CmpOp} {pos : Pos} {P : Bool → Led → Prop}
    (h : WE c d sc l m σ (fun a σ₁ => WE c d sc r₁ m σ₁ (fun b σ₂ => Op2 c d (compareOp op₁) a b σ₂ (fun v σ₃ => ∃ t, v = .bool t ∧
      if t = true then WE c d sc r₂ m σ₃ (fun b' σ₄ => Op2 c d (compareOp op₂) b b' σ₄ (fun v σ₅ => ∃ t, v = .bool t ∧ P t σ₅)) X else P false σ₃)) X) X)
    (hm₂ : behindInMarks op₂ r₂ = false) : WT c d sc (.Compare l [op₁, op₂] [r₁, r₂] pos) m σ P X := by
  intro env A s E r
  show wpAny _ _ (do testChain pos (← eval l env) [op₁, op₂] [eval r₁ env, markedBehindIn op₂ r₂ (eval r₂ env)]) _ _ _
  rw [markedBehindIn_of_false hm₂]
  refine wpAny_bind (wpAny_mono (h env A s E r) ?_ fun z1 z2 x => x)
  rintro ca s₁ ⟨a, σ₁, h₁, t₁, hs₁, ra⟩
  rw [testChain2]
  refine wpAny_bind (wpAny_holding (wpAny_mono (h₁ env A s₁ E (r.step t₁ hs₁)) ?_ fun z1 z2 x => x))
  rintro cb s₂ ⟨b, σ₂, h₂, t₂, hs₂, rb⟩
  refine wpAny_bind (wpAny_standAt (wpAny_bind (wpAny_holding (wpAny_mono (h₂ A s₂ E ca cb r.a hs₂ (t₂.v ra) rb) ?_ fun z1 z2 x => x))))
  rintro cv s₃ ⟨v, σ₃, ⟨t, rfl, h₃⟩, t₃, hs₃, rv⟩
  simp only [VRel] at rv; subst rv
  refine wpAny_bind (wpAny_release (wpAny_bind (wpAny_holding (wpAny_truthy_bool ?_))))
  cases t with
  | false => exact wpAny_pure ⟨σ₃, h₃, (t₁.trans t₂).trans t₃, hs₃⟩
  | true =>
    refine wpAny_bind (wpAny_holding (wpAny_mono (h₃ env A s₃ E (((r.step t₁ hs₁).step t₂ hs₂).step t₃ hs₃)) ?_ fun z1 z2 x => x))
    rintro cb' s₄ ⟨b', σ₄, h₄, t₄, hs₄, rb'⟩
    refine wpAny_bind (wpAny_standAt (wpAny_bind (wpAny_operate' (wpAny_mono (h₄ A s₄ E cb cb' r.a hs₄ (t₄.v (t₃.v rb)) rb') ?_ fun z1 z2 x => x))))
    rintro cv s₅ ⟨v, σ₅, ⟨t, rfl, h₅⟩, t₅, hs₅, rv⟩
    simp only [VRel] at rv; subst rv
    exact wpAny_holding (wpAny_truthy_bool ⟨σ₅, h₅, ((((t₁.trans t₂).trans t₃).trans t₄).trans t₅), hs₅⟩)
theorem WE_ifexp {t b o : Expr} {pos : Pos} (h : WT c d sc t m σ (fun k σ₁ => if k = true then WE c d sc b m σ₁ P X else WE c d sc o m σ₁ P X) X) : WE c d sc (.IfExp t b o pos) m σ P X := by
  intro env A s E r
  refine wpAny_IfExp (wpAny_mono (h env A s E r) ?_ fun z1 z2 x => x)
  rintro k s₁ ⟨σ₁, h₁, t₁, hs₁⟩
  cases k with
  | true => exact wpAny_mono (h₁ env A s₁ E (r.step t₁ hs₁)) (fun z1 z2 p => p.step t₁) fun z1 z2 x => x
  | false => exact wpAny_mono (h₁ env A s₁ E (r.step t₁ hs₁)) (fun z1 z2 p => p.step t₁) fun z1 z2 x => x
theorem WE_boolop {op : BoolOp} {es : List Expr} {pos : Pos} (h : WEb c d sc op es m σ P X) : WE c d sc (.BoolOp op es pos) m σ P X :=
  fun env A s E r => h env A s E pos r
theorem WEb_one {op : BoolOp} {e : Expr} (h : WE c d sc e m σ P X) : WEb c d sc op [e] m σ P X := fun env A s E z1 r => h env A s E r
theorem WEb_and {e e' : Expr} {es : List Expr} (h : WE c d sc e m σ (fun v σ₁ => ∃ t, v = .bool t ∧ if t = true then WEb c d sc .And (e' :: es) m σ₁ P X else P (.bool false) σ₁) X) : WEb c d sc .And (e :: e' :: es) m σ P X := by
  intro env A s E pos r
  show wpAny _ _ (do let v ← eval e env; standAt pos; let t ← holding [v] (truthy v); match BoolOp.And, t with | .And, false | .Or, true => pure v | _, _ => boolOp pos .And (evalEach (e' :: es) env)) _ _ _
  refine wpAny_bind (wpAny_mono (h env A s E r) ?_ fun z1 z2 x => x)
  rintro cv s₁ ⟨v, σ₁, ⟨t, rfl, h₁⟩, t₁, hs₁, rv⟩
  simp only [VRel] at rv; subst rv
  refine wpAny_bind (wpAny_standAt (wpAny_bind (wpAny_holding (wpAny_truthy_bool ?_))))
  cases t with
  | false => exact wpAny_pure ((Post.same' hs₁ h₁ (by simp only [VRel])).step t₁)
  | true => exact wpAny_mono (h₁ env A s₁ E pos (r.step t₁ hs₁)) (fun z1 z2 p => p.step t₁) fun z1 z2 x => x
theorem WEb_or {e e' : Expr} {es : List Expr} (h : WE c d sc e m σ (fun v σ₁ => ∃ t, v = .bool t ∧ if t = true then P (.bool true) σ₁ else WEb c d sc .Or (e' :: es) m σ₁ P X) X) : WEb c d sc .Or (e :: e' :: es) m σ P X := by
  intro env A s E pos r
  show wpAny _ _ (do let v ← eval e env; standAt pos; let t ← holding [v] (truthy v); match BoolOp.Or, t with | .And, false | .Or, true => pure v | _, _ => boolOp pos .Or (evalEach (e' :: es) env)) _ _ _
  refine wpAny_bind (wpAny_mono (h env A s E r) ?_ fun z1 z2 x => x)
  rintro cv s₁ ⟨v, σ₁, ⟨t, rfl, h₁⟩, t₁, hs₁, rv⟩
  simp only [VRel] at rv; subst rv
  refine wpAny_bind (wpAny_standAt (wpAny_bind (wpAny_holding (wpAny_truthy_bool ?_))))
  cases t with
  | true => exact wpAny_pure ((Post.same' hs₁ h₁ (by simp only [VRel])).step t₁)
  | false => exact wpAny_mono (h₁ env A s₁ E pos (r.step t₁ hs₁)) (fun z1 z2 p => p.step t₁) fun z1 z2 x => x
theorem Op_not {b : Bool} (h : P (.bool (!b)) σ) : Op1 c d (unaryOp .Not) (.bool b) σ P := by
  intro A s E ca _ st ra
  simp only [VRel] at ra; subst ra
  exact PyProof.Rows.not_of (wpAny_truthy_bool (Post.same' st h (by simp only [VRel])))
end Mine
end
section
namespace Mine
open PySem
variable {c : Cx} {d : Nat} {sc : Scope} {m : AEnv} {σ : Led} {P : V → Led → Prop} {X : XP}
noncomputable def Ext (h h' : Heap) : Prop := ∀ b o, h.get? b = some o → h'.get? b = some o
theorem Ext.refl {h : Heap} : Ext h h := fun z1 z2 e => e
theorem Ext.trans {h h' h'' : Heap} (x : Ext h h') (y : Ext h' h'') : Ext h h'' := fun b o e => y b o (x b o e)
theorem Ext.push {h : Heap} (o : Obj) : Ext h (h.push o) := fun z1 z2 e => Heap.get?_push_of_some o e
theorem Ext.kept {own : List Addr} {h h' : Heap} (x : Ext h h') : Kept own h h' := Kept.of fun b o e z1 => x b o e
theorem Grow.refl {own : List Addr} {h : Heap} : Grow own own h := fun z1 h => .inl h
theorem Step.ext {F own : List Addr} {s s' : Shared} (x : Ext s.heap s'.heap) (ho : s'.os = s.os) (hg : s'.gens = s.gens) : Step F own own s s' := ⟨x.kept, fun b o e => ⟨o, x b o e⟩, fun b z1 o e => x b o e, .refl, ho, hg⟩
theorem PlainSeq.ext {h h' : Heap} (x : Ext h h') {T : String} {a : Addr} {cs : List Value} (p : PlainSeq h T a cs) : PlainSeq h' T a cs := let ⟨n, e⟩ := p; ⟨n, x _ _ e⟩
theorem ORel.mono {K : Base} {own own' : List Addr} {h h' : Heap} (k : Ext h h') (g : Grow own own' h) {a : Addr} {o : O} (r : ORel K h own a o) : ORel K h' own' a o := by
  cases o with
  | list vs => obtain ⟨cs, p, hl, r⟩ := r; exact ⟨cs, p.ext k, hl, VRels.mono k.kept g vs cs r⟩
  | dictI _ => exact DictR.carry r (k a) (k.kept.carries g)
  | dictS _ => exact DictR.carry r (k a) (k.kept.carries g)
  | inst _ _ _ => exact r.elim
  | exc C => obtain ⟨o, vs, e, q⟩ := r; exact ⟨o, vs, k a _ e, q⟩
theorem ORel.there {K : Base} {own : List Addr} {h : Heap} {a b : Addr} {o : O} (r : ORel K h own a o) (hb : b ∈ o.addrs a) : ∃ ob, h.get? b = some ob := by
  cases o with
  | list vs => obtain ⟨cs, ⟨n, e⟩, _⟩ := r; simp only [O.addrs, List.mem_singleton] at hb; subst hb; exact ⟨_, e⟩
  | dictI _ => simp only [O.addrs, List.mem_singleton] at hb; subst hb; exact DictR.there r
  | dictS _ => simp only [O.addrs, List.mem_singleton] at hb; subst hb; exact DictR.there r
  | inst _ _ _ => exact r.elim
  | exc C => obtain ⟨o, vs, e, q⟩ := r; simp only [O.addrs, List.mem_singleton] at hb; subst hb; exact ⟨o, e⟩
theorem mem_owned : ∀ {σ : Led} {b : Addr}, b ∈ owned σ ↔ ∃ a o, (a, o) ∈ σ ∧ b ∈ o.addrs a
  | [], b => by simp [owned]
  | (a, o) :: r, b => by
    simp only [owned, List.mem_append, List.mem_cons, mem_owned (σ := r)]
    constructor
    · rintro (h | ⟨a', o', h, h'⟩)
      · exact ⟨a, o, .inl rfl, h⟩
      · exact ⟨a', o', .inr h, h'⟩
    · rintro ⟨a', o', h | h, h'⟩
      · cases h; exact .inl h'
      · exact .inr ⟨a', o', h, h'⟩
theorem St.there {A : Around} {h : Heap} (st : St c A σ h) {b : Addr} (hb : b ∈ owned σ) : ∃ ob, h.get? b = some ob := by
  obtain ⟨a, o, hm, hb⟩ := mem_owned.mp hb
  exact (st.objs a o hm).there hb
theorem St.new {A : Around} {h : Heap} (st : St c A σ h) : h.objs.size ∉ owned σ := fun hm => by
  obtain ⟨ob, e⟩ := st.there hm
  exact Nat.lt_irrefl _ (Heap.lt_size e)
theorem St.newS {A : Around} {h : Heap} (st : St c A σ h) : h.objs.size ∉ ownS c σ := fun hm => by
  rcases List.mem_append.mp hm with q | q
  · obtain ⟨_, o, e⟩ := st.hid _ q
    exact Nat.lt_irrefl _ (Heap.lt_size e)
  · exact st.new q
theorem get?_size (h : Heap) : h.get? h.objs.size = none := by
  cases e : h.get? h.objs.size with
  | none => rfl
  | some o => exact absurd (Heap.lt_size e) (Nat.lt_irrefl _)
theorem St.newF {A : Around} {h : Heap} (st : St c A σ h) : h.objs.size ∉ c.F := fun hm => by
  obtain ⟨o, e⟩ := st.prot _ hm
  rw [get?_size] at e; cases e
theorem St.ext {A : Around} {h h' : Heap} (st : St c A σ h) (x : Ext h h') : St c A σ h' := by
  refine ⟨fun b o e => x b o (st.keep b o e), st.nodup, st.fresh, fun a o hm => (st.objs a o hm).mono x .refl, ?_, fun b hb => let ⟨o, e⟩ := st.prot b hb; ⟨o, x b o e⟩, fun b hb => let ⟨q, o, e⟩ := st.hid b hb; ⟨q, o, x b o e⟩⟩
  obtain ⟨l, hl, hf, hd⟩ := st.frames
  refine ⟨l, hl, hf.of_keeps fun b o e z1 => ⟨o, x b o e, rfl⟩, fun L hL => ⟨(hd L hL).1, (hd L hL).2.1, fun o e => ?_⟩⟩
  obtain ⟨_, o', e', _⟩ := hf.mem hL
  rw [x L o' e'] at e; cases e
  exact (hd L hL).2.2 o e'
theorem St.alloc {A : Around} {h h' : Heap} {a : Addr} {o : O} (st : St c A σ h) (x : Ext h h') (hn : ∀ b ∈ o.addrs a, h.get? b = none) (hnd : (o.addrs a).Nodup)
    (hr : ORel c.k h' (ownS c ((a, o) :: σ)) a o) : St c A ((a, o) :: σ) h' := by
  have hg : Grow (owned σ) (owned ((a, o) :: σ)) h := fun b hb => by
    rcases List.mem_append.mp hb with q | q
    · exact .inr (hn b q)
    · exact .inl q
  refine ⟨fun b o e => x b o (st.keep b o e), ?_, ?_, ?_, ?_, fun b hb => let ⟨o, e⟩ := st.prot b hb; ⟨o, x b o e⟩, fun b hb => let ⟨q, o, e⟩ := st.hid b hb; ⟨fun z => hg.notin q e z, o, x b o e⟩⟩
  · refine List.nodup_append.mpr ⟨hnd, st.nodup, fun b hb b' hb' e => ?_⟩
    subst e
    obtain ⟨ob, e⟩ := st.there hb'
    rw [hn b hb] at e; cases e
  · intro b hb
    rcases List.mem_append.mp hb with q | q
    · cases e : c.k.h0.get? b with
      | none => rfl
      | some ob => have := st.keep _ _ e; rw [hn b q] at this; cases this
    · exact st.fresh b q
  · intro a' o' hm
    rcases List.mem_cons.mp hm with q | q
    · cases q; exact hr
    · exact (st.objs a' o' q).mono x hg.wider
  · obtain ⟨l, hl, hf, hd⟩ := st.frames
    refine ⟨l, hl, hf.of_keeps fun b o e z1 => ⟨o, x b o e, rfl⟩, fun L hL => ⟨fun hm => ?_, (hd L hL).2.1, fun o e => ?_⟩⟩
    · obtain ⟨_, o', e', _⟩ := hf.mem hL
      exact hg.notin (hd L hL).1 e' hm
    · obtain ⟨_, o', e', _⟩ := hf.mem hL
      rw [x L o' e'] at e; cases e
      exact (hd L hL).2.2 o e'
theorem Grow.alloc {h : Heap} {a : Addr} {o : O} (hn : ∀ b ∈ o.addrs a, h.get? b = none) : Grow (owned σ) (owned ((a, o) :: σ)) h := fun b hb => by
  rcases List.mem_append.mp hb with q | q
  · exact .inr (hn b q)
  · exact .inl q
theorem Post.newSeq {A : Around} {s : Shared} {T : String} {cs : List Value} {vs : List V} {v : V} {n : Nat} (st : St c A σ s.heap) (hl : cs.length ≤ sizeLine) (r : VRels s.heap (ownS c σ) vs cs)
    (hv : ∀ h own, VRel h own v (.ref s.heap.objs.size) ↔ ∃ a cs, Value.ref s.heap.objs.size = .ref a ∧ a ∉ own ∧ PlainSeq h T a cs ∧ cs.length ≤ sizeLine ∧ VRels h own vs cs) (h : P v σ) :
    Post c A σ s P (.ref s.heap.objs.size) { s with heap := s.heap.push { cls := .type T, data := .seq cs.toArray n } } := by
  refine ⟨v, σ, h, .ext (.push _) rfl rfl, st.ext (.push _), (hv _ _).mpr ⟨_, cs, rfl, st.newS, ⟨n, Heap.get?_push_size _ rfl⟩, hl, VRels.mono (Ext.push _).kept .refl vs cs r⟩⟩
theorem Post.newTup {A : Around} {s : Shared} {cs : List Value} {vs : List V} {n : Nat} (st : St c A σ s.heap) (hl : cs.length ≤ sizeLine) (r : VRels s.heap (ownS c σ) vs cs) (h : P (.tup vs) σ) :
    Post c A σ s P (.ref s.heap.objs.size) { s with heap := s.heap.push { cls := .type "tuple", data := .seq cs.toArray n } } := Post.newSeq st hl r (fun z1 z2 => by simp only [VRel]) h
theorem Post.newLst {A : Around} {s : Shared} {cs : List Value} {vs : List V} {n : Nat} (st : St c A σ s.heap) (hl : cs.length ≤ sizeLine) (r : VRels s.heap (ownS c σ) vs cs) (h : P (.lst vs) σ) :
    Post c A σ s P (.ref s.heap.objs.size) { s with heap := s.heap.push { cls := .type "list", data := .seq cs.toArray n } } := Post.newSeq st hl r (fun z1 z2 => by simp only [VRel]) h
theorem Post.newLoc {A : Around} {s : Shared} {cs : List Value} {vs : List V} {n : Nat} (st : St c A σ s.heap) (hl : cs.length ≤ sizeLine) (r : VRels s.heap (ownS c σ) vs cs) (h : ∀ a, a ∉ owned σ → a ∉ c.F → P (.ref a) ((a, .list vs) :: σ)) :
    Post c A σ s P (.ref s.heap.objs.size) { s with heap := s.heap.push { cls := .type "list", data := .seq cs.toArray n } } := by
  have hn : ∀ b ∈ (O.list vs).addrs s.heap.objs.size, s.heap.get? b = none := fun b hb => by
    simp only [O.addrs, List.mem_singleton] at hb; subst hb; exact get?_size _
  refine ⟨.ref s.heap.objs.size, _, h _ st.new st.newF, ⟨(Ext.push _).kept, fun b o e => ⟨o, Ext.push _ b o e⟩, fun b z1 o e => Ext.push _ b o e, .alloc hn, rfl, rfl⟩, st.alloc (.push _) hn (by simp [O.addrs]) ?_, by simp only [VRel]⟩
  exact ⟨cs, ⟨n, Heap.get?_push_size _ rfl⟩, hl, VRels.mono (Ext.push _).kept (Grow.alloc hn).wider vs cs r⟩
theorem VRels.length {h : Heap} {own : List Addr} : ∀ {vs : List V} {cs : List Value}, VRels h own vs cs → cs.length = vs.length
  | [], _, r => by simp only [VRels] at r; subst r; rfl
  | v :: vs, cs, r => by
    simp only [VRels] at r
    obtain ⟨c, cs', rfl, _, r⟩ := r
    simp [r.length]
theorem VRels.get {h : Heap} {own : List Addr} : ∀ {vs : List V} {cs : List Value} {i : Nat} {v : V}, VRels h own vs cs → vs[i]? = some v → ∃ cv, cs[i]? = some cv ∧ VRel h own v cv
  | [], _, _, _, _, e => by simp at e
  | v :: vs, cs, 0, _, r, e => by
    simp only [VRels] at r
    obtain ⟨c, cs', rfl, r1, r⟩ := r
    simp only [List.getElem?_cons_zero, Option.some.injEq] at e; subst e
    exact ⟨c, rfl, r1⟩
  | v :: vs, cs, i + 1, w, r, e => by
    simp only [VRels] at r
    obtain ⟨c, cs', rfl, r1, r⟩ := r
    simp only [List.getElem?_cons_succ] at e ⊢
    exact r.get e
theorem VRels.drop {h : Heap} {own : List Addr} : ∀ {vs : List V} {cs : List Value} (n : Nat), VRels h own vs cs → VRels h own (vs.drop n) (cs.drop n)
  | _, _, 0, r => r
  | [], cs, n + 1, r => by simp only [VRels] at r; subst r; simp [VRels]
  | v :: vs, cs, n + 1, r => by
    simp only [VRels] at r
    obtain ⟨c, cs', rfl, _, r⟩ := r
    exact r.drop n
theorem VRels.take {h : Heap} {own : List Addr} : ∀ {vs : List V} {cs : List Value} (n : Nat), VRels h own vs cs → VRels h own (vs.take n) (cs.take n)
  | vs, cs, 0, r => by simp [VRels]
  | [], cs, n + 1, r => by simp only [VRels] at r; subst r; simp [VRels]
  | v :: vs, cs, n + 1, r => by
    simp only [VRels] at r
    obtain ⟨c, cs', rfl, r1, r⟩ := r
    simp only [List.take_succ_cons, VRels]
    exact ⟨c, _, rfl, r1, r.take n⟩
theorem VRels.append {h : Heap} {own : List Addr} : ∀ {vs ws : List V} {cs ds : List Value}, VRels h own vs cs → VRels h own ws ds → VRels h own (vs ++ ws) (cs ++ ds)
  | [], ws, cs, ds, r, r' => by simp only [VRels] at r; subst r; exact r'
  | v :: vs, ws, cs, ds, r, r' => by
    simp only [VRels] at r
    obtain ⟨c, cs', rfl, r1, r⟩ := r
    simp only [List.cons_append, VRels]
    exact ⟨c, _, rfl, r1, r.append r'⟩
theorem VRels.one {h : Heap} {own : List Addr} {v : V} {cv : Value} (r : VRel h own v cv) : VRels h own [v] [cv] := by simp only [VRels]; exact ⟨cv, [], rfl, r, rfl⟩
theorem VRels.set {h : Heap} {own : List Addr} : ∀ {vs : List V} {cs : List Value} (i : Nat) {v : V} {cv : Value}, VRels h own vs cs → VRel h own v cv → VRels h own (vs.set i v) (cs.set i cv)
  | [], cs, i, v, cv, r, _ => by simp only [VRels] at r; subst r; simp [VRels]
  | w :: vs, cs, 0, v, cv, r, r' => by
    simp only [VRels] at r
    obtain ⟨c, cs', rfl, r1, r⟩ := r
    simp only [List.set_cons_zero, VRels]; exact ⟨cv, cs', rfl, r', r⟩
  | w :: vs, cs, i + 1, v, cv, r, r' => by
    simp only [VRels] at r
    obtain ⟨c, cs', rfl, r1, r⟩ := r
    simp only [List.set_cons_succ, VRels]; exact ⟨c, _, rfl, r1, r.set i r'⟩
theorem WEs_nil {P : List V → Led → Prop} (h : P [] σ) : WEs c d sc [] m σ P X := fun env A s E pos r => ⟨rfl, Calls.spliced_nil ⟨[], σ, ⟨rfl, h⟩, .refl, r.st, by simp only [VRels]⟩⟩
theorem WEs_cons {e : Expr} {es : List Expr} {P : List V → Led → Prop} (h : WE c d sc e m σ (fun v σ₁ => WEs c d sc es m σ₁ (fun vs σ₂ => P (v :: vs) σ₂) X) X)
    (hstar : ∀ env, starEach (e :: es) env = (false, eval e env) :: starEach es env) (hstars : ∀ env, (starEach es env).any (·.1) = false) : WEs c d sc (e :: es) m σ P X := by
  intro env A s E pos r
  refine ⟨by rw [hstar]; simpa using hstars env, ?_⟩
  have hb : backTo pos (starEach (e :: es) env) = (false, eval e env) :: backTo pos (starEach es env) := by rw [hstar]; rfl
  rw [hb]
  refine Calls.spliced_cons (wpAny_mono (h env A s E r) ?_ fun z1 z2 x => x)
  rintro cv s₁ ⟨v, σ₁, h₁, t₁, hs₁, rv⟩
  refine wpAny_mono (h₁ env A s₁ E pos (r.step t₁ hs₁)).2 ?_ fun z1 z2 x => x
  rintro cvs s₂ ⟨vs, σ₂, ⟨hlen, h₂⟩, t₂, hs₂, rvs⟩
  exact ⟨v :: vs, σ₂, ⟨by simp [hlen], h₂⟩, t₁.trans t₂, hs₂, by simp only [VRels]; exact ⟨cv, cvs, rfl, t₂.v rv, rvs⟩⟩
theorem WE_tuple {es : List Expr} {k : Nat} {pos : Pos} (h : WEs c d sc es m σ (fun vs σ₁ => P (.tup vs) σ₁) X) (hl : es.length ≤ 1000) : WE c d sc (.Tuple es k pos) m σ P X := by
  intro env A s E r
  refine wpAny_Tuple_spliced (wpAny_mono (h env A s E pos r).2 ?_ fun z1 z2 x => x)
  rintro cvs s₁ ⟨vs, σ₁, ⟨hlen, h₁⟩, t₁, hs₁, rv⟩
  have hsz : cvs.length ≤ sizeLine := by rw [rv.length, hlen, sizeLine_eq]; (exact Ar.lin 0 1 (.le (.v 0) (.k 16777216)) [(.le (.v 0) (.k 1000))] (by kernel_rfl) [] [_] rfl rfl hl)
  exact ⟨hsz, (Post.newTup hs₁ hsz rv h₁).step t₁⟩
theorem WE_list {es : List Expr} {pos : Pos} (h : WEs c d sc es m σ (fun vs σ₁ => P (.lst vs) σ₁) X) (hl : es.length ≤ 1000) : WE c d sc (.List es pos) m σ P X := by
  intro env A s E r
  refine wpAny_List_spliced (wpAny_mono (h env A s E pos r).2 ?_ fun z1 z2 x => x)
  rintro cvs s₁ ⟨vs, σ₁, ⟨hlen, h₁⟩, t₁, hs₁, rv⟩
  have hsz : cvs.length ≤ sizeLine := by rw [rv.length, hlen, sizeLine_eq]; (exact Ar.lin 0 1 (.le (.v 0) (.k 16777216)) [(.le (.v 0) (.k 1000))] (by kernel_rfl) [] [_] rfl rfl hl)
  exact ⟨hsz, (Post.newLst hs₁ hsz rv h₁).step t₁⟩
theorem WE_list_loc {es : List Expr} {pos : Pos} (h : WEs c d sc es m σ (fun vs σ₁ => ∀ a, a ∉ owned σ₁ → a ∉ c.F → P (.ref a) ((a, .list vs) :: σ₁)) X) (hl : es.length ≤ 1000) : WE c d sc (.List es pos) m σ P X := by
  intro env A s E r
  refine wpAny_List_spliced (wpAny_mono (h env A s E pos r).2 ?_ fun z1 z2 x => x)
  rintro cvs s₁ ⟨vs, σ₁, ⟨hlen, h₁⟩, t₁, hs₁, rv⟩
  have hsz : cvs.length ≤ sizeLine := by rw [rv.length, hlen, sizeLine_eq]; (exact Ar.lin 0 1 (.le (.v 0) (.k 16777216)) [(.le (.v 0) (.k 1000))] (by kernel_rfl) [] [_] rfl rfl hl)
  exact ⟨hsz, (Post.newLoc hs₁ hsz rv h₁).step t₁⟩
theorem lookup_mem {σ : Led} {a : Addr} {o : O} (h : σ.lookup a = some o) : (a, o) ∈ σ := by
  induction σ with
  | nil => simp at h
  | cons x r ih =>
    obtain ⟨b, o'⟩ := x
    rw [List.lookup_cons] at h
    cases hb : a == b with
    | true => rw [hb] at h; cases h; rw [beq_iff_eq.mp hb]; exact .head _
    | false => rw [hb] at h; exact .tail _ (ih h)
inductive IsLst (σ : Led) : V → List V → Prop
  | lst (vs : List V) : IsLst σ (.lst vs) vs
  | ref {a : Addr} {vs : List V} : σ.lookup a = some (.list vs) → IsLst σ (.ref a) vs
theorem IsLst.plain {A : Around} {h : Heap} {v : V} {vs : List V} {cv : Value} (i : IsLst σ v vs) (st : St c A σ h) (r : VRel h (ownS c σ) v cv) :
    ∃ a cs, cv = .ref a ∧ PlainSeq h "list" a cs ∧ cs.length ≤ sizeLine ∧ VRels h (ownS c σ) vs cs := by
  cases i with
  | lst => simp only [VRel] at r; obtain ⟨a, cs, e, _, p, hl, r⟩ := r; exact ⟨a, cs, e, p, hl, r⟩
  | ref hl =>
    simp only [VRel] at r
    obtain ⟨cs, p, hl', r'⟩ := st.objs _ _ (lookup_mem hl)
    exact ⟨_, cs, r, p, hl', r'⟩
theorem PlainSeq.isList {h : Heap} {a : Addr} {cs : List Value} (p : PlainSeq h "list" a cs) : h.IsList a cs.toArray := let ⟨n, e⟩ := p; ⟨_, e, rfl, n, rfl⟩
theorem PlainSeq.isTuple {h : Heap} {a : Addr} {cs : List Value} (p : PlainSeq h "tuple" a cs) : h.IsTuple a cs.toArray := let ⟨n, e⟩ := p; ⟨_, e, rfl, n, rfl⟩
theorem WE_sub {v i : Expr} {pos : Pos} (h : WE c d sc v m σ (fun a σ₁ => WE c d sc i m σ₁ (fun b σ₂ => Op2 c d (PyProof.Rows.subscriptTail v i) a b σ₂ P) X) X) : WE c d sc (.Subscript v i pos) m σ P X := by
  intro env A s E r
  refine PyProof.Rows.Subscript_ (wpAny_mono (h env A s E r) ?_ fun z1 z2 x => x)
  rintro ca s₁ ⟨a, σ₁, h₁, t₁, hs₁, ra⟩
  refine wpAny_mono (h₁ env A s₁ E (r.step t₁ hs₁)) ?_ fun z1 z2 x => x
  rintro cb s₂ ⟨b, σ₂, h₂, t₂, hs₂, rb⟩
  exact wpAny_mono (h₂ A s₂ E ca cb r.a hs₂ (t₂.v ra) rb) (fun z1 z2 p => (p.step t₂).step t₁) fun z1 z2 x => x
noncomputable def place (i : Int) (n : Nat) : Option Nat := if 0 ≤ i then (if i < n then some i.toNat else none) else if 0 ≤ i + n then some (i + n).toNat else none
theorem seqIndex_place (i : Int) (n : Nat) : seqIndex? i n = place i n := by
  unfold place seqIndex?
  by_cases h : 0 ≤ i
  · have h' : ¬ i < 0 := by (exact Ar.lin 1 0 (.no (.ilt (.v 0) (.k 0))) [(.ile (.k 0) (.v 0))] (by kernel_rfl) [_] [] rfl rfl h)
    by_cases h2 : i < n <;> simp [h, h', h2]
  · have h' : i < 0 := by (exact Ar.lin 1 0 (.ilt (.v 0) (.k 0)) [(.no (.ile (.k 0) (.v 0)))] (by kernel_rfl) [_] [] rfl rfl h)
    by_cases h2 : 0 ≤ i + n
    · have : i + (n : Int) < n := by (exact Ar.lin 1 1 (.ilt (.a (.v 0) (.c (.v 0))) (.c (.v 0))) [(.no (.ile (.k 0) (.v 0)))] (by kernel_rfl) [_] [_] rfl rfl h)
      simp [h, h', h2, this]
    · simp [h, h', h2]
set_option tactic.hygienic true
theorem place_lt {i : Int} {n j : Nat} (h : place i n = some j) : j < n ∧ -(n : Int) ≤ i ∧ i < n := by
  unfold place at h
  split at h
  · rename_i h0
    split at h
    · rename_i h1
      cases h
      exact ⟨(Int.toNat_lt h0).mpr h1, Int.le_trans (Int.neg_nonpos_of_nonneg (Int.natCast_nonneg n)) h0, h1⟩
    · cases h
  · rename_i h0
    split at h
    · rename_i h1
      cases h
      have h2 : i + n < n := Ar.lin 1 1 (.ilt (.a (.v 0) (.c (.v 0))) (.c (.v 0))) [(.no (.ile (.k 0) (.v 0)))] (by kernel_rfl) [_] [_] rfl rfl h0
      exact ⟨(Int.toNat_lt h1).mpr h2, Ar.lin 1 1 (.ile (.g (.c (.v 0))) (.v 0)) [(.ile (.k 0) (.a (.v 0) (.c (.v 0))))] (by kernel_rfl) [_] [_] rfl rfl h1, Ar.lin 1 1 (.ilt (.v 0) (.c (.v 0))) [(.no (.ile (.k 0) (.v 0)))] (by kernel_rfl) [_] [_] rfl rfl h0⟩
    · cases h
set_option tactic.hygienic false
theorem place_nonneg {i : Int} {n : Nat} (h : 0 ≤ i) (h2 : i < n) : place i n = some i.toNat := by unfold place; rw [if_pos h, if_pos h2]
noncomputable def PlainIndex (slice : Expr) : Prop := ∀ o i, subscripted slice false o i = operate [o, i] (getItem o i)
theorem Op_item_at {v slice : Expr} {lv : V} {vs : List V} {i : Int} {j : Nat} {w : V} (hl : IsLst σ lv vs) (hj : place i vs.length = some j) (hw : vs[j]? = some w) (h : P w σ)
    (hs : PlainIndex slice) : Op2 c d (PyProof.Rows.subscriptTail v slice) lv (.int i) σ P := by
  intro A s E ca cb _ st ra rb
  obtain ⟨a, cs, rfl, p, hsz, rs⟩ := hl.plain st ra
  simp only [VRel] at rb; obtain ⟨u, rfl⟩ := rb
  obtain ⟨cv, hcv, rw'⟩ := rs.get hw
  have hlen := rs.length
  obtain ⟨hj1, hj2, hj3⟩ := place_lt hj
  have hsz' : sizeLine = 16777216 := by rw [sizeLine_eq]
  refine PyProof.Rows.tail_any (T := "list") p.isList.typeIs list_getitem_lookup ?_ (hs _ _)
  by_cases h0 : 0 ≤ i
  · have : j = i.toNat := by rw [place_nonneg h0 (by (exact Ar.lin 1 1 (.ilt (.v 0) (.c (.v 0))) [(.ilt (.v 0) (.c (.v 0)))] (by kernel_rfl) [_] [_] rfl rfl hj3))] at hj; exact (Option.some.inj hj).symm
    subst this
    exact wpAny_getItem_list p.isList h0 (by lia) (by simpa using hcv) (Post.same' st h rw')
  · have : j = (i + vs.length).toNat := by unfold place at hj; rw [if_neg h0, if_pos (by (exact Ar.lin 1 1 (.ile (.k 0) (.a (.v 0) (.c (.v 0)))) [(.ile (.g (.c (.v 0))) (.v 0))] (by kernel_rfl) [_] [_] rfl rfl hj2))] at hj; exact (Option.some.inj hj).symm
    subst this
    exact wpAny_getItem_list_neg p.isList (by (exact Ar.lin 1 0 (.ilt (.v 0) (.k 0)) [(.no (.ile (.k 0) (.v 0)))] (by kernel_rfl) [_] [] rfl rfl h0)) (by simp [hlen]; (exact Ar.lin 1 1 (.ile (.g (.c (.v 0))) (.v 0)) [(.ile (.g (.c (.v 0))) (.v 0))] (by kernel_rfl) [_] [_] rfl rfl hj2)) (by lia) (by simpa [hlen] using hcv) (Post.same' st h rw')
theorem Op_item {v slice : Expr} {lv : V} {vs : List V} {i : Int} {w : V} (hl : IsLst σ lv vs) (h0 : 0 ≤ i) (hw : vs[i.toNat]? = some w) (h : P w σ)
    (hs : PlainIndex slice) : Op2 c d (PyProof.Rows.subscriptTail v slice) lv (.int i) σ P :=
  Op_item_at hl (place_nonneg h0 (by have := (List.getElem?_eq_some_iff.mp hw).1; lia)) hw h hs
theorem Op_titem_at {v slice : Expr} {vs : List V} {i : Int} {j : Nat} {w : V} (hj : place i vs.length = some j) (hw : vs[j]? = some w) (h : P w σ)
    (hs : PlainIndex slice) : Op2 c d (PyProof.Rows.subscriptTail v slice) (.tup vs) (.int i) σ P := by
  intro A s E ca cb _ st ra rb
  simp only [VRel] at ra rb
  obtain ⟨a, cs, rfl, hno, ⟨n, e⟩, hsz, rs⟩ := ra
  obtain ⟨u, rfl⟩ := rb
  obtain ⟨cv, hcv, rw'⟩ := rs.get hw
  have hlen := rs.length
  obtain ⟨hj1, hj2, hj3⟩ := place_lt hj
  have hsz' : sizeLine = 16777216 := by rw [sizeLine_eq]
  refine PyProof.Rows.tail_any (T := "tuple") ⟨_, e, rfl⟩ F.slot_tuple_getitem.lookup ?_ (hs _ _)
  exact PySem.P.getItem_tuple (items := cs.toArray) e (by lia) (by lia) (by rw [seqIndex_place]; simpa [hlen] using hj) (by simpa using hcv) (Post.same' st h rw')
theorem Op_titem {v slice : Expr} {vs : List V} {i : Int} {w : V} (h0 : 0 ≤ i) (hw : vs[i.toNat]? = some w) (h : P w σ)
    (hs : PlainIndex slice) : Op2 c d (PyProof.Rows.subscriptTail v slice) (.tup vs) (.int i) σ P :=
  Op_titem_at (place_nonneg h0 (by have := (List.getElem?_eq_some_iff.mp hw).1; lia)) hw h hs
theorem Op_sitem {v slice : Expr} {x : Str} {i : Int} {k : Nat} (h0 : 0 ≤ i) (hk : x.cps[i.toNat]? = some k) (hn : i < 2 ^ 62) (h : P (.str ⟨#[k]⟩) σ)
    (hs : PlainIndex slice) : Op2 c d (PyProof.Rows.subscriptTail v slice) (.str x) (.int i) σ P := by
  intro A s E ca cb _ st ra rb
  simp only [VRel] at ra rb
  obtain ⟨t, rfl⟩ := ra
  obtain ⟨u, rfl⟩ := rb
  refine PyProof.Rows.tail_any (T := "str") (typeIs_str s x t) F.slot_str_getitem.lookup ?_ (hs _ _)
  have hlt := (Array.getElem?_eq_some_iff.mp hk).1
  refine PySem.P.getItem_str (c := k) (by simp only [Bool.or_eq_false_iff, decide_eq_false_iff_not]; lia) ?_ (Post.same st h (by simp only [VRel]; exact ⟨_, rfl⟩))
  rw [seqIndex_place, place_nonneg h0 (by unfold Str.length; lia)]
  exact hk
noncomputable def clip (o : Option Int) (dflt n : Nat) : Nat := match o with
  | none => dflt
  | some i => (max 0 (min (if i < 0 then i + n else i) n)).toNat
noncomputable def slice {α : Type} (lo hi : Option Int) (xs : List α) : List α := (xs.drop (clip lo 0 xs.length)).take (clip hi xs.length xs.length - clip lo 0 xs.length)
theorem bounds_clip (lo hi : Option Int) (n : Nat) : sliceBounds lo hi none n = (((clip lo 0 n : Nat) : Int), ((clip hi n n : Nat) : Int), 1) := by
  have key : ∀ (o : Option Int) (dn : Nat), (match o with | none => (dn : Int) | some i => max 0 (min (if i < 0 then i + (n : Int) else i) n)) = ((clip o dn n : Nat) : Int) := by
    intro o dn
    cases o with
    | none => rfl
    | some i => exact (Int.toNat_of_nonneg (Int.le_max_left _ _)).symm
  unfold sliceBounds
  simp only [Option.getD_none, show (1 : Int) > 0 by decide, if_true]
  rw [← key lo 0, ← key hi n]
  rfl
theorem slicePick_slice (cs : List Value) (lo hi : Option Int) : slicePick cs.toArray lo hi none = (slice lo hi cs).toArray := by
  unfold slicePick slice
  rw [bounds_clip]
  simp only [sliceRange_one, pick_run, List.size_toArray]
theorem strIdx_clip (lo hi : Option Int) (n : Nat) : Builtin.Str.strSliceIndices lo hi 1 n = (List.range (clip hi n n - clip lo 0 n)).map (clip lo 0 n + ·) := by
  rw [← sliceRange_one]
  have h := bounds_clip lo hi n
  have h1 := congrArg Prod.fst h
  have h2 := congrArg (fun x => x.2.1) h
  dsimp only at h1 h2
  rw [← h1, ← h2]
  rfl
noncomputable def strSlice (lo hi : Option Int) (x : Str) : Str := ⟨(slice lo hi x.cps.toList).toArray⟩
noncomputable def WEo (c : Cx) (d : Nat) (sc : Scope) (e : Option Expr) (m : AEnv) (σ : Led) (P : Option Int → Led → Prop) (X : XP) : Prop :=
  ∀ (env : Env) (A : Around) (s : Shared) (E : Value → Shared → Prop), RE c d sc m σ X env A s E →
    wpAny c.M A (evalPart e env) (fun cv s' => ∃ o σ', IsPart cv o ∧ P o σ' ∧ Step c.F (owned σ) (owned σ') s s' ∧ St c A σ' s'.heap) E s
theorem WEo_none {P : Option Int → Led → Prop} (h : P none σ) : WEo c d sc none m σ P X := fun z1 z2 z3 z4 r => wpAny_pure ⟨none, σ, .none, h, .refl, r.st⟩
theorem WEo_some {e : Expr} {P : Option Int → Led → Prop} (h : WE c d sc e m σ (fun v σ₁ => ∃ i, v = .int i ∧ P (some i) σ₁) X) : WEo c d sc (some e) m σ P X := by
  intro env A s E r
  rw [evalPart_some]
  refine wpAny_mono (h env A s E r) ?_ fun z1 z2 x => x
  rintro cv s₁ ⟨v, σ₁, ⟨i, rfl, h₁⟩, t₁, hs₁, rv⟩
  simp only [VRel] at rv; obtain ⟨t, rfl⟩ := rv
  exact ⟨some i, σ₁, .int i t, h₁, t₁, hs₁⟩
open PyProof.Rows in
theorem getItem_tuple_to4 {prog : Program} {w : World} {A : Around} {E : Value → Shared → Prop} {s : Shared} {t sl : Addr} {x y z r : Value} {k : Int} {u : Tok} {Q : Value → Shared → Prop} (ht : IsTup s.heap t #[x, y, z, r]) (hs : s.heap.IsSliceOf sl .none (.int k u) .none)
    (h : Q (.ref s.heap.objs.size) { s with heap := s.heap.push { cls := .type "tuple", data := .seq (if k = 2 then #[x, y] else #[x, y, z]) } }) (hk : k = 2 ∨ k = 3) : wpAny (model prog w) A (getItem (.ref t) (.ref sl)) Q E s := by
  obtain ⟨os, hos, hcs, hds⟩ := id hs
  have hTs : s.TypeIs (.ref sl) "slice" := ⟨os, hos, hcs⟩
  unfold getItem
  try with_reducible refine wpAny_holding ?_
  refine wpAny_bind (wpAny_sequenceKey ht.typeIs (by decide) ?_)
  refine wpAny_bind (wpAny_callSpecial?_slot (name := Str.ofString "__getitem__") ht.typeIs slot_tuple_getitem
    (wpAny_call_entry slot_tuple_getitem ht.typeIs entry_tuple_getitem ?_ (args_tuple_getitem _ _)))
  show wpAny _ _ (Builtin.Tuple.tupleItemsOf (.ref t) >>= _) _ _ s
  refine wpAny_bind (tupleItemsOf_ ht ?_)
  refine wpAny_bind (wpAny_typeOf hTs ?_)
  rw [if_pos (by decide)]
  unfold Builtin.Slice.sliceApplied Builtin.Slice.sliceFields
  refine wpAny_bind (wpAny_bind (wpAny_bind (wpAny_field hos hds (x := .none) rfl (wpAny_bind (wpAny_field hos hds (x := .int k u) rfl (wpAny_bind (wpAny_field hos hds (x := .none) rfl (wpAny_pure ?_))))))))
  refine wpAny_bind (slicePart_none ?_)
  show wpAny _ _ (if ((1 : Int) == 0) = true then _ else _) _ _ s
  rw [if_neg (by decide)]
  refine wpAny_bind (slicePart_none (wpAny_bind (slicePart_int (wpAny_bind (wpAny_pure (wpAny_pure ?_))))))
  rcases hk with rfl | rfl
  · exact wpAny_bind (m := Builtin.Tuple.tupleExact _) (wpAny_newObj_type (wpAny_pure ⟨_, rfl, wpAny_pure h⟩) (by show 2 ≤ sizeLine; rw [sizeLine_eq]; decide))
  · exact wpAny_bind (m := Builtin.Tuple.tupleExact _) (wpAny_newObj_type (wpAny_pure ⟨_, rfl, wpAny_pure h⟩) (by show 3 ≤ sizeLine; rw [sizeLine_eq]; decide))
inductive SliceOf (σ : Led) (lo hi : Option Int) : V → V → Prop
  | lst {lv : V} {vs : List V} : IsLst σ lv vs → SliceOf σ lo hi lv (.lst (slice lo hi vs))
  | str {x : Str} : x.length ≤ sizeLine → SliceOf σ lo hi (.str x) (.str (strSlice lo hi x))
  | tup4 {x y z r : V} {k : Int} : lo = none → hi = some k → k = 2 ∨ k = 3 → SliceOf σ lo hi (.tup [x, y, z, r]) (.tup (if k = 2 then [x, y] else [x, y, z]))
theorem VRels.slice {h : Heap} {own : List Addr} {vs : List V} {cs : List Value} (lo hi : Option Int) (r : VRels h own vs cs) : VRels h own (slice lo hi vs) (slice lo hi cs) := by
  unfold Mine.slice
  rw [r.length]
  exact (r.drop _).take _
theorem slice_length_le {α : Type} (lo hi : Option Int) (xs : List α) : (slice lo hi xs).length ≤ xs.length := by
  unfold slice
  rw [List.length_take, List.length_drop]
  exact Nat.le_trans (Nat.min_le_right _ _) (Nat.sub_le _ _)
theorem pick_slice {l u : Option Int} {l' u' : Option (Int × Tok)} {x : Str} (el' : l'.map (·.1) = l) (eu' : u'.map (·.1) = u) : (slicePicked x l' u' none).filterMap (x.cps[·]?) = slice l u x.cps.toList := by
  unfold slicePicked slice
  rw [el', eu']
  show (Builtin.Str.strSliceIndices l u 1 x.length).filterMap _ = _
  rw [strIdx_clip, pick_run]
  simp [Str.length]
theorem slice_all {l u : Option Int} {l' u' : Option (Int × Tok)} {x : Str} (el' : l'.map (·.1) = l) (eu' : u'.map (·.1) = u) (hfull' : (slicePicked x l' u' none).length = x.length) : strSlice l u x = x := by
  unfold strSlice
  have hl : (slice l u x.cps.toList) = x.cps.toList := by
    have h1 : (slicePicked x l' u' none).length = clip u x.length x.length - clip l 0 x.length := by
      unfold slicePicked; rw [el', eu']
      show (Builtin.Str.strSliceIndices l u 1 x.length).length = _
      rw [strIdx_clip]; simp
    have hc : clip u x.length x.length ≤ x.length := by
      cases u with
      | none => simp [clip]
      | some j => exact Int.toNat_le.mpr (Int.max_le.mpr ⟨Int.natCast_nonneg _, Int.min_le_right _ _⟩)
    have h2 : x.cps.toList.length = x.length := by simp [Str.length]
    unfold slice
    rw [h2]
    have h3 : clip l 0 x.length = 0 ∨ x.length = 0 := by
      rcases Nat.eq_zero_or_pos x.length with z | z
      · exact .inr z
      · exact .inl (Ar.lin 0 4 (.eq (.v 0) (.k 0)) [(.lt (.k 0) (.v 1)), (.eq (.v 2) (.v 1)), (.eq (.v 2) (.s (.v 3) (.v 0))), (.le (.v 3) (.v 1))] (by kernel_rfl) [] [_, _, _, _] rfl rfl z hfull' h1 hc)
    rcases h3 with h3 | h3
    · rw [h3, List.drop_zero, List.take_of_length_le (by (exact Ar.lin 0 5 (.le (.v 0) (.s (.v 1) (.k 0))) [(.eq (.v 2) (.v 3)), (.eq (.v 2) (.s (.v 1) (.v 4))), (.eq (.v 0) (.v 3))] (by kernel_rfl) [] [_, _, _, _, _] rfl rfl hfull' h1 h2))]
    · have : x.cps.toList = [] := List.eq_nil_of_length_eq_zero (by (exact Ar.lin 0 2 (.eq (.v 0) (.k 0)) [(.eq (.v 0) (.v 1)), (.eq (.v 1) (.k 0))] (by kernel_rfl) [] [_, _] rfl rfl h2 h3))
      rw [this]; simp
  rw [hl]
theorem part_of {cl : Value} {l : Option Int} (pl : IsPart cl l) : ∃ l' : Option (Int × Tok), cl = partValue l' ∧ l'.map (·.1) = l := by
  cases pl with
  | none => exact ⟨none, rfl, rfl⟩
  | int i t => exact ⟨some (i, t), rfl, rfl⟩
section
variable {v : Expr} {lo hi : Option Expr} {p : Pos} {A : Around} {E : Value → Shared → Prop} {l u : Option Int} {cl cu ca : Value} {h : Heap} {g : Shared}
theorem tail_lst {a : V} {vs : List V} (hl : IsLst σ a vs) (pl : IsPart cl l) (pu : IsPart cu u) (e : g.heap = h.push { cls := .type "slice", data := .fields #[cl, cu, .none] }) (st : St c A σ g.heap) (ra : VRel g.heap (ownS c σ) a ca) (h₃ : P (.lst (slice l u vs)) σ) :
    wpAny c.M A (PyProof.Rows.subscriptTail v (.Slice lo hi none p) ca (.ref h.objs.size)) (Post c A σ g P) E g := by
  obtain ⟨a, cs, rfl, q, hsz, rs⟩ := hl.plain st ra
  refine PyProof.Rows.tail_any (T := "list") q.isList.typeIs list_getitem_lookup ?_ rfl
  refine wpAny_getItem_list_slice q.isList (e ▸ Heap.IsSliceOf.new ..) pl pu .none (by simp) ?_ (by simpa using hsz)
  rw [slicePick_slice]
  exact Post.newLst st (Nat.le_trans (slice_length_le ..) hsz) (rs.slice l u) h₃
set_option tactic.hygienic true
theorem tail_str {x : Str} (hxs : x.length ≤ sizeLine) (pl : IsPart cl l) (pu : IsPart cu u) (e : g.heap = h.push { cls := .type "slice", data := .fields #[cl, cu, .none] }) (st : St c A σ g.heap) (ra : VRel g.heap (ownS c σ) (.str x) ca) (h₃ : P (.str (strSlice l u x)) σ) :
    wpAny c.M A (PyProof.Rows.subscriptTail v (.Slice lo hi none p) ca (.ref h.objs.size)) (Post c A σ g P) E g := by
  simp only [VRel] at ra
  obtain ⟨t, rfl⟩ := ra
  refine PyProof.Rows.tail_any (T := "str") (typeIs_str _ x t) F.slot_str_getitem.lookup ?_ rfl
  obtain ⟨l', rfl, el'⟩ := part_of pl
  obtain ⟨u', rfl, eu'⟩ := part_of pu
  refine wpAny_getItem_str_slice (l := l') (u := u') (st := none) ⟨_, e ▸ Heap.get?_push_size _ rfl, rfl, rfl⟩ rfl ?_
  have hpick := pick_slice (x := x) el' eu'
  unfold sliceMade
  split
  · rename_i hfull
    rw [slice_all el' eu' (eq_of_beq (Bool.and_eq_true_iff.mp hfull).2)] at h₃
    exact Post.same' st h₃ (by simp only [VRel]; exact ⟨_, rfl⟩)
  · refine ⟨?_, Post.same st h₃ (by simp only [VRel]; exact ⟨_, by rw [hpick]; rfl⟩)⟩
    rw [hpick]
    show (slice l u x.cps.toList).toArray.size ≤ _
    have := slice_length_le l u x.cps.toList
    have h2 : x.cps.toList.length = x.length := by simp [Str.length]
    simp only [List.size_toArray]
    exact Nat.le_trans this (h2 ▸ hxs)
set_option tactic.hygienic false
theorem tail_tup4 {x y z r : V} {k : Int} (pl : IsPart cl none) (pu : IsPart cu (some k)) (hk : k = 2 ∨ k = 3) (e : g.heap = h.push { cls := .type "slice", data := .fields #[cl, cu, .none] }) (st : St c A σ g.heap) (ra : VRel g.heap (ownS c σ) (.tup [x, y, z, r]) ca) (h₃ : P (.tup (if k = 2 then [x, y] else [x, y, z])) σ) :
    wpAny c.M A (PyProof.Rows.subscriptTail v (.Slice lo hi none p) ca (.ref h.objs.size)) (Post c A σ g P) E g := by
  cases pl with
  | none =>
  cases pu with
  | int i t =>
  simp only [VRel, VRels] at ra
  obtain ⟨a, cs, rfl, hao, ⟨n, q⟩, hsz, cx, _, rfl, rx, cy, _, rfl, ry, cz, _, rfl, rz, cw, _, rfl, rw', rfl⟩ := ra
  refine PyProof.Rows.tail_any (T := "tuple") ⟨_, q, rfl⟩ F.slot_tuple_getitem.lookup ?_ rfl
  refine getItem_tuple_to4 ⟨_, q, rfl, _, rfl⟩ (e ▸ Heap.IsSliceOf.new ..) ?_ hk
  rcases hk with rfl | rfl
  · exact Post.newTup (cs := [cx, cy]) (vs := [x, y]) st (by rw [sizeLine_eq]; show 2 ≤ 16777216; decide) (by simp only [VRels]; exact ⟨_, _, rfl, rx, _, _, rfl, ry, rfl⟩) h₃
  · exact Post.newTup (cs := [cx, cy, cz]) (vs := [x, y, z]) st (by rw [sizeLine_eq]; show 3 ≤ 16777216; decide) (by simp only [VRels]; exact ⟨_, _, rfl, rx, _, _, rfl, ry, _, _, rfl, rz, rfl⟩) h₃
end
theorem WE_slice {v : Expr} {lo hi : Option Expr} {p pos : Pos}
    (h : WE c d sc v m σ (fun a σ₁ => WEo c d sc lo m σ₁ (fun l σ₂ => WEo c d sc hi m σ₂ (fun u σ₃ => ∃ w, SliceOf σ₃ l u a w ∧ P w σ₃) X) X) X) :
    WE c d sc (.Subscript v (.Slice lo hi none p) pos) m σ P X := by
  intro env A s E r
  refine PyProof.Rows.Subscript_ (wpAny_mono (h env A s E r) ?_ fun z1 z2 x => x)
  rintro ca s₁ ⟨a, σ₁, h₁, t₁, hs₁, ra⟩
  refine wpAny_Slice (wpAny_mono (h₁ env A s₁ E (r.step t₁ hs₁)) ?_ fun z1 z2 x => x)
  rintro cl s₂ ⟨l, σ₂, pl, h₂, t₂, hs₂⟩
  refine wpAny_mono (h₂ env A s₂ E ((r.step t₁ hs₁).step t₂ hs₂)) ?_ fun z1 z2 x => x
  rintro cu s₃ ⟨u, σ₃, pu, ⟨w, hw, h₃⟩, t₃, hs₃⟩
  rw [evalPart_none]
  refine wpAny_pure ?_
  have hx := Ext.push (h := s₃.heap) { cls := .type "slice", data := .fields #[cl, cu, .none] }
  have hs₄ := hs₃.ext hx
  have t₄ : Step c.F (owned σ₃) (owned σ₃) s₃ { s₃ with heap := s₃.heap.push { cls := .type "slice", data := .fields #[cl, cu, .none] } } := .ext hx rfl rfl
  have ra' := t₄.v (t₃.v (t₂.v ra))
  have tt := ((t₁.trans t₂).trans t₃).trans t₄
  refine wpAny_mono ?_ (fun z1 z2 q => Post.step tt q) fun z1 z2 x => x
  cases hw with
  | lst hl => exact tail_lst hl pl pu rfl hs₄ ra' h₃
  | tup4 e1 e2 e3 => subst e1; subst e2; exact tail_tup4 pl pu e3 rfl hs₄ ra' h₃
  | str hx => exact tail_str hx pl pu rfl hs₄ ra' h₃
theorem Op_add_str {x y : Str} (hsz : x.length + y.length ≤ sizeLine) (h : P (.str (x ++ y)) σ) : Op2 c d (binaryOp .Add) (.str x) (.str y) σ P := by
  intro A s E ca cb _ st ra rb
  simp only [VRel] at ra rb; obtain ⟨t, rfl⟩ := ra; obtain ⟨u, rfl⟩ := rb
  refine SB.add (hsz := hsz) (h := fun t' k => Post.same st h (by simp only [VRel]; exact ⟨_, rfl⟩))
end Mine
end
section
namespace Mine
open PySem
variable {c : Cx} {d : Nat} {sc : Scope} {m : AEnv} {σ : Led} {P : V → Led → Prop} {X : XP} {K : Fl → AEnv → Led → Prop}
noncomputable def But (L : Addr) (h h' : Heap) : Prop := ∀ b o, b ≠ L → h.get? b = some o → h'.get? b = some o
theorem But.carries {own : List Addr} {h h' : Heap} {L : Addr} {ob : Obj} (hL : h.get? L = some ob) (hq : ¬ Frozen ob) (k : But L h h') : Carries own own h h' := fun a o e ha f =>
  ⟨k a o (fun q => by subst q; rw [e] at hL; cases hL; exact hq f) e, ha⟩
theorem VRel.write {own : List Addr} {h h' : Heap} {L : Addr} {ob : Obj} (hL : h.get? L = some ob) (hq : ¬ Frozen ob) (k : But L h h') (v : V) (cv : Value) (r : VRel h own v cv) : VRel h' own v cv := r.carry (k.carries hL hq)
theorem VRels.write {own : List Addr} {h h' : Heap} {L : Addr} {ob : Obj} (hL : h.get? L = some ob) (hq : ¬ Frozen ob) (k : But L h h') (vs : List V) (cs : List Value) (r : VRels h own vs cs) : VRels h' own vs cs := r.carry (k.carries hL hq)
theorem ORel.write {own : List Addr} {h h' : Heap} {L : Addr} {ob : Obj} (hL : h.get? L = some ob) (hq : ¬ Frozen ob) (k : But L h h') {K : Base} {a : Addr} {o : O} (ha : L ∉ o.addrs a) (r : ORel K h own a o) : ORel K h' own a o := by
  cases o with
  | list vs =>
    obtain ⟨cs, ⟨n, p⟩, hl, r⟩ := r
    exact ⟨cs, ⟨n, k a _ (fun q => ha (by simp [O.addrs, q])) p⟩, hl, VRels.write hL hq k vs cs r⟩
  | dictI _ => exact DictR.carry r (fun ob' e => k a _ (fun q => ha (by simp [O.addrs, q])) e) (k.carries hL hq)
  | dictS _ => exact DictR.carry r (fun ob' e => k a _ (fun q => ha (by simp [O.addrs, q])) e) (k.carries hL hq)
  | inst _ _ _ => exact r.elim
  | exc C => obtain ⟨o, vs, e, q⟩ := r; exact ⟨o, vs, k a _ (fun q => ha (by simp [O.addrs, q])) e, q⟩
theorem funFrames_of {h h' base : Heap} : ∀ {l : List Env}, h.FunFrames base l → (∀ L ∈ l.filterMap (·.frame), ∃ o, h'.get? L = some o ∧ ∀ vs, o.data ≠ .fields vs) → h'.FunFrames base l
  | [], _, _ => trivial
  | env :: l, hf, k => by
    obtain ⟨hk, ⟨L, o, hL, hn, ho, hd⟩, hr⟩ := hf
    obtain ⟨o', ho', hd'⟩ := k L (by simp [hL])
    exact ⟨hk, ⟨L, o', hL, hn, ho', hd'⟩, funFrames_of hr fun L' hL' => k L' (by rw [List.filterMap_cons, hL]; exact List.mem_cons_of_mem _ hL')⟩
theorem St.write {A : Around} {h h' : Heap} {L : Addr} {ob ob' : Obj} (st : St c A σ h) (hno : L ∉ owned σ) (h0 : c.k.h0.get? L = none) (hL : h.get? L = some ob) (hq : ¬ Frozen ob) (k : But L h h')
    (hL' : h'.get? L = some ob') (hc : Obj.isDict ob → Obj.isDict ob') (hf : (∀ vs, ob.data ≠ .fields vs) → ∀ vs, ob'.data ≠ .fields vs) : St c A σ h' := by
  refine ⟨fun b o e => k b o (fun q => by rw [q, h0] at e; cases e) (st.keep b o e), st.nodup, st.fresh, fun a o hm => ?_, ?_, fun b hb => ?_, fun b hb => ?_⟩
  · exact (st.objs a o hm).write hL hq k fun q => hno (mem_owned.mpr ⟨a, o, hm, q⟩)
  · obtain ⟨l, hl, hfr, hd⟩ := st.frames
    refine ⟨l, hl, funFrames_of hfr fun L' hL'' => ?_, fun L' hL'' => ⟨(hd L' hL'').1, (hd L' hL'').2.1, fun o e => ?_⟩⟩
    · obtain ⟨_, o, ho, hnf⟩ := hfr.mem hL''
      by_cases e : L' = L
      · subst e; rw [hL] at ho; cases ho; exact ⟨_, hL', hf hnf⟩
      · exact ⟨o, k L' o e ho, hnf⟩
    · obtain ⟨_, o', ho, hnf⟩ := hfr.mem hL''
      by_cases q : L' = L
      · subst q
        rw [hL'] at e; cases e
        exact hc ((hd L' hL'').2.2 _ hL)
      · rw [k L' o' q ho] at e; cases e; exact (hd L' hL'').2.2 _ ho
  · obtain ⟨o, e⟩ := st.prot b hb
    by_cases q : b = L
    · subst q; exact ⟨_, hL'⟩
    · exact ⟨o, k b o q e⟩
  · obtain ⟨q1, o, e⟩ := st.hid b hb
    refine ⟨q1, ?_⟩
    by_cases q : b = L
    · subst q; exact ⟨_, hL'⟩
    · exact ⟨o, k b o q e⟩
theorem not_seq_dict {o : Obj} {es ep} (h : o.data = .dict es ep) : ¬ Frozen o := fun f => f.notDict ⟨_, _, h⟩
theorem not_seq_cell {o : Obj} {v} (h : o.data = .cell v) : ¬ Frozen o := fun f => by
  rcases f with ⟨xs, n, q⟩ | ⟨⟨xs, q⟩, _⟩ | ⟨_, _, _, q⟩ <;> rw [h] at q <;> cases q
theorem there_but {h h' : Heap} {L : Addr} (hL : ∃ o, h'.get? L = some o) (k : But L h h') : ∀ b o, h.get? b = some o → ∃ o', h'.get? b = some o' := fun b o e => by
  by_cases q : b = L
  · exact q ▸ hL
  · exact ⟨o, k b o q e⟩
theorem Step.write {F own W : List Addr} {s : Shared} {h' : Heap} {L : Addr} {t : Nat} (hW : L ∈ W) (hF : L ∉ F) (hL : ∃ o, h'.get? L = some o) (k : But L s.heap h') : Step F (W ++ own) (W ++ own) s { s with heap := h', toks := t } :=
  ⟨Kept.of fun b o e hb => k b o (fun q => hb (by rw [q]; exact List.mem_append_left _ hW)) e, there_but hL k, fun b hb o e => k b o (fun q => hF (q ▸ hb)) e, .refl, rfl, rfl⟩
noncomputable def AStored (c : Cx) (A : Around) (env : Env) (σ : Led) (s : Shared) (x : Str) (m' : AEnv) (s' : Shared) : Prop :=
  (Step c.F (places env ++ owned σ) (places env ++ owned σ) s s' ∧ St c A σ s'.heap ∧ EnvRel c (ownS c σ) env m' s'.heap) ∧
    ∃ L h' tk, s' = { s with heap := h', toks := tk } ∧ But L s.heap h' ∧ ((env.kindOf x = some .local ∧ L = env.locals) ∨ (env.kindOf x = some .cell ∧ env.cells.lookup x = some L))
theorem store_name {A : Around} {s : Shared} {env : Env} {E : Value → Shared → Prop} {x : Str} {v : V} {cv : Value} (ok : EnvOk env) (st : St c A σ s.heap) (er : EnvRel c (ownS c σ) env m s.heap) (rv : VRel s.heap (ownS c σ) v cv)
    (hk : env.kindOf x = some .local ∨ env.kindOf x = some .cell) :
    wpAny c.M A (storeName env x cv) (fun z1 s' => AStored c A env σ s x ((x, v) :: m) s') E s := by
  obtain ⟨mc, hn, hm⟩ := er.ns
  have hpl : (env.scope.kind == .class || (env.scope.kind == .module && env.locals != env.globals)) = false := by rw [ok.kind]; rfl
  rcases hk with hk | hk
  · refine wpAny_storeName_local hk hn (fun h' hn' hs' => ?_) hpl
    obtain ⟨oL, es, ep, hoL, hdL, _⟩ := id hn
    obtain ⟨oL', es', ep', hoL', hdL', _⟩ := id hn'
    have hq := not_seq_dict hdL
    have kb : But env.locals s.heap h' := fun b o hb e => (hs'.2 b hb).trans e
    refine ⟨⟨.write (by simp [places]) er.lnot.2.2 ⟨_, hoL'⟩ kb, st.write (fun q => er.lnot.1 (List.mem_append_right _ q)) er.lnot.2.1 hoL hq kb hoL' (fun z1 => ⟨_, _, hdL'⟩) (fun z1 vs e => by rw [hdL'] at e; cases e), ?_⟩, env.locals, h', _, rfl, kb, .inl ⟨hk, rfl⟩⟩
    refine ⟨⟨_, hn', fun y w hy hky => ?_⟩, fun y w hy hky => ?_, er.lnot, fun y a ha => ?_, er.apart⟩
    · by_cases e : y = x
      · subst e
        rw [List.lookup_cons_self] at hy; cases hy
        exact ⟨cv, by simp, rv.write hoL hq kb⟩
      · rw [List.lookup_cons, beq_eq_false_iff_ne.mpr e] at hy
        obtain ⟨cw, e1, r⟩ := hm y w hy hky
        exact ⟨cw, by simp [e, e1], r.write hoL hq kb⟩
    · have hne : y ≠ x := fun q => by subst q; rw [hk] at hky; simp at hky
      rw [List.lookup_cons, beq_eq_false_iff_ne.mpr hne] at hy
      obtain ⟨a, cw, e1, hc, r⟩ := er.cell y w hy hky
      obtain ⟨oc, hoc, hdc⟩ := hc
      exact ⟨a, cw, e1, ⟨oc, kb a oc (er.cnot y a (mem_of_lookup e1)).2.1 hoc, hdc⟩, r.write hoL hq kb⟩
    · obtain ⟨h1, h2, h3, h4, v', oc, hoc, hdc⟩ := er.cnot y a ha
      exact ⟨h1, h2, h3, h4, v', oc, kb a oc h2 hoc, hdc⟩
  · obtain ⟨a, ha⟩ := ok.cell x (.inl hk)
    obtain ⟨h1, h2, h3, hF, v', hc⟩ := er.cnot x a (mem_of_lookup ha)
    refine wpAny_storeName_cell ok.kind hk ha hc fun h' hc' hs' => ?_
    obtain ⟨oL, hoL, hdL⟩ := id hc
    obtain ⟨oL', hoL', hdL'⟩ := id hc'
    have hq := not_seq_cell hdL
    have kb : But a s.heap h' := fun b o hb e => (hs'.2 b hb).trans e
    have hpa : a ∈ places env := by simp only [places, List.mem_cons, List.mem_map]; exact .inr ⟨(x, a), mem_of_lookup ha, rfl⟩
    refine ⟨⟨.write (t := s.toks) hpa hF ⟨_, hoL'⟩ kb, st.write (fun q => h1 (List.mem_append_right _ q)) h3 hoL hq kb hoL' (fun ⟨_, _, e⟩ => by rw [hdL] at e; cases e) (fun z1 vs e => by rw [hdL'] at e; cases e), ?_⟩, a, h', s.toks, rfl, kb, .inr ⟨hk, ha⟩⟩
    refine ⟨⟨mc, hn.sameBut hs' (Ne.symm h2), fun y w hy hky => ?_⟩, fun y w hy hky => ?_, er.lnot, fun y b hb => ?_, er.apart⟩
    · have hne : y ≠ x := fun q => by subst q; rw [hk] at hky; simp at hky
      rw [List.lookup_cons, beq_eq_false_iff_ne.mpr hne] at hy
      obtain ⟨cw, e1, r⟩ := hm y w hy hky
      exact ⟨cw, e1, r.write hoL hq kb⟩
    · by_cases e : y = x
      · subst e
        rw [List.lookup_cons_self] at hy; cases hy
        exact ⟨a, cv, ha, hc', rv.write hoL hq kb⟩
      · rw [List.lookup_cons, beq_eq_false_iff_ne.mpr e] at hy
        obtain ⟨b, cw, e1, hcb, r⟩ := er.cell y w hy hky
        have hba : b ≠ a := fun q => e (name_of_addr er.apart (mem_of_lookup e1) (q ▸ mem_of_lookup ha))
        obtain ⟨oc, hoc, hdc⟩ := hcb
        exact ⟨b, cw, e1, ⟨oc, kb b oc hba hoc, hdc⟩, r.write hoL hq kb⟩
    · obtain ⟨g1, g2, g3, g4, w, oc, hoc, hdc⟩ := er.cnot y b hb
      by_cases q : b = a
      · subst q; exact ⟨g1, g2, g3, g4, some cv, hc'⟩
      · exact ⟨g1, g2, g3, g4, w, oc, kb b oc q hoc, hdc⟩
end Mine
end
section
namespace Mine
open PySem
variable {c : Cx} {d : Nat} {sc : Scope} {m : AEnv} {σ : Led} {P : V → Led → Prop} {X : XP} {K : Fl → AEnv → Led → Prop}
theorem EnvRel.places {own : List Addr} {env : Env} {h : Heap} (er : EnvRel c own env m h) : ∀ b ∈ places env, ∀ o, h.get? b = some o → ¬ Frozen o := by
  intro b hb o e
  simp only [Mine.places, List.mem_cons, List.mem_map] at hb
  rcases hb with rfl | ⟨⟨x, a⟩, hm, rfl⟩
  · obtain ⟨mc, ⟨oL, es, ep, ho, hd, _⟩, _⟩ := er.ns
    rw [ho] at e; cases e; exact not_seq_dict hd
  · obtain ⟨_, _, _, _, v, oc, hoc, hdc⟩ := er.cnot x a hm
    dsimp only at e
    rw [hoc] at e; cases e; exact not_seq_cell hdc
theorem Step.carriesP {F own own' H : List Addr} {env : Env} {s s' : Shared} (er : EnvRel c (H ++ own) env m s.heap) (t : Step F (places env ++ own) (places env ++ own') s s') : Carries (H ++ own) (H ++ own') s.heap s'.heap := by
  intro a o e ha f
  have hn : a ∉ places env ++ own := fun q => (List.mem_append.mp q).elim (fun q => er.places a q o e f) fun q => ha (List.mem_append_right _ q)
  refine ⟨t.kept.exact e hn f.notDict, fun q => ?_⟩
  rcases List.mem_append.mp q with q | q
  · exact ha (List.mem_append_left _ q)
  · exact t.grow.notin hn e (List.mem_append_right _ q)
theorem Step.vps {own own' H : List Addr} {env : Env} {s s' : Shared} {vs : List V} {cs : List Value} (er : EnvRel c (H ++ own) env m s.heap) (t : Step c.F (places env ++ own) (places env ++ own') s s') (r : VRels s.heap (H ++ own) vs cs) : VRels s'.heap (H ++ own') vs cs := r.carry (t.carriesP er)
theorem Step.vp {own own' H : List Addr} {env : Env} {s s' : Shared} {v : V} {cv : Value} (er : EnvRel c (H ++ own) env m s.heap) (t : Step c.F (places env ++ own) (places env ++ own') s s') (r : VRel s.heap (H ++ own) v cv) : VRel s'.heap (H ++ own') v cv := by
  have := t.vps er (VRels.one r)
  simp only [VRels] at this
  obtain ⟨c', cs', e, r, _⟩ := this
  cases e; exact r
theorem RS.estep {σ₁ : Led} {env : Env} {A : Around} {s s₁ : Shared} {E : Value → Shared → Prop} (x : RS c d sc m σ X env A s E) (t : Step c.F (owned σ) (owned σ₁) s s₁) (h : St c A σ₁ s₁.heap) : RS c d sc m σ₁ X env A s₁ E :=
  x.step t.wider h (x.er.mono t.kept.wider t.grow.wider)
noncomputable def PostA (c : Cx) (A : Around) (env : Env) (σ : Led) (s : Shared) (K : AEnv → Led → Prop) (s' : Shared) : Prop :=
  ∃ m' σ', K m' σ' ∧ Step c.F (places env ++ owned σ) (places env ++ owned σ') s s' ∧ St c A σ' s'.heap ∧ EnvRel c (ownS c σ') env m' s'.heap
theorem PostA.step {A : Around} {env : Env} {σ₁ : Led} {s s₁ s' : Shared} {K : AEnv → Led → Prop} (st : Step c.F (places env ++ owned σ) (places env ++ owned σ₁) s s₁) (x : PostA c A env σ₁ s₁ K s') : PostA c A env σ s K s' := by
  obtain ⟨m', σ', hp, st', h, r⟩ := x
  exact ⟨m', σ', hp, st.trans st', h, r⟩
noncomputable def WA (c : Cx) (d : Nat) (sc : Scope) (t : Expr) (v : V) (m : AEnv) (σ : Led) (K : AEnv → Led → Prop) (X : XP) : Prop :=
  ∀ (env : Env) (A : Around) (s : Shared) (E : Value → Shared → Prop) (cv : Value), RS c d sc m σ X env A s E → VRel s.heap (ownS c σ) v cv → wpAny c.M A (assign t env cv) (fun z1 s' => PostA c A env σ s K s') E s
noncomputable def WAs (c : Cx) (d : Nat) (sc : Scope) (ts : List Expr) (vs : List V) (m : AEnv) (σ : Led) (K : AEnv → Led → Prop) (X : XP) : Prop :=
  ∀ (env : Env) (A : Around) (s : Shared) (E : Value → Shared → Prop) (cvs : List Value), RS c d sc m σ X env A s E → VRels s.heap (ownS c σ) vs cvs →
    (assignEach ts env).length = vs.length ∧ (assignEach ts env).findIdx? (·.1) = none ∧ wpAny c.M A (assignInOrder ((assignEach ts env).map (·.2)) cvs) (fun z1 s' => PostA c A env σ s K s') E s
noncomputable def isLoc (sc : Scope) (x : Str) : Bool := match sc.names.lookup x with
  | some .local | some .cell => true
  | _ => false
theorem isLoc_kind {sc : Scope} {x : Str} (h : isLoc sc x = true) : sc.names.lookup x = some .local ∨ sc.names.lookup x = some .cell := by
  unfold isLoc at h
  split at h <;> simp_all
theorem WA_name {x : Str} {pos : Pos} {v : V} {K : AEnv → Led → Prop} (h : K ((x, v) :: m) σ) (hk : isLoc sc x = true) : WA c d sc (.Name x pos) v m σ K X := by
  intro env A s E cv r rv
  refine wpAny_assign_Name (wpAny_mono (store_name r.ok r.st r.er rv (by unfold Env.kindOf; rw [r.sc]; exact isLoc_kind hk)) ?_ fun z1 z2 x => x)
  rintro _ s' ⟨⟨t, hs, er⟩, _⟩
  exact ⟨_, σ, h, t, hs, er⟩
theorem WAs_nil {K : AEnv → Led → Prop} (h : K m σ) : WAs c d sc [] [] m σ K X := by
  intro env A s E cvs r rv
  simp only [VRels] at rv; subst rv
  exact ⟨rfl, rfl, wpAny_pure ⟨m, σ, h, .refl, r.st, r.er⟩⟩
theorem WAs_cons {t : Expr} {ts : List Expr} {v : V} {vs : List V} {K : AEnv → Led → Prop} (h : WA c d sc t v m σ (fun m₁ σ₁ => WAs c d sc ts vs m₁ σ₁ K X) X)
    (hst : ∀ env, assignEach (t :: ts) env = (false, assign t env) :: assignEach ts env) (hlen : ∀ env, (assignEach ts env).length = vs.length)
    (hfi : ∀ env, (assignEach ts env).findIdx? (·.1) = none) : WAs c d sc (t :: ts) (v :: vs) m σ K X := by
  intro env A s E cvs r rv
  simp only [VRels] at rv
  obtain ⟨cv, cvs', rfl, r1, rs⟩ := rv
  rw [hst env]
  refine ⟨by simp [hlen env], by simp [List.findIdx?_cons, hfi env], ?_⟩
  show wpAny _ _ (do holding cvs' (assign t env cv); assignInOrder ((assignEach ts env).map (·.2)) cvs') _ _ _
  refine wpAny_bind (wpAny_holding (wpAny_mono (h env A s E cv r r1) ?_ fun z1 z2 x => x))
  rintro _ s₁ ⟨m₁, σ₁, h₁, t₁, hs₁, er₁⟩
  exact wpAny_mono (h₁ env A s₁ E cvs' (r.step t₁ hs₁ er₁) (t₁.vps r.er rs)).2.2 (fun z1 z2 p => p.step t₁) fun z1 z2 x => x
theorem WA_tuple (hh : c.k.hd = true) {ts : List Expr} {k : Nat} {pos : Pos} {vs : List V} {K : AEnv → Led → Prop} (h : WAs c d sc ts vs m σ K X) : WA c d sc (.Tuple ts k pos) (.tup vs) m σ K X := by
  intro env A s E cv r rv
  simp only [VRel] at rv
  obtain ⟨a, cs, rfl, ha, p, hl, rs⟩ := rv
  have hlen := rs.length
  obtain ⟨h1, h2, _⟩ := h env A s E cs r rs
  refine wpAny_assign_Tuple (r.a.handled hh) p.isTuple (by simp [h1, hlen]) h2 fun h' hx => ?_
  have hx' : Ext s.heap h' := fun b o e => hx b o (Nat.ne_of_lt (Heap.lt_size e)) e
  have t₁ : Step c.F (owned σ) (owned σ) s { s with heap := h' } := .ext hx' rfl rfl
  have hs₁ : St c A σ h' := r.st.ext hx'
  exact wpAny_mono (h env A { s with heap := h' } E cs (r.estep t₁ hs₁) (t₁.vs rs)).2.2 (fun z1 z2 p => p.step t₁.wider) fun z1 z2 x => x
theorem WSs_nil (h : K .next m σ) : WSs c d sc [] m σ K X := fun env A s E r => wpAny_execs_nil ⟨.next, m, σ, h, .refl, r.st, r.er, rfl⟩
noncomputable def after (K : Fl → AEnv → Led → Prop) (N : AEnv → Led → Prop) : Fl → AEnv → Led → Prop
  | .next, m, σ => N m σ
  | fl, m, σ => K fl m σ
theorem WSs_cons {st : Stmt} {sts : List Stmt} (h : WS c d sc st m σ (after K fun m₁ σ₁ => WSs c d sc sts m₁ σ₁ K X) X) : WSs c d sc (st :: sts) m σ K X := by
  intro env A s E r
  refine wpAny_execs_cons (wpAny_mono (h env A s E r) ?_ fun z1 z2 x => x)
  rintro f s₁ ⟨fl, m₁, σ₁, h₁, t₁, hs₁, er₁, rf⟩
  cases fl with
  | next =>
    cases rf
    exact wpAny_mono (h₁ env A s₁ E (r.step t₁ hs₁ er₁)) (fun z1 z2 p => p.step t₁) fun z1 z2 x => x
  | brk => cases rf; exact ⟨.brk, m₁, σ₁, h₁, t₁, hs₁, er₁, rfl⟩
  | cont => cases rf; exact ⟨.cont, m₁, σ₁, h₁, t₁, hs₁, er₁, rfl⟩
  | ret v => obtain ⟨cv, rfl, rv⟩ := rf; exact ⟨.ret v, m₁, σ₁, h₁, t₁, hs₁, er₁, cv, rfl, rv⟩
noncomputable def Sub (m' m : AEnv) : Prop := ∀ x v, m'.lookup x = some v → m.lookup x = some v
theorem EnvRel.sub {own : List Addr} {env : Env} {m' : AEnv} {h : Heap} (x : EnvRel c own env m h) (k : Sub m' m) : EnvRel c own env m' h := by
  obtain ⟨mc, hn, hm⟩ := x.ns
  exact ⟨⟨mc, hn, fun y v hy => hm y v (k y v hy)⟩, fun y v hy => x.cell y v (k y v hy), x.lnot, x.cnot, x.apart⟩
theorem WSs_sub {sts : List Stmt} {m' : AEnv} (k : Sub m' m) (h : WSs c d sc sts m' σ K X) : WSs c d sc sts m σ K X :=
  fun env A s E r => h env A s E ⟨r.sc, r.ok, r.fr, r.a, r.st, r.er.sub k, r.e⟩
theorem WS_return {e : Expr} {pos : Pos} (h : WE c d sc e m σ (fun v σ₁ => K (.ret v) m σ₁) X) : WS c d sc (.Return (some e) pos) m σ K X := by
  intro env A s E r
  refine wpAny_Return_some (wpAny_mono (h env A s E r.re) ?_ fun z1 z2 x => x)
  rintro cv s₁ ⟨v, σ₁, h₁, t₁, hs₁, rv⟩
  exact ⟨.ret v, m, σ₁, h₁, t₁.wider, hs₁, r.er.mono t₁.kept.wider t₁.grow.wider, cv, rfl, rv⟩
theorem WS_return_none {pos : Pos} (h : K (.ret .none) m σ) : WS c d sc (.Return none pos) m σ K X :=
  fun env A s E r => wpAny_Return_none ⟨.ret .none, m, σ, h, .refl, r.st, r.er, .none, rfl, by simp only [VRel]⟩
theorem WS_pass {pos : Pos} (h : K .next m σ) : WS c d sc (.Pass pos) m σ K X := fun env A s E r => wpAny_Pass ⟨.next, m, σ, h, .refl, r.st, r.er, rfl⟩
theorem WS_continue {pos : Pos} (h : K .cont m σ) : WS c d sc (.Continue pos) m σ K X := fun env A s E r => wpAny_Continue ⟨.cont, m, σ, h, .refl, r.st, r.er, rfl⟩
theorem WS_break {pos : Pos} (h : K .brk m σ) : WS c d sc (.Break pos) m σ K X := fun env A s E r => wpAny_Break ⟨.brk, m, σ, h, .refl, r.st, r.er, rfl⟩
theorem WS_if {t : Expr} {b o : List Stmt} {pos : Pos} (h : WT c d sc t m σ (fun k σ₁ => if k = true then WSs c d sc b m σ₁ K X else WSs c d sc o m σ₁ K X) X) : WS c d sc (.If t b o pos) m σ K X := by
  intro env A s E r
  refine wpAny_If (wpAny_mono (h env A s E r.re) ?_ fun z1 z2 x => x)
  rintro k s₁ ⟨σ₁, h₁, t₁, hs₁⟩
  cases k with
  | true => exact wpAny_mono (h₁ env A s₁ E (r.estep t₁ hs₁)) (fun z1 z2 p => p.step t₁.wider) fun z1 z2 x => x
  | false => exact wpAny_mono (h₁ env A s₁ E (r.estep t₁ hs₁)) (fun z1 z2 p => p.step t₁.wider) fun z1 z2 x => x
theorem WS_expr {e : Expr} {pos : Pos} (h : WE c d sc e m σ (fun z1 σ₁ => K .next m σ₁) X) (hs : ∀ env, swapsWith e none pos.line env = pure false) : WS c d sc (.Expr e pos) m σ K X := by
  intro env A s E r
  refine wpAny_Expr_any (wpAny_mono (h env A s E r.re) ?_ fun z1 z2 x => x) (by unfold interactive; rw [r.ok.kind]; rfl) (hs env)
  rintro cv s₁ ⟨v, σ₁, h₁, t₁, hs₁, rv⟩
  exact ⟨.next, m, σ₁, h₁, t₁.wider, hs₁, r.er.mono t₁.kept.wider t₁.grow.wider, rfl⟩
theorem WS_assign {t v : Expr} {pos : Pos} (h : WE c d sc v m σ (fun w σ₁ => WA c d sc t w m σ₁ (fun m' σ' => K .next m' σ') X) X)
    (hs : ∀ env, env.scope = sc → swapsWithSole [t] v pos.line env = pure false) (hw : ∀ env, swappedStores [t] v env = pure none)
    (he : ∀ env, assignEach [t] env = [(false, assign t env)]) : WS c d sc (.Assign [t] v pos) m σ K X := by
  intro env A s E r
  refine wpAny_Assign_stores (wpAny_mono (h env A s E r.re) ?_ fun z1 z2 x => x) (hs env r.sc) (hw env)
  rintro cv s₁ ⟨w, σ₁, h₁, t₁, hs₁, rw'⟩
  rw [he env]
  show wpAny _ _ (assign t env cv) _ _ _
  refine wpAny_mono (h₁ env A s₁ E cv (r.estep t₁ hs₁) rw') ?_ fun z1 z2 x => x
  rintro _ s₂ ⟨m₂, σ₂, h₂, t₂, hs₂, er₂⟩
  exact ⟨.next, m₂, σ₂, h₂, t₁.wider.trans t₂, hs₂, er₂, rfl⟩
end Mine
end
section
namespace Mine
open PySem
variable {c : Cx} {d : Nat} {sc : Scope} {m : AEnv} {σ : Led} {P : V → Led → Prop} {X : XP} {K : Fl → AEnv → Led → Prop}
noncomputable def NoX : XP := fun z1 z2 => False
theorem EOkS.nox {A : Around} {env : Env} {s : Shared} {E : Value → Shared → Prop} : EOkS c A NoX env σ s E := fun z1 z2 z3 z4 h => h.elim
theorem EOk.nox {A : Around} {own : List Addr} {s : Shared} {E : Value → Shared → Prop} : EOk c A NoX own s E := fun z1 z2 z3 z4 h => h.elim
noncomputable def Cx.pro (c : Cx) (G : List Addr) : Cx := { c with F := G ++ c.F }
theorem St.pro {A : Around} {h : Heap} {G : List Addr} (st : St c A σ h) (hG : ∀ b ∈ G, b ∈ owned σ) : St (c.pro G) A σ h := by
  obtain ⟨l, hl, hf, hd⟩ := st.frames
  refine ⟨st.keep, st.nodup, st.fresh, st.objs, ⟨l, hl, hf, fun L hL => ⟨(hd L hL).1, fun hm => ?_, (hd L hL).2.2⟩⟩, fun b hb => ?_, st.hid⟩
  · rcases List.mem_append.mp hm with q | q
    · exact (hd L hL).1 (hG L q)
    · exact (hd L hL).2.1 q
  · rcases List.mem_append.mp hb with q | q
    · exact st.there (hG b q)
    · exact st.prot b q
theorem St.unpro {A : Around} {h : Heap} {G : List Addr} (st : St (c.pro G) A σ h) : St c A σ h := by
  obtain ⟨l, hl, hf, hd⟩ := st.frames
  exact ⟨st.keep, st.nodup, st.fresh, st.objs, ⟨l, hl, hf, fun L hL => ⟨(hd L hL).1, fun hm => (hd L hL).2.1 (List.mem_append_right _ hm), (hd L hL).2.2⟩⟩, fun b hb => st.prot b (List.mem_append_right _ hb), st.hid⟩
theorem EnvRel.pro {env : Env} {h : Heap} {G : List Addr} (er : EnvRel c (ownS c σ) env m h) (hG : ∀ b ∈ G, b ∈ owned σ) : EnvRel (c.pro G) (ownS c σ) env m h := by
  refine ⟨er.ns, er.cell, ⟨er.lnot.1, er.lnot.2.1, fun hm => ?_⟩, fun x a ha => ?_, er.apart⟩
  · rcases List.mem_append.mp hm with q | q
    · exact er.lnot.1 (List.mem_append_right _ (hG _ q))
    · exact er.lnot.2.2 q
  · obtain ⟨h1, h2, h3, h4, h5⟩ := er.cnot x a ha
    refine ⟨h1, h2, h3, fun hm => ?_, h5⟩
    rcases List.mem_append.mp hm with q | q
    · exact h1 (List.mem_append_right _ (hG _ q))
    · exact h4 q
theorem EnvRel.unpro {own : List Addr} {env : Env} {h : Heap} {G : List Addr} (er : EnvRel (c.pro G) own env m h) : EnvRel c own env m h := by
  refine ⟨er.ns, er.cell, ⟨er.lnot.1, er.lnot.2.1, fun hm => er.lnot.2.2 (List.mem_append_right _ hm)⟩, fun x a ha => ?_, er.apart⟩
  obtain ⟨h1, h2, h3, h4, h5⟩ := er.cnot x a ha
  exact ⟨h1, h2, h3, fun hm => h4 (List.mem_append_right _ hm), h5⟩
theorem Step.unpro {G own own' : List Addr} {s s' : Shared} (t : Step (c.pro G).F own own' s s') : Step c.F own own' s s' := ⟨t.kept, t.there, fun b hb => t.prot b (List.mem_append_right _ hb), t.grow, t.os, t.gens⟩
noncomputable def ButL (wr : List Addr) (h h' : Heap) : Prop := ∀ b o, b ∉ wr → h.get? b = some o → h'.get? b = some o
theorem ButL.carries {own wr : List Addr} {h h' : Heap} (hq : ∀ b ∈ wr, ∀ o, h.get? b = some o → ¬ Frozen o) (k : ButL wr h h') : Carries own own h h' := fun a o e ha f => ⟨k a o (fun q => hq a q o e f) e, ha⟩
theorem VRel.writeL {own wr : List Addr} {h h' : Heap} (hq : ∀ b ∈ wr, ∀ o, h.get? b = some o → ¬ Frozen o) (k : ButL wr h h') (v : V) (cv : Value) (r : VRel h own v cv) : VRel h' own v cv := r.carry (k.carries hq)
theorem VRels.writeL {own wr : List Addr} {h h' : Heap} (hq : ∀ b ∈ wr, ∀ o, h.get? b = some o → ¬ Frozen o) (k : ButL wr h h') (vs : List V) (cs : List Value) (r : VRels h own vs cs) : VRels h' own vs cs := r.carry (k.carries hq)
theorem ORel.writeL {own wr : List Addr} {h h' : Heap} (hq : ∀ b ∈ wr, ∀ o, h.get? b = some o → ¬ Frozen o) (k : ButL wr h h') {K : Base} {a : Addr} {o : O} (ha : ∀ b ∈ o.addrs a, b ∉ wr) (r : ORel K h own a o) : ORel K h' own a o := by
  cases o with
  | list vs =>
    obtain ⟨cs, ⟨n, p⟩, hl, r⟩ := r
    exact ⟨cs, ⟨n, k a _ (ha a (by simp [O.addrs])) p⟩, hl, VRels.writeL hq k vs cs r⟩
  | dictI _ => exact DictR.carry r (fun ob' e => k a _ (ha a (by simp [O.addrs])) e) (k.carries hq)
  | dictS _ => exact DictR.carry r (fun ob' e => k a _ (ha a (by simp [O.addrs])) e) (k.carries hq)
  | inst _ _ _ => exact r.elim
  | exc C => obtain ⟨o, vs, e, q⟩ := r; exact ⟨o, vs, k a _ (ha a (by simp [O.addrs])) e, q⟩
structure WrOk (c : Cx) (A : Around) (σ : Led) (wr : List Addr) (h : Heap) : Prop where
  notown : ∀ b ∈ wr, b ∉ owned σ
  base : ∀ b ∈ wr, c.k.h0.get? b = none
  notF : ∀ b ∈ wr, b ∉ c.F
  notH : ∀ b ∈ wr, b ∉ c.H
  seq : ∀ b ∈ wr, ∀ o, h.get? b = some o → ¬ Frozen o
  notfr : ∀ l, A.frames = some l → ∀ L ∈ l.filterMap (·.frame), L ∉ wr
theorem St.writeL {A : Around} {wr : List Addr} {h h' : Heap} (st : St c A σ h) (w : WrOk c A σ wr h) (k : ButL wr h h') : St c A σ h' := by
  refine ⟨fun b o e => k b o (fun q => by rw [w.base b q] at e; cases e) (st.keep b o e), st.nodup, st.fresh, fun a o hm => ?_, ?_, fun b hb => ?_, fun b hb => ?_⟩
  · exact (st.objs a o hm).writeL w.seq k fun b hb q => w.notown b q (mem_owned.mpr ⟨a, o, hm, hb⟩)
  · obtain ⟨l, hl, hfr, hd⟩ := st.frames
    refine ⟨l, hl, funFrames_of hfr fun L hL => ?_, fun L hL => ⟨(hd L hL).1, (hd L hL).2.1, fun o e => ?_⟩⟩
    · obtain ⟨_, o, ho, hnf⟩ := hfr.mem hL
      exact ⟨o, k L o (w.notfr l hl L hL) ho, hnf⟩
    · obtain ⟨_, o', e', _⟩ := hfr.mem hL
      rw [k L o' (w.notfr l hl L hL) e'] at e; cases e
      exact (hd L hL).2.2 o e'
  · obtain ⟨o, e⟩ := st.prot b hb
    exact ⟨o, k b o (fun q => w.notF b q hb) e⟩
  · obtain ⟨q1, o, e⟩ := st.hid b hb
    exact ⟨q1, o, k b o (fun q => w.notH b q hb) e⟩
theorem EnvRel.writeL {A : Around} {env : Env} {wr : List Addr} {h h' : Heap} (er : EnvRel c (ownS c σ) env m h) (w : WrOk c A σ wr h) (hp : ∀ b ∈ Mine.places env, b ∉ wr) (k : ButL wr h h') : EnvRel c (ownS c σ) env m h' := by
  obtain ⟨mc, hn, hm⟩ := er.ns
  have hL : env.locals ∉ wr := hp _ (by simp [Mine.places])
  have hcp : ∀ x b, (x, b) ∈ env.cells → b ∉ wr := fun x b hm => hp b (by simp only [Mine.places, List.mem_cons, List.mem_map]; exact .inr ⟨_, hm, rfl⟩)
  have hcell : ∀ {a : Addr} {v : Option Value}, a ∉ wr → h.IsCell a v → h'.IsCell a v := fun {a v} ha hc => by
    obtain ⟨oc, hoc, hdc⟩ := hc
    exact ⟨oc, k a oc ha hoc, hdc⟩
  refine ⟨⟨mc, ?_, fun y v hy hk => ?_⟩, fun y v hy hk => ?_, er.lnot, fun y a ha => ?_, er.apart⟩
  · obtain ⟨oL, es, ep, ho, r⟩ := hn
    exact ⟨oL, es, ep, k _ _ hL ho, r⟩
  · obtain ⟨cv, e, r⟩ := hm y v hy hk
    exact ⟨cv, e, VRel.writeL w.seq k v cv r⟩
  · obtain ⟨a, cv, e, hc, r⟩ := er.cell y v hy hk
    exact ⟨a, cv, e, hcell (hcp _ _ (mem_of_lookup e)) hc, VRel.writeL w.seq k v cv r⟩
  · obtain ⟨h1, h2, h3, h4, v, h5⟩ := er.cnot y a ha
    exact ⟨h1, h2, h3, h4, v, hcell (hcp _ _ ha) h5⟩
theorem iter_notFrozen {o : Obj} (h : ∃ xs, o.data = .fields xs) (hc : o.cls ≠ .type "range") : ¬ Frozen o := fun f => by
  obtain ⟨ys, hd⟩ := h
  rcases f with ⟨xs, n, q⟩ | ⟨_, q⟩ | ⟨_, _, _, q⟩
  · rw [hd] at q; cases q
  · exact hc q
  · rw [hd] at q; cases q
theorem Step.writeL {F own own' wr : List Addr} {s s' : Shared} {h' : Heap} {tk : Nat} (t : Step F own own' s s') (hn : ∀ b ∈ wr, s.heap.get? b = none) (hF : ∀ b ∈ wr, b ∉ F) (k : ButL wr s'.heap h') : Step F own own' s { s' with heap := h', toks := tk } := by
  refine ⟨fun b o e hb => ?_, fun b o e => (t.there b o e).imp fun o' e' => k b o' (fun q => by rw [hn b q] at e; cases e) e', fun b hb o e => k b o (fun q => hF b q hb) (t.prot b hb o e), t.grow, t.os, t.gens⟩
  obtain ⟨sl, e', hs⟩ := t.kept b o e hb
  exact ⟨sl, k b _ (fun q => by rw [hn b q] at e; cases e) e', hs⟩
noncomputable def IterOwn (o : Obj) : Prop := ∀ n, o.cls = .type n → ["enumerate", "zip", "dict_itemiterator", "dict_reverseitemiterator", "odict_iterator", "itertools.zip_longest", "itertools.pairwise"].contains n = false
theorem letOwned {M : Model} {A : Around} {E : Value → Shared → Prop} {s : Shared} {t : Expr} {I : Addr} {o : Obj} {v : Value} {Q : Unit → Shared → Prop} (ho : s.heap.get? I = some o) (hi : IterOwn o) (h : Q () s) :
    wpAny M A (letOwnedTupleGo t (.ref I) v) Q E s := by
  have key : ∀ es k z, wpAny M A (letOwnedTupleGo (.Tuple es k z) (.ref I) v) Q E s := fun es k z => by
    cases v with
    | ref a =>
      refine wpAny_bind (wpAny_load ho ?_)
      cases o with
      | mk cls dict data slots =>
        cases cls with
        | type n =>
          cases data with
          | fields vs =>
            show wpAny M A (if (["enumerate", "zip", "dict_itemiterator", "dict_reverseitemiterator", "odict_iterator", "itertools.zip_longest", "itertools.pairwise"].contains n && vs[0]? == some (rawInt a)) = true then _ else pure ()) Q E s
            rw [hi n rfl]
            exact wpAny_pure h
          | _ => exact wpAny_pure h
        | _ => exact wpAny_pure h
    | _ => exact wpAny_pure h
  cases t with
  | Tuple es k z => exact key es k z
  | List es z => exact key es 0 z
  | _ => exact wpAny_pure h
structure ItOk (c : Cx) (A : Around) (σ : Led) (vs : List V) (hb h : Heap) (I : Addr) (fp wr : List Addr) (Pf : Nat → Value → Prop) (Stf : Nat → Heap → Prop) : Prop where
  walks : Walks c.k.prog c.k.w A I fp wr vs.length Pf Stf
  size : vs.length ≤ sizeLine
  start : Stf 0 h
  ext : Ext hb h
  new : ∀ b ∈ wr, hb.get? b = none
  obj : ∀ i h, Stf i h → ∀ b ∈ wr, ∃ o, h.get? b = some o ∧ (∃ xs, o.data = .fields xs) ∧ o.cls ≠ .type "range"
  own : ∀ i h, Stf i h → ∃ o, h.get? I = some o ∧ IterOwn o
  fp : ∀ b ∈ fp, b ∈ wr ∨ b ∈ c.F ∨ (b ∉ owned σ ∧ ∃ o, hb.get? b = some o ∧ ∃ xs n, o.data = .seq xs n)
  elem : ∀ h' own', Carries (ownS c σ) own' hb h' → ∀ i v x, vs[i]? = some v → Pf i x → VRel h' own' v x
noncomputable def IterS (c : Cx) (σ : Led) (lv : V) (vs : List V) : Prop :=
  ∀ (A : Around) (s : Shared) (E : Value → Shared → Prop) (cv : Value), A.handled = none → St c A σ s.heap → VRel s.heap (ownS c σ) lv cv →
    wpAny c.M A (pyIter cv) (fun it s' => ∃ I fp wr Pf Stf, it = .ref I ∧ ItOk c A σ vs s.heap s'.heap I fp wr Pf Stf ∧ s'.os = s.os ∧ s'.gens = s.gens) E s
noncomputable def WLoop (c : Cx) (d : Nat) (sc : Scope) (t : Expr) (body : List Stmt) (K : Fl → AEnv → Led → Prop) : List V → AEnv → Led → Prop
  | [], m, σ => K .next m σ
  | v :: vs, m, σ => WA c d sc t v m σ (fun m₁ σ₁ => WSs c d sc body m₁ σ₁ (fun fl m₂ σ₂ => match fl with
      | .next | .cont => WLoop c d sc t body K vs m₂ σ₂
      | .brk => K .next m₂ σ₂
      | .ret w => K (.ret w) m₂ σ₂) NoX) NoX
theorem WS_for (hh : c.k.hd = true) {t iter : Expr} {body : List Stmt} {pos : Pos}
    (h : WE c d sc iter m σ (fun lv σ₁ => ∃ vs G, (∀ b ∈ G, b ∈ owned σ₁) ∧ IterS (c.pro G) σ₁ lv vs ∧ WLoop (c.pro G) d sc t body K vs m σ₁) X)
    (hs : ∀ env x, foldedSetIterable iter env x = pure x) : WS c d sc (.For t iter body [] pos) m σ K X := by
  intro env A s E r
  refine wpAny_For (wpAny_mono (h env A s E r.re) ?_ fun z1 z2 x => x) (hs env)
  rintro cl s₁ ⟨lv, σ₁, ⟨vs, G, hG, hI, hL⟩, t₁, hs₁, rl⟩
  have er₁ := r.er.mono t₁.kept.wider t₁.grow.wider
  refine wpAny_mono (hI A s₁ E cl (r.a.handled hh) (hs₁.pro hG) rl) ?_ fun z1 z2 x => x
  rintro it s₂ ⟨I, fp, wr, Pf, Stf, rfl, ok, hos, hgens⟩
  have hpl := er₁.places
  have hpn : ∀ b ∈ places env, b ∉ wr := fun b hb hw => by
    have hn := ok.new b hw
    simp only [places, List.mem_cons, List.mem_map] at hb
    rcases hb with rfl | ⟨⟨x, a⟩, hm, rfl⟩
    · obtain ⟨mc, ⟨oL, es, ep, ho, _⟩, _⟩ := er₁.ns; rw [hn] at ho; cases ho
    · obtain ⟨_, _, _, _, v, oc, hoc, _⟩ := er₁.cnot x a hm; rw [hn] at hoc; cases hoc
  have hw0 : ∀ b ∈ wr, c.k.h0.get? b = none := fun b hb => by
    cases e : c.k.h0.get? b with
    | none => rfl
    | some o => have := hs₁.keep _ _ e; rw [ok.new b hb] at this; cases this
  have hwF : ∀ b ∈ wr, b ∉ (c.pro G).F := fun b hb hm => by
    obtain ⟨o, e⟩ := (hs₁.pro hG).prot b hm
    rw [ok.new b hb] at e; cases e
  have hwH : ∀ b ∈ wr, b ∉ (c.pro G).H := fun b hb hm => by
    obtain ⟨_, o, e⟩ := (hs₁.pro hG).hid b hm
    rw [ok.new b hb] at e; cases e
  -- the end
  have fin : ∀ fl f m' σ' s', K fl m' σ' → Step (c.pro G).F (places env ++ owned σ₁) (places env ++ owned σ') s₁ s' → St (c.pro G) A σ' s'.heap → EnvRel (c.pro G) (ownS c σ') env m' s'.heap → FlRel s'.heap (ownS c σ') fl f →
      PostS c A env σ s K f s' := fun fl f m' σ' s' hk hst h1 h2 h3 => ⟨fl, m', σ', hk, t₁.wider.trans hst.unpro, h1.unpro, h2.unpro, h3⟩
  refine codeAny_forLoop_any (fun n s' => ∃ j m' σ', n = vs.length + 1 - j ∧ j ≤ vs.length ∧ WLoop (c.pro G) d sc t body K (vs.drop j) m' σ' ∧ Step (c.pro G).F (places env ++ owned σ₁) (places env ++ owned σ') s₁ s' ∧
      St (c.pro G) A σ' s'.heap ∧ EnvRel (c.pro G) (ownS c σ') env m' s'.heap ∧ Stf j s'.heap ∧ ∀ b ∈ wr, b ∉ owned σ') ?_ (vs.length + 1) ?_
  · rintro n s' ⟨j, m', σ', rfl, hj, hW, hst, hSt, her, hStf, hwo⟩
    have wok : WrOk (c.pro G) A σ' wr s'.heap := ⟨hwo, hw0, hwF, hwH, fun b hb o e => by
      obtain ⟨o', e', q1, q2⟩ := ok.obj j _ hStf b hb
      rw [e] at e'; cases e'; exact iter_notFrozen q1 q2, fun l hl L hL hw => by
      obtain ⟨l', hl', hf', _⟩ := hs₁.frames
      rw [hl] at hl'; cases hl'
      obtain ⟨_, o, e, _⟩ := hf'.mem hL
      rw [ok.new L hw] at e; cases e⟩
    by_cases hlt : j < vs.length
    · refine ok.walks.item j s' _ _ hlt hStf fun v h' tk hP hStf' hk => ?_
      have hk' : ButL wr s'.heap h' := fun b o hb e => hk b o hb e
      have hst₃ : Step (c.pro G).F (places env ++ owned σ₁) (places env ++ owned σ') s₁ { s' with heap := h', toks := tk } := hst.writeL ok.new hwF hk'
      have hSt₃ := hSt.writeL wok hk'
      have her₃ := her.writeL wok hpn hk'
      obtain ⟨oI, hoI, hown⟩ := ok.own _ _ hStf'
      refine letOwned (s := { s' with heap := h', toks := tk }) hoI hown ?_
      have hdrop : vs.drop j = vs[j] :: vs.drop (j + 1) := List.drop_eq_getElem_cons hlt
      rw [hdrop] at hW
      have hrel : VRel h' (ownS (c.pro G) σ') vs[j] v := ok.elem h' _ (hst₃.carriesP er₁) j vs[j] v (List.getElem?_eq_getElem hlt) hP
      have rs₃ : ∀ E', RS (c.pro G) d sc m' σ' NoX env A { s' with heap := h', toks := tk } E' := fun E' => ⟨r.sc, r.ok, r.fr, r.a, hSt₃, her₃, .nox⟩
      refine wpAny_mono (hW env A _ _ v (rs₃ _) hrel) ?_ fun z1 z2 x => x
      rintro _ s₄ ⟨m₄, σ₄, h₄, t₄, hs₄, er₄⟩
      refine wpAny_mono (h₄ env A s₄ _ ((rs₃ _).step t₄ hs₄ er₄)) ?_ fun z1 z2 x => x
      rintro f s₅ ⟨fl, m₅, σ₅, h₅, t₅, hs₅, er₅, rf⟩
      have t₃₅ := t₄.trans t₅
      have hwo₅ : ∀ b ∈ wr, b ∉ owned σ₅ := fun b hb hm => by
        obtain ⟨o, e, _⟩ := ok.obj _ _ hStf' b hb
        have hnot : b ∉ places env ++ owned σ' := fun q => (List.mem_append.mp q).elim (fun q => hpn b q hb) (hwo b hb)
        exact t₃₅.grow.notin hnot e (List.mem_append_right _ hm)
      have hfr : Stf (j + 1) s₅.heap := by
        refine ok.walks.frame _ _ _ hStf' fun b hb o e => ?_
        rcases ok.fp b hb with q | q | ⟨q, ob, hob, xs, n, hd⟩
        · obtain ⟨o', e', ⟨ys, hx⟩, _⟩ := ok.obj _ _ hStf' b q
          rw [e] at e'; cases e'
          exact t₃₅.kept.exact e (fun z => (List.mem_append.mp z).elim (fun z => hpn b z q) (hwo b q)) (by rintro ⟨_, _, z⟩; rw [hx] at z; cases z)
        · exact t₃₅.prot b q o e
        · have hnp : b ∉ places env := fun z => hpl b z ob hob (.inl ⟨xs, n, hd⟩)
          have hnot : b ∉ places env ++ owned σ₁ := fun z => (List.mem_append.mp z).elim hnp q
          have hob₃ : h'.get? b = some ob := hst₃.kept.exact hob hnot (by rintro ⟨_, _, z⟩; rw [hd] at z; cases z)
          have e : h'.get? b = some o := e
          rw [hob₃] at e; cases e
          exact t₃₅.kept.exact hob₃ (hst₃.grow.notin hnot hob) (by rintro ⟨_, _, z⟩; rw [hd] at z; cases z)
      have hst₅ := hst₃.trans t₃₅
      cases fl with
      | next => cases rf; exact ⟨vs.length + 1 - (j + 1), by (exact Ar.lin 0 2 (.lt (.s (.a (.v 0) (.k 1)) (.a (.v 1) (.k 1))) (.s (.a (.v 0) (.k 1)) (.v 1))) [(.lt (.v 1) (.v 0))] (by kernel_rfl) [] [_, _] rfl rfl hlt), j + 1, m₅, σ₅, rfl, hlt, h₅, hst₅, hs₅, er₅, hfr, hwo₅⟩
      | cont => cases rf; exact ⟨vs.length + 1 - (j + 1), by (exact Ar.lin 0 2 (.lt (.s (.a (.v 0) (.k 1)) (.a (.v 1) (.k 1))) (.s (.a (.v 0) (.k 1)) (.v 1))) [(.lt (.v 1) (.v 0))] (by kernel_rfl) [] [_, _] rfl rfl hlt), j + 1, m₅, σ₅, rfl, hlt, h₅, hst₅, hs₅, er₅, hfr, hwo₅⟩
      | brk => cases rf; exact fin .next .next m₅ σ₅ s₅ h₅ hst₅ hs₅ er₅ rfl
      | ret w =>
        obtain ⟨cv, rfl, rv⟩ := rf
        exact fin (.ret w) (.ret cv) m₅ σ₅ s₅ h₅ hst₅ hs₅ er₅ ⟨cv, rfl, rv⟩
    · have hjl : j = vs.length := Nat.le_antisymm hj (Nat.not_lt.mp hlt)
      subst hjl
      refine ok.walks.done s' _ _ hStf fun h' tk hk => ?_
      have hk' : ButL wr s'.heap h' := fun b o hb e => hk b o hb e
      refine wpAny_execs_nil ?_
      rw [List.drop_length] at hW
      exact fin .next .next m' σ' _ hW (hst.writeL ok.new hwF hk') (hSt.writeL wok hk') (her.writeL wok hpn hk') rfl
  · refine ⟨0, m, σ₁, rfl, Nat.zero_le _, hL, ⟨ok.ext.kept, fun b o e => ⟨o, ok.ext b o e⟩, fun b z1 o e => ok.ext b o e, .refl, hos, hgens⟩, (hs₁.pro hG).ext ok.ext, (er₁.pro hG).mono ok.ext.kept Grow.refl, ok.start, fun b hb hm => ?_⟩
    obtain ⟨o, e⟩ := hs₁.there hm
    rw [ok.new b hb] at e; cases e
end Mine
end
section
namespace Mine
open PySem
variable {c : Cx} {d : Nat} {sc : Scope} {m : AEnv} {σ : Led} {P : V → Led → Prop} {X : XP} {K : Fl → AEnv → Led → Prop}
structure Noted (e : Addr) (cls : Value) (base : Heap) (fr : List Addr) (h h' : Heap) : Prop where
  pre : ∃ oe vs, h.get? e = some oe ∧ oe.cls = cls ∧ oe.data = .fields vs
  keep : ∀ b o, h.get? b = some o → b ≠ e → (∀ vs, o.data = .fields vs → o.cls = .type "traceback" → base.get? b ≠ none) → ∃ sl, h'.get? b = some { o with slots := sl } ∧ (b ∉ fr → sl = o.slots)
  there : ∀ b o, h.get? b = some o → ∃ o', h'.get? b = some o'
  exc : ExcAt e cls base h'
section
variable {M : Model} {A : Around} {E : Value → Shared → Prop} {s : Shared}
theorem note_new {base b0 : Heap} {env : Env} {outer : List Env} {L e : Addr} {oe : Obj} {vs : Array Value} {head : Value} {had : Bool} {Q : Unit → Shared → Prop}
    (hfr : A.frames = some (env :: outer)) (hl : s.heap.FunFrames b0 (env :: outer)) (hf : env.frame = some L) (he : s.heap.get? e = some oe) (hen : base.get? e = none) (hbs : ∀ b o, base.get? b = some o → ∃ o', s.heap.get? b = some o')
    (hC : ∃ C, oe.cls = .ref C) (hd : oe.data = .fields vs) (hsz : 1 < vs.size) (h : ∀ h', Noted e oe.cls base ((env :: outer).filterMap (·.frame)) s.heap h' → Q () { s with heap := h' }) :
    wpAny M A (do let a ← frameOf env; let pl ← entryPlaceOf L had; let b ← EntryCells.newEntry head a .none (rawInt L) .none pl; setField (.ref e) 1 b) (fun z1 s' => wpAny M A (setFlight (.ref e) none) Q E s') E s := by
  have hene : e ∉ (env :: outer).filterMap (·.frame) := fun hm => by
    obtain ⟨_, o, ho, hnf⟩ := hl.mem hm
    rw [he] at ho; cases ho; exact hnf vs hd
  refine wpAny_bind (wpAny_frameOf_fun hfr hl hf fun h₁ hs₁ => ?_)
  refine wpAny_bind (wpAny_entryPlaceOf fun pl hpl => ?_)
  unfold EntryCells.newEntry newFields
  refine wpAny_bind (wpAny_newObj_type ?_ (hpl.sizeOk5 _ _ _ _ _))
  have h3 : (([head, .ref L, .none, rawInt L, .none] ++ (if pl.isEmpty then List.replicate 6 Value.none else pl)).toArray)[3]? = some (rawInt L) := by simp
  generalize ([head, .ref L, .none, rawInt L, .none] ++ (if pl.isEmpty then List.replicate 6 Value.none else pl)).toArray = fs at h3 ⊢
  have he₁ : h₁.get? e = some oe := (hs₁.2.1 e hene).trans he
  have hn₁ : ∀ b o, s.heap.get? b = some o → ∃ sl, h₁.get? b = some { o with slots := sl } ∧ (b ∉ (env :: outer).filterMap (·.frame) → sl = o.slots) := fun b o q => by
    obtain ⟨sl, e'⟩ := hs₁.2.2 b o q
    refine ⟨sl, e', fun hb => ?_⟩
    rw [hs₁.2.1 b hb, q] at e'
    exact (congrArg Obj.slots (Option.some.inj e')).symm
  have he₂ := Heap.get?_push_of_some (h := h₁) { cls := .type "traceback", dict := none, data := .fields fs } he₁
  refine wpAny_setField he₂ hd hsz ?_
  have hTe : h₁.objs.size ≠ e := Nat.ne_of_gt (Heap.lt_size he₁)
  have hd₃ := Obj.data_mapFields hd (·.setIfInBounds 1 (Value.ref h₁.objs.size))
  have he₃ := Heap.get?_update_self (Obj.mapFields (·.setIfInBounds 1 (Value.ref h₁.objs.size))) he₂ (Obj.isFreed_of_fields hd₃)
  have hT₃ := (Heap.get?_update_other (h₁.push { cls := .type "traceback", dict := none, data := .fields fs }) (Obj.mapFields (·.setIfInBounds 1 (Value.ref h₁.objs.size))) (Ne.symm hTe)).trans (Heap.get?_push_size h₁ rfl)
  unfold setFlight
  refine wpAny_bind (wpAny_field he₃ hd₃ (x := .ref h₁.objs.size) (by simp [hsz]) ?_)
  rw [if_pos (show (Value.ref h₁.objs.size != Value.none) = true from by simp)]
  refine wpAny_setField hT₃ rfl (Array.getElem?_eq_some_iff.mp h3).1 (h _ ?_)
  have keep : ∀ b o, b ≠ e → h₁.get? b = some o → (((h₁.push { cls := .type "traceback", dict := none, data := .fields fs }).update e (Obj.mapFields (·.setIfInBounds 1 (Value.ref h₁.objs.size)))).update h₁.objs.size
      (Obj.mapFields (·.setIfInBounds 3 ((none : Option Addr).elim Value.none fun f => rawInt f)))).get? b = some o := fun b o hbe hb => by
    rw [Heap.get?_update_other _ _ (Nat.ne_of_gt (Heap.lt_size hb)), Heap.get?_update_other _ _ (Ne.symm hbe)]
    exact Heap.get?_push_of_some _ hb
  have hE := (Heap.get?_update_other _ (Obj.mapFields (·.setIfInBounds 3 ((none : Option Addr).elim Value.none fun f => rawInt f))) hTe).trans he₃
  have hT := Heap.get?_update_self (Obj.mapFields (·.setIfInBounds 3 ((none : Option Addr).elim Value.none fun f => rawInt f))) hT₃ (Obj.isFreed_of_fields (Obj.data_mapFields rfl _))
  refine ⟨⟨_, _, he, rfl, hd⟩, fun b o q hb z1 => ?_, fun b o q => ?_, hen, hC, _, _, hE, Obj.cls_mapFields _ _, hd₃, .inr ⟨h₁.objs.size, _, _, by simp [hsz], ?_, hTe, hT, Obj.cls_mapFields _ _, Obj.data_mapFields rfl _, ?_⟩⟩
  · obtain ⟨sl, q1, q2⟩ := hn₁ b o q
    exact ⟨sl, keep b _ hb q1, q2⟩
  · by_cases hb : b = e
    · rw [hb]; exact ⟨_, hE⟩
    · obtain ⟨sl, q1, _⟩ := hn₁ b o q
      exact ⟨_, keep b _ hb q1⟩
  · cases q : base.get? h₁.objs.size with
    | none => rfl
    | some o =>
      obtain ⟨o', q1⟩ := hbs _ _ q
      obtain ⟨sl, q2, _⟩ := hn₁ _ _ q1
      exact absurd (Heap.lt_size q2) (Nat.lt_irrefl _)
  · have := (Array.getElem?_eq_some_iff.mp h3).1
    simp [this]
theorem note_at {base b0 : Heap} {env : Env} {outer : List Env} {L e : Addr} {cls : Value} {Q : Unit → Shared → Prop}
    (hfr : A.frames = some (env :: outer)) (hl : s.heap.FunFrames b0 (env :: outer)) (hf : env.frame = some L) (he : ExcAt e cls base s.heap) (hbs : ∀ b o, base.get? b = some o → ∃ o', s.heap.get? b = some o')
    (h : ∀ h', Noted e cls base ((env :: outer).filterMap (·.frame)) s.heap h' → Q () { s with heap := h' }) : wpAny M A (noteFrame (.ref e) env) (fun z1 s' => wpAny M A (setFlight (.ref e) none) Q E s') E s := by
  obtain ⟨hen, hC, oe, vs, ho, rfl, hd, h1⟩ := he
  unfold noteFrame
  simp only [hf]
  rcases h1 with h1 | ⟨T, oT, ts, h1, hnT, hTe, hT, hcT, hdT, h3⟩
  · refine wpAny_bind (wpAny_field ho hd h1 ?_)
    rw [if_neg (by decide)]
    exact note_new hfr hl hf ho hen hbs hC hd (Array.getElem?_eq_some_iff.mp h1).1 h
  · refine wpAny_bind (wpAny_field ho hd h1 ?_)
    rw [if_pos (show (Value.ref T != Value.none) = true from by simp)]
    refine wpAny_bind (wpAny_field hT hdT h3 ?_)
    rw [if_neg (show ¬ ((Value.none == rawInt L) = true) from by simp [rawInt])]
    refine wpAny_bind (wpAny_setField hT hdT (Array.getElem?_eq_some_iff.mp h3).1 ?_)
    have other : ∀ b, b ≠ T → (s.heap.update T (Obj.mapFields (·.setIfInBounds 3 Value.none))).get? b = s.heap.get? b := fun b hb => Heap.get?_update_other _ _ (Ne.symm hb)
    have hT' := Heap.get?_update_self (Obj.mapFields (·.setIfInBounds 3 Value.none)) hT (Obj.isFreed_of_fields (Obj.data_mapFields hdT _))
    have thr : ∀ b o, s.heap.get? b = some o → ∃ o', (s.heap.update T (Obj.mapFields (·.setIfInBounds 3 Value.none))).get? b = some o' := fun b o q => by
      by_cases hb : b = T
      · rw [hb]; exact ⟨_, hT'⟩
      · exact ⟨o, (other b hb).trans q⟩
    refine note_new (base := base) hfr (hl.of_keeps fun b o hb hnf => ⟨o, (other b fun q => by rw [q, hT] at hb; cases hb; exact hnf ts hdT).trans hb, rfl⟩) hf ((other e (Ne.symm hTe)).trans ho) hen
      (fun b o q => (hbs b o q).elim fun o' q' => thr b o' q') hC hd (Array.getElem?_eq_some_iff.mp h1).1 fun h' x => h h' ⟨⟨_, _, ho, rfl, hd⟩, fun b o q hb hc => ?_, fun b o q => (thr b o q).elim fun o' q' => x.there b o' q', x.exc⟩
    exact x.keep b o ((other b fun r => by rw [r] at q hc; rw [hT] at q; cases q; exact hc _ hdT hcT hnT).trans q) hb hc
end
section
variable {e : Addr} {cls : Value} {base h h' : Heap} {fr : List Addr} {b : Addr} {o : Obj}
theorem Noted.plain (n : Noted e cls base fr h h') (q : h.get? b = some o) (hd : ∀ vs, o.data ≠ .fields vs) : ∃ sl, h'.get? b = some { o with slots := sl } ∧ (b ∉ fr → sl = o.slots) := by
  obtain ⟨oe, vs, k1, _, k2⟩ := n.pre
  exact n.keep b o q (fun r => by rw [r, k1] at q; cases q; exact hd vs k2) fun vs k => absurd k (hd vs)
theorem Noted.old (n : Noted e cls base fr h h') (q : h.get? b = some o) (hb : base.get? b ≠ none) : ∃ sl, h'.get? b = some { o with slots := sl } ∧ (b ∉ fr → sl = o.slots) :=
  n.keep b o q (fun r => hb (r ▸ n.exc.new)) fun z1 z2 z3 => hb
theorem Noted.carries {own : List Addr} (n : Noted e cls base fr h h') (hfr : ∀ L ∈ fr, ∀ o, h.get? L = some o → Obj.isDict o) : Carries own own h h' := fun a o q ha f => ⟨by
  obtain ⟨oe, vs, k1, k0, k2⟩ := n.pre
  obtain ⟨C, rfl⟩ := n.exc.own
  obtain ⟨sl, r1, r2⟩ := n.keep a o q (fun r => by
      rw [r, k1] at q; cases q
      rcases f with ⟨xs, n, r⟩ | ⟨_, r⟩ | ⟨_, _, _, r⟩
      · rw [k2] at r; cases r
      · rw [k0] at r; cases r
      · rw [k2] at r; cases r) fun vs k k' => by
      rcases f with ⟨xs, n, r⟩ | ⟨_, r⟩ | ⟨_, _, _, r⟩
      · rw [k] at r; cases r
      · rw [k'] at r; exact absurd r (by decide)
      · rw [k] at r; cases r
  rw [r1, r2 fun hm => f.notDict (hfr a hm o q)], ha⟩
theorem dict_plain {vs : Array Value} (k : Obj.isDict o) : o.data ≠ .fields vs := fun r => by obtain ⟨es, ep, k⟩ := k; rw [k] at r; cases r
theorem St.noted {A : Around} {l : List Env} (st : St c A σ h) (hA : A.frames = some l) (n : Noted e cls base (l.filterMap (·.frame)) h h') (h0b : ∀ b o, c.k.h0.get? b = some o → base.get? b ≠ none) : St c A σ h' := by
  obtain ⟨l', hl', hf, hdd⟩ := st.frames
  have : l' = l := by rw [hA] at hl'; exact (Option.some.inj hl').symm
  subst this
  have car := n.carries (own := ownS c σ) fun L hL => (hdd L hL).2.2
  have exact_ : ∀ a ∈ owned σ, ∀ o, h.get? a = some o → (∀ vs, o.data ≠ .fields vs) → h'.get? a = some o := fun a ha o q hd => by
    obtain ⟨sl, r1, r2⟩ := n.plain q hd
    rw [r1, r2 fun hm => (hdd a hm).1 ha]
  refine ⟨fun b o q => ?_, st.nodup, st.fresh, fun a x hm => ?_, ⟨l', hA, hf.of_keeps fun b o q hd => ?_, fun L hL => ⟨(hdd L hL).1, (hdd L hL).2.1, fun o q => ?_⟩⟩, fun b hb => ?_, fun b hb => ⟨(st.hid b hb).1, ?_⟩⟩
  · obtain ⟨sl, r1, r2⟩ := n.old (st.keep b o q) (h0b b o q)
    rw [r1, r2 fun hm => by rw [(hf.mem hm).1] at q; cases q]
  · have ha : a ∈ owned σ := mem_owned.mpr ⟨a, x, hm, by cases x <;> simp [O.addrs]⟩
    have r := st.objs a x hm
    cases x with
    | list vs =>
      obtain ⟨cs, ⟨k, p⟩, hsz, rs⟩ := r
      exact ⟨cs, ⟨k, exact_ a ha _ p fun vs q => by cases q⟩, hsz, rs.carry car⟩
    | dictI kvs =>
      refine DictR.carry r (fun o q => exact_ a ha o q ?_) car
      obtain ⟨_, _, ⟨o', es, ep, q', _, q2, _⟩, _⟩ := r
      rw [q'] at q; cases q; exact fun vs => dict_plain ⟨es, ep, q2⟩
    | dictS kvs =>
      refine DictR.carry r (fun o q => exact_ a ha o q ?_) car
      obtain ⟨_, _, ⟨o', es, ep, q', _, q2, _⟩, _⟩ := r
      rw [q'] at q; cases q; exact fun vs => dict_plain ⟨es, ep, q2⟩
    | inst _ _ _ => exact r.elim
    | exc C =>
      obtain ⟨o, vs, q, k1, k2⟩ := r
      by_cases hae : a = e
      · obtain ⟨oe, ws, p1, p2, _⟩ := n.pre
        obtain ⟨oe', ws', p3, p4, p5, _⟩ := n.exc.obj
        rw [hae] at q ⊢
        rw [p1] at q; cases q
        exact ⟨oe', ws', p3, by rw [p4, ← p2, k1], p5⟩
      · obtain ⟨sl, r1, _⟩ := n.keep a o q hae fun vs z1 k => by rw [k1] at k; cases k
        exact ⟨_, vs, r1, k1, k2⟩
  · obtain ⟨sl, r1, _⟩ := n.plain q hd
    exact ⟨_, r1, rfl⟩
  · obtain ⟨_, o', q', _⟩ := hf.mem hL
    have hd := (hdd L hL).2.2 o' q'
    obtain ⟨sl, r1, _⟩ := n.plain q' fun vs => dict_plain hd
    rw [r1] at q; cases q; exact hd
  · obtain ⟨o, q⟩ := st.prot b hb; exact n.there b o q
  · obtain ⟨_, o, q⟩ := st.hid b hb; exact n.there b o q
theorem Step.noted {own own' : List Addr} {s s' : Shared} {A : Around} {l : List Env} (t : Step c.F own own' s s') (st : St c A σ s'.heap) (hA : A.frames = some l) (n : Noted e cls s.heap (l.filterMap (·.frame)) s'.heap h') : Step c.F own own' s { s' with heap := h' } := by
  obtain ⟨l', hl', hf, hdd⟩ := st.frames
  have : l' = l := by rw [hA] at hl'; exact (Option.some.inj hl').symm
  subst this
  refine ⟨fun b o q hb => ?_, fun b o q => ?_, fun b hb o q => ?_, t.grow, t.os, t.gens⟩
  · obtain ⟨sl, r1, r2⟩ := t.kept b o q hb
    obtain ⟨sl', r3, r4⟩ := n.old r1 (by rw [q]; intro k; cases k)
    refine ⟨sl', r3, fun hd => ?_⟩
    rw [← r2 hd]
    exact r4 fun hm => hd (Obj.isDict_slots.mp ((hdd b hm).2.2 { o with slots := sl } r1))
  · obtain ⟨o', q'⟩ := t.there b o q; exact n.there b o' q'
  · obtain ⟨sl, r1, r2⟩ := n.old (t.prot b hb o q) (by rw [q]; intro k; cases k)
    show h'.get? b = some o
    rw [r1, r2 fun hm => (hdd b hm).2.1 hb]
end
theorem Step.uncall {W own own' : List Addr} {F : List Addr} {s s₁ s₂ : Shared} (hext : Ext s.heap s₁.heap) (ho : s₁.os = s.os) (hg : s₁.gens = s.gens) (hn : ∀ b ∈ W, s.heap.get? b = none) (t : Step F (W ++ own) (W ++ own') s₁ s₂) : Step F own own' s s₂ := by
  refine ⟨fun b o e hb => ?_, fun b o e => t.there b o (hext b o e), fun b hb o e => t.prot b hb o (hext b o e), fun b hb => ?_, t.os.trans ho, t.gens.trans hg⟩
  · exact t.kept b o (hext b o e) fun q => (List.mem_append.mp q).elim (fun q => by rw [hn b q] at e; cases e) hb
  · rcases t.grow b (List.mem_append_right _ hb) with q | q
    · rcases List.mem_append.mp q with q | q
      · exact .inr (hn b q)
      · exact .inl q
    · refine .inr ?_
      cases e : s.heap.get? b with
      | none => rfl
      | some o => rw [hext b o e] at q; cases q
theorem St.undeep {A : Around} {env : Env} {l : List Env} {h : Heap} (hA : A.frames = some l) (st : St c (A.deeper env) σ h) : St c A σ h := by
  obtain ⟨l', hl', hf, hdd⟩ := st.frames
  have : l' = env :: l := by rw [Around.frames_deeper hA] at hl'; exact (Option.some.inj hl').symm
  subst this
  refine ⟨st.keep, st.nodup, st.fresh, st.objs, ⟨l, hA, hf.2.2, fun L hL => hdd L ?_⟩, st.prot, st.hid⟩
  obtain ⟨L', _, e, _⟩ := hf.2.1
  rw [List.filterMap_cons, e]; exact List.mem_cons_of_mem _ hL
end Mine
end
section
namespace Mine
open PySem
variable {c : Cx} {d : Nat} {sc : Scope} {m : AEnv} {σ : Led} {P : V → Led → Prop} {X : XP} {K : Fl → AEnv → Led → Prop}
inductive Rtn (σ : Led) : V → Led → V → Prop
  | keep {v : V} {σ' : Led} : σ'.Sublist σ → Rtn σ v σ' v
  | freeze {a : Addr} {vs : List V} {σ' : Led} : σ.lookup a = some (.list vs) → σ'.Sublist (σ.filter fun p => p.1 != a) → Rtn σ (.ref a) σ' (.lst vs)
theorem owned_sub {σ σ' : Led} (h : σ'.Sublist σ) : (owned σ').Sublist (owned σ) := by
  induction h with
  | slnil => exact .slnil
  | cons x _ ih => obtain ⟨a, o⟩ := x; exact ih.trans (List.sublist_append_right _ _)
  | cons_cons x _ ih => obtain ⟨a, o⟩ := x; exact (List.Sublist.refl _).append ih
theorem St.sub {A : Around} {h : Heap} {σ' : Led} (st : St c A σ h) (k : σ'.Sublist σ) : St c A σ' h := by
  have ko := owned_sub k
  obtain ⟨l, hl, hf, hd⟩ := st.frames
  refine ⟨st.keep, ko.nodup st.nodup, fun a ha => st.fresh a (ko.subset ha), fun a o hm => ?_, ⟨l, hl, hf, fun L hL => ⟨fun q => (hd L hL).1 (ko.subset q), (hd L hL).2⟩⟩, st.prot, fun b hb => ⟨fun q => (st.hid b hb).1 (ko.subset q), (st.hid b hb).2⟩⟩
  exact (st.objs a o (k.subset hm)).mono Ext.refl (Grow.wider fun b hb => .inl (ko.subset hb))
theorem Rtn.post {A : Around} {s s' : Shared} {own : List Addr} {σ' : Led} {v v' : V} {cv : Value} (r : Rtn σ v σ' v') (t : Step c.F own (owned σ) s s') (st : St c A σ s'.heap) (rv : VRel s'.heap (ownS c σ) v cv) :
    Step c.F own (owned σ') s s' ∧ St c A σ' s'.heap ∧ VRel s'.heap (ownS c σ') v' cv := by
  cases r with
  | keep k =>
    have ko := owned_sub k
    exact ⟨⟨t.kept, t.there, t.prot, fun b hb => t.grow b (ko.subset hb), t.os, t.gens⟩, st.sub k, VRel.mono Kept.refl (Grow.wider fun b hb => .inl (ko.subset hb)) _ _ rv⟩
  | @freeze a vs σ' hl k =>
    have k' : σ'.Sublist σ := k.trans List.filter_sublist
    have ko := owned_sub k'
    refine ⟨⟨t.kept, t.there, t.prot, fun b hb => t.grow b (ko.subset hb), t.os, t.gens⟩, st.sub k', ?_⟩
    simp only [VRel] at rv; subst rv
    obtain ⟨cs, p, hsz, rs⟩ := st.objs _ _ (lookup_mem hl)
    simp only [VRel]
    refine ⟨a, cs, rfl, fun hm => ?_, p, hsz, VRels.mono Kept.refl (Grow.wider fun b hb => .inl (ko.subset hb)) _ _ rs⟩
    have ha0 : a ∈ owned σ := mem_owned.mpr ⟨a, _, lookup_mem hl, by simp [O.addrs]⟩
    replace hm : a ∈ owned σ' := (List.mem_append.mp hm).elim (fun q => absurd ha0 (st.hid a q).1) id
    -- the address is borne once
    have hnd := st.nodup
    have hm' : a ∈ owned (σ.filter fun p => p.1 != a) := (owned_sub k).subset hm
    obtain ⟨b, o, hbo, hab⟩ := mem_owned.mp hm'
    have hb : (b, o) ∈ σ ∧ b ≠ a := by simpa using List.mem_filter.mp hbo
    have key : ∀ (τ : Led), (owned τ).Nodup → (a, O.list vs) ∈ τ → (b, o) ∈ τ → b ≠ a → a ∈ o.addrs b → False := by
      intro τ
      induction τ with
      | nil => intro _ h; cases h
      | cons x τ ih =>
        obtain ⟨y, oy⟩ := x
        intro hnd h1 h2 hne ha
        obtain ⟨_, hnd2, hdis⟩ := List.nodup_append.mp hnd
        rcases List.mem_cons.mp h1 with q1 | q1 <;> rcases List.mem_cons.mp h2 with q2 | q2
        · cases q1; cases q2; exact hne rfl
        · cases q1; exact hdis a (by simp [O.addrs]) a (mem_owned.mpr ⟨b, o, q2, ha⟩) rfl
        · cases q2; exact hdis a ha a (mem_owned.mpr ⟨a, _, q1, by simp [O.addrs]⟩) rfl
        · exact ih hnd2 q1 q2 hne ha
    exact key σ hnd (lookup_mem hl) hb.1 hb.2 hab
noncomputable def Ret (P : V → Led → Prop) : Fl → AEnv → Led → Prop
  | .ret v, _, σ => ∃ v' σ', Rtn σ v σ' v' ∧ P v' σ'
  | .next, _, σ => ∃ σ', σ'.Sublist σ ∧ P .none σ'
  | _, _, _ => False
noncomputable def nodupB : List Str → Bool
  | [] => true
  | x :: r => !r.contains x && nodupB r
theorem nodup_of {l : List Str} (h : nodupB l = true) : l.Nodup := by
  induction l with
  | nil => exact .nil
  | cons x r ih =>
    simp only [nodupB, Bool.and_eq_true, Bool.not_eq_true', List.contains_eq_mem, decide_eq_false_iff_not] at h
    exact List.nodup_cons.mpr ⟨h.1, ih h.2⟩
set_option tactic.hygienic true
theorem mem_cellsFrom : ∀ (names : List (Str × NameKind)) (n : Nat) (acc : List (Str × Addr)) {x : Str} {a : Addr}, (x, a) ∈ cellsFrom n names acc → (x, a) ∈ acc ∨ ((x, NameKind.cell) ∈ names ∧ n ≤ a)
  | [], _, _, _, _, h => .inl h
  | (y, k) :: r, n, acc, x, a, h => by
    unfold cellsFrom at h
    split at h
    · rename_i hk
      have hk' : k = .cell := beq_iff_eq.mp hk
      subst hk'
      rcases mem_cellsFrom r (n + 1) _ h with q | ⟨q1, q2⟩
      · rcases List.mem_cons.mp q with q | q
        · cases q; exact .inr ⟨.head _, Nat.le_refl _⟩
        · exact .inl q
      · exact .inr ⟨.tail _ q1, by (exact Ar.lin 0 2 (.le (.v 0) (.v 1)) [(.le (.a (.v 0) (.k 1)) (.v 1))] (by kernel_rfl) [] [_, _] rfl rfl q2)⟩
    · rcases mem_cellsFrom r n _ h with q | ⟨q1, q2⟩
      · exact .inl q
      · exact .inr ⟨.tail _ q1, q2⟩
theorem keys_cellsFrom : ∀ (names : List (Str × NameKind)) (n : Nat) (acc : List (Str × Addr)), (cellsFrom n names acc).map (·.1) = ((names.filter (·.2 == .cell)).map (·.1)).reverse ++ acc.map (·.1)
  | [], _, _ => by simp [cellsFrom]
  | (y, k) :: r, n, acc => by
    unfold cellsFrom
    split
    · rename_i hk
      rw [keys_cellsFrom r]
      simp [List.filter_cons, hk]
    · rename_i hk
      rw [keys_cellsFrom r]
      have : (k == NameKind.cell) = false := by simpa using hk
      simp [List.filter_cons, this]
set_option tactic.hygienic false
theorem lookup_of_mem {α : Type} : ∀ {l : List (Str × α)}, (l.map (·.1)).Nodup → ∀ {x : Str} {a : α}, (x, a) ∈ l → l.lookup x = some a
  | (y, b) :: r, hn, x, a, h => by
    simp only [List.map_cons, List.nodup_cons] at hn
    rw [List.lookup_cons]
    rcases List.mem_cons.mp h with q | q
    · cases q; simp
    · have : (x == y) = false := by
        rw [beq_eq_false_iff_ne]
        rintro rfl
        exact hn.1 (List.mem_map.mpr ⟨_, q, rfl⟩)
      rw [this]; exact lookup_of_mem hn.2 q
theorem lookup_some_of_key : ∀ {l : List (Str × Addr)} {x : Str}, x ∈ l.map (·.1) → ∃ a, l.lookup x = some a
  | (y, b) :: r, x, h => by
    rw [List.lookup_cons]
    cases hb : x == y with
    | true => exact ⟨b, rfl⟩
    | false =>
      simp only [List.map_cons, List.mem_cons] at h
      rcases h with h | h
      · subst h; simp at hb
      · exact lookup_some_of_key h
noncomputable def scOk (sc : Scope) (names : List Str) : Bool :=
  sc.kind == .function && !sc.isCoroutine && !sc.isGenerator && names.all (fun x => isLoc sc x) && (sc.names.all fun p => p.2 != .free && p.1 != ("__debug__" : Str)) && nodupB ((sc.names.filter (·.2 == .cell)).map (·.1)) && nodupB names
structure FnAt (c : Cx) (f : Value) (names : List Str) (body : List Stmt) (sc : Scope) : Prop where
  at_ : ∃ a o fd, f = .ref a ∧ c.k.h0.get? a = some o ∧ o.data = .func fd ∧ c.k.h0.CodeRec fd.code fd.qualname ∧ fd.body = .stmts body ∧ fd.scope = sc ∧ fd.closure = [] ∧ fd.globals = mainGlobals ∧ fd.builtins = builtinsNs ∧
    ∀ cs : List Value, cs.length = names.length → bindArgs fd ⟨cs, []⟩ = pure (names.zip cs)
theorem bindL_lookup {kindOf : Str → Option NameKind} : ∀ (binds : List (Str × Value)) (m0 : Str → Option Value), (binds.map (·.1)).Nodup → ∀ x, kindOf x = some .local → bindL kindOf binds m0 x = (binds.lookup x).or (m0 x)
  | [], m0, _, x, _ => by simp [bindL]
  | (n, v) :: r, m0, hn, x, hk => by
    simp only [List.map_cons, List.nodup_cons] at hn
    unfold bindL
    rw [bindL_lookup r _ hn.2 x hk, List.lookup_cons]
    by_cases e : x = n
    · subst e
      rw [if_pos hk, beq_self_eq_true]
      have : r.lookup x = none := by
        cases q : r.lookup x with
        | none => rfl
        | some w => exact absurd (List.mem_map.mpr ⟨_, mem_of_lookup q, rfl⟩) hn.1
      rw [this]; simp
    · rw [beq_eq_false_iff_ne.mpr e]
      split <;> simp [e]
theorem bindC_lookup {kindOf : Str → Option NameKind} : ∀ (binds : List (Str × Value)) (m0 : Str → Option Value), (binds.map (·.1)).Nodup → ∀ x, kindOf x ≠ some .local → bindC kindOf binds m0 x = (binds.lookup x).or (m0 x)
  | [], m0, _, x, _ => by simp [bindC]
  | (n, v) :: r, m0, hn, x, hk => by
    simp only [List.map_cons, List.nodup_cons] at hn
    unfold bindC
    rw [bindC_lookup r _ hn.2 x hk, List.lookup_cons]
    by_cases e : x = n
    · subst e
      rw [if_neg hk, beq_self_eq_true]
      have : r.lookup x = none := by
        cases q : r.lookup x with
        | none => rfl
        | some w => exact absurd (List.mem_map.mpr ⟨_, mem_of_lookup q, rfl⟩) hn.1
      rw [this]; simp
    · rw [beq_eq_false_iff_ne.mpr e]
      split <;> simp [e]
theorem zip_lookup {h : Heap} {own : List Addr} : ∀ {names : List Str} {vs : List V} {cs : List Value} {x : Str} {v : V}, VRels h own vs cs → (names.zip vs).lookup x = some v → ∃ cv, (names.zip cs).lookup x = some cv ∧ VRel h own v cv
  | [], _, _, _, _, _, e => by simp at e
  | _ :: _, [], _, _, _, _, e => by simp at e
  | n :: names, w :: vs, cs, x, v, r, e => by
    simp only [VRels] at r
    obtain ⟨cw, cs', rfl, r1, rs⟩ := r
    simp only [List.zip_cons_cons, List.lookup_cons] at e ⊢
    cases hb : x == n with
    | true => rw [hb] at e; cases e; exact ⟨cw, rfl, r1⟩
    | false => rw [hb] at e; exact zip_lookup rs e
theorem CallS_def {f : Value} {names : List Str} {body : List Stmt} {vs : List V} (hc : c.k.OK) (hf : FnAt c f names body sc) (hsc : scOk sc names = true) (hl : vs.length = names.length)
    (h : WSs c d sc body (names.zip vs) σ (Ret P) X) : CallS c (d + 1) f vs σ P X := by
  intro A s E cs hA st rs hX
  obtain ⟨a, o, fd, rfl, ho, hd, hcode, hbody, hscope, hclo, hglob, hblt, hbind⟩ := hf.at_
  subst hscope
  simp only [scOk, Bool.and_eq_true, beq_iff_eq, Bool.not_eq_true', List.all_eq_true, bne_iff_ne, ne_eq] at hsc
  obtain ⟨⟨⟨⟨⟨⟨hk, hco⟩, hgen⟩, hnames⟩, hkinds⟩, hcells⟩, hnd⟩ := hsc
  have hnd' := nodup_of hnd
  have hlen : cs.length = names.length := by rw [rs.length, hl]
  have hzip : (names.zip cs).map (·.1) = names := by rw [List.map_fst_zip]; (exact Ar.lin 0 2 (.le (.v 0) (.v 1)) [(.eq (.v 1) (.v 0))] (by kernel_rfl) [] [_, _] rfl rfl hlen)
  have hkeys : ((cellsFrom (s.heap.objs.size + 1) fd.scope.names []).map (·.1)).Nodup := by
    rw [keys_cellsFrom, List.map_nil, List.append_nil]; exact (List.reverse_perm _).nodup_iff.mpr (nodup_of hcells)
  refine wpAny_call (codeAny_call_cells (by have := hA.depth; unfold recursionLimit; (exact Ar.lin 0 2 (.lt (.v 0) (.k 1000)) [(.lt (.a (.v 0) (.a (.v 1) (.k 1))) (.k 900))] (by kernel_rfl) [] [_, _] rfl rfl this)) (st.keep _ _ ho) hd (hc.nolimit.keeps st.keep) (hcode.keeps st.keep) hbody (hbind cs hlen) hclo ?_ ?_ hco hgen hk)
  · intro x hx
    have hx1 : x.1 ∈ names := by rw [← hzip]; exact List.mem_map.mpr ⟨x, hx, rfl⟩
    rcases isLoc_kind (hnames x.1 hx1) with q | q
    · exact .inl q
    · refine .inr ⟨q, ?_⟩
      obtain ⟨b, hb⟩ := lookup_some_of_key (l := cellsFrom (s.heap.objs.size + 1) fd.scope.names []) (x := x.1) (by
        rw [keys_cellsFrom]
        simp only [List.map_nil, List.append_nil, List.mem_reverse, List.mem_map, List.mem_filter]
        exact ⟨_, ⟨mem_of_lookup q, by simp⟩, rfl⟩)
      rw [hb]; rfl
  · intro s₁ ic
    have hE : callEnvC fd s.heap.objs.size a = newEnv fd.scope s.heap.objs.size fd.globals (cellsFrom (s.heap.objs.size + 1) fd.scope.names []) (fd.qualname ++ ".<locals>.") (some a) fd.code none fd.builtins := rfl
    generalize henv : callEnvC fd s.heap.objs.size a = env at ic ⊢
    have eloc : env.locals = s.heap.objs.size := by rw [← henv]; rfl
    have escope : env.scope = fd.scope := by rw [← henv]; rfl
    have ecells : env.cells = cellsFrom (s.heap.objs.size + 1) fd.scope.names [] := by rw [← henv]; rfl
    have eglob : env.globals = mainGlobals := by rw [← henv]; exact hglob
    have eblt : env.builtins = builtinsNs := by rw [← henv]; exact hblt
    have eframe : env.frame = some env.locals := by rw [← henv]; rfl
    have ekind : ∀ x, env.kindOf x = fd.scope.names.lookup x := fun x => by unfold Env.kindOf; rw [escope]
    have nofree : ∀ x, env.kindOf x ≠ some .free := fun x q => by
      rw [ekind] at q; exact (hkinds _ (mem_of_lookup q)).1 rfl
    obtain ⟨⟨h₁, tk, hs₁⟩, hns, hkeep, hfresh⟩ := ic.toInCall
    have hext : Ext s.heap s₁.heap := hkeep
    have ok : EnvOk env := by
      refine ⟨by rw [escope]; exact hk, ?_, fun q => nofree _ q, eglob, eblt, fun x q => ?_⟩
      · rw [ekind]
        cases q : fd.scope.names.lookup ("__debug__" : Str) with
        | none => rfl
        | some k => exact absurd rfl (hkinds _ (mem_of_lookup q)).2
      · rcases q with q | q
        · rw [ekind] at q
          rw [ecells]
          refine lookup_some_of_key ?_
          rw [keys_cellsFrom]
          simp only [List.map_nil, List.append_nil, List.mem_reverse, List.mem_map, List.mem_filter]
          exact ⟨_, ⟨mem_of_lookup q, by simp⟩, rfl⟩
        · exact absurd q (nofree x)
    have hpnew : ∀ b ∈ places env, s.heap.get? b = none := fun b hb => by
      simp only [places, List.mem_cons, List.mem_map] at hb
      have hle : s.heap.objs.size ≤ b := by
        rcases hb with rfl | ⟨⟨x, b'⟩, hm, rfl⟩
        · (exact Ar.lin 0 2 (.le (.v 0) (.v 1)) [(.le (.v 0) (.v 1))] (by kernel_rfl) [] [_, _] rfl rfl hfresh)
        · rw [ecells] at hm
          rcases mem_cellsFrom _ _ _ hm with q | ⟨_, q⟩
          · cases q
          · dsimp only; (exact Ar.lin 0 2 (.le (.v 0) (.v 1)) [(.le (.a (.v 0) (.k 1)) (.v 1))] (by kernel_rfl) [] [_, _] rfl rfl q)
      cases e : s.heap.get? b with
      | none => rfl
      | some o => exact absurd (Heap.lt_size e) (Nat.not_lt.mpr hle)
    have hpb : ∀ b ∈ places env, b ∉ ownS c σ ∧ c.k.h0.get? b = none ∧ b ∉ c.F := fun b hb => by
      have hn := hpnew b hb
      refine ⟨fun q => ?_, ?_, fun q => ?_⟩
      · rcases List.mem_append.mp q with q | q
        · obtain ⟨_, o, e⟩ := st.hid b q; rw [hn] at e; cases e
        · obtain ⟨o, e⟩ := st.there q; rw [hn] at e; cases e
      · cases e : c.k.h0.get? b with
        | none => rfl
        | some o => have := st.keep _ _ e; rw [hn] at this; cases this
      · obtain ⟨o, e⟩ := st.prot b q; rw [hn] at e; cases e
    have hLp : env.locals ∈ places env := by simp [places]
    have hcp : ∀ x b, (x, b) ∈ env.cells → b ∈ places env := fun x b hm => by simp only [places, List.mem_cons, List.mem_map]; exact .inr ⟨_, hm, rfl⟩
    have st₁ : St c (A.deeper env) σ s₁.heap := by
      have := st.ext hext
      obtain ⟨l, hl, hf, hdd⟩ := this.frames
      refine ⟨this.keep, this.nodup, this.fresh, this.objs, ⟨env :: l, Around.frames_deeper hl, .cons (by rw [ok.kind]; decide) eframe hns (hpb _ hLp).2.1 hf, fun L hL => ?_⟩, this.prot, this.hid⟩
      rw [List.filterMap_cons, eframe] at hL
      rcases List.mem_cons.mp hL with rfl | hL
      · refine ⟨fun q => (hpb _ hLp).1 (List.mem_append_right _ q), (hpb _ hLp).2.2, fun o e => ?_⟩
        obtain ⟨oL, es, ep, e', hd', _⟩ := hns
        rw [e'] at e; cases e; exact ⟨es, ep, hd'⟩
      · exact hdd L hL
    have hA' : AOk c.k d (A.deeper env) := ⟨hA.handled, by have := hA.depth; show A.depth + 1 + d < 900; (exact Ar.lin 0 2 (.lt (.a (.a (.v 0) (.k 1)) (.v 1)) (.k 900)) [(.lt (.a (.v 0) (.a (.v 1) (.k 1))) (.k 900))] (by kernel_rfl) [] [_, _] rfl rfl this), by have := hA.units; show A.units + 3 + 20 * d < 9000; (exact Ar.lin 0 2 (.lt (.a (.a (.v 0) (.k 3)) (.m 20 (.v 1))) (.k 9000)) [(.lt (.a (.v 0) (.m 20 (.a (.v 1) (.k 1)))) (.k 9000))] (by kernel_rfl) [] [_, _] rfl rfl this), by have := hA.le; (exact Ar.lin 0 1 (.le (.v 0) (.k 100)) [(.le (.a (.v 0) (.k 1)) (.k 100))] (by kernel_rfl) [] [_] rfl rfl this)⟩
    have rs₁ := VRels.mono hext.kept (Grow.refl (own := ownS c σ)) vs cs rs
    have er₁ : EnvRel c (ownS c σ) env (names.zip vs) s₁.heap := by
      refine ⟨⟨_, hns, fun x v hx hkx => ?_⟩, fun x v hx hkx => ?_, hpb _ hLp, fun x b hm => ?_, ic.apart⟩
      · obtain ⟨cv, e, r⟩ := zip_lookup rs₁ hx
        exact ⟨cv, by rw [bindL_lookup _ _ (by rw [hzip]; exact hnd') x hkx, e]; rfl, r⟩
      · obtain ⟨b, hb⟩ := ok.cell x hkx
        obtain ⟨cv, e, r⟩ := zip_lookup rs₁ hx
        refine ⟨b, cv, hb, ?_, r⟩
        have := ic.cell x b hb
        rwa [bindC_lookup _ _ (by rw [hzip]; exact hnd') x (fun q => by rw [q] at hkx; simp at hkx), e] at this
      · refine ⟨(hpb _ (hcp x b hm)).1, ?_, (hpb _ (hcp x b hm)).2.1, (hpb _ (hcp x b hm)).2.2, _, ic.cell x b (lookup_of_mem (by rw [ecells]; exact hkeys) hm)⟩
        rw [eloc]
        rw [ecells] at hm
        rcases mem_cellsFrom _ _ _ hm with q | ⟨_, q⟩
        · cases q
        · exact Nat.ne_of_gt (Nat.lt_of_succ_le q)
    obtain ⟨l0, hl0, _⟩ := id st.frames
    have hos : s₁.os = s.os := by rw [hs₁]
    have hgn : s₁.gens = s.gens := by rw [hs₁]
    refine wpAny_mono (h env (A.deeper env) s₁ _ ⟨escope, ok, ⟨l0, Around.frames_deeper hl0⟩, hA', st₁, er₁, fun e cls σ' s' hx t hs er he => ?_⟩) ?_ fun z1 z2 x => x
    · obtain ⟨l', hl', hf', _⟩ := id hs.frames
      have : l' = env :: l0 := by rw [Around.frames_deeper hl0] at hl'; exact (Option.some.inj hl').symm
      subst this
      refine wpAny_bind (note_at (base := s₁.heap) hl' hf' eframe he (fun b o q => t.there b o q) fun h' n => ?_)
      exact hX e cls σ' _ hx (Step.uncall hext hos hgn hpnew (t.noted hs hl' n)) (St.undeep hl0 (hs.noted hl' n fun b o q k => by rw [st₁.keep b o q] at k; cases k)) (n.exc.sooner fun b o q => ⟨o, hext b o q⟩)
    rintro f s₂ ⟨fl, m₂, σ₂, h₂, t₂, hs₂, er₂, rf⟩
    have st₂ : St c A σ₂ s₂.heap := St.undeep hl0 hs₂
    have t₁₂ : Step c.F (owned σ) (owned σ₂) s s₂ := Step.uncall hext hos hgn hpnew t₂
    cases fl with
    | ret v =>
      obtain ⟨cv, rfl, rv⟩ := rf
      obtain ⟨v', σ', hr, hp⟩ := h₂
      obtain ⟨q1, q2, q3⟩ := hr.post t₁₂ st₂ rv
      exact ⟨v', σ', hp, q1, q2, q3⟩
    | next =>
      cases rf
      obtain ⟨σ', hr, hp⟩ := h₂
      obtain ⟨q1, q2, q3⟩ := (Rtn.keep (v := .none) hr).post (cv := .none) t₁₂ st₂ (by simp only [VRel])
      exact ⟨.none, σ', hp, q1, q2, q3⟩
    | brk => exact h₂.elim
    | cont => exact h₂.elim
end Mine
end
section
namespace Mine
open PySem
variable {c : Cx} {d : Nat} {sc : Scope} {m : AEnv} {σ : Led} {P : V → Led → Prop} {X : XP} {K : Fl → AEnv → Led → Prop}
noncomputable def Cx.hide (c : Cx) (D : Addr) : Cx := { c with H := D :: c.H }
theorem St.hideNew {A : Around} {h h' : Heap} {D : Addr} {ob : Obj} (st : St c A σ h) (x : Ext h h') (hn : h.get? D = none) (hD : h'.get? D = some ob) : St (c.hide D) A σ h' := by
  have st' := st.ext x
  have hno : D ∉ owned σ := fun q => by obtain ⟨o, e⟩ := st.there q; rw [hn] at e; cases e
  refine ⟨st'.keep, st'.nodup, st'.fresh, fun a o hm => ?_, st'.frames, st'.prot, fun b hb => ?_⟩
  · refine (st.objs a o hm).mono x fun b hb => ?_
    rcases List.mem_cons.mp hb with rfl | hb
    · exact .inr hn
    · exact .inl hb
  · rcases List.mem_cons.mp hb with rfl | hb
    · exact ⟨hno, ob, hD⟩
    · exact st'.hid b hb
theorem St.unhide {A : Around} {h : Heap} {D : Addr} (st : St (c.hide D) A σ h) : St c A σ h :=
  ⟨st.keep, st.nodup, st.fresh, fun a o hm => (st.objs a o hm).mono Ext.refl fun b hb => .inl (List.mem_cons_of_mem _ hb), st.frames, st.prot, fun b hb => st.hid b (List.mem_cons_of_mem _ hb)⟩
theorem But.carriesHid {own : List Addr} {h h' : Heap} {D : Addr} (hD : D ∈ own) (k : But D h h') : Carries own own h h' := fun a o e ha f => ⟨k a o (fun q => ha (q ▸ hD)) e, ha⟩
theorem St.writeHid {A : Around} {h h' : Heap} {D : Addr} {ob ob' : Obj} (st : St c A σ h) (hD : D ∈ c.H) (h0 : c.k.h0.get? D = none) (hob : h.get? D = some ob) (hnd : ¬ Obj.isDict ob) (k : But D h h') (hob' : h'.get? D = some ob') : St c A σ h' := by
  have hno := (st.hid D hD).1
  have hc : Carries (ownS c σ) (ownS c σ) h h' := k.carriesHid (List.mem_append_left _ hD)
  refine ⟨fun b o e => k b o (fun q => by rw [q, h0] at e; cases e) (st.keep b o e), st.nodup, st.fresh, fun a o hm => ?_, ?_, fun b hb => ?_, fun b hb => ?_⟩
  · have hne : ∀ b ∈ o.addrs a, b ≠ D := fun b hb q => hno (mem_owned.mpr ⟨a, o, hm, q ▸ hb⟩)
    have hr := st.objs a o hm
    cases o with
    | list vs =>
      obtain ⟨cs, ⟨n, p⟩, hl, r⟩ := hr
      exact ⟨cs, ⟨n, k a _ (hne a (by simp [O.addrs])) p⟩, hl, r.carry hc⟩
    | dictI _ => exact DictR.carry hr (fun ob' e => k a _ (hne a (by simp [O.addrs])) e) hc
    | dictS _ => exact DictR.carry hr (fun ob' e => k a _ (hne a (by simp [O.addrs])) e) hc
    | inst _ _ _ => exact hr.elim
    | exc C => obtain ⟨o, vs, e, q⟩ := hr; exact ⟨o, vs, k a _ (hne a (by simp [O.addrs])) e, q⟩
  · obtain ⟨l, hl, hfr, hd⟩ := st.frames
    have hne : ∀ L ∈ l.filterMap (·.frame), L ≠ D := fun L hL q => by subst q; exact hnd ((hd L hL).2.2 _ hob)
    refine ⟨l, hl, funFrames_of hfr fun L hL => ?_, fun L hL => ⟨(hd L hL).1, (hd L hL).2.1, fun o e => ?_⟩⟩
    · obtain ⟨_, o, ho, hnf⟩ := hfr.mem hL
      exact ⟨o, k L o (hne L hL) ho, hnf⟩
    · obtain ⟨_, o', e', _⟩ := hfr.mem hL
      rw [k L o' (hne L hL) e'] at e; cases e
      exact (hd L hL).2.2 o e'
  · obtain ⟨o, e⟩ := st.prot b hb
    by_cases q : b = D
    · subst q; exact ⟨_, hob'⟩
    · exact ⟨o, k b o q e⟩
  · obtain ⟨q1, o, e⟩ := st.hid b hb
    refine ⟨q1, ?_⟩
    by_cases q : b = D
    · subst q; exact ⟨_, hob'⟩
    · exact ⟨o, k b o q e⟩
theorem EnvRel.writeHid {env : Env} {h h' : Heap} {D : Addr} (er : EnvRel c (ownS c σ) env m h) (hD : D ∈ c.H) (k : But D h h') : EnvRel c (ownS c σ) env m h' := by
  have hDo : D ∈ ownS c σ := List.mem_append_left _ hD
  have hc : Carries (ownS c σ) (ownS c σ) h h' := k.carriesHid hDo
  obtain ⟨mc, ⟨oL, es, ep, ho, r⟩, hm⟩ := er.ns
  have hcell : ∀ {a : Addr} {v : Option Value}, a ∉ ownS c σ → h.IsCell a v → h'.IsCell a v := fun {a v} ha ⟨oc, hoc, hdc⟩ => ⟨oc, k a oc (fun q => ha (q ▸ hDo)) hoc, hdc⟩
  refine ⟨⟨mc, ⟨oL, es, ep, k _ _ (fun q => er.lnot.1 (q ▸ hDo)) ho, r⟩, fun y v hy hk => ?_⟩, fun y v hy hk => ?_, er.lnot, fun y a ha => ?_, er.apart⟩
  · obtain ⟨cv, e, r⟩ := hm y v hy hk
    exact ⟨cv, e, r.carry hc⟩
  · obtain ⟨a, cv, e, hcl, r⟩ := er.cell y v hy hk
    exact ⟨a, cv, e, hcell (er.cnot y a (mem_of_lookup e)).1 hcl, r.carry hc⟩
  · obtain ⟨h1, h2, h3, h4, v, h5⟩ := er.cnot y a ha
    exact ⟨h1, h2, h3, h4, v, hcell h1 h5⟩
theorem codeAny_comp_any {prog : Program} {w : World} {A : Around} {R : Result → Shared → Prop} {s : Shared} {elt target iter : Expr} {ifs : List Expr} {scope : Scope} {pos : Pos} {it acc : Value} {env : Env} (I : Nat → Shared → Prop)
    (turn : ∀ n s, I n s → wpAny (model prog w) A (pyNext it) (fun r s₁ => match r with
      | none => R (.ok .next) s₁
      | some v => wpAny (model prog w) A (letOwnedTupleGo target it v) (fun z1 s₁' => wpAny (model prog w) A (assign target env v) (fun z1 s₂ =>
          wpAny (model prog w) A (forIn ifs true fun c r => if r = true then do let ok ← isTrue c env (eval c env); pure (ForInStep.yield ok) else pure (ForInStep.yield r)) (fun ok s₃ =>
            if ok = true then wpAny (model prog w) A (eval elt env) (fun x s₄ =>
              wpAny (model prog w) A (call (.builtin "list.append") [acc, x]) (fun z1 s₅ => ∃ m, m < n ∧ I m s₅) (notedBy (model prog w) A env fun e s' => R (.error e) s') s₄) (notedBy (model prog w) A env fun e s' => R (.error e) s') s₃
            else ∃ m, m < n ∧ I m s₃) (notedBy (model prog w) A env fun e s' => R (.error e) s') s₂) (notedBy (model prog w) A env fun e s' => R (.error e) s') s₁') (notedBy (model prog w) A env fun e s' => R (.error e) s') s₁) (notedBy (model prog w) A env fun e s' => R (.error e) s') s)
    (n : Nat) (h : I n s) : codeAny (model prog w) A (.compLoop (.ListComp elt [⟨target, iter, ifs, 0⟩] scope pos) 0 it acc env) R s := by
  refine codeAny_loop rfl I (fun n s hI => ?_) n h
  show wpAny _ A ((compTurn (.ListComp elt [⟨target, iter, ifs, 0⟩] scope pos) 0 it acc env).onRaise (fun x => do noteFrame x env; theTreesLotGoes x)) _ _ s
  refine wpAny_noted ?_
  rw [compTurn_list]
  refine wpAny_bind (wpAny_standAt (wpAny_bind (wpAny_mono (turn n s hI) (fun r s₁ h₁ => ?_) fun z1 z2 h' => h')))
  cases r with
  | none => exact wpAny_pure h₁
  | some v =>
    refine wpAny_bind (wpAny_mono h₁ (fun z1 s₁' h₁' => wpAny_bind (wpAny_mono h₁' (fun z1 s₂ h₂ => wpAny_bind (wpAny_mono h₂ (fun ok s₃ h₃ => ?_) fun z1 z2 h' => h')) fun z1 z2 h' => h')) fun z1 z2 h' => h')
    cases ok with
    | false => exact wpAny_pure ⟨rfl, h₃⟩
    | true =>
      exact wpAny_bind (wpAny_bind (wpAny_mono h₃ (fun x s₄ h₄ => wpAny_bind (wpAny_mono h₄ (fun z1 s₅ h₅ => wpAny_pure (wpAny_pure ⟨rfl, h₅⟩)) fun z1 z2 h' => h')) fun z1 z2 h' => h'))
noncomputable def varOf : Option NameKind → Bool
  | some .cell | some .free => true
  | _ => false
noncomputable def ownOf : Option NameKind → Bool
  | some .local | some .cell => true
  | _ => false
noncomputable def compOk (scope sc : Scope) (x : Str) : Bool :=
  scope.kind == .function && nodupB (scope.names.map (·.1)) &&
  (scope.names.all fun p => p.1 != ("__debug__" : Str) && p.1 != ("__classdict__" : Str) && (p.2 != .free || varOf (sc.names.lookup p.1)) && (!ownOf (some p.2) || p.1 == x || p.1 == (".0" : Str))) &&
  ownOf (scope.names.lookup x)
noncomputable def relabelS (scope sc : Scope) : Scope :=
  { scope with names := scope.names.map fun (n, k) => if (k == .free && sc.kind == .function && sc.names.lookup n == some .cell) then (n, .cell) else (n, k) }
set_option tactic.hygienic true
theorem lookup_relabelS {scope sc : Scope} {x : Str} : (relabelS scope sc).names.lookup x = (scope.names.lookup x).map fun k => if (k == .free && sc.kind == .function && sc.names.lookup x == some .cell) then .cell else k := by
  unfold relabelS
  dsimp only
  induction scope.names with
  | nil => rfl
  | cons p r ih =>
    obtain ⟨n, k⟩ := p
    simp only [List.map_cons]
    by_cases hx : x = n
    · subst hx
      split
      · rename_i hc
        simp only [List.lookup_cons, beq_self_eq_true, Option.map_some]
        rw [if_pos hc]
      · rename_i hc
        simp only [List.lookup_cons, beq_self_eq_true, Option.map_some]
        rw [if_neg hc]
    · have hb : (x == n) = false := beq_eq_false_iff_ne.mpr hx
      split <;> simp only [List.lookup_cons, hb] <;> exact ih
noncomputable def clOf (cells : List (Str × Addr)) : List (Str × NameKind) → List (Str × Addr) → List (Str × Addr)
  | [], acc => acc
  | (n, k) :: r, acc => if k == .free then clOf cells r ((n, (cells.lookup n).getD 0) :: acc) else clOf cells r acc
set_option tactic.hygienic false
theorem closureFor_eq {scope : Scope} {env : Env} (h : ∀ p ∈ scope.names, p.2 = .free → ∃ a, env.cells.lookup p.1 = some a) : closureFor scope env = pure (clOf env.cells scope.names []) := by
  unfold closureFor
  have key : ∀ (names : List (Str × NameKind)) (acc : List (Str × Addr)), (∀ p ∈ names, p.2 = .free → ∃ a, env.cells.lookup p.1 = some a) →
      (forIn names acc fun x cs => match x with | (name, kind) => if (kind == NameKind.free) = true then (do let a ← cellOf env name; pure (ForInStep.yield ((name, a) :: cs))) else pure (ForInStep.yield cs)) = (pure (clOf env.cells names acc) : Sem _) := by
    intro names
    induction names with
    | nil => intro acc _; rfl
    | cons p r ih =>
      intro acc hp
      obtain ⟨n, k⟩ := p
      rw [List.forIn_cons]
      have hr := fun p hm => hp p (List.mem_cons_of_mem _ hm)
      by_cases hk : (k == NameKind.free) = true
      · obtain ⟨a, ha⟩ := hp (n, k) (.head _) (beq_iff_eq.mp hk)
        have e1 : cellOf env n = pure a := by unfold cellOf; rw [ha]
        simp only [hk, if_true, e1, pure_bind]
        rw [ih _ hr]
        simp only [clOf, hk, if_true, ha, Option.getD_some]
      · have hk' : (k == NameKind.free) = false := by simpa using hk
        simp only [hk', Bool.false_eq_true, if_false, pure_bind]
        rw [ih _ hr]
        simp only [clOf, hk', Bool.false_eq_true, if_false]
  have := key scope.names [] h
  simp only [bind_pure]
  exact this
set_option tactic.hygienic true
theorem mem_clOf : ∀ (cells : List (Str × Addr)) (names : List (Str × NameKind)) (acc : List (Str × Addr)) {x : Str} {a : Addr}, (x, a) ∈ clOf cells names acc → (x, a) ∈ acc ∨ ((x, NameKind.free) ∈ names ∧ a = (cells.lookup x).getD 0)
  | _, [], _, _, _, h => .inl h
  | cells, (n, k) :: r, acc, x, a, h => by
    unfold clOf at h
    split at h
    · rename_i hk
      have hk' : k = .free := beq_iff_eq.mp hk
      subst hk'
      rcases mem_clOf cells r _ h with q | ⟨q1, q2⟩
      · rcases List.mem_cons.mp q with q | q
        · cases q; exact .inr ⟨.head _, rfl⟩
        · exact .inl q
      · exact .inr ⟨.tail _ q1, q2⟩
    · rcases mem_clOf cells r _ h with q | ⟨q1, q2⟩
      · exact .inl q
      · exact .inr ⟨.tail _ q1, q2⟩
theorem keys_clOf : ∀ (cells : List (Str × Addr)) (names : List (Str × NameKind)) (acc : List (Str × Addr)), (clOf cells names acc).map (·.1) = ((names.filter (·.2 == .free)).map (·.1)).reverse ++ acc.map (·.1)
  | _, [], _ => by simp [clOf]
  | cells, (y, k) :: r, acc => by
    unfold clOf
    split
    · rename_i hk
      rw [keys_clOf cells r]
      simp [List.filter_cons, hk]
    · rename_i hk
      rw [keys_clOf cells r]
      have : (k == NameKind.free) = false := by simpa using hk
      simp [List.filter_cons, this]
set_option tactic.hygienic false
theorem pairwise_keys {cells l : List (Str × Addr)} (hp : cells.Pairwise fun x y => x.2 ≠ y.2) (hn : (l.map (·.1)).Nodup) (hl : ∀ x a, (x, a) ∈ l → cells.lookup x = some a) : l.Pairwise fun x y => x.2 ≠ y.2 := by
  induction l with
  | nil => exact .nil
  | cons p r ih =>
    simp only [List.map_cons, List.nodup_cons] at hn
    refine List.pairwise_cons.mpr ⟨fun q hq e => ?_, ih hn.2 fun x a h => hl x a (.tail _ h)⟩
    have h1 := hl p.1 p.2 (.head _)
    have h2 := hl q.1 q.2 (.tail _ hq)
    have : p.1 = q.1 := name_of_addr hp (mem_of_lookup h1) (e ▸ mem_of_lookup h2)
    exact hn.1 (this ▸ List.mem_map.mpr ⟨q, hq, rfl⟩)
theorem cells_split : ∀ (names : List (Str × NameKind)) (n : Nat) (acc : List (Str × Addr)), cellsFrom n names acc = cellsFrom n names [] ++ acc
  | [], _, _ => rfl
  | (y, k) :: r, n, acc => by
    unfold cellsFrom
    split
    · rw [cells_split r (n + 1) ((y, n) :: acc), cells_split r (n + 1) [(y, n)]]; simp
    · exact cells_split r n acc
end Mine
end
section
set_option genSizeOf false
set_option genInjectivity false
namespace Mine
open PySem
variable {c : Cx} {d : Nat} {sc : Scope} {m : AEnv} {σ : Led} {P : V → Led → Prop} {X : XP} {K : Fl → AEnv → Led → Prop}
theorem But.toL {wr : List Addr} {h h' : Heap} {L : Addr} (x : But L h h') (hL : L ∈ wr) : ButL wr h h' := fun b o hb e => x b o (fun q => hb (q ▸ hL)) e
theorem own_kind {k : Option NameKind} (h : ownOf k = true) : k = some .local ∨ k = some .cell := by
  cases k with
  | none => cases h
  | some k => cases k <;> first | exact .inl rfl | exact .inr rfl | cases h
theorem var_kind {k : Option NameKind} (h : varOf k = true) : k = some .cell ∨ k = some .free := by
  cases k with
  | none => cases h
  | some k => cases k <;> first | exact .inl rfl | exact .inr rfl | cases h
theorem assign_N {A : Around} {env : Env} {E : Value → Shared → Prop} {W : List Addr} (ok : EnvOk env) (hW : env.locals ∈ W) {x : Str} {p : Pos} {v : V} {cv : Value} {s : Shared}
    (hk : ownOf (env.kindOf x) = true) (hw : ∀ L, env.kindOf x = some .cell → env.cells.lookup x = some L → L ∈ W)
    (st : St c A σ s.heap) (er : EnvRel c (ownS c σ) env m s.heap) (r : VRel s.heap (ownS c σ) v cv) :
    wpAny c.M A (assign (.Name x p) env cv) (fun z1 s' => ∃ h' tk, s' = { s with heap := h', toks := tk } ∧ ButL W s.heap h' ∧ St c A σ h' ∧ EnvRel c (ownS c σ) env ((x, v) :: m) h') E s := by
  refine wpAny_assign_Name (wpAny_mono (store_name ok st er r (own_kind hk)) ?_ fun z1 z2 x => x)
  rintro _ s₁ ⟨⟨t₁, hs₁, er₁⟩, L, h', tk, rfl, kb, hL⟩
  have hLW : L ∈ W := by
    rcases hL with ⟨_, rfl⟩ | ⟨q1, q2⟩
    · exact hW
    · exact hw L q1 q2
  exact ⟨h', tk, rfl, kb.toL hLW, hs₁, er₁⟩
theorem lookup_filter_key {f : Str → Bool} : ∀ (m : AEnv) (x : Str), (m.filter fun p => f p.1).lookup x = if f x = true then m.lookup x else none
  | [], x => by simp
  | (y, v) :: r, x => by
    rw [List.filter_cons]
    by_cases hx : x = y
    · subst hx
      cases hf : f x with
      | true => simp [List.lookup_cons, hf]
      | false => simp only [hf, Bool.false_eq_true, if_false]; rw [lookup_filter_key r x, hf]; simp
    · have hb : (x == y) = false := beq_eq_false_iff_ne.mpr hx
      split <;> simp only [List.lookup_cons, hb] <;> exact lookup_filter_key r x
noncomputable def WIfs (c : Cx) (d : Nat) (sc : Scope) (ifs : List Expr) (m : AEnv) (σ : Led) (P : Bool → Led → Prop) : Prop := match ifs with
  | [] => P true σ
  | [e] => WT c d sc e m σ P NoX
  | _ => False
noncomputable def WComp (c : Cx) (d : Nat) (sc : Scope) (x : Str) (ifs : List Expr) (elt : Expr) (m : AEnv) (Kf : List V → Led → Prop) : List V → List V → Led → Prop
  | [], acc, σ => Kf acc σ
  | v :: vs, acc, σ => WIfs c d sc ifs ((x, v) :: m) σ (fun b σ₁ => if b = true then WE c d sc elt ((x, v) :: m) σ₁ (fun w σ₂ => WComp c d sc x ifs elt m Kf vs (acc ++ [w]) σ₂) NoX else WComp c d sc x ifs elt m Kf vs acc σ₁)
theorem wpAny_newEnv_comp {M : Model} {A : Around} {E : Value → Shared → Prop} {s : Shared} {scope : Scope} {g : Addr} {cl : List (Str × Addr)} {q : Str} {env : Env} {Q : Env → Shared → Prop}
    (h : Q (newEnv scope s.heap.objs.size g (cellsFrom (s.heap.objs.size + 1) scope.names cl) q none .none (some env) builtinsNs) { s with heap := pushCells (s.heap.push { cls := .type "dict", data := .dict #[] }) scope.names }) :
    wpAny M A (newFunctionEnv scope g cl [] q none .none (some env)) Q E s := by
  simp only [newFunctionEnv, Option.isSome_some, if_true]
  refine wpAny_bind (wpAny_alloc ?_)
  refine wpAny_bind (wpAny_layCells _ (fun name kind cells => by cases hkc : kind == NameKind.cell <;> simp [hkc]) _ _ _ _ ?_)
  rw [show ({ s with heap := s.heap.push { cls := .type "dict", data := .dict #[] } } : Shared).heap.objs.size = s.heap.objs.size + 1 from Heap.size_push ..]
  exact wpAny_bind (wpAny_pure (wpAny_pure h))
theorem WIfs.run {ifs : List Expr} {P : Bool → Led → Prop} (h : WIfs c d sc ifs m σ P) {env : Env} {A : Around} {s : Shared} {E : Value → Shared → Prop} (r : RE c d sc m σ NoX env A s E) {Q : Bool → Shared → Prop}
    (hQ : ∀ b σ' s', P b σ' → Step c.F (owned σ) (owned σ') s s' → St c A σ' s'.heap → Q b s') :
    wpAny c.M A (forIn ifs true fun c r => if r = true then do let ok ← isTrue c env (eval c env); pure (ForInStep.yield ok) else pure (ForInStep.yield r)) Q E s := by
  cases ifs with
  | nil => exact wpAny_tests_nil (hQ true σ s h .refl r.st)
  | cons e1 es =>
    cases es with
    | cons _ _ => exact h.elim
    | nil =>
      refine wpAny_tests_one (wpAny_mono (h env A s E r) ?_ fun z1 z2 x => x)
      rintro b s₅ ⟨σ₅, h₅, t₅, st₅⟩
      exact hQ b σ₅ s₅ h₅ t₅ st₅
structure CQ where
  c : Cx
  G : List Addr
  d : Nat
  A : Around
  env : Env
  S : Scope
  x : Str
  ifs : List Expr
  elt : Expr
  m : AEnv
  mb : AEnv
  Kf : List V → Led → Prop
  vs : List V
  σ : Led
  s : Shared
  D : Addr
  Ws : List Addr
  I : Addr
  fp : List Addr
  wr : List Addr
  Pf : Nat → Value → Prop
  Stf : Nat → Heap → Prop
  hi : Heap
noncomputable abbrev CQ.cD (Q : CQ) : Cx := (Q.c.pro Q.G).hide Q.D
structure CQ.Ok (Q : CQ) : Prop where
  a : AOk Q.c.k Q.d Q.A
  ok : EnvOk Q.env
  sc : Q.env.scope = Q.S
  it : ItOk (Q.c.pro Q.G) Q.A Q.σ Q.vs Q.s.heap Q.hi Q.I Q.fp Q.wr Q.Pf Q.Stf
  wrOk : ∀ σ' h', (∀ b ∈ Q.wr, b ∉ owned σ') → (∀ b ∈ Q.wr, ∀ o, h'.get? b = some o → ¬ Frozen o) → WrOk Q.cD Q.A σ' Q.wr h'
  plwr : ∀ b ∈ places Q.env, b ∉ Q.wr
  loc : Q.env.locals ∈ Q.Ws
  Wpl : ∀ b ∈ Q.Ws, b ∈ places Q.env
  Wnew : ∀ b ∈ Q.Ws, Q.s.heap.get? b = none
  WF : ∀ b ∈ Q.Ws, b ∉ (Q.c.pro Q.G).F
  DW : Q.D ∉ Q.Ws
  Dwr : Q.D ∉ Q.wr
  Dnew : Q.s.heap.get? Q.D = none
  DF : Q.D ∉ (Q.c.pro Q.G).F
  D0 : Q.c.k.h0.get? Q.D = none
  fpD : ∀ b ∈ Q.fp, b ≠ Q.D ∧ b ∉ Q.Ws
  own1 : ownOf (Q.env.kindOf Q.x) = true
  own2 : ∀ L, Q.env.kindOf Q.x = some .cell → Q.env.cells.lookup Q.x = some L → L ∈ Q.Ws
  sub : ∀ v, Sub ((Q.x, v) :: Q.m) ((Q.x, v) :: Q.mb)
  mbs : ∀ v, Sub Q.mb ((Q.x, v) :: Q.mb)
structure CQ.Core0 (Q : CQ) (acc : List V) (σ' : Led) (ccs : List Value) (s' : Shared) : Prop where
  t : Step (Q.c.pro Q.G).F (owned Q.σ) (owned σ') Q.s s'
  st : St Q.cD Q.A σ' s'.heap
  er : EnvRel Q.cD (ownS Q.cD σ') Q.env Q.mb s'.heap
  pD : PlainSeq s'.heap "list" Q.D ccs
  acc : VRels s'.heap (ownS Q.cD σ') acc ccs
structure CQ.Core (Q : CQ) (j : Nat) (acc : List V) (σ' : Led) (ccs : List Value) (s' : Shared) : Prop extends CQ.Core0 Q acc σ' ccs s' where
  stf : Q.Stf j s'.heap
  wo : ∀ b ∈ Q.wr, b ∉ owned σ'
section
variable {Q : CQ} {j : Nat} {acc : List V} {σ' σ₅ : Led} {ccs : List Value} {s' s₅ : Shared} {h' : Heap} {tk : Nat}
theorem CQ.Core.wok (q : Q.Ok) (k : Q.Core j acc σ' ccs s') : WrOk Q.cD Q.A σ' Q.wr s'.heap := q.wrOk σ' _ k.wo fun b hb o e => by
  obtain ⟨o', e', q1, q2⟩ := q.it.obj j _ k.stf b hb
  rw [e] at e'; cases e'; exact iter_notFrozen q1 q2
theorem CQ.Core.turn0 (q : Q.Ok) (k : Q.Core j acc σ' ccs s') (hk : ButL Q.wr s'.heap h') : Q.Core0 acc σ' ccs { s' with heap := h', toks := tk } :=
  ⟨k.t.writeL q.it.new (k.wok q).notF hk, k.st.writeL (k.wok q) hk, k.er.writeL (k.wok q) q.plwr hk, let ⟨n, e⟩ := k.pD; ⟨n, hk _ _ q.Dwr e⟩, VRels.writeL (k.wok q).seq hk acc ccs k.acc⟩
theorem CQ.Core.set (q : Q.Ok) (k : Q.Core j acc σ' ccs s') (kb : ButL Q.Ws s'.heap h') (st : St Q.cD Q.A σ' h') (er : EnvRel Q.cD (ownS Q.cD σ') Q.env Q.mb h') : Q.Core j acc σ' ccs { s' with heap := h', toks := tk } :=
  ⟨⟨k.t.writeL q.Wnew q.WF kb, st, er, let ⟨n, e⟩ := k.pD; ⟨n, kb _ _ q.DW e⟩, k.acc.carry fun a o e ha f => ⟨kb a o (fun w => k.er.places a (q.Wpl a w) o e f) e, ha⟩⟩, q.it.walks.frame _ _ _ k.stf fun b hb o e => kb b o (q.fpD b hb).2 e, k.wo⟩
theorem notDict_of {o : Obj} (h : (∃ xs, o.data = .fields xs) ∨ ∃ xs n, o.data = .seq xs n) : ¬ Obj.isDict o := by
  rintro ⟨_, _, z⟩
  rcases h with ⟨xs, h⟩ | ⟨xs, n, h⟩ <;> rw [h] at z <;> cases z
theorem CQ.Core.step (q : Q.Ok) (k : Q.Core j acc σ' ccs s') (t : Step (Q.c.pro Q.G).F (owned σ') (owned σ₅) s' s₅) (st : St Q.cD Q.A σ₅ s₅.heap) : Q.Core j acc σ₅ ccs s₅ := by
  refine ⟨⟨k.t.trans t, st, k.er.mono t.kept.wider t.grow.wider, ?_, t.vs k.acc⟩, ?_, fun b hb => ?_⟩
  · obtain ⟨n, e⟩ := k.pD
    exact ⟨n, t.kept.exact e (k.st.hid Q.D (.head _)).1 PlainSeq.notDict⟩
  · refine q.it.walks.frame _ _ _ k.stf fun b hb o e => ?_
    rcases q.it.fp b hb with w | w | ⟨w, ob, hob, hd⟩
    · obtain ⟨o', e', hx, _⟩ := q.it.obj _ _ k.stf b w
      rw [e] at e'; cases e'
      exact t.kept.exact e (k.wo b w) (notDict_of (.inl hx))
    · exact t.prot b w o e
    · have hob₄ : s'.heap.get? b = some ob := k.t.kept.exact hob w (notDict_of (.inr hd))
      rw [hob₄] at e; cases e
      exact t.kept.exact hob₄ (k.t.grow.notin w hob) (notDict_of (.inr hd))
  · obtain ⟨o, e, _⟩ := q.it.obj _ _ k.stf b hb
    exact t.grow.notin (k.wo b hb) e
theorem CQ.Core.app (q : Q.Ok) (k : Q.Core j acc σ' ccs s') {w : V} {cx : Value} {n : Nat} (r : VRel s'.heap (ownS Q.cD σ') w cx) (kb : But Q.D s'.heap h') (e : h'.get? Q.D = some { cls := .type "list", data := .seq (ccs ++ [cx]).toArray n }) :
    Q.Core j (acc ++ [w]) σ' (ccs ++ [cx]) { s' with heap := h' } := by
  obtain ⟨n0, e0⟩ := k.pD
  have hD : Q.D ∈ Q.cD.H := .head _
  exact ⟨⟨k.t.writeL (tk := s'.toks) (wr := [Q.D]) (fun b hb => by rw [List.mem_singleton.mp hb]; exact q.Dnew) (fun b hb => by rw [List.mem_singleton.mp hb]; exact q.DF) (kb.toL (.head _)), k.st.writeHid hD q.D0 e0 PlainSeq.notDict kb e, k.er.writeHid hD kb, ⟨n, e⟩,
    (k.acc.append (VRels.one r)).carry (kb.carriesHid (List.mem_append_left _ hD))⟩, q.it.walks.frame _ _ _ k.stf fun b hb o e => kb b o (q.fpD b hb).1 e, k.wo⟩
noncomputable def CQ.Inv (Q : CQ) (n : Nat) (s' : Shared) : Prop := ∃ j acc σ' ccs, n = Q.vs.length + 1 - j ∧ j ≤ Q.vs.length ∧ ccs.length ≤ j ∧ WComp Q.cD Q.d Q.S Q.x Q.ifs Q.elt Q.m Q.Kf (Q.vs.drop j) acc σ' ∧ Q.Core j acc σ' ccs s'
theorem CQ.Core.inv (k : Q.Core (j + 1) acc σ' ccs s') (hj : j < Q.vs.length) (hl : ccs.length ≤ j + 1) (hW : WComp Q.cD Q.d Q.S Q.x Q.ifs Q.elt Q.m Q.Kf (Q.vs.drop (j + 1)) acc σ') : ∃ m, m < Q.vs.length + 1 - j ∧ Q.Inv m s' :=
  ⟨Q.vs.length + 1 - (j + 1), by (exact Ar.lin 0 2 (.lt (.s (.a (.v 0) (.k 1)) (.a (.v 1) (.k 1))) (.s (.a (.v 0) (.k 1)) (.v 1))) [(.lt (.v 1) (.v 0))] (by kernel_rfl) [] [_, _] rfl rfl hj), j + 1, acc, σ', ccs, rfl, hj, hl, hW, k⟩
theorem CQ.elem_ (q : Q.Ok) (k : Q.Core (j + 1) acc σ' ccs s') (hj : j < Q.vs.length) (hl : ccs.length ≤ j) {v : V} (er : EnvRel Q.cD (ownS Q.cD σ') Q.env ((Q.x, v) :: Q.m) s'.heap) {E : Value → Shared → Prop}
    (hW : WE Q.cD Q.d Q.S Q.elt ((Q.x, v) :: Q.m) σ' (fun w σ₂ => WComp Q.cD Q.d Q.S Q.x Q.ifs Q.elt Q.m Q.Kf (Q.vs.drop (j + 1)) (acc ++ [w]) σ₂) NoX) :
    wpAny Q.c.M Q.A (eval Q.elt Q.env) (fun xv s₄ => wpAny Q.c.M Q.A (call (.builtin "list.append") [.ref Q.D, xv]) (fun z1 s₅ => ∃ m, m < Q.vs.length + 1 - j ∧ Q.Inv m s₅) E s₄) E s' := by
  refine wpAny_mono (hW Q.env Q.A s' E ⟨q.sc, q.ok, q.a, k.st, er, .nox⟩) ?_ fun z1 z2 x => x
  rintro cx s₆ ⟨w, σ₆, h₆, t₆, hSt₆, rw'⟩
  have k₆ := k.step q t₆ hSt₆
  refine wpAny_list_append_plain k₆.pD (fun h₇ hp₇ hs₇ => ?_) (Nat.le_trans hl (Nat.le_trans (Nat.le_of_lt hj) q.it.size))
  obtain ⟨n, e₇⟩ := hp₇
  exact (k₆.app q rw' (fun b o hb e => (hs₇.2 b hb).trans e) (n := n) (by rw [e₇]; simp)).inv hj (by rw [List.length_append]; exact Nat.succ_le_succ hl) h₆
theorem CQ.loop (q : Q.Ok) {R : Result → Shared → Prop} (hR : ∀ acc σ' ccs s', Q.Kf acc σ' → ccs.length ≤ sizeLine → Q.Core0 acc σ' ccs s' → R (.ok .next) s') {iter : Expr} {scope : Scope} {pos px : Pos} {n : Nat} (h : Q.Inv n s') :
    codeAny Q.c.M Q.A (.compLoop (.ListComp Q.elt [⟨.Name Q.x px, iter, Q.ifs, 0⟩] scope pos) 0 (.ref Q.I) (.ref Q.D) Q.env) R s' := by
  refine codeAny_comp_any Q.Inv (fun n s' h => ?_) n h
  obtain ⟨j, acc, σ', ccs, rfl, hj, hl, hW, k⟩ := h
  by_cases hlt : j < Q.vs.length
  · refine q.it.walks.item j s' _ _ hlt k.stf fun v h' tk hP hStf' hk => ?_
    have k₃ : Q.Core (j + 1) acc σ' ccs { s' with heap := h', toks := tk } := ⟨k.turn0 q fun b o hb e => hk b o hb e, hStf', k.wo⟩
    obtain ⟨oI, hoI, hown⟩ := q.it.own _ _ hStf'
    refine letOwned (s := { s' with heap := h', toks := tk }) hoI hown ?_
    rw [List.drop_eq_getElem_cons hlt] at hW
    have hrel : VRel h' (ownS Q.cD σ') Q.vs[j] v := by
      refine q.it.elem h' _ (fun a o e ha f => ?_) j Q.vs[j] v (List.getElem?_eq_getElem hlt) hP
      have hn : a ∉ owned Q.σ := fun q => ha (List.mem_append_right _ q)
      refine ⟨k₃.t.kept.exact e hn f.notDict, fun hm => ?_⟩
      rcases List.mem_append.mp hm with w | w
      · rcases List.mem_cons.mp w with w | w
        · rw [w, q.Dnew] at e; cases e
        · exact ha (List.mem_append_left _ w)
      · exact k₃.t.grow.notin hn e w
    refine wpAny_mono (assign_N (c := Q.cD) q.ok q.loc q.own1 q.own2 k₃.st k₃.er hrel) ?_ fun z1 z2 x => x
    rintro _ s₄ ⟨h₄, tk₄, rfl, kb₄, hSt₄, her₄⟩
    have k₄ := k₃.set q (tk := tk₄) kb₄ hSt₄ (her₄.sub (q.mbs _))
    have er₄ := her₄.sub (q.sub _)
    refine WIfs.run hW ⟨q.sc, q.ok, q.a, hSt₄, er₄, .nox⟩ fun b σ₅ s₅ h₅ t₅ st₅ => ?_
    have k₅ := k₄.step q t₅ st₅
    cases b with
    | true => exact CQ.elem_ q k₅ hlt hl (er₄.mono t₅.kept.wider t₅.grow.wider) h₅
    | false => exact k₅.inv hlt (Nat.le_succ_of_le hl) h₅
  · have hjl : j = Q.vs.length := Nat.le_antisymm hj (Nat.not_lt.mp hlt)
    subst hjl
    refine q.it.walks.done s' _ _ k.stf fun h' tk hk => ?_
    rw [List.drop_length] at hW
    exact hR acc σ' ccs _ hW (Nat.le_trans hl q.it.size) (k.turn0 q fun b o hb e => hk b o hb e)
end
theorem comp_core (hh : c.k.hd = true) {elt iter : Expr} {x : Str} {px : Pos} {ifs : List Expr} {scope : Scope} {pos : Pos} (hok : compOk scope sc x = true) (hdot : m.lookup (".0" : Str) = none) {env : Env} {A : Around} {s₁ : Shared} {E : Value → Shared → Prop} {σ₁ : Led}
    (hsc : env.scope = sc) (ok : EnvOk env) (hA : AOk c.k d A) (st₁ : St c A σ₁ s₁.heap) (er₁ : EnvRel c (ownS c σ₁) env m s₁.heap) {lv : V} {vs : List V} {G : List Addr} {cl : Value} (hG : ∀ b ∈ G, b ∈ owned σ₁)
    (hI : IterS (c.pro G) σ₁ lv vs) (rl : VRel s₁.heap (ownS c σ₁) lv cl) {Kf : List V → Led → Prop} (hW : ∀ D, WComp ((c.pro G).hide D) d (relabelS scope sc) x ifs elt m Kf vs [] σ₁) {RR : Value → Addr → Result → Shared → Prop}
    (hRR : ∀ D C s' σ' ws ccs, Kf ws σ' → Step c.F (owned σ₁) (owned σ') s₁ s' → St (c.hide D) A σ' s'.heap → PlainSeq s'.heap "list" D ccs → ccs.length ≤ sizeLine → VRels s'.heap (ownS (c.hide D) σ') ws ccs →
      s₁.heap.get? D = none → s₁.heap.get? C = none → C ≠ D → (∃ mc, s'.heap.Ns C mc) → C ∉ owned σ' → RR (.ref D) C (.ok .next) s') :
    wpAny c.M A (pyIter cl) (fun it s₂ => wpAny c.M A (newList []) (fun acc s₃ => wpAny c.M A (newFunctionEnv scope env.globals (clOf env.cells scope.names []) [] env.qual none .none (some env)) (fun cenv s₄ =>
      codeAny c.M A (.compStart (.ListComp elt [⟨.Name x px, iter, ifs, 0⟩] scope pos) 0 it acc { cenv with scope := relabel scope env }) (RR acc cenv.locals) s₄) E s₃) E s₂) E s₁ := by
  subst hsc
  simp only [compOk, Bool.and_eq_true, beq_iff_eq, List.all_eq_true, bne_iff_ne, ne_eq, Bool.or_eq_true, Bool.not_eq_true', List.contains_eq_mem, decide_eq_true_eq] at hok
  obtain ⟨⟨⟨hkind, hnd⟩, hnames⟩, htn⟩ := hok
  have hnd := nodup_of hnd
  have hlk : ∀ {x : Str} {k : NameKind}, (x, k) ∈ scope.names → scope.names.lookup x = some k := lookup_of_mem hnd
  have hfree : ∀ x, scope.names.lookup x = some .free → env.kindOf x = some .cell ∨ env.kindOf x = some .free := fun x hx => by
    have := (hnames _ (mem_of_lookup hx)).1.2
    simp only [not_true_eq_false, false_or] at this
    exact var_kind this
  refine wpAny_mono (hI A s₁ E cl (hA.handled hh) (st₁.pro hG) rl) ?_ fun z1 z2 x => x
  rintro it s₂ ⟨I, fp, wr, Pf, Stf, rfl, iok, hos, hgens⟩
  refine wpAny_newList ?_ (by simp)
  refine wpAny_newEnv_comp ?_
  -- the places
  generalize hD : s₂.heap.objs.size = D
  generalize hh₃ : s₂.heap.push { cls := .type "list", data := .seq ([] : List Value).toArray } = h₃
  have hC : h₃.objs.size = D + 1 := by rw [← hh₃, Heap.size_push, hD]
  dsimp only
  rw [hC]
  generalize hC' : D + 1 = C
  have hx12 : Ext s₁.heap s₂.heap := iok.ext
  have hx23 : Ext s₂.heap h₃ := by rw [← hh₃]; exact .push _
  generalize hh₄ : pushCells (h₃.push { cls := .type "dict", data := .dict #[] }) scope.names = h₄
  have hx34 : Ext h₃ h₄ := fun b o e => by rw [← hh₄]; exact pushCells_keeps _ _ b o (Heap.get?_push_of_some _ e)
  have hx14 : Ext s₁.heap h₄ := (hx12.trans hx23).trans hx34
  have hDn : s₂.heap.get? D = none := by rw [← hD]; exact get?_size _
  have notin : ∀ b, D ≤ b → s₁.heap.get? b = none := fun b hb => by
    cases e : s₁.heap.get? b with
    | none => rfl
    | some o => have := Heap.lt_size (hx12 b o e); exact absurd hb (Nat.not_le.mpr (hD ▸ this))
  have hDobj : h₄.get? D = some { cls := .type "list", data := .seq ([] : List Value).toArray } := by
    apply hx34; rw [← hh₃, ← hD]; exact Heap.get?_push_size _ rfl
  have hCns : h₄.Ns C fun z1 => none := by
    have := (Heap.Ns.new h₃ (.type "dict")).keeps (h' := h₄) fun b o e => by rw [← hh₄]; exact pushCells_keeps _ _ b o e
    rwa [hC, hC'] at this
  have hcok : CellsOk h₄ (C + 1) (cellsFrom (C + 1) scope.names []) := by
    have := cellsFrom_ok scope.names (h₃.push { cls := .type "dict", data := .dict #[] }) (C + 1) [] ⟨fun z1 z2 hm => (nomatch hm), List.Pairwise.nil⟩ (by rw [Heap.size_push, hC, hC']; exact Nat.le_refl _)
    rwa [hh₄, Heap.size_push, hC, hC'] at this
  generalize hoc : cellsFrom (C + 1) scope.names [] = oc at hcok
  generalize hcl : clOf env.cells scope.names [] = cle
  have hcells : cellsFrom (C + 1) scope.names cle = oc ++ cle := by rw [cells_split, hoc]
  rw [hcells]
  generalize henv : ({ newEnv scope C env.globals (oc ++ cle) env.qual none .none (some env) builtinsNs with scope := relabel scope env } : Env) = cenv
  have eloc : cenv.locals = C := by rw [← henv]; rfl
  have escope : cenv.scope = relabelS scope env.scope := by rw [← henv]; rfl
  have ecells : cenv.cells = oc ++ cle := by rw [← henv]; rfl
  have eglob : cenv.globals = env.globals := by rw [← henv]; rfl
  have eblt : cenv.builtins = env.builtins := by rw [← henv]; rfl
  have ekind : ∀ x, cenv.kindOf x = (scope.names.lookup x).map fun k => if (k == .free && env.scope.kind == .function && env.scope.names.lookup x == some .cell) then .cell else k := fun x => by
    unfold Env.kindOf; rw [escope]; exact lookup_relabelS
  have eC : (newEnv scope C env.globals (oc ++ cle) env.qual none .none (some env) builtinsNs).locals = C := rfl
  rw [eC]
  -- keys of the cells
  have keyoc : ∀ x, x ∈ oc.map (·.1) ↔ (x, NameKind.cell) ∈ scope.names := fun x => by
    rw [← hoc, keys_cellsFrom]
    simp only [List.map_nil, List.append_nil, List.mem_reverse, List.mem_map, List.mem_filter, beq_iff_eq]
    constructor
    · rintro ⟨⟨y, k⟩, ⟨h1, h2⟩, rfl⟩; dsimp only at h2 ⊢; rw [← h2]; exact h1
    · intro h; exact ⟨_, ⟨h, rfl⟩, rfl⟩
  have keycl : ∀ x, x ∈ cle.map (·.1) ↔ (x, NameKind.free) ∈ scope.names := fun x => by
    rw [← hcl, keys_clOf]
    simp only [List.map_nil, List.append_nil, List.mem_reverse, List.mem_map, List.mem_filter, beq_iff_eq]
    constructor
    · rintro ⟨⟨y, k⟩, ⟨h1, h2⟩, rfl⟩; dsimp only at h2 ⊢; rw [← h2]; exact h1
    · intro h; exact ⟨_, ⟨h, rfl⟩, rfl⟩
  have memcl : ∀ x a, (x, a) ∈ cle → env.cells.lookup x = some a ∧ (x, NameKind.free) ∈ scope.names := fun x a hm => by
    rw [← hcl] at hm
    rcases mem_clOf _ _ _ hm with q | ⟨q1, q2⟩
    · cases q
    · obtain ⟨b, hb⟩ := ok.cell x (hfree x (hlk q1))
      rw [hb] at q2; simp only [Option.getD_some] at q2; rw [q2]; exact ⟨hb, q1⟩
  have lookcl : ∀ x, scope.names.lookup x = some .free → (oc ++ cle).lookup x = env.cells.lookup x := fun x hx => by
    rw [List.lookup_append]
    have h1 : oc.lookup x = none := by
      cases q : oc.lookup x with
      | none => rfl
      | some a =>
        have : (x, NameKind.cell) ∈ scope.names := (keyoc x).mp (List.mem_map.mpr ⟨_, mem_of_lookup q, rfl⟩)
        rw [hlk this] at hx; cases hx
    rw [h1, Option.none_or]
    obtain ⟨a, ha⟩ := lookup_some_of_key ((keycl x).mpr (mem_of_lookup hx))
    rw [ha, (memcl x a (mem_of_lookup ha)).1]
  have lookoc : ∀ x, scope.names.lookup x = some .cell → ∃ a, (oc ++ cle).lookup x = some a ∧ (x, a) ∈ oc := fun x hx => by
    obtain ⟨a, ha⟩ := lookup_some_of_key ((keyoc x).mpr (mem_of_lookup hx))
    exact ⟨a, by rw [List.lookup_append, ha]; rfl, mem_of_lookup ha⟩
  have kinds : ∀ x, (cenv.kindOf x = some .local → scope.names.lookup x = some .local) ∧ ((cenv.kindOf x = some .cell ∨ cenv.kindOf x = some .free) → scope.names.lookup x = some .cell ∨ scope.names.lookup x = some .free) := fun x => by
    rw [ekind]
    cases q : scope.names.lookup x with
    | none => simp
    | some k =>
      simp only [Option.map_some, Option.some.injEq]
      cases k <;> simp <;> split <;> simp_all
  have ok' : EnvOk cenv := by
    refine ⟨by rw [escope]; exact hkind, ?_, ?_, by rw [eglob]; exact ok.globals, by rw [eblt]; exact ok.builtins, fun x hx => ?_⟩
    · rw [ekind]
      cases q : scope.names.lookup ("__debug__" : Str) with
      | none => rfl
      | some k => exact absurd rfl (hnames _ (mem_of_lookup q)).1.1.1
    · rw [ekind]
      cases q : scope.names.lookup ("__classdict__" : Str) with
      | none => simp
      | some k => exact absurd rfl (hnames _ (mem_of_lookup q)).1.1.2
    · rw [ecells]
      rcases (kinds x).2 hx with q | q
      · obtain ⟨a, ha, _⟩ := lookoc x q; exact ⟨a, ha⟩
      · rw [lookcl x q]; exact ok.cell x (hfree x q)
  -- the set of this comprehension's own places
  have hOc : ∀ x a, (x, a) ∈ oc → C + 1 ≤ a ∧ h₄.IsCell a none := fun x a hm => ⟨(hcok.empty x a hm).2, (hcok.empty x a hm).1⟩
  generalize hWs : C :: oc.map (·.2) = Ws
  have hWsge : ∀ b ∈ Ws, C ≤ b := fun b hb => by
    rw [← hWs] at hb
    rcases List.mem_cons.mp hb with rfl | hb
    · exact Nat.le_refl _
    · obtain ⟨⟨x, a⟩, hm, rfl⟩ := List.mem_map.mp hb
      have := (hOc x a hm).1; dsimp only; (exact Ar.lin 0 2 (.le (.v 0) (.v 1)) [(.le (.a (.v 0) (.k 1)) (.v 1))] (by kernel_rfl) [] [_, _] rfl rfl this)
  have hDC : D < C := by (exact Ar.lin 0 2 (.lt (.v 0) (.v 1)) [(.eq (.a (.v 0) (.k 1)) (.v 1))] (by kernel_rfl) [] [_, _] rfl rfl hC')
  have hWsnew : ∀ b ∈ Ws, s₁.heap.get? b = none := fun b hb => notin b (by have := hWsge b hb; (exact Ar.lin 0 3 (.le (.v 0) (.v 1)) [(.eq (.a (.v 0) (.k 1)) (.v 2)), (.le (.v 2) (.v 1))] (by kernel_rfl) [] [_, _, _] rfl rfl hC' this))
  -- contexts
  let cD := (c.pro G).hide D
  have stp := st₁.pro hG
  have st₄ : St cD A σ₁ h₄ := stp.hideNew hx14 (notin D (Nat.le_refl _)) hDobj
  have erp := er₁.pro hG
  have base0 : ∀ b, D ≤ b → c.k.h0.get? b = none := fun b hb => by
    cases e : c.k.h0.get? b with
    | none => rfl
    | some o => have := st₁.keep _ _ e; rw [notin b hb] at this; cases this
  have notF : ∀ b, D ≤ b → b ∉ (c.pro G).F := fun b hb hm => by obtain ⟨o, e⟩ := stp.prot b hm; rw [notin b hb] at e; cases e
  have notH : ∀ b, D ≤ b → b ∉ c.H := fun b hb hm => by obtain ⟨_, o, e⟩ := st₁.hid b hm; rw [notin b hb] at e; cases e
  have notown : ∀ b, D ≤ b → b ∉ owned σ₁ := fun b hb hm => by obtain ⟨o, e⟩ := st₁.there hm; rw [notin b hb] at e; cases e
  have notownS : ∀ b, D < b → b ∉ ownS cD σ₁ := fun b hb hm => by
    rcases List.mem_append.mp hm with q | q
    · rcases List.mem_cons.mp q with q | q
      · (exact Ar.fls 0 2 [(.lt (.v 0) (.v 1)), (.eq (.v 1) (.v 0))] (by kernel_rfl) [] [_, _] rfl rfl hb q)
      · exact notH b (by (exact Ar.lin 0 2 (.le (.v 0) (.v 1)) [(.lt (.v 0) (.v 1))] (by kernel_rfl) [] [_, _] rfl rfl hb)) q
    · exact notown b (by (exact Ar.lin 0 2 (.le (.v 0) (.v 1)) [(.lt (.v 0) (.v 1))] (by kernel_rfl) [] [_, _] rfl rfl hb)) q
  generalize hmb : (m.filter fun p => !ownOf (scope.names.lookup p.1)) = mb
  have lookmb : ∀ x, mb.lookup x = if ownOf (scope.names.lookup x) = true then none else m.lookup x := fun x => by
    rw [← hmb, lookup_filter_key (f := fun x => !ownOf (scope.names.lookup x))]
    cases ownOf (scope.names.lookup x) <;> simp
  have growD : Grow (ownS (c.pro G) σ₁) (ownS cD σ₁) s₁.heap := fun b hb => by
    rcases List.mem_append.mp hb with q | q
    · rcases List.mem_cons.mp q with rfl | q
      · exact .inr (notin _ (Nat.le_refl _))
      · exact .inl (List.mem_append_left _ q)
    · exact .inl (List.mem_append_right _ q)
  have erD : EnvRel (c.pro G) (ownS cD σ₁) env m h₄ := erp.mono hx14.kept growD
  have er₄ : EnvRel cD (ownS cD σ₁) cenv mb h₄ := by
    refine ⟨⟨_, by rw [eloc]; exact hCns, fun x v hx hk => ?_⟩, fun x v hx hk => ?_, ⟨?_, ?_, ?_⟩, fun x a hm => ?_, ?_⟩
    · rw [lookmb, (kinds x).1 hk] at hx; simp [ownOf] at hx
    · rcases (kinds x).2 hk with q | q
      · rw [lookmb, q] at hx; simp [ownOf] at hx
      · rw [lookmb, q] at hx
        simp only [ownOf, Bool.false_eq_true, if_false] at hx
        obtain ⟨a, cv, e, hc, r⟩ := erD.cell x v hx (hfree x q)
        exact ⟨a, cv, by rw [ecells, lookcl x q]; exact e, hc, r⟩
    · rw [eloc]; exact notownS C hDC
    · rw [eloc]; exact base0 C (by (exact Ar.lin 0 2 (.le (.v 0) (.v 1)) [(.eq (.a (.v 0) (.k 1)) (.v 1))] (by kernel_rfl) [] [_, _] rfl rfl hC'))
    · rw [eloc]; exact notF C (by (exact Ar.lin 0 2 (.le (.v 0) (.v 1)) [(.eq (.a (.v 0) (.k 1)) (.v 1))] (by kernel_rfl) [] [_, _] rfl rfl hC'))
    · rw [ecells] at hm
      rcases List.mem_append.mp hm with q | q
      · have := hOc x a q
        have hDa : D < a := Nat.lt_trans hDC this.1
        exact ⟨notownS a hDa, by rw [eloc]; exact Nat.ne_of_gt this.1, base0 a (Nat.le_of_lt hDa), notF a (Nat.le_of_lt hDa), none, this.2⟩
      · have hl := (memcl x a q).1
        obtain ⟨h1, h2, h3, h4, v, h5⟩ := erD.cnot x a (mem_of_lookup hl)
        obtain ⟨_, o, e, _⟩ := (er₁.cnot x a (mem_of_lookup hl)).2.2.2.2
        have hne : a ≠ cenv.locals := fun q => by rw [eloc] at q; rw [q, notin C (Nat.le_of_lt hDC)] at e; cases e
        exact ⟨h1, hne, h3, h4, v, h5⟩
    · rw [ecells]
      refine List.pairwise_append.mpr ⟨hcok.apart, ?_, fun p hp q hq e => ?_⟩
      · refine pairwise_keys er₁.apart ?_ fun x a hm => (memcl x a hm).1
        rw [← hcl, keys_clOf, List.map_nil, List.append_nil]
        exact (List.reverse_perm _).nodup_iff.mpr ((List.filter_sublist.map _).nodup hnd)
      · have h1 := (hOc p.1 p.2 hp).1
        obtain ⟨v, o, he, _⟩ := (er₁.cnot q.1 q.2 (mem_of_lookup (memcl q.1 q.2 hq).1)).2.2.2.2
        have hle : D ≤ q.2 := by rw [← e]; exact Nat.le_of_lt (Nat.lt_trans hDC h1)
        rw [notin _ hle] at he; cases he
  have hplaces : ∀ b ∈ places cenv, b ∈ Ws ∨ ∃ o, s₁.heap.get? b = some o := fun b hb => by
    simp only [places, List.mem_cons, List.mem_map, eloc, ecells, List.mem_append] at hb
    rcases hb with rfl | ⟨⟨x, a⟩, q | q, rfl⟩
    · left; rw [← hWs]; exact .head _
    · left; rw [← hWs]; exact .tail _ (List.mem_map.mpr ⟨_, q, rfl⟩)
    · right
      obtain ⟨v, o, e, _⟩ := (er₁.cnot x a (mem_of_lookup (memcl x a q).1)).2.2.2.2
      exact ⟨o, e⟩
  have hwrlt : ∀ b ∈ wr, b < D := fun b hb => by
    obtain ⟨o, e, _⟩ := iok.obj 0 _ iok.start b hb
    exact hD ▸ Heap.lt_size e
  have hplwr : ∀ b ∈ places cenv, b ∉ wr := fun b hb hw => by
    rcases hplaces b hb with q | ⟨o, e⟩
    · exact absurd (Nat.lt_of_lt_of_le hDC (hWsge b q)) (Nat.not_lt.mpr (Nat.le_of_lt (hwrlt b hw)))
    · rw [iok.new b hw] at e; cases e
  have wrOk : ∀ σ' h', (∀ b ∈ wr, b ∉ owned σ') → (∀ b ∈ wr, ∀ o, h'.get? b = some o → ¬ Frozen o) → WrOk cD A σ' wr h' := fun σ' h' h1 h2 => by
    refine ⟨h1, fun b hb => ?_, fun b hb hm => ?_, fun b hb hm => ?_, h2, fun l hl L hL hw => ?_⟩
    · show c.k.h0.get? b = none
      cases e : c.k.h0.get? b with
      | none => rfl
      | some o => have := st₁.keep _ _ e; rw [iok.new b hb] at this; cases this
    · obtain ⟨o, e⟩ := stp.prot b hm; rw [iok.new b hb] at e; cases e
    · rcases List.mem_cons.mp hm with q | q
      · exact Nat.ne_of_lt (hwrlt b hb) q
      · obtain ⟨_, o, e⟩ := st₁.hid b q; rw [iok.new b hb] at e; cases e
    · obtain ⟨l', hl', hf', _⟩ := st₁.frames
      rw [hl] at hl'; cases hl'
      obtain ⟨_, o, e, _⟩ := hf'.mem hL
      rw [iok.new L hw] at e; cases e
  have hwrF : ∀ b ∈ wr, b ∉ (c.pro G).F := fun b hb hm => by obtain ⟨o, e⟩ := stp.prot b hm; rw [iok.new b hb] at e; cases e
  have hWsF : ∀ b ∈ Ws, b ∉ (c.pro G).F := fun b hb => notF b (Nat.le_trans (Nat.le_of_lt hDC) (hWsge b hb))
  have hDwr : D ∉ wr := fun q => Nat.lt_irrefl _ (hwrlt D q)
  have own1 : ownOf (cenv.kindOf x) = true := by
    rw [ekind]
    rcases own_kind htn with q | q <;> rw [q] <;> rfl
  have own2 : ∀ L, cenv.kindOf x = some .cell → cenv.cells.lookup x = some L → L ∈ Ws := fun L hk hl => by
    rcases (kinds x).2 (.inl hk) with q | q
    · obtain ⟨a, ha, hm⟩ := lookoc x q
      rw [ecells, ha] at hl; cases hl
      rw [← hWs]; exact .tail _ (List.mem_map.mpr ⟨_, hm, rfl⟩)
    · rw [q] at htn; cases htn
  have hfpD : ∀ b ∈ fp, b ≠ D ∧ b ∉ Ws := fun b hb => by
    rcases iok.fp b hb with q | q | ⟨_, ob, hob, _⟩
    · exact ⟨fun z => hDwr (z ▸ q), fun z => absurd (Nat.lt_of_lt_of_le hDC (hWsge b z)) (Nat.not_lt.mpr (Nat.le_of_lt (hwrlt b q)))⟩
    · exact ⟨fun z => notF D (Nat.le_refl _) (z ▸ q), fun z => hWsF b z q⟩
    · exact ⟨fun z => (by rw [z, notin D (Nat.le_refl _)] at hob; cases hob), fun z => (by rw [hWsnew b z] at hob; cases hob)⟩
  -- the loop
  have Qok : CQ.Ok ⟨c, G, d, A, cenv, relabelS scope env.scope, x, ifs, elt, m, mb, Kf, vs, σ₁, s₁, D, Ws, I, fp, wr, Pf, Stf, s₂.heap⟩ := by
    refine ⟨hA, ok', escope, iok, wrOk, hplwr, ?_, fun b hb => ?_, hWsnew, hWsF, fun q => absurd hDC (Nat.not_lt.mpr (hWsge D q)), hDwr, notin D (Nat.le_refl _), notF D (Nat.le_refl _), base0 D (Nat.le_refl _), hfpD, own1, own2, fun v y w hy => ?_, fun v y w hy => ?_⟩
    · show cenv.locals ∈ Ws
      rw [eloc, ← hWs]; exact .head _
    · replace hb : b ∈ Ws := hb
      show b ∈ places cenv
      simp only [places, List.mem_cons, List.mem_map, eloc, ecells, List.mem_append]
      rw [← hWs] at hb
      rcases List.mem_cons.mp hb with q | q
      · exact .inl q
      · obtain ⟨p, hp, rfl⟩ := List.mem_map.mp q; exact .inr ⟨p, .inl hp, rfl⟩
    · replace hy : List.lookup y ((x, v) :: m) = some w := hy
      show List.lookup y ((x, v) :: mb) = some w
      rw [List.lookup_cons] at hy ⊢
      cases q : y == x with
      | true => rw [q] at hy; exact hy
      | false =>
        rw [q] at hy
        dsimp only at hy ⊢
        rw [lookmb]
        cases ho : ownOf (scope.names.lookup y) with
        | false => exact hy
        | true =>
          exfalso
          cases z : scope.names.lookup y with
          | none => rw [z] at ho; cases ho
          | some k =>
            rcases (hnames _ (mem_of_lookup z)).2 with (z' | z') | z'
            · rw [z] at ho; rw [ho] at z'; cases z'
            · rw [show y = x from z', beq_self_eq_true] at q; cases q
            · rw [show y = (".0" : Str) from z', hdot] at hy; cases hy
    · replace hy : List.lookup y mb = some w := hy
      show List.lookup y ((x, v) :: mb) = some w
      rw [List.lookup_cons]
      cases q : y == x with
      | false => exact hy
      | true => rw [lookmb, eq_of_beq q, htn] at hy; cases hy
  have hstf := iok.walks.frame 0 s₂.heap h₄ iok.start fun b z1 o e => hx34 b o (hx23 b o e)
  have loop : codeAny c.M A (.compLoop (.ListComp elt [⟨.Name x px, iter, ifs, 0⟩] scope pos) 0 (.ref I) (.ref D) cenv) (RR (.ref D) C) { s₂ with heap := h₄ } := by
    refine CQ.loop Qok (fun acc σ' ccs s' hk hl k => ?_) (n := vs.length + 1) ⟨0, [], σ₁, [], rfl, Nat.zero_le _, Nat.le_refl _, hW D, ⟨⟨hx14.kept, fun b o e => ⟨o, hx14 b o e⟩, fun b z1 o e => hx14 b o e, .refl, hos, hgens⟩, st₄, er₄, ⟨_, hDobj⟩, by simp [VRels]⟩, hstf, fun b hb hm => ?_⟩
    · have hSt' : St (c.hide D) A σ' s'.heap := by
        have z := k.st
        obtain ⟨l, hl, hf, hd⟩ := z.frames
        exact ⟨z.keep, z.nodup, z.fresh, z.objs, ⟨l, hl, hf, fun L hL => ⟨(hd L hL).1, fun q => (hd L hL).2.1 (List.mem_append_right _ q), (hd L hL).2.2⟩⟩, fun b hb => z.prot b (List.mem_append_right _ hb), z.hid⟩
      refine hRR D C _ σ' acc ccs hk k.t.unpro hSt' k.pD hl k.acc (notin D (Nat.le_refl _)) (notin C (Nat.le_of_lt hDC)) (Nat.ne_of_gt hDC) ?_ ?_
      · obtain ⟨mc, hn, _⟩ := k.er.ns; rw [show C = cenv.locals from eloc.symm]; exact ⟨mc, hn⟩
      · rw [show C = cenv.locals from eloc.symm]; exact fun q => k.er.lnot.1 (List.mem_append_right _ q)
    · obtain ⟨o, e⟩ := st₁.there hm; rw [iok.new b hb] at e; cases e
  exact codeAny_compStart_list loop (iok.walks.self 0 _ _ _ hstf loop)
end Mine
end
section
namespace Mine
open PySem
variable {c : Cx} {d : Nat} {sc : Scope} {m : AEnv} {σ : Led} {P : V → Led → Prop} {X : XP} {K : Fl → AEnv → Led → Prop}
noncomputable def Made (F : List Addr) (loc : Bool) (P : V → Led → Prop) (ws : List V) (σ : Led) : Prop := if loc = true then ∀ a, a ∉ owned σ → a ∉ F → P (.ref a) ((a, .list ws) :: σ) else P (.lst ws) σ
theorem made_post {A : Around} {s s' : Shared} {own : List Addr} {D : Addr} {ws : List V} {ccs : List Value} {σ' : Led} {loc : Bool} (hp : Made c.F loc P ws σ') (t : Step c.F own (owned σ') s s') (hD0 : s.heap.get? D = none) (h0 : c.k.h0.get? D = none) (hDH : D ∉ c.H) (hDF : D ∉ c.F)
    (st : St (c.hide D) A σ' s'.heap) (hpl : PlainSeq s'.heap "list" D ccs) (hl : ccs.length ≤ sizeLine) (rs : VRels s'.heap (ownS (c.hide D) σ') ws ccs) :
    ∃ v σ'', P v σ'' ∧ Step c.F own (owned σ'') s s' ∧ St c A σ'' s'.heap ∧ VRel s'.heap (ownS c σ'') v (.ref D) ∧ ∀ b ∈ owned σ'', b = D ∨ b ∈ owned σ' := by
  have hno := (st.hid D (.head _)).1
  cases loc with
  | false =>
    refine ⟨.lst ws, σ', hp, t, st.unhide, ?_, fun b hb => .inr hb⟩
    simp only [VRel]
    exact ⟨D, ccs, rfl, fun q => (List.mem_append.mp q).elim hDH hno, hpl, hl, VRels.mono Kept.refl (fun b hb => .inl (List.mem_cons_of_mem _ hb)) _ _ rs⟩
  | true =>
    refine ⟨.ref D, (D, .list ws) :: σ', hp D hno hDF, ⟨t.kept, t.there, t.prot, fun b hb => ?_, t.os, t.gens⟩, ?_, by simp only [VRel], fun b hb => (List.mem_append.mp hb).imp (fun q => by simpa [O.addrs] using q) id⟩
    · rcases List.mem_append.mp hb with q | q
      · simp only [O.addrs, List.mem_singleton] at q; subst q; exact .inr hD0
      · exact t.grow b q
    · have gw : Grow (ownS (c.hide D) σ') (ownS c ((D, .list ws) :: σ')) s'.heap := fun b hb => by
        rcases List.mem_append.mp hb with q | q
        · exact .inl (List.mem_append_left _ (List.mem_cons_of_mem _ q))
        · rcases List.mem_append.mp q with q | q
          · simp only [O.addrs, List.mem_singleton] at q; subst q; exact .inl (List.mem_append_left _ (.head _))
          · exact .inl (List.mem_append_right _ q)
      obtain ⟨l, hl', hf, hd⟩ := st.frames
      refine ⟨st.keep, ?_, ?_, ?_, ⟨l, hl', hf, fun L hL => ⟨fun q => ?_, (hd L hL).2⟩⟩, st.prot, fun b hb => ⟨fun q => ?_, (st.hid b (List.mem_cons_of_mem _ hb)).2⟩⟩
      · refine List.nodup_append.mpr ⟨by simp [O.addrs], st.nodup, fun b hb b' hb' e => ?_⟩
        simp only [O.addrs, List.mem_singleton] at hb; subst hb; subst e; exact hno hb'
      · intro b hb
        rcases List.mem_append.mp hb with q | q
        · simp only [O.addrs, List.mem_singleton] at q; subst q; exact h0
        · exact st.fresh b q
      · intro a o hm
        rcases List.mem_cons.mp hm with q | q
        · cases q; exact ⟨ccs, hpl, hl, VRels.mono Kept.refl gw _ _ rs⟩
        · exact (st.objs a o q).mono Ext.refl gw
      · rcases List.mem_append.mp q with q | q
        · simp only [O.addrs, List.mem_singleton] at q; subst q
          obtain ⟨n, e⟩ := hpl
          exact PlainSeq.notDict ((hd L hL).2.2 _ e)
        · exact (hd L hL).1 q
      · rcases List.mem_append.mp q with q | q
        · simp only [O.addrs, List.mem_singleton] at q; subst q; exact hDH hb
        · exact (st.hid b (List.mem_cons_of_mem _ hb)).1 q
theorem compOk_local {scope : Scope} {x : Str} (h : compOk scope sc x = true) : scope.kind = .function ∧ (∀ x ∈ scope.names, x.2 = .local → scope.names.lookup x.1 = some .local) ∧ ∀ p ∈ scope.names, p.2 = .free → varOf (sc.names.lookup p.1) = true := by
  simp only [compOk, Bool.and_eq_true, beq_iff_eq, List.all_eq_true, bne_iff_ne, ne_eq, Bool.or_eq_true, Bool.not_eq_true', List.contains_eq_mem, decide_eq_true_eq] at h
  obtain ⟨⟨⟨hkind, hnd⟩, hnames⟩, _⟩ := h
  refine ⟨hkind, fun x hx hk => ?_, fun p hp hk => ?_⟩
  · rw [← hk]; exact lookup_of_mem (nodup_of hnd) hx
  · exact (hnames p hp).1.2.elim (absurd hk) id
theorem closure_of {scope : Scope} {env : Env} {x : Str} (ok : EnvOk env) (h : compOk scope env.scope x = true) : closureFor scope env = pure (clOf env.cells scope.names []) :=
  closureFor_eq fun p hp hk => ok.cell p.1 (var_kind ((compOk_local h).2.2 p hp hk))
theorem St.atC {c₀ : Cx} (hk0 : c.k = c₀.k) (hF0 : c.F = c₀.F) {A : Around} {s₁ s' : Shared} {C : Addr} {h' : Heap} {σ' σ₁ : Led} (st₁ : St c₀ A σ₁ s₁.heap) (hC : s₁.heap.get? C = none) (hno : C ∉ owned σ') (hH : C ∉ c.H) (hn : ∃ mc, s'.heap.Ns C mc) (hs : Heap.SameBut C s'.heap h') : WrOk c A σ' [C] s'.heap ∧ ButL [C] s'.heap h' := by
  refine ⟨⟨fun b hb => by rw [List.mem_singleton.mp hb]; exact hno, fun b hb => ?_, fun b hb hm => ?_, fun b hb => by rw [List.mem_singleton.mp hb]; exact hH, fun b hb o e => ?_, fun l hl L hL hm => ?_⟩, fun b o hb e => (hs.2 b fun q => hb (by simp [q])).trans e⟩
  · rw [List.mem_singleton.mp hb, hk0]
    cases e : c₀.k.h0.get? C with
    | none => rfl
    | some o => have := st₁.keep _ _ e; rw [hC] at this; cases this
  · rw [List.mem_singleton.mp hb, hF0] at hm
    obtain ⟨o, e⟩ := st₁.prot C hm; rw [hC] at e; cases e
  · rw [List.mem_singleton.mp hb] at e
    obtain ⟨mc, o', es, ep, e', hd, _⟩ := hn
    rw [e] at e'; cases e'; exact not_seq_dict hd
  · rw [List.mem_singleton.mp hm] at hL
    obtain ⟨l', hl', hf', _⟩ := st₁.frames
    rw [hl] at hl'; cases hl'
    obtain ⟨_, o, e, _⟩ := hf'.mem hL
    rw [hC] at e; cases e
theorem WE_comp_made (hh : c.k.hd = true) {loc : Bool} {elt iter : Expr} {y : Str} {py : Pos} {ifs : List Expr} {scope : Scope} {pos : Pos} (hok : compOk scope sc y = true) (hdot : m.lookup (".0" : Str) = none)
    (h : WE c d sc iter m σ (fun lv σ₁ => ∃ vs G, (∀ b ∈ G, b ∈ owned σ₁) ∧ IterS (c.pro G) σ₁ lv vs ∧ ∀ D, WComp ((c.pro G).hide D) d (relabelS scope sc) y ifs elt m (Made c.F loc P) vs [] σ₁) X)
    (hs : ∀ env x, foldedSetIterable iter env x = pure x) : WE c d sc (.ListComp elt [⟨.Name y py, iter, ifs, 0⟩] scope pos) m σ P X := by
  intro env A s E r
  obtain ⟨hkind, hloc, _⟩ := compOk_local hok
  rw [eval_ListComp]
  refine wpAny_comprehension_free (use := none) rfl (hs env) (closure_of (x := y) r.ok (by rw [r.sc]; exact hok)) hkind hloc (wpAny_mono (h env A s E r) ?_ fun z1 z2 x => x)
  rintro cl s₁ ⟨lv, σ₁, ⟨vs, G, hG, hI, hW⟩, t₁, hs₁, rl⟩
  have er₁ := r.er.mono t₁.kept.wider t₁.grow.wider
  refine comp_core hh hok hdot r.sc r.ok r.a hs₁ er₁ hG hI rl hW (RR := fun acc C => compPost c.M A E none (Post c A σ s P) acc C) ?_
  intro D C s' σ' ws ccs hk hst hSt hpl hl hrs hDn hCn hCD hns hCo
  refine ⟨hns.choose, hns.choose_spec, fun h' hsb => ?_⟩
  have hCH : C ∉ (c.hide D).H := fun q => by
    rcases List.mem_cons.mp q with q | q
    · exact hCD q
    · obtain ⟨_, o, e⟩ := hs₁.hid C q; rw [hCn] at e; cases e
  have hDH : D ∉ c.H := fun q => by obtain ⟨_, o, e⟩ := hs₁.hid D q; rw [hDn] at e; cases e
  have hDF : D ∉ c.F := fun q => by obtain ⟨o, e⟩ := hs₁.prot D q; rw [hDn] at e; cases e
  have hD0 : c.k.h0.get? D = none := by
    cases e : c.k.h0.get? D with
    | none => rfl
    | some o => have := hs₁.keep _ _ e; rw [hDn] at this; cases this
  obtain ⟨wok, kb⟩ := St.atC (c := c.hide D) (c₀ := c) rfl rfl hs₁ hCn hCo hCH hns hsb
  have hst' : Step c.F (owned σ₁) (owned σ') s₁ { s' with heap := h' } := hst.writeL (tk := s'.toks) (fun b hb => by rw [List.mem_singleton.mp hb]; exact hCn) (fun b hb hm => wok.notF b hb hm) kb
  have hpl' : PlainSeq h' "list" D ccs := let ⟨k, e⟩ := hpl; ⟨k, kb D _ (fun q => hCD (List.mem_singleton.mp q).symm) e⟩
  obtain ⟨v, σ'', h1, h2, h3, h4, _⟩ := made_post (s := s₁) (s' := { s' with heap := h' }) hk hst' hDn hD0 hDH hDF (hSt.writeL wok kb) hpl' hl (VRels.writeL wok.seq kb _ _ hrs)
  exact ⟨v, σ'', h1, t₁.trans h2, h3, h4⟩
theorem WS_assign_comp_made (hh : c.k.hd = true) {loc : Bool} {elt iter : Expr} {y : Str} {py : Pos} {ifs : List Expr} {scope : Scope} {pos px p : Pos} {x : Str} (hok : compOk scope sc y = true) (hdot : m.lookup (".0" : Str) = none)
    (hsw : (sc.names.lookup x == some .local && px.line == pos.line && !(scope.names.any fun (n, k) => n == x && (k == .local || k == .cell))) = true) (hx : isLoc sc x = true)
    (h : WE c d sc iter m σ (fun lv σ₁ => ∃ vs G, (∀ b ∈ G, b ∈ owned σ₁) ∧ IterS (c.pro G) σ₁ lv vs ∧ ∀ D, WComp ((c.pro G).hide D) d (relabelS scope sc) y ifs elt m (Made c.F loc fun v σ' => K .next ((x, v) :: m) σ') vs [] σ₁) X)
    (hs : ∀ env x, foldedSetIterable iter env x = pure x) : WS c d sc (.Assign [.Name x px] (.ListComp elt [⟨.Name y py, iter, ifs, 0⟩] scope pos) p) m σ K X := by
  intro env A s E r
  obtain ⟨hkind, hloc, _⟩ := compOk_local hok
  have hsw' : swapsWith (.ListComp elt [⟨.Name y py, iter, ifs, 0⟩] scope pos) (some (.Name x px)) p.line env = pure true := by
    have e : swapsWith (.ListComp elt [⟨.Name y py, iter, ifs, 0⟩] scope pos) (some (.Name x px)) p.line env = pure (env.blockKind == .function && env.kindOf x == some .local && px.line == pos.line && !(scope.names.any fun (n, k) => n == x && (k == .local || k == .cell))) := rfl
    rw [e]
    have hb : env.blockKind = .function := by unfold Env.blockKind; rw [r.ok.kind]; rfl
    simp only [Bool.and_eq_true] at hsw
    unfold Env.kindOf
    rw [hb, r.sc, hsw.1.1, hsw.1.2, hsw.2]; rfl
  rw [exec_Assign_Name_used _ _ _ _ hsw']
  refine wpAny_bind (wpAny_standAt (wpAny_bind ?_))
  show wpAny _ _ (do let _ ← comprehension (.ListComp elt [⟨.Name y py, iter, ifs, 0⟩] scope pos) scope env _ (newList []) false (eval iter env) (some _)) _ _ _
  refine wpAny_bind ?_
  refine wpAny_comprehension_free (use := some (assign (.Name x px) env)) rfl (hs env) (closure_of (x := y) r.ok (by rw [r.sc]; exact hok)) hkind hloc (wpAny_mono (h env A s E r.re) ?_ fun z1 z2 x => x)
  rintro cl s₁ ⟨lv, σ₁, ⟨vs, G, hG, hI, hW⟩, t₁, hs₁, rl⟩
  have er₁ := r.er.mono t₁.kept.wider t₁.grow.wider
  refine comp_core hh hok hdot r.sc r.ok r.a hs₁ er₁ hG hI rl hW (RR := fun acc C => compPost c.M A E (some (assign (.Name x px) env)) (fun z1 s' => wpAny c.M A (pure ()) (fun z1 s' => wpAny c.M A (pure Flow.next) (PostS c A env σ s K) E s') E s') acc C) ?_
  intro D C s' σ' ws ccs hk hst hSt hpl hl hrs hDn hCn hCD hns hCo
  have hCH : C ∉ c.H := fun q => by obtain ⟨_, o, e⟩ := hs₁.hid C q; rw [hCn] at e; cases e
  have hDH : D ∉ c.H := fun q => by obtain ⟨_, o, e⟩ := hs₁.hid D q; rw [hDn] at e; cases e
  have hDF : D ∉ c.F := fun q => by obtain ⟨o, e⟩ := hs₁.prot D q; rw [hDn] at e; cases e
  have hD0 : c.k.h0.get? D = none := by
    cases e : c.k.h0.get? D with
    | none => rfl
    | some o => have := hs₁.keep _ _ e; rw [hDn] at this; cases this
  obtain ⟨v, σ'', h1, h2, h3, h4, h5⟩ := made_post (s := s₁) (s' := s') hk hst hDn hD0 hDH hDF hSt hpl hl hrs
  have er' := er₁.mono h2.kept.wider h2.grow.wider
  show wpAny _ _ (assign (.Name x px) env (.ref D)) _ _ _
  refine wpAny_assign_Name (wpAny_mono (store_name r.ok h3 er' h4 (by unfold Env.kindOf; rw [r.sc]; exact isLoc_kind hx)) ?_ fun z1 z2 x => x)
  rintro _ s₄ ⟨⟨t₄, hs₄, er₄⟩, L, hL', tk, rfl, kbL, hL⟩
  have hCL : C ≠ L := fun q => by
    obtain ⟨mc, ⟨oL, _, _, e, _⟩, _⟩ := er₁.ns
    rcases hL with ⟨_, hL⟩ | ⟨_, hL⟩
    · rw [← hL, ← q, hCn] at e; cases e
    · obtain ⟨_, _, _, _, v', oc, e', _⟩ := er₁.cnot x L (mem_of_lookup hL)
      rw [← q, hCn] at e'; cases e'
  have hCo'' : C ∉ owned σ'' := fun q => (h5 C q).elim hCD hCo
  obtain ⟨mc, oC, es, ep, eC, hdC, hrest⟩ := hns
  refine ⟨mc, ⟨oC, es, ep, kbL C oC hCL eC, hdC, hrest⟩, fun h' hsb => ?_⟩
  obtain ⟨wok, kb⟩ := St.atC (c := c) (c₀ := c) (s' := { s' with heap := hL', toks := tk }) rfl rfl hs₁ hCn hCo'' hCH ⟨mc, oC, es, ep, kbL C oC hCL eC, hdC, hrest⟩ hsb
  refine wpAny_pure (wpAny_pure ?_)
  have t₁₄ : Step c.F (places env ++ owned σ₁) (places env ++ owned σ'') s₁ { s' with heap := hL', toks := tk } := h2.wider.trans t₄
  have t₁₅ := t₁₄.writeL (tk := tk) (wr := [C]) (fun b hb => by rw [List.mem_singleton.mp hb]; exact hCn) (fun b hb hm => wok.notF b hb hm) kb
  refine ⟨.next, _, σ'', h1, t₁.wider.trans t₁₅, hs₄.writeL wok kb, er₄.writeL wok (fun b hb hC => ?_) kb, rfl⟩
  rw [List.mem_singleton.mp hC] at hb
  simp only [places, List.mem_cons, List.mem_map] at hb
  rcases hb with q | ⟨⟨z, a⟩, hm, q⟩
  · obtain ⟨mc, ⟨oL, _, _, e, _⟩, _⟩ := er₁.ns; rw [← q, hCn] at e; cases e
  · obtain ⟨_, _, _, _, v', oc, e', _⟩ := er₁.cnot z a hm
    dsimp only at q; rw [q, hCn] at e'; cases e'
theorem swaps_cell {elt t iter : Expr} {ifs : List Expr} {scope : Scope} {pos px : Pos} {line : Nat} {x : Str} (hx : (sc.names.lookup x == some .local) = false) : ∀ env, env.scope = sc → swapsWithSole [.Name x px] (.ListComp elt [⟨t, iter, ifs, 0⟩] scope pos) line env = pure false := by
  intro env he
  have e : swapsWithSole [.Name x px] (.ListComp elt [⟨t, iter, ifs, 0⟩] scope pos) line env = pure (env.blockKind == .function && env.kindOf x == some .local && px.line == pos.line && !(scope.names.any fun (n, k) => n == x && (k == .local || k == .cell))) := rfl
  rw [e]; unfold Env.kindOf; rw [he, hx]; simp
theorem IterOwn.of {o : Obj} {T : String} (h : o.cls = .type T) (hT : ["enumerate", "zip", "dict_itemiterator", "dict_reverseitemiterator", "odict_iterator", "itertools.zip_longest", "itertools.pairwise"].contains T = false) : IterOwn o := fun n e => by
  rw [h] at e; cases e; exact hT
theorem Iter_seqL {lv : V} {vs : List V} (hl : ∀ {A : Around} {h : Heap} {cv : Value}, St c A σ h → VRel h (ownS c σ) lv cv → ∃ a cs, cv = .ref a ∧ PlainSeq h "list" a cs ∧ cs.length ≤ sizeLine ∧ VRels h (ownS c σ) vs cs ∧ (a ∉ owned σ ∨ a ∈ c.F)) : IterS c σ lv vs := by
  intro A s E cv hh st r
  obtain ⟨a, cs, rfl, p, hsz, rs, ha⟩ := hl st r
  have hlt : a < s.heap.objs.size := by obtain ⟨n, e⟩ := p; exact Heap.lt_size e
  have hsize : cs.toArray.size = vs.length := by rw [List.size_toArray, rs.length]
  have W := Walks.list (prog := c.k.prog) (w := c.k.w) hh s.heap.objs.size a (Nat.ne_of_lt hlt) cs.toArray
  rw [hsize] at W
  refine wpAny_pyIter_list p.isList ⟨_, [s.heap.objs.size, a], [s.heap.objs.size], _, _, rfl, ⟨W, by rw [← rs.length]; exact hsz, ⟨⟨_, Heap.get?_push_size _ rfl, rfl, rfl⟩, p.isList.push _⟩, .push _, fun b hb => ?_, fun i h hst b hb => ?_, fun i h hst => ?_, fun b hb => ?_, fun h' own' k i v x hv hx => ?_⟩, rfl, rfl⟩
  · rw [List.mem_singleton.mp hb]; exact get?_size _
  · rw [List.mem_singleton.mp hb]
    obtain ⟨⟨o, ho, hc, hd⟩, _⟩ := hst
    exact ⟨o, ho, ⟨_, hd⟩, by rw [hc]; decide⟩
  · obtain ⟨⟨o, ho, hc, hd⟩, _⟩ := hst
    exact ⟨o, ho, .of hc (by decide)⟩
  · rcases List.mem_cons.mp hb with q | q
    · left; rw [q]; exact .head _
    · right
      rw [List.mem_singleton.mp q]
      rcases ha with ha | ha
      · right
        obtain ⟨n, e⟩ := p
        exact ⟨ha, _, e, _, _, rfl⟩
      · left; exact ha
  · have rs' := rs.carry k
    obtain ⟨cx, hcx, rx⟩ := rs'.get hv
    have hx : cs.toArray[i]? = some x := hx
    simp only [List.getElem?_toArray] at hx
    rw [hcx] at hx; cases hx; exact rx
theorem Iter_lst {vs : List V} : IterS c σ (.lst vs) vs := Iter_seqL fun st r => by
  simp only [VRel] at r
  obtain ⟨a, cs, e, ha, p, hsz, rs⟩ := r
  exact ⟨a, cs, e, p, hsz, rs, .inl fun q => ha (List.mem_append_right _ q)⟩
theorem Iter_ref {a : Addr} {vs : List V} (hl : σ.lookup a = some (.list vs)) (hF : a ∈ c.F) : IterS c σ (.ref a) vs := Iter_seqL fun st r => by
  simp only [VRel] at r
  obtain ⟨cs, p, hl', r'⟩ := st.objs _ _ (lookup_mem hl)
  exact ⟨a, cs, r, p, hl', r', .inr hF⟩
theorem Iter_tup {vs : List V} : IterS c σ (.tup vs) vs := by
  intro A s E cv hh st r
  simp only [VRel] at r
  obtain ⟨a, cs, rfl, ha, p, hsz, rs⟩ := r
  have hlt : a < s.heap.objs.size := by obtain ⟨n, e⟩ := p; exact Heap.lt_size e
  have hsize : cs.toArray.size = vs.length := by rw [List.size_toArray, rs.length]
  have W := Walks.tuple (prog := c.k.prog) (w := c.k.w) hh s.heap.objs.size a (Nat.ne_of_lt hlt) cs.toArray
  rw [hsize] at W
  refine wpAny_pyIter_tuple p.isTuple ⟨_, [s.heap.objs.size, a], [s.heap.objs.size], _, _, rfl, ⟨W, by rw [← rs.length]; exact hsz, ⟨⟨_, Heap.get?_push_size _ rfl, rfl, rfl⟩, p.isTuple.push _⟩, .push _, fun b hb => ?_, fun i h hst b hb => ?_, fun i h hst => ?_, fun b hb => ?_, fun h' own' k i v x hv hx => ?_⟩, rfl, rfl⟩
  · rw [List.mem_singleton.mp hb]; exact get?_size _
  · rw [List.mem_singleton.mp hb]
    obtain ⟨⟨o, ho, hc, hd⟩, _⟩ := hst
    exact ⟨o, ho, ⟨_, hd⟩, by rw [hc]; decide⟩
  · obtain ⟨⟨o, ho, hc, hd⟩, _⟩ := hst
    exact ⟨o, ho, .of hc (by decide)⟩
  · rcases List.mem_cons.mp hb with q | q
    · left; rw [q]; exact .head _
    · right; right
      rw [List.mem_singleton.mp q]
      obtain ⟨n, e⟩ := p
      exact ⟨fun q => ha (List.mem_append_right _ q), _, e, _, _, rfl⟩
  · have rs' := rs.carry k
    obtain ⟨cx, hcx, rx⟩ := rs'.get hv
    have hx : cs.toArray[i]? = some x := hx
    simp only [List.getElem?_toArray] at hx
    rw [hcx] at hx; cases hx; exact rx
noncomputable def rangeL (lo hi : Int) : List Int := (List.range (hi - lo).toNat).map fun k => lo + (k : Nat)
theorem rangeL_length (lo hi : Int) : (rangeL lo hi).length = (hi - lo).toNat := by simp [rangeL]
theorem rangeSize_one (lo hi : Int) : Builtin.Range.rangeSize lo hi 1 = ((hi - lo).toNat : Int) := by
  unfold Builtin.Range.rangeSize
  by_cases h : lo < hi
  · simp only [show (1 : Int) > 0 by decide, if_true, h, Int.ediv_one]; lia
  · simp only [show (1 : Int) > 0 by decide, if_true, h, if_false]; lia
theorem Iter_rng {lo hi : Int} (h1 : -1000000000000000 ≤ lo) (h1' : lo ≤ 1000000000000000) (h2 : -1000000000000000 ≤ hi) (h2' : hi ≤ 1000000000000000) (h3 : hi - lo ≤ 16777216) : IterS c σ (.rng lo hi) ((rangeL lo hi).map .int) := by
  intro A s E cv hh st r
  simp only [VRel] at r
  obtain ⟨a, t, u, v, rfl, ha, e⟩ := r
  have hlen : ((rangeL lo hi).map V.int).length = (hi - lo).toNat := by rw [List.length_map, rangeL_length]
  have W := Walks.range (prog := c.k.prog) (w := c.k.w) hh s.heap.objs.size lo 1 (hi - lo).toNat
  rw [← hlen] at W
  have hsm : Builtin.Range.small lo hi 1 = true := small_one (by lia) (by lia) (by lia) (by lia)
  refine wpAny_pyIter_range e hsm ⟨_, [s.heap.objs.size], [s.heap.objs.size], _, _, rfl, ⟨W, by rw [hlen, sizeLine_eq]; lia, ?_, .push _, fun b hb => ?_, fun i h hst b hb => ?_, fun i h hst => ?_, fun b hb => .inl hb, fun h' own' k i w x hv hx => ?_⟩, rfl, rfl⟩
  · show IsRangeIter _ _ _ _ _
    rw [hlen, rangeSize_one]
    simp only [Int.ofNat_zero, Int.zero_mul, Int.add_zero, Int.sub_zero, Int.natCast_zero]
    exact Heap.get?_push_size _ rfl
  · rw [List.mem_singleton.mp hb]; exact get?_size _
  · rw [List.mem_singleton.mp hb]; exact ⟨_, hst, ⟨_, rfl⟩, show Value.type "range_iterator" ≠ .type "range" by decide⟩
  · exact ⟨_, hst, .of rfl (by decide)⟩
  · obtain ⟨t, rfl⟩ := hx
    rw [List.getElem?_map] at hv
    cases q : (rangeL lo hi)[i]? with
    | none => rw [q] at hv; cases hv
    | some z =>
      rw [q] at hv
      simp only [Option.map_some, Option.some.injEq] at hv
      subst hv
      simp only [rangeL, List.getElem?_map] at q
      cases q2 : (List.range (hi - lo).toNat)[i]? with
      | none => rw [q2] at q; cases q
      | some y =>
        rw [q2] at q
        have hy : y = i := by
          obtain ⟨hi', hy⟩ := List.getElem?_eq_some_iff.mp q2
          rw [List.getElem_range] at hy; exact hy.symm
        subst hy
        simp only [Option.map_some, Option.some.injEq] at q
        subst q
        simp only [VRel, Int.mul_one]
        exact ⟨t, rfl⟩
noncomputable def signs (x : Str) : List V := x.cps.toList.map fun k => .str ⟨#[k]⟩
theorem Iter_str {x : Str} (hsz : x.length ≤ sizeLine) : IterS c σ (.str x) (signs x) := by
  intro A s E cv hh st r
  simp only [VRel] at r
  obtain ⟨t, rfl⟩ := r
  have hlen : (signs x).length = x.cps.size := by simp [signs]
  have elem : ∀ (h' : Heap) (own' : List Addr) i v y, (signs x)[i]? = some v → SignAt x i y → VRel h' own' v y := fun h' own' i v y hv hx => by
    obtain ⟨k, u, hk, rfl⟩ := hx
    simp only [signs, List.getElem?_map, Array.getElem?_toList, hk, Option.map_some, Option.some.injEq] at hv
    subst hv
    simp only [VRel]; exact ⟨u, rfl⟩
  cases hasc : x.cps.all (· < 128)
  · have W := Walks.strWide (prog := c.k.prog) (w := c.k.w) hh s.heap.objs.size x t
    rw [← hlen] at W
    refine wpAny_pyIter_wide hasc ⟨_, _, _, _, _, rfl, ⟨W, by rw [hlen]; exact hsz, ⟨_, Heap.get?_push_size _ rfl, rfl, rfl⟩, .push _, fun b hb => ?_, fun i h hst b hb => ?_, fun i h hst => ?_, fun b hb => .inl hb, fun h' own' z1 => elem h' own'⟩, rfl, rfl⟩
    · rw [List.mem_singleton.mp hb]; exact get?_size _
    · rw [List.mem_singleton.mp hb]
      obtain ⟨o, ho, hc, hd⟩ := hst
      exact ⟨o, ho, ⟨_, hd⟩, by rw [hc]; decide⟩
    · obtain ⟨o, ho, hc, hd⟩ := hst
      exact ⟨o, ho, .of hc (by decide)⟩
  · have W := Walks.strAscii (prog := c.k.prog) (w := c.k.w) hh s.heap.objs.size x t
    rw [← hlen] at W
    refine wpAny_pyIter_ascii hasc ⟨_, _, _, _, _, rfl, ⟨W, by rw [hlen]; exact hsz, ⟨_, Heap.get?_push_size _ rfl, rfl, rfl⟩, .push _, fun b hb => ?_, fun i h hst b hb => ?_, fun i h hst => ?_, fun b hb => .inl hb, fun h' own' z1 => elem h' own'⟩, rfl, rfl⟩
    · rw [List.mem_singleton.mp hb]; exact get?_size _
    · rw [List.mem_singleton.mp hb]
      obtain ⟨o, ho, hc, hd⟩ := hst
      exact ⟨o, ho, ⟨_, hd⟩, by rw [hc]; decide⟩
    · obtain ⟨o, ho, hc, hd⟩ := hst
      exact ⟨o, ho, .of hc (by decide)⟩
end Mine
end
section
namespace Mine
open PySem
variable {c : Cx} {d : Nat} {sc : Scope} {m : AEnv} {σ : Led} {P : V → Led → Prop} {X : XP}
noncomputable def Callee (c : Cx) (f : Value) : Prop := (∃ id, f = .builtin id) ∨ (∃ T, f = .type T) ∨ ∃ a o fd, f = .ref a ∧ c.k.h0.get? a = some o ∧ o.data = .func fd
theorem Callee.b {id : String} : Callee c (.builtin id) := .inl ⟨_, rfl⟩
theorem Callee.t {T : String} : Callee c (.type T) := .inr (.inl ⟨_, rfl⟩)
theorem evalArgs_any {M : Model} {A : Around} {E : Value → Shared → Prop} {s : Shared} {f : Value} {args : List (Bool × Sem Value)} {Q : Args → Shared → Prop} (hp : args.any (·.1) = false)
    (h : wpAny M A (spliced args) (fun vs s' => Q ⟨vs, []⟩ s') E s) : wpAny M A (evalArgs f true args []) Q E s := by
  rcases args with _ | ⟨⟨b, x⟩, rest⟩
  · unfold evalArgs
    show wpAny M A (spliced [] >>= _) Q E s
    refine wpAny_bind (wpAny_mono h (fun vs s' h' => ?_) fun z1 z2 x => x)
    refine wpAny_bind (wpAny_pure (wpAny_holding ?_))
    exact wpAny_bind (wpAny_pure (wpAny_bind (wpAny_pure (wpAny_pure h'))))
  · simp only [List.any_cons, Bool.or_eq_false_iff] at hp
    obtain ⟨rfl, _⟩ := hp
    exact Calls.evalArgs_plain h
theorem callWith_type {M : Model} {A : Around} {E : Value → Shared → Prop} {s : Shared} {pos : Pos} {T : String} {first : List Value} {args : List (Bool × Sem Value)} {Q : Value → Shared → Prop} (hplain : args.any (·.1) = false)
    (h : wpAny M A (evalArgs (.type T) true args []) (fun a s₁ => wpAny M A (call (.type T) (first ++ a.pos) a.kw) Q E s₁) E s) :
    wpAny M A (callWith pos (.type T) first args []) Q E s := by
  unfold callWith
  refine wpAny_bind (wpAny_holding (wpAny_mono h (fun a s₁ h₁ => wpAny_bind (wpAny_standAt ?_)) fun z1 z2 x => x))
  simp only [hplain, List.any_nil, Bool.or_false]
  refine wpAny_bind (wpAny_pure ?_)
  exact wpAny_bind (wpAny_mono h₁ (fun r s₂ hr => wpAny_bind (wpAny_holding (wpAny_point (wpAny_pure hr)))) fun z1 z2 x => x)
theorem callWith_any {A : Around} {E : Value → Shared → Prop} {s : Shared} {pos : Pos} {f : Value} {first : List Value} {args : List (Bool × Sem Value)} {Q : Value → Shared → Prop} (hplain : args.any (·.1) = false) (hf : Callee c f)
    (h : wpAny c.M A (spliced args) (fun vs s₁ => (∀ b o, c.k.h0.get? b = some o → s₁.heap.get? b = some o) ∧ wpAny c.M A (call f (first ++ vs)) Q E s₁) E s) :
    wpAny c.M A (callWith pos f first args []) Q E s := by
  rcases hf with ⟨id, rfl⟩ | ⟨T, rfl⟩ | ⟨a, o, fd, rfl, ho, hd⟩
  · exact Calls.callWith_builtin hplain (evalArgs_any hplain (wpAny_mono h (fun z1 z2 x => x.2) fun z1 z2 x => x))
  · exact callWith_type hplain (evalArgs_any hplain (wpAny_mono h (fun z1 z2 x => x.2) fun z1 z2 x => x))
  · exact Calls.callWith_function (o := o) (fd := fd) (evalArgs_any hplain (wpAny_mono h (fun z1 z2 x => ⟨⟨x.1 _ _ ho, hd⟩, x.2⟩) fun z1 z2 x => x))
theorem backTo_any {pos : Pos} {l : List (Bool × Sem Value)} (h : l.any (·.1) = false) : (backTo pos l).any (·.1) = false := by
  cases e : (backTo pos l).any (·.1) with
  | false => rfl
  | true =>
    exfalso
    revert h e
    generalize hk : (·.1 : Bool × Sem Value → Bool) = k
    cases l with
    | nil => intro h e; simp [backTo] at e
    | cons x r => cases r with
      | nil => subst hk; intro h e; simp [backTo] at e h; simp [h] at e
      | cons y r => subst hk; intro h e; simp [backTo] at e h; simp_all
theorem WE_call {f : Str} {p pos : Pos} {args : List Expr} (h : WE c d sc (.Name f p) m σ (fun fv σ₁ => ∃ cv, fv = .raw cv ∧ Callee c cv ∧ WEs c d sc args m σ₁ (fun vs σ₂ => CallS c d cv vs σ₂ P X) X) X) :
    WE c d sc (.Call (.Name f p) args [] pos) m σ P X := by
  intro env A s E r
  rw [arm_eval_Call_Name']
  refine wpAny_bind (wpAny_mono (h env A s E r) ?_ fun z1 z2 x => x)
  rintro cf s₁ ⟨fv, σ₁, ⟨cv, rfl, hcal, h₁⟩, t₁, hs₁, rf⟩
  simp only [VRel] at rf; subst rf
  obtain ⟨hp, hw⟩ := h₁ env A s₁ E pos (r.step t₁ hs₁)
  refine callWith_any (backTo_any hp) hcal (wpAny_mono hw ?_ fun z1 z2 x => x)
  rintro cvs s₂ ⟨vs, σ₂, ⟨_, h₂⟩, t₂, hs₂, rvs⟩
  refine ⟨hs₂.keep, ?_⟩
  exact wpAny_mono (h₂ A s₂ E cvs r.a hs₂ rvs ((r.e.step t₁).step t₂)) (fun z1 z2 q => (q.step t₂).step t₁) fun z1 z2 x => x
theorem WE_call_def (hc : c.k.OK) {f : Str} {p pos : Pos} {args : List Expr} {cv : Value} (hk : sc.names.lookup f = some .globalImplicit) (hg : c.k.mg f = some cv) (hcal : Callee c cv)
    (h : WEs c d sc args m σ (fun vs σ₂ => CallS c d cv vs σ₂ P X) X) : WE c d sc (.Call (.Name f p) args [] pos) m σ P X :=
  WE_call (WE_global hc hk hg (v := .raw cv) (fun z1 z2 => by simp only [VRel]) ⟨cv, rfl, hcal, h⟩)
theorem WE_call_builtin (hc : c.k.OK) {f : Str} {p pos : Pos} {args : List Expr} {cv : Value} (hk : sc.names.lookup f = some .globalImplicit) (hg : c.k.mg f = none) (hb : c.k.mb f = some cv) (hcal : Callee c cv)
    (h : WEs c d sc args m σ (fun vs σ₂ => CallS c d cv vs σ₂ P X) X) : WE c d sc (.Call (.Name f p) args [] pos) m σ P X :=
  WE_call (WE_builtin hc hk hg hb ⟨cv, rfl, hcal, h⟩)
noncomputable def Meth (c : Cx) (σ : Led) (ov : V) (name : Str) (T id : String) : Prop := PlainAttrs T ∧ Slot T name id ∧ typeOf (.builtin id) = pure (.type "method_descriptor") ∧
  ∀ (A : Around) (s : Shared) (cv : Value), St c A σ s.heap → VRel s.heap (ownS c σ) ov cv → s.TypeIs cv T ∧ ∀ a, cv = .ref a → ∃ ob, s.heap.get? a = some ob ∧ ob.dict = none
noncomputable def plainBase (e : Expr) : Bool := e.ctorIdx != 16
theorem attributeBase_plain {o : Expr} {name : Str} {env : Env} {x : Sem Value} (h : plainBase o = true) : attributeBase o name env x = x := by
  cases o with
  | Call _ _ _ _ => exact Bool.noConfusion (show false = true from h)
  | _ => rfl
theorem WE_method {o : Expr} {name : Str} {apos pos : Pos} {args : List Expr} (hb : plainBase o = true) (hline : (apos.endLine == pos.line) = true)
    (h : WE c d sc o m σ (fun ov σ₁ => ∃ T id, Meth c σ₁ ov name T id ∧ WEs c d sc args m σ₁ (fun vs σ₂ => CallS c d (.builtin id) (ov :: vs) σ₂ P X) X) X)
    (hs : ∀ env, (starEach args env).any (·.1) = false) (hn : args.length < 30) :
    WE c d sc (.Call (.Attribute o name apos) args [] pos) m σ P X := by
  intro env A s E r
  refine wpAny_Call_method_lateS (attributeBase_plain hb) ?_ hline (wpAny_mono (h env A s E r) ?_ fun z1 z2 x => x)
  · have h1 : (backTo pos (starEach args env)).all (fun x => !x.1) = true := by
      have := backTo_any (pos := pos) (hs env)
      rw [List.any_eq_false] at this
      rw [List.all_eq_true]
      intro x hx
      simpa using this x hx
    rw [h1]
    simp only [Bool.true_and, Bool.and_eq_true, decide_eq_true_eq]
    exact ⟨rfl, by simpa using hn⟩
  · rintro co s₁ ⟨ov, σ₁, ⟨T, id, ⟨pa, slot, hty, hm⟩, h₁⟩, t₁, hs₁, ro⟩
    obtain ⟨hT, hd⟩ := hm A s₁ co hs₁ ro
    refine ⟨T, id, pa, slot, hty, hT, hd, ?_⟩
    obtain ⟨hp, hw⟩ := h₁ env A s₁ E pos (r.step t₁ hs₁)
    refine callWith_any (c := c) (backTo_any hp) .b (wpAny_mono hw ?_ fun z1 z2 x => x)
    rintro cvs s₂ ⟨vs, σ₂, ⟨_, h₂⟩, t₂, hs₂, rvs⟩
    refine ⟨hs₂.keep, ?_⟩
    refine wpAny_mono (h₂ A s₂ E (co :: cvs) r.a hs₂ (by simp only [VRels]; exact ⟨co, cvs, rfl, t₂.v ro, rvs⟩) ((r.e.step t₁).step t₂)) (fun z1 z2 q => (q.step t₂).step t₁) fun z1 z2 x => x
end Mine
end
section
namespace Mine
open PySem
variable {c : Cx} {d : Nat} {sc : Scope} {m : AEnv} {σ : Led} {P : V → Led → Prop} {X : XP}
theorem VRels.un1 {h : Heap} {own : List Addr} {v : V} {cs : List Value} (r : VRels h own [v] cs) : ∃ x, cs = [x] ∧ VRel h own v x := by
  simp only [VRels] at r
  obtain ⟨x, _, rfl, r1, rfl⟩ := r
  exact ⟨x, rfl, r1⟩
theorem VRels.un2 {h : Heap} {own : List Addr} {v w : V} {cs : List Value} (r : VRels h own [v, w] cs) : ∃ x y, cs = [x, y] ∧ VRel h own v x ∧ VRel h own w y := by
  simp only [VRels] at r
  obtain ⟨x, _, rfl, r1, y, _, rfl, r2, rfl⟩ := r
  exact ⟨x, y, rfl, r1, r2⟩
theorem Call_len_lst {lv : V} {vs : List V} (hl : IsLst σ lv vs) (h : P (.int vs.length) σ) : CallS c d (.builtin "len") [lv] σ P X := by
  intro A s E cs _ st rs _
  obtain ⟨x, rfl, r⟩ := rs.un1
  obtain ⟨a, cs, rfl, p, hsz, rs⟩ := hl.plain st r
  have hsz' : sizeLine = 16777216 := by rw [sizeLine_eq]
  refine Calls.call_len_list p.isList (by simp only [List.size_toArray]; lia) ?_
  rw [List.size_toArray, rs.length]
  exact Post.same st h (by simp only [VRel]; exact ⟨_, rfl⟩)
theorem Call_len_tup {vs : List V} (h : P (.int vs.length) σ) : CallS c d (.builtin "len") [.tup vs] σ P X := by
  intro A s E cs _ st rs _
  obtain ⟨x, rfl, r⟩ := rs.un1
  simp only [VRel] at r
  obtain ⟨a, cs, rfl, hno, ⟨n, e⟩, hsz, rs⟩ := r
  have hsz' : sizeLine = 16777216 := by rw [sizeLine_eq]
  refine PySem.P.len_tuple e (by simp only [List.size_toArray]; lia) ?_
  rw [List.size_toArray, rs.length]
  exact Post.same st h (by simp only [VRel]; exact ⟨_, rfl⟩)
theorem Call_len_str {x : Str} (hx : x.length ≤ 1000000) (h : P (.int x.length) σ) : CallS c d (.builtin "len") [.str x] σ P X := by
  intro A s E cs _ st rs _
  obtain ⟨x, rfl, r⟩ := rs.un1
  simp only [VRel] at r
  obtain ⟨t, rfl⟩ := r
  exact PySem.P.len_str (by lia) (Post.same st h (by simp only [VRel]; exact ⟨_, rfl⟩))
theorem VRels.raw2 {h : Heap} {own : List Addr} {v : V} {w : Value} {cs : List Value} (r : VRels h own [v, .raw w] cs) : ∃ x, cs = [x, w] ∧ VRel h own v x := by
  obtain ⟨x, y, rfl, r1, r2⟩ := r.un2
  simp only [VRel] at r2; subst r2
  exact ⟨x, rfl, r1⟩
section isi
variable {i : Int} {b : Bool} {x : Str} {vs : List V}
theorem isi_int {T : String} {r : Bool} (hz : ∀ {A : Around} {E : Value → Shared → Prop} {s : Shared} {t : Tok} {Q : Value → Shared → Prop}, (∀ k, Q (.bool r) { s with toks := k }) → wpAny c.M A (call (.builtin "isinstance") [.int i t, .type T]) Q E s)
    (h : P (.bool r) σ) : CallS c d (.builtin "isinstance") [.int i, .raw (.type T)] σ P X := by
  intro A s E cs _ st rs _
  obtain ⟨y, rfl, ry⟩ := rs.raw2
  simp only [VRel] at ry; obtain ⟨t, rfl⟩ := ry
  exact hz fun k => Post.same st h (by simp only [VRel])
theorem Isi_int_int (h : P (.bool true) σ) : CallS c d (.builtin "isinstance") [.int i, .raw (.type "int")] σ P X := isi_int (fun q => IsiPair.int_int (q _)) h
theorem Isi_int_bool (h : P (.bool false) σ) : CallS c d (.builtin "isinstance") [.int i, .raw (.type "bool")] σ P X := isi_int (fun q => IsiPair.int_bool (q _)) h
theorem Isi_int_str (h : P (.bool false) σ) : CallS c d (.builtin "isinstance") [.int i, .raw (.type "str")] σ P X := isi_int (fun q => IsiPair.int_str (q _)) h
theorem Isi_int_tuple (h : P (.bool false) σ) : CallS c d (.builtin "isinstance") [.int i, .raw (.type "tuple")] σ P X := isi_int (fun q => IsiPair.int_tuple (q _)) h
theorem Isi_int_list (h : P (.bool false) σ) : CallS c d (.builtin "isinstance") [.int i, .raw (.type "list")] σ P X := isi_int (fun q => IsiPair.int_list (q _)) h
theorem isi_bool {T : String} {r : Bool} (hz : ∀ {A : Around} {E : Value → Shared → Prop} {s : Shared} {Q : Value → Shared → Prop}, (∀ k, Q (.bool r) { s with toks := k }) → wpAny c.M A (call (.builtin "isinstance") [.bool b, .type T]) Q E s)
    (h : P (.bool r) σ) : CallS c d (.builtin "isinstance") [.bool b, .raw (.type T)] σ P X := by
  intro A s E cs _ st rs _
  obtain ⟨y, rfl, ry⟩ := rs.raw2
  simp only [VRel] at ry; subst ry
  exact hz fun k => Post.same st h (by simp only [VRel])
theorem Isi_bool_int (h : P (.bool true) σ) : CallS c d (.builtin "isinstance") [.bool b, .raw (.type "int")] σ P X := isi_bool (fun q => IsiPair.bool_int (q _)) h
theorem Isi_bool_bool (h : P (.bool true) σ) : CallS c d (.builtin "isinstance") [.bool b, .raw (.type "bool")] σ P X := isi_bool (fun q => IsiPair.bool_bool (q _)) h
theorem Isi_bool_str (h : P (.bool false) σ) : CallS c d (.builtin "isinstance") [.bool b, .raw (.type "str")] σ P X := isi_bool (fun q => IsiPair.bool_str (q _)) h
theorem Isi_bool_tuple (h : P (.bool false) σ) : CallS c d (.builtin "isinstance") [.bool b, .raw (.type "tuple")] σ P X := isi_bool (fun q => IsiPair.bool_tuple (q _)) h
theorem Isi_bool_list (h : P (.bool false) σ) : CallS c d (.builtin "isinstance") [.bool b, .raw (.type "list")] σ P X := isi_bool (fun q => IsiPair.bool_list (q _)) h
theorem isi_str {T : String} {r : Bool} (hz : ∀ {A : Around} {E : Value → Shared → Prop} {s : Shared} {t : Tok} {Q : Value → Shared → Prop}, (∀ k, Q (.bool r) { s with toks := k }) → wpAny c.M A (call (.builtin "isinstance") [.str x t, .type T]) Q E s)
    (h : P (.bool r) σ) : CallS c d (.builtin "isinstance") [.str x, .raw (.type T)] σ P X := by
  intro A s E cs _ st rs _
  obtain ⟨y, rfl, ry⟩ := rs.raw2
  simp only [VRel] at ry; obtain ⟨t, rfl⟩ := ry
  exact hz fun k => Post.same st h (by simp only [VRel])
theorem Isi_str_int (h : P (.bool false) σ) : CallS c d (.builtin "isinstance") [.str x, .raw (.type "int")] σ P X := isi_str (fun q => IsiPair.str_int (q _)) h
theorem Isi_str_bool (h : P (.bool false) σ) : CallS c d (.builtin "isinstance") [.str x, .raw (.type "bool")] σ P X := isi_str (fun q => IsiPair.str_bool (q _)) h
theorem Isi_str_str (h : P (.bool true) σ) : CallS c d (.builtin "isinstance") [.str x, .raw (.type "str")] σ P X := isi_str (fun q => IsiPair.str_str (q _)) h
theorem Isi_str_tuple (h : P (.bool false) σ) : CallS c d (.builtin "isinstance") [.str x, .raw (.type "tuple")] σ P X := isi_str (fun q => IsiPair.str_tuple (q _)) h
theorem Isi_str_list (h : P (.bool false) σ) : CallS c d (.builtin "isinstance") [.str x, .raw (.type "list")] σ P X := isi_str (fun q => IsiPair.str_list (q _)) h
theorem isi_none {T : String} {r : Bool} (hz : ∀ {A : Around} {E : Value → Shared → Prop} {s : Shared} {Q : Value → Shared → Prop}, (∀ k, Q (.bool r) { s with toks := k }) → wpAny c.M A (call (.builtin "isinstance") [.none, .type T]) Q E s)
    (h : P (.bool r) σ) : CallS c d (.builtin "isinstance") [.none, .raw (.type T)] σ P X := by
  intro A s E cs _ st rs _
  obtain ⟨y, rfl, ry⟩ := rs.raw2
  simp only [VRel] at ry; subst ry
  exact hz fun k => Post.same st h (by simp only [VRel])
theorem isi_seq {T T' : String} {r : Bool} {lv : V} (hz : ∀ {A : Around} {E : Value → Shared → Prop} {s : Shared} {a : Addr} {o : Obj} {Q : Value → Shared → Prop}, s.heap.get? a = some o → o.cls = .type T' → (∀ k, Q (.bool r) { s with toks := k }) → wpAny c.M A (call (.builtin "isinstance") [.ref a, .type T]) Q E s)
    (hv : ∀ {A : Around} {h : Heap} {x : Value}, St c A σ h → VRel h (ownS c σ) lv x → ∃ a o, x = .ref a ∧ h.get? a = some o ∧ o.cls = .type T')
    (h : P (.bool r) σ) : CallS c d (.builtin "isinstance") [lv, .raw (.type T)] σ P X := by
  intro A s E cs _ st rs _
  obtain ⟨y, rfl, ry⟩ := rs.raw2
  obtain ⟨a, o, rfl, e, hc⟩ := hv st ry
  exact hz e hc fun k => Post.same st h (by simp only [VRel])
theorem cls_tup {A : Around} {h : Heap} {x : Value} (_ : St c A σ h) (r : VRel h (ownS c σ) (.tup vs) x) : ∃ a o, x = .ref a ∧ h.get? a = some o ∧ o.cls = .type "tuple" := by
  simp only [VRel] at r
  obtain ⟨a, cs, rfl, _, ⟨n, e⟩, _, _⟩ := r
  exact ⟨a, _, rfl, e, rfl⟩
theorem cls_lst {A : Around} {h : Heap} {x : Value} {lv : V} (hl : IsLst σ lv vs) (st : St c A σ h) (r : VRel h (ownS c σ) lv x) : ∃ a o, x = .ref a ∧ h.get? a = some o ∧ o.cls = .type "list" := by
  obtain ⟨a, cs, rfl, ⟨n, e⟩, _, _⟩ := hl.plain st r
  exact ⟨a, _, rfl, e, rfl⟩
theorem Isi_tup_tuple (h : P (.bool true) σ) : CallS c d (.builtin "isinstance") [.tup vs, .raw (.type "tuple")] σ P X := isi_seq (fun e hc q => IsiPair.tuple_tuple e hc (q _)) cls_tup h
theorem Isi_tup_list (h : P (.bool false) σ) : CallS c d (.builtin "isinstance") [.tup vs, .raw (.type "list")] σ P X := isi_seq (fun e hc q => IsiPair.tuple_list e hc (q _)) cls_tup h
theorem Isi_tup_int (h : P (.bool false) σ) : CallS c d (.builtin "isinstance") [.tup vs, .raw (.type "int")] σ P X := isi_seq (fun e hc q => IsiPair.tuple_int e hc (q _)) cls_tup h
theorem Isi_tup_bool (h : P (.bool false) σ) : CallS c d (.builtin "isinstance") [.tup vs, .raw (.type "bool")] σ P X := isi_seq (fun e hc q => IsiPair.tuple_bool e hc (q _)) cls_tup h
theorem Isi_tup_str (h : P (.bool false) σ) : CallS c d (.builtin "isinstance") [.tup vs, .raw (.type "str")] σ P X := isi_seq (fun e hc q => IsiPair.tuple_str e hc (q _)) cls_tup h
theorem Isi_lst_tuple {lv : V} (hl : IsLst σ lv vs) (h : P (.bool false) σ) : CallS c d (.builtin "isinstance") [lv, .raw (.type "tuple")] σ P X := isi_seq (fun e hc q => IsiPair.list_tuple e hc (q _)) (cls_lst hl) h
theorem Isi_lst_list {lv : V} (hl : IsLst σ lv vs) (h : P (.bool true) σ) : CallS c d (.builtin "isinstance") [lv, .raw (.type "list")] σ P X := isi_seq (fun e hc q => IsiPair.list_list e hc (q _)) (cls_lst hl) h
theorem Isi_lst_int {lv : V} (hl : IsLst σ lv vs) (h : P (.bool false) σ) : CallS c d (.builtin "isinstance") [lv, .raw (.type "int")] σ P X := isi_seq (fun e hc q => IsiPair.list_int e hc (q _)) (cls_lst hl) h
theorem Isi_lst_bool {lv : V} (hl : IsLst σ lv vs) (h : P (.bool false) σ) : CallS c d (.builtin "isinstance") [lv, .raw (.type "bool")] σ P X := isi_seq (fun e hc q => IsiPair.list_bool e hc (q _)) (cls_lst hl) h
theorem Isi_lst_str {lv : V} (hl : IsLst σ lv vs) (h : P (.bool false) σ) : CallS c d (.builtin "isinstance") [lv, .raw (.type "str")] σ P X := isi_seq (fun e hc q => IsiPair.list_str e hc (q _)) (cls_lst hl) h
end isi
theorem Post.push {A : Around} {s : Shared} {v : V} {cv : Value} {o : Obj} {t : Nat} (st : St c A σ s.heap) (h : P v σ) (r : VRel (s.heap.push o) (ownS c σ) v cv) :
    Post c A σ s P cv { s with heap := s.heap.push o, toks := t } :=
  ⟨v, σ, h, ⟨(Ext.push o).kept, fun b o' e => ⟨o', Ext.push o b o' e⟩, fun b z1 o' e => Ext.push o b o' e, .refl, rfl, rfl⟩, st.ext (.push o), r⟩
theorem Call_range1 {n : Int} (h : P (.rng 0 n) σ) : CallS c d (.type "range") [.int n] σ P X := by
  intro A s E cs _ st rs _
  obtain ⟨x, rfl, r⟩ := rs.un1
  simp only [VRel] at r; obtain ⟨t, rfl⟩ := r
  refine call_range_1 (Post.push st h ?_)
  simp only [VRel]
  exact ⟨_, _, _, _, rfl, st.newS, Heap.get?_push_size _ rfl⟩
theorem Call_range2 {lo hi : Int} (h : P (.rng lo hi) σ) : CallS c d (.type "range") [.int lo, .int hi] σ P X := by
  intro A s E cs _ st rs _
  obtain ⟨x, y, rfl, r, r'⟩ := rs.un2
  simp only [VRel] at r r'; obtain ⟨t, rfl⟩ := r; obtain ⟨u, rfl⟩ := r'
  refine call_range_2 (Post.push st h ?_)
  simp only [VRel]
  exact ⟨_, _, _, _, rfl, st.newS, Heap.get?_push_size _ rfl⟩
theorem Call_max (hh : c.k.hd = true) {a b : Int} (h : P (.int (max a b)) σ) : CallS c d (.builtin "max") [.int a, .int b] σ P X := by
  intro A s E cs hA st rs _
  obtain ⟨x, y, rfl, r, r'⟩ := rs.un2
  simp only [VRel] at r r'; obtain ⟨t, rfl⟩ := r; obtain ⟨u, rfl⟩ := r'
  refine max_two_ints (hA.handled hh) fun h' tk k => ⟨.int (max a b), σ, h, .ext k rfl rfl, st.ext k, ?_⟩
  simp only [VRel]
  by_cases q : b > a
  · rw [if_pos q, show max a b = b from Int.max_eq_right (Int.le_of_lt q)]; exact ⟨_, rfl⟩
  · rw [if_neg q, show max a b = a from Int.max_eq_left (Int.not_lt.mp q)]; exact ⟨_, rfl⟩
theorem Call_min (hh : c.k.hd = true) {a b : Int} (h : P (.int (min a b)) σ) : CallS c d (.builtin "min") [.int a, .int b] σ P X := by
  intro A s E cs hA st rs _
  obtain ⟨x, y, rfl, r, r'⟩ := rs.un2
  simp only [VRel] at r r'; obtain ⟨t, rfl⟩ := r; obtain ⟨u, rfl⟩ := r'
  refine min_two_ints (hA.handled hh) fun h' tk k => ⟨.int (min a b), σ, h, .ext k rfl rfl, st.ext k, ?_⟩
  simp only [VRel]
  by_cases q : b < a
  · rw [if_pos q, show min a b = b from Int.min_eq_right (Int.le_of_lt q)]; exact ⟨_, rfl⟩
  · rw [if_neg q, show min a b = a from Int.min_eq_left (Int.not_lt.mp q)]; exact ⟨_, rfl⟩
theorem VRels.strs {h : Heap} {own : List Addr} : ∀ {ys : List Str} {cs : List Value}, VRels h own (ys.map .str) cs → PyProof.Rows.StrsAre cs ys
  | [], _, r => by simp only [List.map_nil, VRels] at r; subst r; exact .nil
  | y :: ys, _, r => by
    simp only [List.map_cons, VRels, VRel] at r
    obtain ⟨_, _, rfl, ⟨t, rfl⟩, rs⟩ := r
    exact .cons y t (VRels.strs rs)
end Mine
end
section
namespace Mine
open PySem
variable {c : Cx} {d : Nat} {sc : Scope} {m : AEnv} {σ : Led} {P P' : V → Led → Prop} {X : XP}
noncomputable def stAt (p : Program) (i : Nat) : Stmt := p.main.body.getD i (.Pass ⟨0, 0, 0, 0⟩)
noncomputable def bodyS : Stmt → List Stmt
  | .FunctionDef _ _ b _ _ _ _ _ _ _ => b
  | .ClassDef _ _ _ b _ _ _ _ _ _ _ => b
  | _ => []
noncomputable def scS : Stmt → Scope
  | .FunctionDef _ _ _ _ _ _ sc _ _ _ => sc
  | .ClassDef _ _ _ _ _ _ sc _ _ _ _ => sc
  | _ => { kind := .function, names := [], isGenerator := false, isCoroutine := false }
noncomputable def namesS : Stmt → List Str
  | .FunctionDef _ a _ _ _ _ _ _ _ _ => a.args.map (·.arg)
  | _ => []
theorem zip_filterMap : ∀ {names : List Str} {cs : List Value}, names.Nodup → cs.length = names.length → names.filterMap (fun n => ((names.zip cs).lookup n).map (n, ·)) = names.zip cs := by
  have gen : ∀ (names : List Str) (cs : List Value) (pre : List (Str × Value)), names.Nodup → cs.length = names.length → (∀ n ∈ names, pre.lookup n = none) → names.filterMap (fun n => ((pre ++ names.zip cs).lookup n).map (n, ·)) = names.zip cs := by
    intro names
    induction names with
    | nil => intro cs pre _ _ _; simp
    | cons n r ih =>
      intro cs pre hn hl hp
      cases cs with
      | nil => simp at hl
      | cons v vs =>
        simp only [List.nodup_cons] at hn
        have h1 : (pre ++ (n :: r).zip (v :: vs)).lookup n = some v := by
          rw [List.lookup_append, hp n (List.mem_cons_self ..)]; simp
        rw [List.filterMap_cons, h1]
        simp only [Option.map_some, List.zip_cons_cons, List.cons.injEq, true_and]
        have := ih vs (pre ++ [(n, v)]) hn.2 (by simpa using hl) (fun x hx => by
          rw [List.lookup_append, hp x (List.mem_cons_of_mem _ hx)]
          have : x ≠ n := fun e => hn.1 (e ▸ hx)
          simp [List.lookup_cons, beq_eq_false_iff_ne.mpr this])
        simpa using this
  intro names cs hn hl
  simpa using gen names cs [] hn hl (by simp)
theorem zip_lookup_some {names : List Str} : ∀ {cs : List Value}, cs.length = names.length → ∀ n ∈ names, ((names.zip cs).lookup n).isNone = false := by
  induction names with
  | nil => intro cs _ n hn; cases hn
  | cons a r ih =>
    intro cs hl n hn
    cases cs with
    | nil => simp at hl
    | cons v vs =>
      simp only [List.zip_cons_cons, List.lookup_cons]
      cases hb : n == a with
      | true => rfl
      | false =>
        have : n ∈ r := by
          rcases List.mem_cons.mp hn with q | q
          · subst q; simp at hb
          · exact q
        exact ih (by simpa using hl) n this
theorem bindArgs_plain {fd : FuncData} {names : List Str} (h1 : fd.params.posonlyargs = []) (h2 : fd.params.args.map (·.arg) = names) (h3 : fd.params.vararg = none) (h4 : fd.params.kwonlyargs = []) (h5 : fd.params.kwarg = none) (h6 : fd.defaults = .none)
    (hn : names.Nodup) {cs : List Value} (hl : cs.length = names.length) : bindArgs fd ⟨cs, []⟩ = pure (names.zip cs) := by
  have hmiss : (names.filter fun n => ((names.zip cs).lookup n).isNone) = [] := by
    rw [List.filter_eq_nil_iff]
    intro n hn'
    rw [zip_lookup_some hl n hn']; simp
  obtain ⟨name, qualname, ⟨po, ar, va, ko, kd, ka, de⟩, body, scope, globals, closure, defaults, kwdefaults, doc, pm, ann, code, ct, bl⟩ := fd
  dsimp only at h1 h2 h3 h4 h5 h6
  subst h1 h2 h3 h4 h5 h6
  refine (if_neg ?_).trans ((if_neg ?_).trans ?_)
  · show ¬ (decide (cs.length > (ar.map (·.arg)).length) && true) = true
    rw [hl, decide_eq_false (Nat.lt_irrefl _)]; decide
  · show ¬ (!(((ar.map (·.arg)).take ((ar.map (·.arg)).length - (List.drop (0 - (ar.map (·.arg)).length) ([] : List Value)).length)).filter fun n => (((ar.map (·.arg)).zip cs).lookup n).isNone).isEmpty) = true
    rw [List.drop_nil, List.length_nil, Nat.sub_zero, List.take_length, hmiss]; decide
  · dsimp only
    rw [show ((none : Option (Array Value)).getD #[]).toList = [] from rfl, List.drop_nil, List.zip_nil_right, List.forIn_nil]
    show pure (f := Sem) (((ar.map fun y : Arg => y.arg) ++ []).filterMap fun n => (((ar.map fun y : Arg => y.arg).zip cs).lookup n).map (n, ·)) = _
    rw [List.append_nil, zip_filterMap hn hl]
structure Fn (k : Base) (x : Str) (st : Stmt) : Prop where
  ex : ∃ f, k.mg x = some f ∧ (∀ c : Cx, c.k = k → FnAt c f (namesS st) (bodyS st) (scS st))
noncomputable def Def (k : Base) (x : Str) : Prop := ∃ a o fd, k.mg x = some (.ref a) ∧ k.h0.get? a = some o ∧ o.data = .func fd
theorem Fn.def {k : Base} {x : Str} {st : Stmt} (h : Fn k x st) : Def k x := by
  obtain ⟨f, hg, hf⟩ := h.ex
  obtain ⟨a, o, fd, rfl, h1, h2, _⟩ := (hf ⟨k, [], []⟩ rfl).at_
  exact ⟨a, o, fd, hg, h1, h2⟩
open PyProof.Rows PySem.Calls in
structure TopAt (k : Base) (q : Program) (loose : List Str) : Prop where
  ok : k.OK
  fn : ∀ d ∈ recsOf q, ∃ a o pm code doc, k.mg d.name = some (.ref a) ∧ k.h0.get? a = some o ∧ o.data = .func (docDef d.name d.params d.body d.scope pm code doc) ∧ k.h0.CodeRec code d.name
  const : ∀ x d, valOf q x = some d → ∃ v, k.mg x = some v ∧ ∀ h' : Heap, Reads h' v d []
  free : ∀ x, x ∉ startupNames → x ∉ loose → x ∉ (recsOf q).map (·.name) → x ∉ (litsOf q).map (·.1) → x ∉ (clssOf q loose).map (·.name) → k.mg x = none
  mbs : ∀ x : Str, x ≠ "__name__" → k.mb x = bootBuiltins x
open PyProof.Rows PySem.Calls in
theorem TopAt.def_ {k : Base} {q : Program} {loose : List Str} (hp : TopAt k q loose) {x : Str} {i : Nat} {st : Stmt} {a : Arguments} {b : List Stmt} {r1 r2 r3 sc t1 t2 pos} (hi : q.main.body[i]? = some st) (hst : st = .FunctionDef x a b r1 r2 r3 sc t1 t2 pos) (hd : q.theDef x = some (a, b, sc))
    (h1 : a.posonlyargs = []) (h2 : a.vararg = none) (h3 : a.kwonlyargs = []) (h4 : a.kw_defaults = []) (h5 : a.kwarg = none) (h6 : a.defaults = []) (hn : nodupB (namesS st) = true) : Fn k x st := by
  subst hst
  have hm : (⟨x, a, b, sc, pos⟩ : DefRec) ∈ recsOf q := by
    refine List.mem_filterMap.mpr ⟨_, List.mem_of_getElem? hi, ?_⟩
    dsimp only
    rw [hd]
    dsimp only
    rw [h6, h3, h4]
    rfl
  obtain ⟨f, o, pm, code, doc, q1, q2, q3, q4⟩ := hp.fn _ hm
  have hn' : nodupB (a.args.map fun y : Arg => y.arg) = true := hn
  exact ⟨.ref f, q1, fun c hck => ⟨f, o, _, rfl, by rw [hck]; exact q2, q3, by rw [hck]; exact q4, rfl, rfl, rfl, rfl, rfl, fun cs hl => bindArgs_plain h1 rfl h2 h3 h5 rfl (nodup_of hn') hl⟩⟩
noncomputable def CallN (c : Cx) (d : Nat) (x : Str) (vs : List V) (σ : Led) (P : V → Led → Prop) (X : XP) : Prop := ∃ f, c.k.mg x = some f ∧ CallS c d f vs σ P X
theorem WE_callN (hc : c.k.OK) {f : Str} {p pos : Pos} {args : List Expr} (hdef : Def c.k f) (h : WEs c d sc args m σ (fun vs σ₂ => CallN c d f vs σ₂ P X) X) (hk : sc.names.lookup f = some .globalImplicit) :
    WE c d sc (.Call (.Name f p) args [] pos) m σ P X := by
  obtain ⟨a, o, fd, hg, ho, hd⟩ := hdef
  refine WE_call_def hc hk hg (.inr (.inr ⟨a, o, fd, rfl, ho, hd⟩)) ?_
  intro env A s E pos r
  obtain ⟨h1, h2⟩ := h env A s E pos r
  refine ⟨h1, wpAny_mono h2 ?_ fun z1 z2 x => x⟩
  rintro cvs s₁ ⟨vs, σ₁, ⟨hl, f', hf', hcall⟩, r⟩
  rw [hg] at hf'; cases hf'
  exact ⟨vs, σ₁, ⟨hl, hcall⟩, r⟩
theorem CallN_def {x : Str} {st : Stmt} {vs : List V} (hc : c.k.OK) (hf : Fn c.k x st) {m₀ : AEnv} (h : WSs c d (scS st) (bodyS st) m₀ σ (Ret P) X) (hsc : scOk (scS st) (namesS st) = true) (hl : vs.length = (namesS st).length) (hm : (namesS st).zip vs = m₀) :
    CallN c (d + 1) x vs σ P X := by
  obtain ⟨f, hg, hf⟩ := hf.ex
  subst hm
  exact ⟨f, hg, CallS_def hc (hf c rfl) hsc hl h⟩
noncomputable def Blt (k : Base) (x : Str) (v : Value) : Prop := k.mg x = none ∧ k.mb x = some v
theorem WE_callB (hc : c.k.OK) {f : Str} {p pos : Pos} {args : List Expr} {cv : Value} (hb : Blt c.k f cv) (h : WEs c d sc args m σ (fun vs σ₂ => CallS c d cv vs σ₂ P X) X) (hcal : Callee c cv) (hk : sc.names.lookup f = some .globalImplicit) :
    WE c d sc (.Call (.Name f p) args [] pos) m σ P X := WE_call_builtin hc hk hb.1 hb.2 hcal h
theorem WE_blt (hc : c.k.OK) {x : Str} {pos : Pos} {cv : Value} (hb : Blt c.k x cv) (h : P (.raw cv) σ) (hk : sc.names.lookup x = some .globalImplicit) : WE c d sc (.Name x pos) m σ P X := WE_builtin hc hk hb.1 hb.2 h
open PyProof.Rows PySem.Calls in
noncomputable def unbound (q : Program) (loose : List Str) (x : Str) : Bool := !(startupNames.contains x) && !(loose.contains x) && !(((recsOf q).map (·.name)).contains x) && !(((litsOf q).map (·.1)).contains x) && !(((clssOf q loose).map (·.name)).contains x)
theorem TopAt.blt {k : Base} {q : Program} {loose : List Str} (hp : TopAt k q loose) {x : Str} {v : Value} (hu : unbound q loose x = true) (hn : x ≠ "__name__") (hb : bootBuiltins x = some v) : Blt k x v := by
  unfold unbound at hu
  simp only [Bool.and_eq_true, Bool.not_eq_true', List.contains_eq_mem, decide_eq_false_iff_not] at hu
  exact ⟨hp.free x hu.1.1.1.1 hu.1.1.1.2 hu.1.1.2 hu.1.2 hu.2, by rw [hp.mbs x hn, hb]⟩
theorem WE.mono {e : Expr} (h : WE c d sc e m σ P X) (k : ∀ v σ', P v σ' → P' v σ') : WE c d sc e m σ P' X := fun env A s E r =>
  wpAny_mono (h env A s E r) (fun _ _ ⟨v, σ', hp, t⟩ => ⟨v, σ', k v σ' hp, t⟩) fun z1 z2 x => x
theorem WT.mono {e : Expr} {P P' : Bool → Led → Prop} (h : WT c d sc e m σ P X) (k : ∀ v σ', P v σ' → P' v σ') : WT c d sc e m σ P' X := fun env A s E r =>
  wpAny_mono (h env A s E r) (fun _ _ ⟨σ', hp, t⟩ => ⟨σ', k _ σ' hp, t⟩) fun z1 z2 x => x
theorem WSs.mono {sts : List Stmt} {K K' : Fl → AEnv → Led → Prop} (h : WSs c d sc sts m σ K X) (k : ∀ f m' σ', K f m' σ' → K' f m' σ') : WSs c d sc sts m σ K' X := fun env A s E r =>
  wpAny_mono (h env A s E r) (fun _ _ ⟨f, m', σ', hp, t⟩ => ⟨f, m', σ', k f m' σ' hp, t⟩) fun z1 z2 x => x
theorem law_core {prog : Program} {w : World} {s₁ : Shared} {mg mb : Str → Option Value} (hk : (Base.mk prog w s₁.heap mg mb true).OK) {fa a : Addr} {items : List Value} {xs : List Int} {E : Value → Shared → Prop}
    (hl : s₁.heap.get? a = some { cls := .type "list", data := .seq items.toArray }) (hi : PyProof.Rows.IntsAre items xs) (hlen : xs.length ≤ 63)
    (h : CallS ⟨⟨prog, w, s₁.heap, mg, mb, true⟩, [], []⟩ 90 (.ref fa) [.lst (xs.map .int)] [] (fun v z1 => v = .bool true) NoX) :
    wpAny (model prog w) callerA (call (.ref fa) [.ref a]) (fun v s' => v = .bool true ∧ (∀ b o, s₁.heap.get? b = some o → s'.heap.get? b = some o) ∧ s'.os = s₁.os ∧ s'.gens = s₁.gens) E s₁ := by
  have hints : ∀ {items : List Value} {xs : List Int}, PyProof.Rows.IntsAre items xs → VRels s₁.heap [] (xs.map V.int) items := by
    intro items xs hi
    induction hi with
    | nil => simp only [List.map_nil, VRels]
    | cons n t _ ih => simp only [List.map_cons, VRels, VRel]; exact ⟨_, _, rfl, ⟨t, rfl⟩, ih⟩
  have hst : St ⟨⟨prog, w, s₁.heap, mg, mb, true⟩, [], []⟩ callerA [] s₁.heap := by
    refine ⟨fun z1 z2 e => e, List.nodup_nil, fun z1 h => (by cases h), fun z1 z2 h => (by cases h), ⟨[], rfl, ?_, fun L h => (by cases h)⟩, fun z1 h => (by cases h), fun z1 h => (by cases h)⟩
    exact trivial
  have hsz : items.length = xs.length := by have := (hints hi).length; simpa using this
  refine wpAny_mono (h callerA s₁ E [.ref a] ⟨fun z1 => rfl, by decide +kernel, by decide +kernel, by decide⟩ hst ?_ EOk.nox) ?_ fun z1 z2 x => x
  · simp only [VRels, VRel]
    exact ⟨_, _, rfl, ⟨a, items, rfl, by simp [ownS, owned], ⟨_, hl⟩, by rw [hsz, sizeLine_eq]; lia, hints hi⟩, rfl⟩
  · rintro v s' ⟨v', σ', hv, t, st, r⟩
    rw [hv] at r
    simp only [VRel] at r
    exact ⟨r, fun b o e => st.keep b o e, t.os, t.gens⟩
end Mine
end
section
namespace Mine
open PySem
variable {c : Cx} {d : Nat} {sc : Scope} {m : AEnv} {σ : Led} {P P' : V → Led → Prop} {X : XP} {K : Fl → AEnv → Led → Prop} {N : AEnv → Led → Prop}
theorem Cmp_eq_bool {a b : Bool} (h : P (.bool (a == b)) σ) : Op2 c d (compareOp .Eq) (.bool a) (.bool b) σ P := by
  intro A s E ca cb _ st ra rb
  simp only [VRel] at ra rb; subst ra; subst rb
  exact PyProof.Rows.eq_bool (Post.same' st h (by simp only [VRel]))
theorem Cmp_ne_bool {a b : Bool} (h : P (.bool (a != b)) σ) : Op2 c d (compareOp .NotEq) (.bool a) (.bool b) σ P := by
  intro A s E ca cb _ st ra rb
  simp only [VRel] at ra rb; subst ra; subst rb
  exact PyProof.Rows.ne_bool (Post.same' st h (by simp only [VRel]))
theorem Op_pow12 (h : P (.int 1000000000000) σ) : Op2 c d (binaryOp .Pow) (.int 10) (.int 12) σ P :=
  Op_pow (x := 10) (n := 12) (by decide) (by decide +kernel) h
set_option tactic.hygienic true
theorem intBits_small {a : Int} (h1 : -9223372036854775808 < a) (h2 : a < 9223372036854775808) : Builtin.Int.intBits a ≤ 64 := by
  have hn : a.natAbs < 2 ^ 63 := by lia
  unfold Builtin.Int.intBits
  first
    | (split
       · (exact Ar.lin 0 0 (.le (.k 0) (.k 64)) [] (by kernel_rfl) [] [] rfl rfl )
       · rename_i hz
         have : a.natAbs ≠ 0 := by simpa using hz
         have := (Nat.log2_lt this).mpr hn
         (exact Ar.lin 0 1 (.le (.a (.v 0) (.k 1)) (.k 64)) [(.lt (.v 0) (.k 63))] (by kernel_rfl) [] [_] rfl rfl this))
    | (simp only []; by_cases hz : a.natAbs = 0 <;> simp_all <;> (have := (Nat.log2_lt hz).mpr hn; lia))
theorem mulOk_right {a b : Int} (h1 : -9223372036854775808 < b) (h2 : b < 9223372036854775808) : IntMulOk a b := IntMulOk.of_right (intBits_small h1 h2)
set_option tactic.hygienic false
theorem Op_modp {x y : Int} (hy : 0 < y) (h : P (.int (x % y)) σ) : Op2 c d (binaryOp .Mod) (.int x) (.int y) σ P :=
  Op_mod (by (exact Ar.lin 1 0 (.no (.ieq (.v 0) (.k 0))) [(.ilt (.k 0) (.v 0))] (by kernel_rfl) [_] [] rfl rfl hy)) (by rw [Int.fmod_eq_emod_of_nonneg _ (by (exact Ar.lin 1 0 (.ile (.k 0) (.v 0)) [(.ilt (.k 0) (.v 0))] (by kernel_rfl) [_] [] rfl rfl hy))]; exact h)
theorem log2_small {y : Int} (hy : 0 < y) (h2 : y < 9223372036854775808) : y.natAbs.log2 < 9000 := by
  have hn : y.natAbs < 2 ^ 63 := by lia
  have := (Nat.log2_lt (by lia)).mpr hn
  (exact Ar.lin 0 1 (.lt (.v 0) (.k 9000)) [(.lt (.v 0) (.k 63))] (by kernel_rfl) [] [_] rfl rfl this)
theorem Op_divp {x y : Int} (hy : 0 < y) (h2 : y < 9223372036854775808) (h : P (.int (x / y)) σ) : Op2 c d (binaryOp .FloorDiv) (.int x) (.int y) σ P :=
  Op_div (by (exact Ar.lin 1 0 (.no (.ieq (.v 0) (.k 0))) [(.ilt (.k 0) (.v 0))] (by kernel_rfl) [_] [] rfl rfl hy)) (log2_small hy h2) (by rw [Int.fdiv_eq_ediv_of_nonneg _ (by (exact Ar.lin 1 0 (.ile (.k 0) (.v 0)) [(.ilt (.k 0) (.v 0))] (by kernel_rfl) [_] [] rfl rfl hy))]; exact h)
end Mine
namespace Mine
open PySem
theorem strAppend_list (x y : Str) : (x ++ y).cps.toList = x.cps.toList ++ y.cps.toList := by
  show (x.cps ++ y.cps).toList = _
  simp
theorem str_length (x : Str) : x.length = x.cps.toList.length := by simp [Str.length]
end Mine
end
section
namespace Mine
open PySem PySem.W PyProof.Rows
theorem law_head {l : OpenLaw} {w : World} {s₀ s₁ : Shared} {mg mb : Str → Option Value} {fa a : Addr} {items : List Value} {xs : List Int} (hk : (Base.mk l.row.prog w s₁.heap mg mb true).OK)
    (hw : Well w.params s₁.heap (.ref a) (ofPy (.list (xs.map .int)))) (hL : s₁.heap.IsList a items.toArray) (hi : IntsAre items xs) (hlen : xs.length ≤ 63) (hg : s₁.gens = #[])
    (h : CallS ⟨⟨l.row.prog, w, s₁.heap, mg, mb, true⟩, [], []⟩ 90 (.ref fa) [.lst (xs.map .int)] [] (fun v z1 => v = .bool true) NoX) :
    wpAny (model l.row.prog w) callerA (call (.ref fa) [.ref a]) (fun v s' => GoodWG l.row.claim (classAt s₀.heap) (ExcName.means s₀.heap) [ofPy (.list (xs.map .int))] s₁ (.ok (.ret v)) s')
      (fun e s' => GoodWG l.row.claim (classAt s₀.heap) (ExcName.means s₀.heap) [ofPy (.list (xs.map .int))] s₁ (.error e) s') s₁ := by
  obtain ⟨o, ho, hc, n, hd⟩ := hL
  have hobj : s₁.heap.get? a = some { cls := .type "list", data := .seq items.toArray } := by
    have key : ∀ (v : Value) (dd : WData) (ys : List WData), Well w.params s₁.heap v dd → v = .ref a → dd = .list ys → ∃ vs : List Value, s₁.heap.get? a = some { cls := .type "list", data := .seq vs.toArray } := by
      intro v dd ys hW
      cases hW <;> intro e1 e2 <;> first
        | (cases e2; done)
        | (cases e1; cases e2; exact ⟨_, by assumption⟩)
    have e2 : ∃ ys, ofPy (.list (xs.map .int)) = .list ys := by
      first
        | exact ⟨_, rfl⟩
        | (simp only [ofPy]; exact ⟨_, rfl⟩)
    obtain ⟨ys, e2⟩ := e2
    obtain ⟨vs, hv⟩ := key _ _ ys hw rfl e2
    rw [hv] at ho
    cases ho
    simp only at hd
    cases hd
    exact hv
  refine wpAny_mono (law_core hk hobj hi hlen h) ?_ fun z1 z2 x => x
  rintro v s' ⟨rfl, hkeep, hos, hgens⟩
  refine GoodW.toG ⟨.inl ⟨.bool true, .bool true, [], rfl, ?_, ?_, ?_, ?_⟩, hkeep, hos, hgens.trans hg⟩
  · intro cls; rfl
  · exact .bool _
  · refine postW_of (X := true) ?_ ?_ rfl
    · have e : WShape.has [] (.bool true) .bool = true := by decide +kernel
      exact e
    · have e : same (WData.bool true) (WData.bool true) = true := by decide +kernel
      show WTm.value [] (.eq .res (.lit (.bool true))) _ = _
      simp [WTm.value, e]
  · intro _; exact ⟨List.nodup_nil, fun a ha => by cases ha⟩
end Mine
end
section
namespace Mine
open PySem PySem.SeqAt
variable {c : Cx} {d : Nat} {sc : Scope} {m : AEnv} {σ : Led} {P P' : V → Led → Prop} {X : XP} {K : Fl → AEnv → Led → Prop} {N : AEnv → Led → Prop}
noncomputable def Const (k : Base) (x : Str) (v : V) : Prop := ∃ cv, k.mg x = some cv ∧ ∀ h own, VRel h own v cv
theorem WE_const (hc : c.k.OK) {x : Str} {pos : Pos} {v : V} (hv : Const c.k x v) (h : P v σ) (hk : sc.names.lookup x = some .globalImplicit) : WE c d sc (.Name x pos) m σ P X := by
  obtain ⟨cv, hg, hr⟩ := hv
  exact WE_global hc hk hg hr h
theorem TopAt.constI {k : Base} {q : Program} {loose : List Str} (hp : TopAt k q loose) {x : Str} {i : Int} (hv : PyProof.Rows.valOf q x = some (.int i)) : Const k x (.int i) := by
  obtain ⟨v, h1, h2⟩ := hp.const x _ hv
  obtain ⟨t, rfl⟩ : ∃ t, v = .int i t := by cases h2 default; exact ⟨_, rfl⟩
  exact ⟨_, h1, fun h own => by simp only [VRel]; exact ⟨t, rfl⟩⟩
theorem TopAt.constS {k : Base} {q : Program} {loose : List Str} (hp : TopAt k q loose) {x y : Str} (hv : PyProof.Rows.valOf q x = some (.str y)) : Const k x (.str y) := by
  obtain ⟨v, h1, h2⟩ := hp.const x _ hv
  obtain ⟨t, rfl⟩ : ∃ t, v = .str y t := by cases h2 default; exact ⟨_, rfl⟩
  exact ⟨_, h1, fun h own => by simp only [VRel]; exact ⟨t, rfl⟩⟩
theorem VRels.bools {h : Heap} {own : List Addr} : ∀ {bs : List Bool} {cs : List Value}, VRels h own (bs.map .bool) cs → cs = bs.map .bool
  | [], _, r => by simp only [List.map_nil, VRels] at r; subst r; rfl
  | y :: ys, _, r => by
    simp only [List.map_cons, VRels, VRel] at r
    obtain ⟨_, _, rfl, rfl, rs⟩ := r
    rw [VRels.bools rs]; rfl
theorem VRels.ints {h : Heap} {own : List Addr} : ∀ {ys : List Int} {cs : List Value}, VRels h own (ys.map .int) cs → ∃ xs : Array (Int × Tok), cs.toArray = intItems xs ∧ xs.toList.map (·.1) = ys
  | [], _, r => by simp only [List.map_nil, VRels] at r; subst r; exact ⟨#[], by simp [intItems], rfl⟩
  | y :: ys, _, r => by
    simp only [List.map_cons, VRels, VRel] at r
    obtain ⟨_, _, rfl, ⟨t, rfl⟩, rs⟩ := r
    obtain ⟨xs, e1, e2⟩ := VRels.ints rs
    refine ⟨#[(y, t)] ++ xs, ?_, by simp [e2]⟩
    have : ∀ l : List (Int × Tok), intItems l.toArray = (l.map fun p => Value.int p.1 p.2).toArray := by intro l; simp [intItems]
    obtain ⟨l⟩ := xs
    rw [this] at e1
    have e3 : (#[(y, t)] ++ (⟨l⟩ : Array (Int × Tok))) = (((y, t) :: l)).toArray := by simp
    rw [e3, this]
    have e4 := congrArg Array.toList e1
    simp only at e4
    rw [List.map_cons, ← e4]
theorem all_range {bs : List Bool} {tr : Nat → Bool} (h : ∀ i b, bs[i]? = some b → tr i = b) : (List.range bs.length).all tr = bs.all id := by
  induction bs generalizing tr with
  | nil => rfl
  | cons b r ih =>
    rw [List.length_cons, List.range_succ_eq_map, List.all_cons, List.all_map, List.all_cons, h 0 b rfl]
    rw [ih (tr := tr ∘ Nat.succ) (fun i b hb => h (i + 1) b (by simpa using hb))]; rfl
theorem Call_all (hh : c.k.hd = true) {bs : List Bool} {lv : V} (hl : IsLst σ lv (bs.map .bool)) (h : P (.bool (bs.all id)) σ) : CallS c d (.builtin "all") [lv] σ P X := by
  intro A s E cs hA st rs _
  obtain ⟨x, rfl, r⟩ := rs.un1
  obtain ⟨a, cs, rfl, p, hsz, rs⟩ := hl.plain st r
  have hcs := rs.bools
  have hlt : a < s.heap.objs.size := by obtain ⟨n, e⟩ := p; exact Heap.lt_size e
  refine call_all_walk (wpAny_pyIter_list p.isList ?_)
  refine ⟨_, _, _, _, _, _, fun i => (bs[i]?).getD false, rfl, Walks.list (A := A.in1) (hA.handled hh) _ a (Nat.ne_of_lt hlt) cs.toArray, ⟨⟨_, Heap.get?_push_size _ rfl, rfl, rfl⟩, p.isList.push _⟩, ?_, fun h' tk hk => ?_⟩
  · intro i v s Q E hP hQ
    have hP : cs.toArray[i]? = some v := hP
    rw [hcs, List.getElem?_toArray, List.getElem?_map] at hP
    cases e : bs[i]? with
    | none => rw [e] at hP; cases hP
    | some b =>
      rw [e] at hP
      simp only [Option.map_some, Option.some.injEq] at hP
      subst hP
      have hQ : Q ((bs[i]?).getD false) s := hQ
      rw [e] at hQ
      exact wpAny_truthy_bool hQ
  · have hx : Ext s.heap h' := fun b o e => hk b o (fun q => by rw [List.mem_singleton.mp q] at e; exact absurd (Heap.lt_size e) (Nat.lt_irrefl _)) (Heap.get?_push_of_some _ e)
    have hlen : cs.toArray.size = bs.length := by rw [List.size_toArray, hcs, List.length_map]
    rw [hlen, all_range (bs := bs) (fun i b hb => by rw [hb]; rfl)]
    exact ⟨_, σ, h, .ext hx rfl rfl, st.ext hx, by simp only [VRel]⟩
theorem Call_sum (hh : c.k.hd = true) {ys : List Int} {lv : V} (hl : IsLst σ lv (ys.map .int)) (h : P (.int ys.sum) σ) : CallS c d (.builtin "sum") [lv] σ P X := by
  intro A s E cs hA st rs _
  obtain ⟨x, rfl, r⟩ := rs.un1
  obtain ⟨a, cs, rfl, p, hsz, rs⟩ := hl.plain st r
  obtain ⟨xs, e1, e2⟩ := rs.ints
  have hl' := p.isList
  rw [e1] at hl'
  have hlt : a < s.heap.objs.size := by obtain ⟨n, e⟩ := p; exact Heap.lt_size e
  refine call_sum_walkG (iter_intList hl' fun s₂ e stt hfp hlI => ?_)
  subst e
  refine ⟨_, _, _, _, _, _, numAt xs, rfl, Walks.list (A := A.in1) (hA.handled hh) _ a hlI (intItems xs), stt, hfp, (fun z1 z2 => intItems_at), fun h' tk t' hk => ?_⟩
  have hx : Ext s.heap h' := old_kept hk
  have hsum : preSum (numAt xs) (intItems xs).size = ys.sum := by
    have : (intItems xs).size = xs.size := by simp [intItems]
    rw [this, preSum_eq, List.take_of_length_le (by simp), e2]
  rw [hsum]
  exact ⟨_, σ, h, .ext hx rfl rfl, st.ext hx, by simp only [VRel]; exact ⟨_, rfl⟩⟩
theorem Op_addl {va vb : V} {as bs : List V} (ha : IsLst σ va as) (hb : IsLst σ vb bs) (hsz : as.length + bs.length ≤ 1000000) (h : P (.lst (as ++ bs)) σ) : Op2 c d (binaryOp .Add) va vb σ P := by
  intro A s E ca cb _ st ra rb
  obtain ⟨a, cs, rfl, ⟨n, e⟩, _, rs⟩ := ha.plain st ra
  obtain ⟨b, ds, rfl, ⟨n', e'⟩, _, rs'⟩ := hb.plain st rb
  have h1 := rs.length
  have h2 := rs'.length
  have hs' : sizeLine = 16777216 := by rw [sizeLine_eq]
  refine PySem.P.add_list (hsz := by simp only [List.size_toArray]; (exact Ar.lin 0 5 (.le (.a (.v 0) (.v 1)) (.v 2)) [(.le (.a (.v 3) (.v 4)) (.k 1000000)), (.eq (.v 0) (.v 3)), (.eq (.v 1) (.v 4)), (.eq (.v 2) (.k 16777216))] (by kernel_rfl) [] [_, _, _, _, _] rfl rfl hsz h1 h2 hs')) e e' ?_
  have e3 : cs.toArray ++ ds.toArray = (cs ++ ds).toArray := by simp
  rw [e3]
  exact Post.newLst (n := 0) st (by rw [List.length_append]; (exact Ar.lin 0 5 (.le (.a (.v 0) (.v 1)) (.v 2)) [(.le (.a (.v 3) (.v 4)) (.k 1000000)), (.eq (.v 0) (.v 3)), (.eq (.v 1) (.v 4)), (.eq (.v 2) (.k 16777216))] (by kernel_rfl) [] [_, _, _, _, _] rfl rfl hsz h1 h2 hs')) (rs.append rs') h
theorem Call_list {lv : V} {vs : List V} (hl : IsLst σ lv vs) (h : P (.lst vs) σ) : CallS c d (.type "list") [lv] σ P X := by
  intro A s E cs hA st rs _
  obtain ⟨x, rfl, r⟩ := rs.un1
  obtain ⟨a, cs, rfl, ⟨n, e⟩, hsz, rs⟩ := hl.plain st r
  refine call_list_seq (hsz := by simpa using hsz) a (.inl rfl) e rfl rfl fun h' c' hx hn => ?_
  have hx : Ext s.heap h' := hx
  refine ⟨.lst vs, σ, h, .ext hx rfl rfl, st.ext hx, ?_⟩
  simp only [VRel]
  exact ⟨_, cs, rfl, st.newS, ⟨c', hn⟩, hsz, VRels.mono hx.kept .refl vs cs rs⟩
mutual
noncomputable def toD : V → PyData
  | .none => .none
  | .bool b => .bool b
  | .int i => .int i
  | .str x => .str x
  | .tup vs => .tuple (toDs vs)
  | .lst vs => .list (toDs vs)
  | _ => .none
noncomputable def toDs : List V → List PyData
  | [] => []
  | v :: vs => toD v :: toDs vs
end
mutual
noncomputable def isD : V → Bool
  | .none => true
  | .bool _ => true
  | .int _ => true
  | .str x => PyData.strOk x
  | .tup vs => isDs vs
  | .lst vs => isDs vs
  | _ => false
noncomputable def isDs : List V → Bool
  | [] => true
  | v :: vs => isD v && isDs vs
end
mutual
theorem isD_lay : ∀ (v : V), isD v = true → (toD v).canLay0 = true
  | .none, _ => by simp [toD, PyData.canLay0]
  | .bool _, _ => by simp [toD, PyData.canLay0]
  | .int _, _ => by simp [toD, PyData.canLay0]
  | .str x, h => by simpa [toD, PyData.canLay0, isD] using h
  | .tup vs, h => by simp only [toD, PyData.canLay0]; exact isDs_lay vs (by simpa [isD] using h)
  | .lst vs, h => by simp only [toD, PyData.canLay0]; exact isDs_lay vs (by simpa [isD] using h)
  | .set _ _, h => by simp [isD] at h
  | .rng _ _, h => by simp [isD] at h
  | .ref _, h => by simp [isD] at h
  | .raw _, h => by simp [isD] at h
theorem isDs_lay : ∀ (vs : List V), isDs vs = true → PyData.canLayAll0 (toDs vs) = true
  | [], _ => by simp [toDs, PyData.canLayAll0]
  | v :: vs, h => by
    simp only [isDs, Bool.and_eq_true] at h
    simp only [toDs, PyData.canLayAll0, Bool.and_eq_true]
    exact ⟨isD_lay v h.1, isDs_lay vs h.2⟩
end
mutual
theorem VRel.reads {h : Heap} {own : List Addr} : ∀ (v : V) (cv : Value), isD v = true → VRel h own v cv → ∃ as, Reads h cv (toD v) as
  | .none, _, _, r => by simp only [VRel] at r; subst r; exact ⟨[], .none⟩
  | .bool b, _, _, r => by simp only [VRel] at r; subst r; exact ⟨[], .bool b⟩
  | .int i, _, _, r => by simp only [VRel] at r; obtain ⟨t, rfl⟩ := r; exact ⟨[], .int i t⟩
  | .str x, _, _, r => by simp only [VRel] at r; obtain ⟨t, rfl⟩ := r; exact ⟨[], .str x t⟩
  | .tup vs, _, hd, r => by
    simp only [VRel] at r
    obtain ⟨a, cs, rfl, _, ⟨n, e⟩, _, rs⟩ := r
    obtain ⟨as, ra⟩ := VRels.reads vs cs (by simpa [isD] using hd) rs
    exact ⟨as, .tuple e rfl rfl (by simpa using ra)⟩
  | .lst vs, _, hd, r => by
    simp only [VRel] at r
    obtain ⟨a, cs, rfl, _, ⟨n, e⟩, _, rs⟩ := r
    obtain ⟨as, ra⟩ := VRels.reads vs cs (by simpa [isD] using hd) rs
    exact ⟨a :: as, .list e rfl rfl (by simpa using ra)⟩
  | .set _ _, _, h, _ => by simp [isD] at h
  | .rng _ _, _, h, _ => by simp [isD] at h
  | .ref _, _, h, _ => by simp [isD] at h
  | .raw _, _, h, _ => by simp [isD] at h
theorem VRels.reads {h : Heap} {own : List Addr} : ∀ (vs : List V) (cs : List Value), isDs vs = true → VRels h own vs cs → ∃ as, ReadsAll h cs (toDs vs) as
  | [], _, _, r => by simp only [VRels] at r; subst r; exact ⟨[], .nil⟩
  | v :: vs, _, hd, r => by
    simp only [isDs, Bool.and_eq_true] at hd
    simp only [VRels] at r
    obtain ⟨x, xs, rfl, r1, rs⟩ := r
    obtain ⟨as, ra⟩ := VRel.reads v x hd.1 r1
    obtain ⟨bs, rb⟩ := VRels.reads vs xs hd.2 rs
    exact ⟨as ++ bs, .cons ra rb⟩
end
inductive Dat (σ : Led) : V → PyData → Prop
  | val {v : V} : isD v = true → Dat σ v (toD v)
  | ref {a : Addr} {vs : List V} : σ.lookup a = some (.list vs) → isDs vs = true → Dat σ (.ref a) (.list (toDs vs))
theorem Dat.reads {A : Around} {h : Heap} {v : V} {cv : Value} {x : PyData} (i : Dat σ v x) (st : St c A σ h) (r : VRel h (ownS c σ) v cv) : (∃ as, Reads h cv x as) ∧ x.canLay0 = true := by
  cases i with
  | val hd => exact ⟨VRel.reads v cv hd r, isD_lay v hd⟩
  | ref hl hd =>
    simp only [VRel] at r; subst r
    obtain ⟨cs, ⟨n, e⟩, _, rs⟩ := st.objs _ _ (lookup_mem hl)
    obtain ⟨as, ra⟩ := VRels.reads _ cs hd rs
    exact ⟨⟨_, .list e rfl rfl (by simpa using ra)⟩, by simp only [PyData.canLay0]; exact isDs_lay _ hd⟩
theorem units_ok {A : Around} (h : AOk c.k d A) : A.units + 65 < cLine := by
  have h1 := h.units
  have h2 : cLine = 9900 := by decide
  rw [h2]; (exact Ar.lin 0 2 (.lt (.a (.v 0) (.k 65)) (.k 9900)) [(.lt (.a (.v 0) (.m 20 (.v 1))) (.k 9000))] (by kernel_rfl) [] [_, _] rfl rfl h1)
theorem Cmp_ne_d {va vb : V} {x y : PyData} (ha : Dat σ va x) (hb : Dat σ vb y) (hx : x.depth ≤ 20) (hy : y.depth ≤ 20) (h : P (.bool (!PyData.eqv x y)) σ) : Op2 c d (compareOp .NotEq) va vb σ P := by
  intro A s E ca cb hA st ra rb
  obtain ⟨⟨as, ra⟩, la⟩ := ha.reads st ra
  obtain ⟨⟨bs, rb⟩, lb⟩ := hb.reads st rb
  have hu := units_ok hA
  exact compareNe_shaped ra rb (by unfold shaped; rw [la]; simp; (exact Ar.lin 0 1 (.le (.v 0) (.k 64)) [(.le (.v 0) (.k 20))] (by kernel_rfl) [] [_] rfl rfl hx)) (by unfold shaped; rw [lb]; simp; (exact Ar.lin 0 1 (.le (.v 0) (.k 64)) [(.le (.v 0) (.k 20))] (by kernel_rfl) [] [_] rfl rfl hy)) (by (exact Ar.lin 0 2 (.lt (.a (.v 0) (.k 64)) (.v 1)) [(.lt (.a (.v 0) (.k 65)) (.v 1))] (by kernel_rfl) [] [_, _] rfl rfl hu)) (Post.same' st h (by simp only [VRel]))
theorem isDs_all (vs : List V) : isDs vs = true ↔ ∀ v ∈ vs, isD v = true := by
  induction vs with
  | nil => simp [isDs]
  | cons v r ih => simp [isDs, ih]
theorem WA.mono {t : Expr} {v : V} {K K' : AEnv → Led → Prop} (h : WA c d sc t v m σ K X) (k : ∀ m' σ', K m' σ' → K' m' σ') : WA c d sc t v m σ K' X := fun env A s E cv r rv =>
  wpAny_mono (h env A s E cv r rv) (fun _ _ ⟨m', σ', hp, t⟩ => ⟨m', σ', k m' σ' hp, t⟩) fun z1 z2 x => x
theorem WA_sub {t : Expr} {v : V} {m' : AEnv} {K : AEnv → Led → Prop} (k : Sub m' m) (h : WA c d sc t v m' σ K X) : WA c d sc t v m σ K X :=
  fun env A s E cv r rv => h env A s E cv ⟨r.sc, r.ok, r.fr, r.a, r.st, r.er.sub k, r.e⟩ rv
theorem bits_of_layable : ∀ {xs : List Int}, (PyData.list (xs.map .int)).layable0 = true → ∀ x ∈ xs, Builtin.Int.intBits x ≤ 1048576 := by
  intro xs h
  have hw : PyData.weightAll (xs.map .int) ≤ 1048576 := by
    simp only [PyData.layable0, Bool.and_eq_true, decide_eq_true_eq, PyData.weight] at h
    exact of_decide_eq_true h.2
  clear h
  induction xs with
  | nil => intro x hx; cases hx
  | cons a r ih =>
    simp only [List.map_cons, PyData.weightAll, PyData.weight] at hw
    intro x hx
    rcases List.mem_cons.mp hx with rfl | hx
    · show (if x == 0 then 0 else x.natAbs.log2 + 1) ≤ _
      (exact Ar.lin 0 2 (.le (.v 0) (.k 1048576)) [(.le (.a (.a (.v 0) (.k 1)) (.v 1)) (.k 1048576))] (by kernel_rfl) [] [_, _] rfl rfl hw)
    · exact ih (by (exact Ar.lin 0 2 (.le (.v 0) (.k 1048576)) [(.le (.a (.a (.v 1) (.k 1)) (.v 0)) (.k 1048576))] (by kernel_rfl) [] [_, _] rfl rfl hw)) x hx
end Mine
namespace Mine
open PySem
end Mine
namespace Mine
open PySem
variable {c : Cx} {d : Nat} {σ : Led}
theorem IsLst.iter {lv : V} {vs : List V} (h : IsLst σ lv vs) : ∃ G : List Addr, (∀ b ∈ G, b ∈ owned σ) ∧ IterS (c.pro G) σ lv vs := by
  cases h with
  | lst => exact ⟨[], by simp, Iter_lst⟩
  | @ref a _ hl =>
    refine ⟨[a], fun b hb => ?_, Iter_ref hl (by simp [Cx.pro])⟩
    rw [List.mem_singleton.mp hb]
    exact mem_owned.mpr ⟨a, _, lookup_mem hl, by simp [O.addrs]⟩
end Mine
end
section
namespace Mine
open PySem
variable {c : Cx} {d : Nat} {sc : Scope} {m : AEnv} {σ : Led} {P P' : V → Led → Prop} {X : XP} {K : Fl → AEnv → Led → Prop} {N : AEnv → Led → Prop}
theorem eqv_self {v : V} (h : isD v = true) : PyData.eqv (toD v) (toD v) = true := by
  first
    | exact SeqAt.eqv_refl _ (isD_lay v h)
    | exact PyData.eqv_refl _ (isD_lay v h)
    | exact eqv_refl _ (isD_lay v h)
    | exact P3.eqv_refl _ (isD_lay v h)
end Mine
end
section
namespace Mine
open PySem
variable {c : Cx} {d : Nat} {sc : Scope} {m : AEnv} {σ : Led} {P : V → Led → Prop} {X : XP} {K : Fl → AEnv → Led → Prop}
noncomputable def upd (a : Addr) (o : O) : Led → Led
  | [] => []
  | (b, x) :: r => if b = a then (b, o) :: r else (b, x) :: upd a o r
theorem upd_here {a : Addr} {o x : O} {r : Led} : upd a o ((a, x) :: r) = (a, o) :: r := by simp [upd]
theorem upd_there {a b : Addr} {o x : O} {r : Led} (h : b ≠ a) : upd a o ((b, x) :: r) = (b, x) :: upd a o r := by simp [upd, h]
theorem led_here {a : Addr} {o : O} {r : Led} : List.lookup a ((a, o) :: r) = some o := by simp
theorem led_there {a b : Addr} {o x : O} {r : Led} (h : a ≠ b) (h2 : List.lookup a r = some o) : List.lookup a ((b, x) :: r) = some o := by
  rw [List.lookup_cons, beq_eq_false_iff_ne.mpr h]; exact h2
theorem O.self (a : Addr) (o : O) : a ∈ o.addrs a := by cases o <;> simp [O.addrs]
theorem owned_upd {a : Addr} {o o' : O} (h1 : o'.addrs a = o.addrs a) : ∀ {σ : Led}, σ.lookup a = some o → owned (upd a o' σ) = owned σ
  | [], h => by simp at h
  | (b, x) :: r, h => by
    rw [List.lookup_cons] at h
    by_cases q : b = a
    · subst q
      simp only [beq_self_eq_true] at h
      cases h
      rw [upd_here]
      show o'.addrs b ++ owned r = _
      rw [h1]; rfl
    · rw [beq_eq_false_iff_ne.mpr (fun e => q e.symm)] at h
      rw [upd_there q]
      show x.addrs b ++ owned (upd a o' r) = x.addrs b ++ owned r
      rw [owned_upd h1 h]
theorem mem_upd {a : Addr} {o o' : O} : ∀ {σ : Led}, (owned σ).Nodup → σ.lookup a = some o → ∀ {b : Addr} {x : O}, (b, x) ∈ upd a o' σ → (b = a ∧ x = o') ∨ ((b, x) ∈ σ ∧ a ∉ x.addrs b)
  | [], _, h, _, _ => by simp at h
  | (y, oy) :: r, hnd, h, b, x => by
    intro hm
    rw [List.lookup_cons] at h
    obtain ⟨_, hnd2, hdis⟩ := List.nodup_append.mp hnd
    by_cases q : y = a
    · subst q
      simp only [beq_self_eq_true] at h
      cases h
      rw [upd_here] at hm
      rcases List.mem_cons.mp hm with e | e
      · cases e; exact .inl ⟨rfl, rfl⟩
      · refine .inr ⟨.tail _ e, fun hb => hdis y (O.self _ _) y (mem_owned.mpr ⟨b, x, e, hb⟩) rfl⟩
    · rw [beq_eq_false_iff_ne.mpr (fun e => q e.symm)] at h
      rw [upd_there q] at hm
      rcases List.mem_cons.mp hm with e | e
      · cases e
        exact .inr ⟨.head _, fun hb => hdis a hb a (mem_owned.mpr ⟨a, _, lookup_mem h, O.self _ _⟩) rfl⟩
      · rcases mem_upd hnd2 h e with e | e
        · exact .inl e
        · exact .inr ⟨.tail _ e.1, e.2⟩
theorem ORel.writeOwn {own : List Addr} {h h' : Heap} {K : Base} {D a : Addr} {o : O} (hD : D ∈ own) (k : But D h h') (ha : D ∉ o.addrs a) (r : ORel K h own a o) : ORel K h' own a o := by
  cases o with
  | list vs =>
    obtain ⟨cs, ⟨n, e⟩, hl, rs⟩ := r
    exact ⟨cs, ⟨n, k a _ (fun q => ha (by simp [O.addrs, q])) e⟩, hl, rs.carry (But.carriesHid hD k)⟩
  | dictI _ => exact DictR.carry r (fun ob' e => k a _ (fun q => ha (by simp [O.addrs, q])) e) (But.carriesHid hD k)
  | dictS _ => exact DictR.carry r (fun ob' e => k a _ (fun q => ha (by simp [O.addrs, q])) e) (But.carriesHid hD k)
  | inst _ _ _ => exact r.elim
  | exc C => obtain ⟨o, vs, e, q⟩ := r; exact ⟨o, vs, k a _ (fun q => ha (by simp [O.addrs, q])) e, q⟩
theorem mem_own_lookup {a : Addr} {o : O} (hl : σ.lookup a = some o) : a ∈ owned σ := mem_owned.mpr ⟨a, _, lookup_mem hl, O.self _ _⟩
theorem St.updO {A : Around} {h h' : Heap} {a : Addr} {o o' : O} (st : St c A σ h) (hl : σ.lookup a = some o) (ho : o'.addrs a = o.addrs a) (k : But a h h') (r : ORel c.k h' (ownS c σ) a o') : St c A (upd a o' σ) h' := by
  have hao : a ∈ owned σ := mem_own_lookup hl
  have hown : owned (Mine.upd a o' σ) = owned σ := owned_upd ho hl
  have hownS : ownS c (Mine.upd a o' σ) = ownS c σ := by unfold ownS; rw [hown]
  have haS : a ∈ ownS c σ := List.mem_append_right _ hao
  obtain ⟨l, hl', hf, hd⟩ := st.frames
  refine ⟨fun b o e => k b o (fun q => ?_) (st.keep b o e), by rw [hown]; exact st.nodup, by rw [hown]; exact st.fresh, fun b o hm => ?_, ⟨l, hl', funFrames_of hf fun L hL => ?_, fun L hL => ⟨?_, (hd L hL).2.1, fun o e => ?_⟩⟩, fun b hb => ?_, fun b hb => ?_⟩
  · subst q; rw [st.fresh _ hao] at e; cases e
  · rw [hownS]
    rcases mem_upd st.nodup hl hm with ⟨rfl, rfl⟩ | ⟨hm', hne⟩
    · exact r
    · exact (st.objs b o hm').writeOwn haS k hne
  · obtain ⟨_, o, ho, hnf⟩ := hf.mem hL
    exact ⟨o, k L o (fun q => (hd L hL).1 (q ▸ hao)) ho, hnf⟩
  · rw [hown]; exact (hd L hL).1
  · obtain ⟨_, o', ho, _⟩ := hf.mem hL
    rw [k L o' (fun q => (hd L hL).1 (q ▸ hao)) ho] at e
    cases e; exact (hd L hL).2.2 _ ho
  · obtain ⟨o, e⟩ := st.prot b hb
    by_cases q : b = a
    · subst q; exact r.there (O.self _ _)
    · exact ⟨o, k b o q e⟩
  · obtain ⟨q1, o, e⟩ := st.hid b hb
    rw [hown]
    exact ⟨q1, o, k b o (fun q => q1 (q ▸ hao)) e⟩
theorem St.upd {A : Around} {h h' : Heap} {a : Addr} {vs ws : List V} {cs : List Value} (st : St c A σ h) (hl : σ.lookup a = some (.list vs)) (k : But a h h') (p : PlainSeq h' "list" a cs) (hsz : cs.length ≤ sizeLine)
    (r : VRels h (ownS c σ) ws cs) : St c A (upd a (.list ws) σ) h' :=
  st.updO hl rfl k ⟨cs, p, hsz, r.carry (But.carriesHid (List.mem_append_right _ (mem_own_lookup hl)) k)⟩
theorem Step.upd {s : Shared} {h' : Heap} {a : Addr} {o o' : O} {t : Nat} (hl : σ.lookup a = some o) (ho : o'.addrs a = o.addrs a) (hF : a ∉ c.F) (hL : ∃ o, h'.get? a = some o) (k : But a s.heap h') : Step c.F (owned σ) (owned (upd a o' σ)) s { s with heap := h', toks := t } := by
  have hao : a ∈ owned σ := mem_own_lookup hl
  rw [owned_upd ho hl]
  exact ⟨Kept.of fun b o e hb => k b o (fun q => hb (q ▸ hao)) e, there_but hL k, fun b hb o e => k b o (fun q => hF (q ▸ hb)) e, .refl, rfl, rfl⟩
theorem SameBut.but {a : Addr} {h h' : Heap} (k : Heap.SameBut a h h') : But a h h' := fun b o hb e => by rw [k.2 b hb]; exact e
theorem Meth_append {a : Addr} {vs : List V} (hl : σ.lookup a = some (.list vs)) : Meth c σ (.ref a) "append" "list" "list.append" := by
  refine ⟨PySem.F.plainAttrs_list, PySem.F.slot_list_append, PySem.F.type_list_append, fun A s cv st r => ?_⟩
  obtain ⟨b, cs, rfl, p, _⟩ := (IsLst.ref hl).plain st r
  obtain ⟨n, e⟩ := id p
  exact ⟨p.isList.typeIs, fun b' q => by cases q; exact ⟨_, e, rfl⟩⟩
theorem Call_append {a : Addr} {vs : List V} {v : V} (hl : σ.lookup a = some (.list vs)) (hF : a ∉ c.F) (hsz : vs.length < 16777216) (h : P .none (upd a (.list (vs ++ [v])) σ)) : CallS c d (.builtin "list.append") [.ref a, v] σ P X := by
  intro A s E cs hA st rs _
  obtain ⟨x, y, rfl, r1, r2⟩ := rs.un2
  simp only [VRel] at r1; subst r1
  obtain ⟨cs, p, hl', rs'⟩ := st.objs _ _ (lookup_mem hl)
  have hlen := rs'.length
  refine wpAny_list_append_plain (items := cs.toArray) p (fun h' hp hs => ?_) (by simpa using hl')
  have hk : But a s.heap h' := SameBut.but hs
  have hp' : PlainSeq h' "list" a (cs ++ [y]) := by
    have e : cs.toArray.push y = (cs ++ [y]).toArray := by simp
    rw [e] at hp; exact hp
  refine ⟨.none, _, h, .upd (t := s.toks) hl rfl hF (hp'.elim fun z1 e => ⟨_, e⟩) hk, st.upd hl hk hp' ?_ (rs'.append (.one r2)), rfl⟩
  rw [List.length_append, sizeLine_eq]; simp; lia
noncomputable def SetIt (c : Cx) (d : Nat) (ov iv v : V) (σ : Led) (K : Led → Prop) : Prop :=
  ∀ (A : Around) (s : Shared) (E : Value → Shared → Prop) (co ci cv : Value), AOk c.k d A → St c A σ s.heap → VRel s.heap (ownS c σ) ov co → VRel s.heap (ownS c σ) iv ci → VRel s.heap (ownS c σ) v cv →
    wpAny c.M A (setItem co ci cv) (fun z1 s' => ∃ σ', K σ' ∧ Step c.F (owned σ) (owned σ') s s' ∧ St c A σ' s'.heap) E s
theorem wpAny_assign_sub {M : Model} {A : Around} {E : Value → Shared → Prop} {s : Shared} {env : Env} {o i : Expr} {pos : Pos} {v : Value} {Q : Unit → Shared → Prop}
    (h : wpAny M A (eval o env) (fun ov s₂ => wpAny M A (eval i env) (fun iv s₃ => wpAny M A (setItem ov iv v) (fun z1 s₄ => Q () s₄) E s₃) E s₂) E s) : wpAny M A (assign (.Subscript o i pos) env v) Q E s := by
  rw [assign_Subscript]
  refine wpAny_bind (wpAny_holding (wpAny_mono h (fun ov s₂ h₂ => ?_) fun z1 z2 x => x))
  refine wpAny_bind (wpAny_holding (wpAny_mono h₂ (fun iv s₃ h₃ => ?_) fun z1 z2 x => x))
  exact wpAny_bind (wpAny_standAt (wpAny_bind (wpAny_holding (wpAny_mono h₃ (fun z1 s₄ h₄ => wpAny_release h₄) fun z1 z2 x => x))))
theorem WA_item {o i : Expr} {pos : Pos} {v : V} {K : AEnv → Led → Prop} (h : WE c d sc o m σ (fun ov σ₁ => WE c d sc i m σ₁ (fun iv σ₂ => SetIt c d ov iv v σ₂ (fun σ₃ => K m σ₃)) X) X) : WA c d sc (.Subscript o i pos) v m σ K X := by
  intro env A s E cv r rv
  refine wpAny_assign_sub (wpAny_mono (h env A s E r.re) ?_ fun z1 z2 x => x)
  rintro co s₁ ⟨ov, σ₁, h₁, t₁, hs₁, ro⟩
  have r₁ := r.estep t₁ hs₁
  refine wpAny_mono (h₁ env A s₁ E r₁.re) ?_ fun z1 z2 x => x
  rintro ci s₂ ⟨iv, σ₂, h₂, t₂, hs₂, ri⟩
  have r₂ := r₁.estep t₂ hs₂
  refine wpAny_mono (h₂ A s₂ E co ci cv r.a hs₂ (t₂.v ro) ri (t₂.v (t₁.v rv))) ?_ fun z1 z2 x => x
  rintro _ s₃ ⟨σ₃, h₃, t₃, hs₃⟩
  exact ⟨m, σ₃, h₃, (t₁.trans (t₂.trans t₃)).wider, hs₃, r₂.er.mono t₃.kept.wider t₃.grow.wider⟩
theorem mapSeq_set_plain (its : Array Value) (n : Nat) (i : Nat) (x : Value) : ∃ n', Obj.mapSeq (·.setIfInBounds i x) { cls := .type "list", data := .seq its n } = { cls := .type "list", data := .seq (its.setIfInBounds i x) n' } := by
  simp [Obj.mapSeq]
theorem setItem_at {prog : Program} {w : World} {A : Around} {E : Value → Shared → Prop} {s : Shared} {a : Addr} {cs : List Value} {k : Int} {t : Tok} {j : Nat} {v : Value} {Q : Unit → Shared → Prop} (p : PlainSeq s.heap "list" a cs) (hj : place k cs.length = some j) (hsz : cs.length ≤ sizeLine)
    (hQ : ∀ h', PlainSeq h' "list" a (cs.set j v) → But a s.heap h' → Q () { s with heap := h' }) : wpAny (model prog w) A (setItem (.ref a) (.int k t) v) Q E s := by
  obtain ⟨n, ho⟩ := id p
  have hl := p.isList
  obtain ⟨hj1, hj2, hj3⟩ := place_lt hj
  rw [sizeLine_eq] at hsz
  unfold setItem
  refine wpAny_holding ?_
  refine wpAny_bind (wpAny_sequenceKey hl.typeIs (by decide) ?_)
  refine wpAny_bind (wpAny_callSpecial?_slot (name := Str.ofString "__setitem__") hl.typeIs slot_list_setitem
    (wpAny_call_entry slot_list_setitem hl.typeIs entry_list_setitem ?_ (args_list_setitem _ _ _)))
  show wpAny _ _ (Builtin.List.listSubscript? (.int k t) >>= _) _ _ s
  have hfit : Builtin.List.listFitsIndex k = true := by
    unfold Builtin.List.listFitsIndex
    simp
    omega
  refine wpAny_bind (wpAny_listSubscript_int hfit ?_)
  have hx' : cs.toArray[j]? = some cs[j] := by simp [hj1]
  obtain ⟨n', e'⟩ := mapSeq_set_plain cs.toArray n j v
  have hfin : PlainSeq (s.heap.update a (Obj.mapSeq (·.setIfInBounds j v))) "list" a (cs.set j v) := by
    refine ⟨n', ?_⟩
    rw [Heap.get?_update_self _ ho (by rw [e']; rfl), e']
    simp
  have fin := hQ _ hfin (SameBut.but (Heap.SameBut.update ..))
  cases k with
  | ofNat i =>
    have : j = i := by
      have := place_nonneg (i := Int.ofNat i) (Int.natCast_nonneg i) hj3
      rw [hj] at this; exact Option.some.inj this
    subst this
    show wpAny _ _ ((seqItemAt a j >>= fun r => pure (r.map (j, ·))) >>= _) _ _ s
    refine wpAny_bind (wpAny_bind (wpAny_seqItemAt ho rfl (wpAny_pure ?_)))
    rw [hx']
    show wpAny _ _ (setSeqItemAt a j v >>= _) _ _ s
    exact wpAny_bind (wpAny_setSeqItemAt ho rfl (wpAny_bind (wpAny_pure (wpAny_pure ⟨.none, rfl, wpAny_pure fin⟩))))
  | negSucc i =>
    show wpAny _ _ ((Builtin.List.listItems (.ref a) >>= fun xs => pure ((seqIndex? (Int.negSucc i) xs.size).bind fun i => xs[i]?.map (i, ·))) >>= _) _ _ s
    refine wpAny_bind (wpAny_bind ?_)
    show wpAny _ _ (seqItems? (.ref a) >>= _) _ _ s
    refine wpAny_bind (wpAny_seqItems ho rfl (wpAny_pure (wpAny_pure ?_)))
    rw [show seqIndex? (Int.negSucc i) cs.toArray.size = some j by rw [seqIndex_place]; simpa using hj]
    simp only [Option.bind_some, hx', Option.map_some]
    show wpAny _ _ (setSeqItemAt a j v >>= _) _ _ s
    exact wpAny_bind (wpAny_setSeqItemAt ho rfl (wpAny_bind (wpAny_pure (wpAny_pure ⟨.none, rfl, wpAny_pure fin⟩))))
theorem Set_at {a : Addr} {vs : List V} {i : Int} {j : Nat} {v : V} {K : Led → Prop} (hl : σ.lookup a = some (.list vs)) (hF : a ∉ c.F) (hj : place i vs.length = some j) (h : K (upd a (.list (vs.set j v)) σ)) : SetIt c d (.ref a) (.int i) v σ K := by
  intro A s E co ci cv hA st ro ri rv
  simp only [VRel] at ro ri; subst ro; obtain ⟨t, rfl⟩ := ri
  obtain ⟨cs, p, hsz, rs⟩ := st.objs _ _ (lookup_mem hl)
  refine setItem_at p (by rw [rs.length]; exact hj) hsz fun h' p' k => ?_
  exact ⟨_, h, .upd (t := s.toks) hl rfl hF (p'.elim fun z1 e => ⟨_, e⟩) k, st.upd hl k p' (by rw [List.length_set]; exact hsz) (rs.set _ rv)⟩
theorem Set_list {a : Addr} {vs : List V} {i : Int} {v : V} {K : Led → Prop} (hl : σ.lookup a = some (.list vs)) (hF : a ∉ c.F) (h0 : 0 ≤ i) (hi : i.toNat < vs.length) (h : K (upd a (.list (vs.set i.toNat v)) σ)) : SetIt c d (.ref a) (.int i) v σ K :=
  Set_at hl hF (place_nonneg h0 ((Int.toNat_lt h0).mp hi)) h
end Mine
end
section
namespace Mine
open PySem
variable {c : Cx} {d : Nat} {sc : Scope} {m : AEnv} {σ : Led} {P : V → Led → Prop} {X : XP} {K : Fl → AEnv → Led → Prop}
section
variable {κ : Type} [DecidableEq κ]
noncomputable def putV (kvs : List (κ × V)) (k : κ) (v : V) : List (κ × V) :=
  if kvs.any (fun kv => kv.1 = k) then kvs.map (fun kv => if kv.1 = k then (kv.1, v) else kv) else kvs ++ [(k, v)]
theorem any_keys {α β : Type} {kvs : List (κ × α)} {cs : List (κ × β)} (e : cs.map (·.1) = kvs.map (·.1)) (k : κ) : (cs.any fun kv => decide (kv.1 = k)) = kvs.any fun kv => decide (kv.1 = k) := by
  have h : ∀ {γ : Type} (l : List (κ × γ)), (l.any fun kv => decide (kv.1 = k)) = (l.map (·.1)).any fun x => decide (x = k) := fun l => by rw [List.any_map]; rfl
  rw [h, h, e]
theorem keys_put {α : Type} (l : List (κ × α)) (k : κ) (v : α) : (l.map fun kv => if kv.1 = k then (kv.1, v) else kv).map (·.1) = l.map (·.1) := by
  rw [List.map_map]
  refine List.map_congr_left fun x z1 => ?_
  show (if x.1 = k then (x.1, v) else x).1 = x.1
  split <;> rfl
theorem put_rel {h : Heap} {own : List Addr} {k : κ} {v : V} {cv : Value} (rv : VRel h own v cv) : ∀ (kvs : List (κ × V)) (cs : List (κ × Value)), cs.map (·.1) = kvs.map (·.1) → VRels h own (kvs.map (·.2)) (cs.map (·.2)) →
    VRels h own ((kvs.map fun kv => if kv.1 = k then (kv.1, v) else kv).map (·.2)) ((cs.map fun kv => if kv.1 = k then (kv.1, cv) else kv).map (·.2))
  | [], [], _, r => r
  | [], _ :: _, e, _ => by cases e
  | _ :: _, [], e, _ => by cases e
  | (a, x) :: kvs, (b, y) :: cs, e, r => by
    simp only [List.map_cons, List.cons.injEq] at e
    obtain ⟨e1, e2⟩ := e
    simp only [List.map_cons, VRels] at r ⊢
    obtain ⟨y', cs', e3, r1, r2⟩ := r
    cases e3
    subst e1
    refine ⟨_, _, rfl, ?_, put_rel rv kvs cs e2 r2⟩
    show VRel h own (if b = k then (b, v) else (b, x)).2 (if b = k then (b, cv) else (b, y)).2
    split
    · exact rv
    · exact r1
theorem put_both {h : Heap} {own : List Addr} {k : κ} {v : V} {cv : Value} {kvs : List (κ × V)} {cs : List (κ × Value)} (rv : VRel h own v cv) (e : cs.map (·.1) = kvs.map (·.1)) (r : VRels h own (kvs.map (·.2)) (cs.map (·.2))) :
    (stored cs k cv).map (·.1) = (putV kvs k v).map (·.1) ∧ VRels h own ((putV kvs k v).map (·.2)) ((stored cs k cv).map (·.2)) := by
  unfold stored putV
  rw [any_keys e k]
  cases kvs.any fun kv => decide (kv.1 = k) with
  | true => exact ⟨(keys_put cs k cv).trans (e.trans (keys_put kvs k v).symm), put_rel rv kvs cs e r⟩
  | false =>
    simp only [Bool.false_eq_true, if_false, List.map_append, List.map_cons, List.map_nil]
    exact ⟨by rw [e], r.append (.one rv)⟩
structure DK (c : Cx) (knd : KeyKind c.k.prog c.k.w κ) (mk : List (κ × V) → O) (kv : κ → V) : Prop where
  rel : ∀ h own a kvs, ORel c.k h own a (mk kvs) = DictR c.k knd h own a kvs
  addrs : ∀ a kvs, (mk kvs).addrs a = [a]
  key : ∀ h own k cv, VRel h own (kv k) cv → knd.is k cv = true
variable {knd : KeyKind c.k.prog c.k.w κ} {mk : List (κ × V) → O} {kv : κ → V}
theorem Set_dict (D : DK c knd mk kv) {a : Addr} {kvs : List (κ × V)} {i : κ} {v : V} {K : Led → Prop} (hl : σ.lookup a = some (mk kvs)) (hF : a ∉ c.F) (hsz : kvs.length ≤ 1000) (h : K (upd a (mk (putV kvs i v)) σ)) : SetIt c d (.ref a) (kv i) v σ K := by
  intro A s E co ci cv hA st ro ri rv
  simp only [VRel] at ro; subst ro
  have hr := st.objs _ _ (lookup_mem hl)
  rw [D.rel] at hr
  obtain ⟨cs, hs, p, e, rs⟩ := hr
  have hlen : cs.length = kvs.length := by rw [← List.length_map (f := fun x : κ × Value => x.1), e, List.length_map]
  refine wpAny_setItem_pairs (hsz := by rw [hlen, sizeLine_eq]; lia) (D.key _ _ _ _ ri) p fun h' p' k => ?_
  have k' := SameBut.but k
  have ho : (mk (putV kvs i v)).addrs a = (mk kvs).addrs a := by rw [D.addrs, D.addrs]
  obtain ⟨q1, q2⟩ := put_both (k := i) rv e rs
  refine ⟨_, h, .upd hl ho hF (p'.elim fun z1 q => q.elim fun z1 q => q.elim fun z1 q => ⟨_, q.1⟩) k', st.updO hl ho k' ?_⟩
  rw [D.rel]
  exact ⟨_, hs, p', q1, q2.carry (But.carriesHid (List.mem_append_right _ (mem_own_lookup hl)) k')⟩
theorem WE_dict0 (hk : c.k.OK) (D : DK c knd mk kv) {pos : Pos} (h : ∀ a, a ∉ owned σ → a ∉ c.F → P (.ref a) ((a, mk []) :: σ)) : WE c d sc (.Dict [] [] pos) m σ P X := by
  intro env A s E r
  refine wpAny_Dict_empty ?_
  have hn : ∀ b ∈ (mk []).addrs s.heap.objs.size, s.heap.get? b = none := fun b hb => by
    rw [D.addrs, List.mem_singleton] at hb; subst hb; exact get?_size _
  obtain ⟨o, es, ep, ho, _⟩ := hk.g
  have h3 : mainGlobals < s.heap.objs.size := Heap.lt_size (r.st.keep _ _ ho)
  refine ⟨.ref s.heap.objs.size, _, h _ r.st.new r.st.newF, ⟨(Ext.push _).kept, fun b o e => ⟨o, Ext.push _ b o e⟩, fun b z1 o e => Ext.push _ b o e, .alloc hn, rfl, rfl⟩, r.st.alloc (.push _) hn (by rw [D.addrs]; simp) ?_, by simp only [VRel]⟩
  rw [D.rel]
  refine ⟨[], ?_, Heap.DictOf.new _, rfl, rfl⟩
  rw [beq_eq_false_iff_ne]
  intro q
  rw [q] at h3
  exact absurd h3 (by decide)
end
theorem DK.int : DK c (intKind c.k.prog c.k.w) O.dictI V.int := ⟨fun z1 z2 z3 z4 => rfl, fun z1 z2 => rfl, fun h own k cv r => by simp only [VRel] at r; obtain ⟨t, rfl⟩ := r; exact intKind_is _ _ k t⟩
theorem DK.str : DK c (strKind c.k.prog c.k.w) O.dictS V.str := ⟨fun z1 z2 z3 z4 => rfl, fun z1 z2 => rfl, fun h own k cv r => by simp only [VRel] at r; obtain ⟨t, rfl⟩ := r; exact strKind_is _ _ k t⟩
theorem WT_sub {e : Expr} {m' : AEnv} {P : Bool → Led → Prop} (k : Sub m' m) (h : WT c d sc e m' σ P X) : WT c d sc e m σ P X := fun env A s E r => h env A s E ⟨r.sc, r.ok, r.a, r.st, r.er.sub k, r.e⟩
end Mine
end
section
namespace Mine
open PySem
variable {c : Cx} {d : Nat} {sc : Scope} {m : AEnv} {σ : Led} {P : V → Led → Prop} {X : XP} {K : Fl → AEnv → Led → Prop}
theorem Isi_none_int (h : P (.bool false) σ) : CallS c d (.builtin "isinstance") [.none, .raw (.type "int")] σ P X := isi_none (fun q => IsiPair.NoneType_int (q _)) h
theorem Isi_none_bool (h : P (.bool false) σ) : CallS c d (.builtin "isinstance") [.none, .raw (.type "bool")] σ P X := isi_none (fun q => IsiPair.NoneType_bool (q _)) h
theorem Isi_none_tuple (h : P (.bool false) σ) : CallS c d (.builtin "isinstance") [.none, .raw (.type "tuple")] σ P X := isi_none (fun q => IsiPair.NoneType_tuple (q _)) h
theorem Isi_none_list (h : P (.bool false) σ) : CallS c d (.builtin "isinstance") [.none, .raw (.type "list")] σ P X := isi_none (fun q => IsiPair.NoneType_list (q _)) h
theorem cls_dict {A : Around} {h : Heap} {x : Value} {a : Addr} {kvs : List (Int × V)} (hl : σ.lookup a = some (.dictI kvs)) (st : St c A σ h) (r : VRel h (ownS c σ) (.ref a) x) : ∃ a o, x = .ref a ∧ h.get? a = some o ∧ o.cls = .type "dict" := by
  simp only [VRel] at r; subst r
  obtain ⟨cs, _, ⟨o, es, ep, ho, hex, _⟩, _⟩ := st.objs _ _ (lookup_mem hl)
  exact ⟨a, o, rfl, ho, hex.1⟩
theorem Isi_dict_list {a : Addr} {kvs : List (Int × V)} (hl : σ.lookup a = some (.dictI kvs)) (h : P (.bool false) σ) : CallS c d (.builtin "isinstance") [.ref a, .raw (.type "list")] σ P X := isi_seq (fun e hc q => IsiPair.dict_list e hc (q _)) (cls_dict hl) h
theorem Call_tuple {lv : V} {vs : List V} (hl : IsLst σ lv vs) (h : P (.tup vs) σ) : CallS c d (.type "tuple") [lv] σ P X := by
  intro A s E cs hA st rs _
  obtain ⟨x, rfl, r⟩ := rs.un1
  obtain ⟨a, cs, rfl, p, hsz, rs⟩ := hl.plain st r
  refine call_tuple_list (hsz := by simpa using hsz) p.isList fun h' hx => ?_
  have hx : Ext s.heap h' := hx
  exact Post.step (s₁ := { s with heap := h' }) (Step.ext hx rfl rfl) (Post.newTup (s := { s with heap := h' }) (n := 0) (st.ext hx) hsz (VRels.mono hx.kept .refl vs cs rs) h)
theorem Op_addt {as bs : List V} (ha : as ≠ []) (hb : bs ≠ []) (hsz : as.length + bs.length ≤ 1000) (h : P (.tup (as ++ bs)) σ) : Op2 c d (binaryOp .Add) (.tup as) (.tup bs) σ P := by
  intro A s E ca cb _ st ra rb
  simp only [VRel] at ra rb
  obtain ⟨a, cs, rfl, _, ⟨n, e⟩, _, rs⟩ := ra
  obtain ⟨b, ds, rfl, _, ⟨n', e'⟩, _, rs'⟩ := rb
  have h1 := rs.length
  have h2 := rs'.length
  have hlen : (cs ++ ds).length ≤ sizeLine := by rw [List.length_append, h1, h2, sizeLine_eq]; exact Nat.le_trans hsz (by decide)
  refine PySem.P.add_tuple (items := cs.toArray) (items2 := ds.toArray) e e' ?_ ?_ ?_ (by simpa using hlen)
  · intro q
    have q : cs = [] := by simpa using q
    subst q; exact ha (List.eq_nil_of_length_eq_zero h1.symm)
  · intro q
    have q : ds = [] := by simpa using q
    subst q; exact hb (List.eq_nil_of_length_eq_zero h2.symm)
  · have e3 : cs.toArray ++ ds.toArray = (cs ++ ds).toArray := by simp
    rw [e3]
    exact Post.newTup (n := 0) st hlen (rs.append rs') h
end Mine
end
section
set_option maxRecDepth 100000
namespace Mine
open PySem
noncomputable def VE : List Value := [.type "ValueError", .type "Exception", .type "BaseException", .type "object"]
noncomputable def VN : String := "ValueError.__new__"
noncomputable def hush : List Str := ["__init__", "__getattribute__", "__getattr__", "__class__"]
inductive OwnTl (h : Heap) : List Value → Prop
  | base : OwnTl h VE
  | own {A : Addr} {c0 : Value} {dd : Option Addr} {cd : ClassData} {sl : Array (Option Value)} {mA : Str → Option Value} {tl : List Value} :
      h.get? A = some { cls := c0, dict := dd, data := .cls cd, slots := sl } → h.Ns cd.ns mA → (∀ n ∈ hush, mA n = none) → OwnTl h tl → OwnTl h (.ref A :: tl)
structure OwnE (h : Heap) (C : Addr) (bm : List Value) : Prop where
  at_ : ∃ nm q N bs hdct sn sub ab col dd k0 k1 k2 k3 k5 mN, h.get? C = some (excClassObj nm q C N bs bm hdct sn sub ab col dd k0 k1 k2 k3 k5 VN) ∧ h.Ns N mN ∧ ∀ n ∈ hush, mN n = none
  tl : OwnTl h bm
theorem OwnTl.keeps {h h' : Heap} {tl : List Value} (T : OwnTl h tl) (hk : ∀ b o, h.get? b = some o → h'.get? b = some o) : OwnTl h' tl := by
  induction T with
  | base => exact .base
  | own hA hN hq _ ih => exact .own (hk _ _ hA) (hN.keeps hk) hq ih
theorem OwnE.keeps {h h' : Heap} {C : Addr} {bm : List Value} (x : OwnE h C bm) (hk : ∀ b o, h.get? b = some o → h'.get? b = some o) : OwnE h' C bm := by
  obtain ⟨⟨nm, q, N, bs, hdct, sn, sub, ab, col, dd, k0, k1, k2, k3, k5, mN, h1, h2, h3⟩, tl⟩ := x
  exact ⟨⟨nm, q, N, bs, hdct, sn, sub, ab, col, dd, k0, k1, k2, k3, k5, mN, hk _ _ h1, h2.keeps hk, h3⟩, tl.keeps hk⟩
theorem OwnTl.tail {h : Heap} {tl : List Value} (T : OwnTl h tl) : OwnTail h VE tl := by
  induction T with
  | base => exact .base
  | own hA hN hq _ ih => exact .own hA hN (hq _ (.head _)) ih
theorem OwnTl.has {h : Heap} {tl : List Value} (T : OwnTl h tl) {X : String} (hb : VE.contains (.type X) = true) : tl.contains (.type X) = true := T.tail.hasType hb
section
variable {prog : Program} {w : World} {A : Around} {E : Value → Shared → Prop} {h : Heap} {g : Array GenState} {d : Drawn} {t : Nat} {os : OsState} {a : Addr} {o : Obj}
  {nm q : Str} {C N : Addr} {bs bm : List Value} {hdct : Bool} {sn : List Str} {sub : List Value} {ab : Bool} {col : Option Bool} {dd : Option Addr} {k0 k1 k2 k3 k5 : Option Value} {mN : Str → Option Value}
theorem look_tl {M : Model} {tl : List Value} {n : Str} {y : Option Value} {Q : Option Value → Shared → Prop} (hn : n ∈ hush) (T : OwnTl h tl) (hrest : lookupAlong VE n = pure y) (hq : Q y ⟨h, g, d, t, os⟩) : wpAny M A (lookupAlong tl n) Q E ⟨h, g, d, t, os⟩ := by
  induction T with
  | base => rw [hrest]; exact wpAny_pure hq
  | own hA hN hni _ ih =>
    rw [lookupAlong_cons]
    refine wpAny_bind (wpAny_classOwn_cls hA hN ?_)
    rw [hni n hn]
    exact ih
theorem look_own {M : Model} {n : Str} {y : Option Value} {Q : Option Value → Shared → Prop} (hn : n ∈ hush) (hC : h.get? C = some (excClassObj nm q C N bs bm hdct sn sub ab col dd k0 k1 k2 k3 k5 VN)) (hN : h.Ns N mN) (hmN : ∀ n ∈ hush, mN n = none) (T : OwnTl h bm)
    (hB : typeLookup (.type "ValueError") n = pure y) (hq : Q y ⟨h, g, d, t, os⟩) : wpAny M A (typeLookup (.ref C) n) Q E ⟨h, g, d, t, os⟩ := by
  have hrest : lookupAlong VE n = pure y := by rw [typeLookup_eq, F.excBase_ValueError.mroIs] at hB; exact hB
  rw [typeLookup_eq]
  refine wpAny_bind (wpAny_mroOf_exc hC ?_)
  rw [lookupAlong_cons]
  refine wpAny_bind (wpAny_classOwn_exc hC hN ?_)
  rw [hmN n hn]
  exact look_tl hn T hrest hq
theorem ve_ga : Slot "ValueError" "__getattribute__" "BaseException.__getattribute__" := F.excAttr_ValueError.ga
theorem ve_noGa : typeLookup (.type "ValueError") "__getattr__" = pure none := by rw [typeLookup_type, builtinLookup_eq_fast]; kernel_rfl
theorem ve_class : typeLookup (.type "ValueError") "__class__" = pure (some (.builtin "object.__class__")) := by rw [typeLookup_type, builtinLookup_eq_fast]; kernel_rfl
theorem cls_get {R : Result → Shared → Prop} (hC : h.get? C = some (excClassObj nm q C N bs bm hdct sn sub ab col dd k0 k1 k2 k3 k5 VN)) (T : OwnTl h bm) (hx : h.get? a = some o) (hc : o.cls = .ref C) (hq : R (.ok (.ret (.ref C))) ⟨h, g, d, t, os⟩) :
    codeAny (model prog w) A (.call (.builtin "getset_descriptor.__get__") ⟨[.builtin "object.__class__", .ref a, .ref C], []⟩) R ⟨h, g, d, t, os⟩ := by
  have hT5 : (⟨h, g, d, t, os⟩ : Shared).TypeIs (.builtin "object.__class__") "getset_descriptor" := F.typeOf_object_class
  have hcB : (Value.ref C :: bm).contains (.type (".".intercalate ("object.__class__".cutAt '.').dropLast)) = true := by
    rw [F.owner_object_class, List.contains_cons, T.has (X := "object") (by decide)]; rfl
  refine codeAny_call_builtin F.slot_gs_get.plain F.entry_gs_get (F.slot_gs_get.check _ _ _ _ _ _ _ _ hT5 (F.args_gs_get _ _ _) ?_)
  repeat (any_goals (first | assumption | (with_reducible refine wpAny_loadPart_at hx ?_; rw [hc]) | (with_reducible refine wpAny_isSubtype_exc hC ?_; rw [hcB]) | wp_step))
  refine ⟨Code.quiet_builtin _ (by decide +kernel), codeAny_builtin F.entry_object_class ?_⟩
  repeat (any_goals (first | assumption | (with_reducible refine wpAny_loadPart_at hx ?_; rw [hc]) | wp_step))
theorem ga_check {M : Model} {nameV : Value} {Q : Unit → Shared → Prop} (hC : h.get? C = some (excClassObj nm q C N bs bm hdct sn sub ab col dd k0 k1 k2 k3 k5 VN)) (T : OwnTl h bm) (hx : h.get? a = some o) (hc : o.cls = .ref C) (hq : Q () ⟨h, g, d, t, os⟩) :
    wpAny M A (checkBuiltinCall "BaseException.__getattribute__" ⟨[.ref a, nameV], []⟩) Q E ⟨h, g, d, t, os⟩ := by
  have hk : builtinKind "BaseException.__getattribute__" = some .slot := by decide +kernel
  have hsplit : splitId "BaseException.__getattribute__" = some ("BaseException", "__getattribute__") := by decide +kernel
  have hcB : (Value.ref C :: bm).contains (.type "BaseException") = true := by rw [List.contains_cons, T.has (by decide)]; rfl
  have ha := F.args_bexc_ga (.ref a) nameV
  simp only [checkBuiltinCall, hk, hsplit]
  refine wpAny_bind ?_
  unfold isInstance
  repeat (first | (with_reducible refine wpAny_loadPart_at hx ?_; rw [hc]) | (with_reducible refine wpAny_isSubtype_exc hC ?_; rw [hcB]) | wp_step)
  exact hq
theorem cls_entry {tk : Tok} {Q : Fin → Shared → Prop} (hC : h.get? C = some (excClassObj nm q C N bs bm hdct sn sub ab col dd k0 k1 k2 k3 k5 VN)) (hN : h.Ns N mN) (hmN : ∀ n ∈ hush, mN n = none) (T : OwnTl h bm) (hx : h.get? a = some o) (hc : o.cls = .ref C) (hq : Q (.done (.ret (.ref C))) ⟨h, g, d, t, os⟩) :
    wpAny (model prog w) A (Builtin.«object.__getattribute__» ⟨[.ref a, .str "__class__" tk], []⟩) Q E ⟨h, g, d, t, os⟩ := by
  have hT5 : (⟨h, g, d, t, os⟩ : Shared).TypeIs (.builtin "object.__class__") "getset_descriptor" := F.typeOf_object_class
  have f5 := F.typeOf_object_class
  have f6 := F.slot_gs_get.lookup
  have f7 := F.slot_gs_set.lookup
  have hm : ("__class__" : Str) ∈ hush := .tail _ (.tail _ (.tail _ (.head _)))
  repeat (any_goals (first | assumption | (with_reducible refine wpAny_loadPart_at hx ?_; rw [hc]) | with_reducible refine look_own hm hC hN hmN T ve_class ?_ | wp_step))
  refine cls_get hC T hx hc ?_
  repeat (any_goals (first | assumption | wp_step))
theorem cls_by {tk : Tok} {fill expr : Bool} {Q : Value → Shared → Prop} (hC : h.get? C = some (excClassObj nm q C N bs bm hdct sn sub ab col dd k0 k1 k2 k3 k5 VN)) (hN : h.Ns N mN) (hmN : ∀ n ∈ hush, mN n = none) (T : OwnTl h bm) (hx : h.get? a = some o) (hc : o.cls = .ref C) (hq : Q (.ref C) ⟨h, g, d, t, os⟩) :
    wpAny (model prog w) A (getAttrBy (.ref a) (.str "__class__" tk) fill expr) Q E ⟨h, g, d, t, os⟩ := by
  have f3 := ve_ga.bind (.ref a)
  have hx0 : (expr && onTheHeap (Value.builtin "BaseException.__getattribute__")) = false := by cases expr <;> rfl
  have hx2 : (Value.builtin "BaseException.__getattribute__" == Value.builtin "object.__getattribute__") = false := by decide +kernel
  have hx1 : (onTheHeap (Value.ref C) && Value.builtin "BaseException.__getattribute__" == Value.builtin "object.__getattribute__") = false := by rw [hx2]; rfl
  have hm1 : ("__getattribute__" : Str) ∈ hush := .tail _ (.head _)
  have hm2 : ("__getattr__" : Str) ∈ hush := .tail _ (.tail _ (.head _))
  repeat (any_goals (first | assumption | (with_reducible refine wpAny_loadPart_at hx ?_; rw [hc]) | with_reducible refine look_own hm1 hC hN hmN T ve_ga.lookup ?_ | with_reducible refine look_own hm2 hC hN hmN T ve_noGa ?_ | wp_step))
  refine codeAny_call_builtin ve_ga.plain F.entry_bexc_ga (ga_check hC T hx hc (cls_entry hC hN hmN T hx hc ?_))
  repeat (any_goals (first | assumption | wp_step))
theorem cls_attr {Q : Option Value → Shared → Prop} (hC : h.get? C = some (excClassObj nm q C N bs bm hdct sn sub ab col dd k0 k1 k2 k3 k5 VN)) (hN : h.Ns N mN) (hmN : ∀ n ∈ hush, mN n = none) (T : OwnTl h bm) (hx : h.get? a = some o) (hc : o.cls = .ref C) (hq : Q (some (.ref C)) ⟨h, g, d, t + 1, os⟩) :
    wpAny (model prog w) A (getAttr? (.ref a) "__class__") Q E ⟨h, g, d, t, os⟩ := by
  unfold getAttr? getAttrBy?
  repeat (any_goals (first | assumption | with_reducible apply cls_by hC hN hmN T hx hc | wp_step))
end
end Mine
end
section
set_option maxRecDepth 100000
namespace Mine
open PySem
section
variable {prog : Program} {w : World} {A : Around} {E : Value → Shared → Prop} {h : Heap} {g : Array GenState} {d : Drawn} {t : Nat} {os : OsState} {a : Addr} {o : Obj}
  {nm q : Str} {C N : Addr} {bs bm : List Value} {hdct : Bool} {sn : List Str} {sub : List Value} {ab : Bool} {col : Option Bool} {dd : Option Addr} {k0 k1 k2 k3 k5 : Option Value} {mN : Str → Option Value}
inductive IsCls (h : Heap) : Value → Prop
  | own {D : Addr} {bm : List Value} : OwnE h D bm → IsCls h (.ref D)
  | ve : IsCls h (.type "ValueError")
theorem IsCls.keeps {h h' : Heap} {cv : Value} (x : IsCls h cv) (hk : ∀ b o, h.get? b = some o → h'.get? b = some o) : IsCls h' cv := by
  cases x with
  | own x => exact .own (x.keeps hk)
  | ve => exact .ve
theorem type_cls {M : Model} {cv : Value} {Q : Value → Shared → Prop} (x : IsCls h cv) (hq : Q (.type "type") ⟨h, g, d, t, os⟩) : wpAny M A (typeOf cv) Q E ⟨h, g, d, t, os⟩ := by
  cases x with
  | own x =>
    obtain ⟨nm, q, N, bs, hdct, sn, sub, ab, col, dd, k0, k1, k2, k3, k5, mN, hD, _⟩ := x.at_
    exact wpAny_bind (wpAny_loadPart_at hD (wpAny_pure hq))
  | ve => exact wpAny_of_eq (a := .type "type") (by kernel_rfl) hq
theorem is_cls {M : Model} {cv : Value} {Q : Bool → Shared → Prop} (x : IsCls h cv) (hq : Q true ⟨h, g, d, t, os⟩) : wpAny M A (isType cv) Q E ⟨h, g, d, t, os⟩ := by
  cases x with
  | own x =>
    obtain ⟨nm, q, N, bs, hdct, sn, sub, ab, col, dd, k0, k1, k2, k3, k5, mN, hD, _⟩ := x.at_
    unfold isType loadHead
    exact wpAny_bind (wpAny_loadPart_at hD (wpAny_pure hq))
  | ve => exact wpAny_of_eq (a := true) rfl hq
theorem isi_nested {cv : Value} {dep : Int} {tk : Tok} {Q : Fin → Shared → Prop} (x : OwnE h C bm) (hx : h.get? a = some o) (hc : o.cls = .ref C) (k : IsCls h cv)
    (hq : ∀ t', Q (.done (.ret (.bool ((Value.ref C :: bm).contains cv)))) ⟨h, g, d, t', os⟩) : wpAny (model prog w) A (Builtin.«isinstance.nested» ⟨[.ref a, cv, .int dep tk], []⟩) Q E ⟨h, g, d, t, os⟩ := by
  obtain ⟨nm, q, N, bs, hdct, sn, sub, ab, col, dd, k0, k1, k2, k3, k5, mN, hC, hN, hmN⟩ := x.at_
  have T := x.tl
  have kC : IsCls h (.ref C) := .own x
  cases he : (Value.ref C == cv) with
  | true =>
    rw [List.contains_cons, show (cv == Value.ref C) = true from by rw [beq_iff_eq] at he ⊢; exact he.symm] at hq
    have hq' := hq t
    repeat (any_goals (first | assumption | (with_reducible refine wpAny_loadPart_at hx ?_; rw [hc]) | wp_step))
  | false =>
    have he2 : (Value.ref C :: bm).contains cv = bm.contains cv := by
      rw [List.contains_cons, show (cv == Value.ref C) = false from by rw [beq_eq_false_iff_ne] at he ⊢; exact fun q => he q.symm]; rfl
    cases hb : bm.contains cv with
    | true =>
      rw [he2, hb] at hq
      have hq' := hq t
      repeat (any_goals (first | assumption | (with_reducible refine wpAny_loadPart_at hx ?_; rw [hc]) | with_reducible apply type_cls k | with_reducible apply is_cls k | (with_reducible refine wpAny_isSubtype_exc hC ?_; rw [he2, hb]) | wp_step))
    | false =>
      rw [he2, hb] at hq
      have hq' := hq (t + 1)
      repeat (any_goals (first | assumption | (with_reducible refine wpAny_loadPart_at hx ?_; rw [hc]) | with_reducible apply type_cls k | with_reducible apply is_cls k | with_reducible apply is_cls kC | with_reducible apply cls_attr hC hN hmN T hx hc | (with_reducible refine wpAny_isSubtype_exc hC ?_; rw [he2, hb]) | wp_step))
end
end Mine
end
section
set_option maxRecDepth 100000
namespace Mine
open PySem
variable {c : Cx} {d : Nat} {sc : Scope} {m : AEnv} {σ : Led} {P : V → Led → Prop} {X : XP} {K : Fl → AEnv → Led → Prop}
noncomputable def Asked (e C : Addr) (bm : List Value) (cvs : List Value) (s : Shared) : Prop := OwnE s.heap C bm ∧ (∃ o, s.heap.get? e = some o ∧ o.cls = .ref C) ∧ ∀ cv ∈ cvs, IsCls s.heap cv
theorem ans_own {e C : Addr} {bm cvs : List Value} {cv : Value} (h : cv ∈ cvs) : Answers (Asked e C bm cvs) (.ref e) cv ((Value.ref C :: bm).contains cv) := fun dep tk prog w A R s hs => by
  obtain ⟨⟨x, ⟨o, q, k⟩, hc⟩, hq⟩ := hs
  obtain ⟨hp, g, dr, t, os⟩ := s
  exact isi_nested x q k (hc cv h) fun t' => hq t'
theorem ans_all {e C : Addr} {bm cvs : List Value} : ∀ {l : List Value}, (∀ cv ∈ l, cv ∈ cvs) → AnswersAll (Asked e C bm cvs) (.ref e) l (l.map fun cv => (Value.ref C :: bm).contains cv)
  | [], _ => trivial
  | _ :: _, h => ⟨ans_own (h _ (.head _)), ans_all fun cv q => h cv (.tail _ q)⟩
section
variable {prog : Program} {w : World} {A : Around} {E : Value → Shared → Prop}
theorem isi_nested_tup {e C tp : Addr} {bm cvs : List Value} {n : Nat} {tk : Tok} {s : Shared} {Q : Fin → Shared → Prop} (hs : Asked e C bm cvs s) (htp : s.heap.get? tp = some { cls := .type "tuple", data := .seq cvs.toArray n })
    (hq : ∀ tk', Q (.done (.ret (.bool ((cvs.map fun cv => (Value.ref C :: bm).contains cv).any id)))) { s with toks := tk' }) : wpAny (model prog w) A (Builtin.«isinstance.nested» ⟨[.ref e, .ref tp, .int 0 tk], []⟩) Q E s := by
  obtain ⟨h, g, dr, t, os⟩ := s
  obtain ⟨o, hx, hc⟩ := hs.2.1
  have hne : (Value.ref C == Value.ref tp) = false := by
    rw [beq_eq_false_iff_ne]
    intro r
    obtain ⟨nm, q, N, bs, hdct, sn, sub, ab, col, dd, k0, k1, k2, k3, k5, mN, hC, _⟩ := hs.1.at_
    cases r
    rw [htp] at hC
    exact absurd (congrArg Obj.cls (Option.some.inj hC)) (show ¬ (Value.type "tuple" = Value.type "type") by decide)
  have hT2 : (⟨h, g, dr, t, os⟩ : Shared).TypeIs (.ref tp) "tuple" := ⟨_, htp, rfl⟩
  have f1 := F.isi_sub_tuple
  repeat (any_goals (first | assumption | (with_reducible refine wpAny_loadPart_at hx ?_; rw [hc]) | wp_step))
  refine wpAny_arrayLoop ?_
  simp only [Option.getD_some, List.toList_toArray]
  refine isinstance_items (dep := 0) (P := Asked e C bm cvs) (fun z1 z2 x => x) cvs _ _ _ (ans_all fun z1 q => q) hs fun tk' => ?_
  cases hv : (cvs.map fun cv => (Value.ref C :: bm).contains cv).any id with
  | true =>
    simp only [if_true]
    repeat (any_goals (first | assumption | wp_step))
    exact hv ▸ hq tk'
  | false =>
    simp only [Bool.false_eq_true, if_false]
    repeat (any_goals (first | assumption | wp_step))
    exact hv ▸ hq tk'
end
theorem Asked.of {A : Around} {s : Shared} {e C : Addr} {bm cvs : List Value} (st : St c A σ s.heap) (hl : σ.lookup e = some (.exc C)) (x : OwnE c.k.h0 C bm) (k : ∀ cv ∈ cvs, IsCls c.k.h0 cv) : Asked e C bm cvs s := by
  obtain ⟨o, vs, q, k1, _⟩ := st.objs e _ (lookup_mem hl)
  exact ⟨x.keeps st.keep, ⟨o, q, k1⟩, fun cv q => (k cv q).keeps st.keep⟩
theorem Isi_exc {e C : Addr} {bm : List Value} {cv : Value} (hl : σ.lookup e = some (.exc C)) (x : OwnE c.k.h0 C bm) (k : IsCls c.k.h0 cv) (h : P (.bool ((Value.ref C :: bm).contains cv)) σ) : CallS c d (.builtin "isinstance") [.ref e, .raw cv] σ P X := by
  intro A s E cs hA st rs _
  obtain ⟨y, z, rfl, r, r'⟩ := rs.un2
  simp only [VRel] at r r'; subst r; rw [r']
  refine call_isinstance (S := fun z1 R s => Asked e C bm [cv] s ∧ ∀ tk, R (.ok (.ret (.bool ((Value.ref C :: bm).contains cv)))) { s with toks := tk }) (fun prog w A R s hs => isinstance_outer (ans_own (.head _) 0 0 prog w A R s hs) (by intro q; cases q)) ⟨Asked.of st hl x fun cv q => by rw [List.mem_singleton.mp q]; exact k, fun tk => ?_⟩
  exact ⟨_, σ, h, .toks, st, by simp only [VRel]⟩
theorem raws_un {h : Heap} {own : List Addr} : ∀ {cvs cs : List Value}, VRels h own (cvs.map .raw) cs → cs = cvs
  | [], cs, r => r
  | cv :: cvs, cs, r => by
    simp only [List.map_cons, VRels, VRel] at r
    obtain ⟨c, cs', rfl, rfl, r⟩ := r
    rw [raws_un r]
theorem Isi_tup {e C : Addr} {bm cvs : List Value} (hl : σ.lookup e = some (.exc C)) (x : OwnE c.k.h0 C bm) (k : ∀ cv ∈ cvs, IsCls c.k.h0 cv) (h : P (.bool ((cvs.map fun cv => (Value.ref C :: bm).contains cv).any id)) σ) : CallS c d (.builtin "isinstance") [.ref e, .tup (cvs.map .raw)] σ P X := by
  intro A s E cs hA st rs _
  obtain ⟨y, z, rfl, r, r'⟩ := rs.un2
  simp only [VRel] at r r'; subst r
  obtain ⟨tp, cs, rfl, _, ⟨n, p⟩, _, rs⟩ := r'
  rw [raws_un rs] at p
  refine call_isinstance (S := fun z1 R s => (Asked e C bm cvs s ∧ s.heap.get? tp = some { cls := .type "tuple", data := .seq cvs.toArray n }) ∧ ∀ tk, R (.ok (.ret (.bool ((cvs.map fun cv => (Value.ref C :: bm).contains cv).any id)))) { s with toks := tk })
    (fun prog w A R s hs => isinstance_outer (isi_nested_tup hs.1.1 hs.1.2 hs.2) (by intro q; cases q)) ⟨⟨Asked.of st hl x k, p⟩, fun tk => ?_⟩
  exact ⟨_, σ, h, .toks, st, by simp only [VRel]⟩
theorem exc_match {M : Model} {A : Around} {E : Value → Shared → Prop} {s : Shared} {e C D : Addr} {bm bm' : List Value} {o : Obj} {Q : Bool → Shared → Prop} (x : OwnE s.heap C bm) (y : OwnE s.heap D bm') (he : s.heap.get? e = some o) (hc : o.cls = .ref C)
    (hq : Q ((Value.ref C :: bm).contains (.ref D)) s) : wpAny M A (excMatches (.ref e) (.ref D)) Q E s := by
  obtain ⟨h, g, dr, t, os⟩ := s
  obtain ⟨nm, q, N, bs, hdct, sn, sub, ab, col, dd, k0, k1, k2, k3, k5, mN, hC, _⟩ := x.at_
  obtain ⟨nm', q', N', bs', hdct', sn', sub', ab', col', dd', k0', k1', k2', k3', k5', mN', hD, _⟩ := y.at_
  have hcB : (Value.ref D :: bm').contains (.type "BaseException") = true := by rw [List.contains_cons, y.tl.has (by decide), Bool.or_true]
  have f := tc_notTuple
  unfold excMatches
  generalize hb : (Value.ref C :: bm).contains (.ref D) = bb at hq
  repeat (first | (with_reducible refine wpAny_loadPart_at he ?_; rw [hc]) | with_reducible refine wpAny_loadPart_at hD ?_ | (with_reducible refine wpAny_isSubtype_exc hD ?_; rw [hcB]) | (with_reducible refine wpAny_isSubtype_exc hC ?_; rw [hb]) | wp_step)
  cases bb <;> (wp_walk; exact hq)
end Mine
end
section
set_option maxRecDepth 100000
namespace Mine
open PySem
variable {c : Cx} {d : Nat} {sc : Scope} {m : AEnv} {σ : Led} {P : V → Led → Prop} {X : XP} {K : Fl → AEnv → Led → Prop}
structure Exc (k : Base) (x : Str) (C : Addr) (bm : List Value) : Prop where
  mg : k.mg x = some (.ref C)
  own : OwnE k.h0 C bm
theorem WE_cls (hc : c.k.OK) {x : Str} {C : Addr} {bm : List Value} {pos : Pos} (hx : Exc c.k x C bm) (hk : sc.names.lookup x = some .globalImplicit) (h : P (.raw (.ref C)) σ) : WE c d sc (.Name x pos) m σ P X :=
  WE_global hc hk hx.mg (fun z1 z2 => by simp only [VRel]) h
theorem WS_raise (hc : c.k.OK) (hh : c.k.hd = true) {x : Str} {C : Addr} {bm : List Value} {args : List Expr} {np cpos pos : Pos} (hx : Exc c.k x C bm) (hk : sc.names.lookup x = some .globalImplicit) (hl : args.length ≤ 1000)
    (h : WEs c d sc args m σ (fun z1 σ₁ => X (.ref C) σ₁) X) : WS c d sc (.Raise (some (.Call (.Name x np) args [] cpos)) none pos) m σ K X := by
  intro env A s E r
  obtain ⟨⟨nm, q, N, bs, hdct, sn, sub, ab, col, dd, k0, k1, k2, k3, k5, mN, hC, hN, hm⟩, T⟩ := hx.own
  refine wpAny_Raise_call_subT F.excBase_ValueError (nm := nm) (q := q) (C := C) (N := N) (bs := bs) (bm := bm) (hdct := hdct) (sn := sn) (sub := sub) (ab := ab) (col := col) (dd := dd) (k0 := k0) (k1 := k1) (k2 := k2) (k3 := k3) (k5 := k5) (mN := mN) (T.has (by decide)) (r.a.handled hh) (backTo_any (h env A s E cpos r.re).1) (hm _ (.head _)) ?_
  refine wpAny_mono (WE_cls hc (P := fun v σ' => v = .raw (.ref C) ∧ σ' = σ) (pos := np) hx hk ⟨rfl, rfl⟩ env A s E r.re) ?_ fun z1 z2 x => x
  rintro f s₁ ⟨v, σ₁, ⟨rfl, rfl⟩, t₁, st₁, rv⟩
  simp only [VRel] at rv; subst rv
  refine ⟨rfl, ?_⟩
  obtain ⟨h1, h2⟩ := h env A s₁ E cpos (r.re.step t₁ st₁)
  refine evalArgs_any (backTo_any h1) (wpAny_mono h2 ?_ fun z1 z2 x => x)
  rintro cvs s₂ ⟨vs, σ₂, ⟨hlen, hX⟩, t₂, st₂, rs⟩
  refine ⟨rfl, ?_, st₂.keep _ _ hC, hN.keeps st₂.keep, T.tail.keeps st₂.keep, fun h' e hm => ?_⟩
  · show cvs.length ≤ sizeLine
    rw [rs.length, hlen, sizeLine_eq]; exact Nat.le_trans hl (by decide)
  have hx : Ext s₂.heap h' := hm.keeps
  have t := (t₁.trans t₂).trans (.ext (s' := { s₂ with heap := h' }) hx rfl rfl)
  obtain ⟨tt, he, _⟩ := hm.there
  refine r.e e (.ref C) σ₂ _ hX t.wider (st₂.ext hx) (r.er.mono t.kept.wider t.grow.wider).nil ⟨?_, ⟨C, rfl⟩, _, _, he, rfl, rfl, .inl rfl⟩
  cases q : s.heap.get? e with
  | none => rfl
  | some o =>
    obtain ⟨o', q'⟩ := (t₁.trans t₂).there e o q
    rw [hm.new] at q'; cases q'
end Mine
end
section
set_option maxRecDepth 100000
namespace Mine
open PySem
variable {c : Cx} {d : Nat} {sc : Scope} {m : AEnv} {σ : Led} {P : V → Led → Prop} {X : XP} {K : Fl → AEnv → Led → Prop} {h h' base : Heap} {A A' : Around} {e C : Addr} {env : Env} {own : List Addr}
noncomputable def Cx.un (c : Cx) : Cx := { c with k := { c.k with hd := false } }
theorem orel_un {a : Addr} {o : O} : ORel c.un.k h own a o = ORel c.k h own a o := by cases o <;> rfl
theorem St.un (hf : A'.frames = A.frames) (st : St c A σ h) : St c.un A' σ h := ⟨st.keep, st.nodup, st.fresh, fun a o hm => orel_un.mpr (st.objs a o hm), hf ▸ st.frames, st.prot, st.hid⟩
theorem St.reun (hf : A'.frames = A.frames) (st : St c.un A' σ h) : St c A σ h := ⟨st.keep, st.nodup, st.fresh, fun a o hm => orel_un.mp (st.objs a o hm), hf ▸ st.frames, st.prot, st.hid⟩
theorem EnvRel.un (er : EnvRel c own env m h) : EnvRel c.un own env m h := ⟨er.ns, er.cell, er.lnot, er.cnot, er.apart⟩
theorem EnvRel.reun (er : EnvRel c.un own env m h) : EnvRel c own env m h := ⟨er.ns, er.cell, er.lnot, er.cnot, er.apart⟩
noncomputable def NoExc (σ : Led) : Prop := ∀ a o, (a, o) ∈ σ → ∀ C, o ≠ .exc C
theorem ExcAt.notin (he : ExcAt e (.ref C) base h) (st : St c A σ h) (hp : NoExc σ) : e ∉ owned σ := fun hm => by
  obtain ⟨oe, vs, q1, q2, q3, _⟩ := he.obj
  obtain ⟨a, o, hm, hb⟩ := mem_owned.mp hm
  have r := st.objs a o hm
  cases o with
  | list ws =>
    obtain ⟨cs, ⟨n, p⟩, _⟩ := r
    rw [← List.mem_singleton.mp hb, q1] at p; cases p; cases q3
  | dictI kvs =>
    obtain ⟨_, _, ⟨o', es, ep, p, _, p2, _⟩, _⟩ := r
    rw [← List.mem_singleton.mp hb, q1] at p; cases p; rw [p2] at q3; cases q3
  | dictS kvs =>
    obtain ⟨_, _, ⟨o', es, ep, p, _, p2, _⟩, _⟩ := r
    rw [← List.mem_singleton.mp hb, q1] at p; cases p; rw [p2] at q3; cases q3
  | inst _ _ _ => exact r.elim
  | exc C' => exact hp _ _ hm C' rfl
theorem ExcAt.unfrozen (he : ExcAt e (.ref C) base h) {o : Obj} (q : h.get? e = some o) : ¬ Frozen o ∧ ¬ Obj.isDict o ∧ ∀ v, o.data ≠ .cell v := by
  obtain ⟨oe, vs, q1, q2, q3, _⟩ := he.obj
  rw [q1] at q; cases q
  refine ⟨fun f => ?_, fun k => dict_plain k q3, fun v k => by rw [q3] at k; cases k⟩
  rcases f with ⟨xs, n, k⟩ | ⟨_, k⟩ | ⟨_, _, _, k⟩
  · rw [q3] at k; cases k
  · rw [q2] at k; cases k
  · rw [q3] at k; cases k
theorem ExcAt.carries (he : ExcAt e (.ref C) base h) : Carries (ownS c σ) (ownS c ((e, .exc C) :: σ)) h h := fun a o q ha f => ⟨q, fun hm => by
  rcases List.mem_append.mp hm with k | k
  · exact ha (List.mem_append_left _ k)
  · rcases List.mem_cons.mp k with k | k
    · subst k; exact (he.unfrozen q).1 f
    · exact ha (List.mem_append_right _ k)⟩
theorem St.hold (st : St c A σ h) (he : ExcAt e (.ref C) base h) (hp : NoExc σ) (h0b : ∀ b o, c.k.h0.get? b = some o → base.get? b ≠ none) (hH : ∀ b ∈ c.H, base.get? b ≠ none) : St c A ((e, .exc C) :: σ) h := by
  have hn := he.notin st hp
  have car := he.carries (c := c) (σ := σ)
  have h0 : c.k.h0.get? e = none := by
    cases q : c.k.h0.get? e with
    | none => rfl
    | some o => exact absurd he.new (h0b _ _ q)
  obtain ⟨l, hl, hf, hdd⟩ := st.frames
  refine ⟨st.keep, List.nodup_cons.mpr ⟨hn, st.nodup⟩, fun a ha => ?_, fun a o hm => ?_, ⟨l, hl, hf, fun L hL => ⟨fun k => ?_, (hdd L hL).2⟩⟩, st.prot, fun b hb => ⟨fun k => ?_, (st.hid b hb).2⟩⟩
  · rcases List.mem_cons.mp ha with k | k
    · rw [k]; exact h0
    · exact st.fresh a k
  · rcases List.mem_cons.mp hm with k | k
    · cases k
      obtain ⟨oe, vs, q1, q2, q3, _⟩ := he.obj
      exact ⟨oe, vs, q1, q2, q3⟩
    · have r := st.objs a o k
      cases o with
      | list vs => obtain ⟨cs, p, hl, r⟩ := r; exact ⟨cs, p, hl, r.carry car⟩
      | dictI _ => exact DictR.carry r (fun z1 q => q) car
      | dictS _ => exact DictR.carry r (fun z1 q => q) car
      | inst _ _ _ => exact r.elim
      | exc C' => exact r
  · rcases List.mem_cons.mp k with k | k
    · subst k
      obtain ⟨_, o, q, _⟩ := hf.mem hL
      exact (he.unfrozen q).2.1 ((hdd L hL).2.2 o q)
    · exact (hdd L hL).1 k
  · rcases List.mem_cons.mp k with k | k
    · subst k; exact hH b hb he.new
    · exact (st.hid b hb).1 k
theorem EnvRel.hold (er : EnvRel c (ownS c σ) env m h) (he : ExcAt e (.ref C) base h) : EnvRel c (ownS c ((e, .exc C) :: σ)) env m h := by
  have car := he.carries (c := c) (σ := σ)
  have no : ∀ a o, h.get? a = some o → a ∉ ownS c σ → (Obj.isDict o ∨ ∃ v, o.data = .cell v) → a ∉ ownS c ((e, .exc C) :: σ) := fun a o q ha k hm => by
    rcases List.mem_append.mp hm with r | r
    · exact ha (List.mem_append_left _ r)
    · rcases List.mem_cons.mp r with r | r
      · subst r
        rcases k with k | ⟨v, k⟩
        · exact (he.unfrozen q).2.1 k
        · exact (he.unfrozen q).2.2 v k
      · exact ha (List.mem_append_right _ r)
  obtain ⟨mc, hn, hm⟩ := er.ns
  refine ⟨⟨mc, hn, fun x v q k => (hm x v q k).imp fun cv r => ⟨r.1, r.2.carry car⟩⟩, fun x v q k => ?_, ⟨?_, er.lnot.2⟩, fun x a q => ?_, er.apart⟩
  · obtain ⟨a, cv, r1, r2, r3⟩ := er.cell x v q k
    exact ⟨a, cv, r1, r2, r3.carry car⟩
  · obtain ⟨o, es, ep, q, q2, _⟩ := id hn
    exact no _ o q er.lnot.1 (.inl ⟨es, ep, q2⟩)
  · obtain ⟨r1, r2, r3, r4, v, r5⟩ := er.cnot x a q
    obtain ⟨o, q1, q2⟩ := id r5
    exact ⟨no a o q1 r1 (.inr ⟨v, q2⟩), r2, r3, r4, v, r5⟩
set_option tactic.hygienic true
theorem flight_again {M : Model} {E : Value → Shared → Prop} {s : Shared} {cls : Value} {Q : Unit → Shared → Prop} (he : ExcAt e cls base s.heap) (hq : ∀ h', (∀ b, h'.get? b = s.heap.get? b) → Q () { s with heap := h' }) : wpAny M A (setFlight (.ref e) none) Q E s := by
  obtain ⟨_, _, oe, vs, ho, _, hd, h1⟩ := he
  unfold setFlight
  rcases h1 with h1 | ⟨T, oT, ts, h1, _, _, hT, _, hdT, h3⟩
  · refine wpAny_bind (wpAny_field ho hd h1 ?_)
    rw [if_neg (by decide)]
    exact wpAny_pure (hq s.heap fun z1 => rfl)
  · refine wpAny_bind (wpAny_field ho hd h1 ?_)
    rw [if_pos (show (Value.ref T != Value.none) = true from by simp)]
    refine wpAny_setField hT hdT (Array.getElem?_eq_some_iff.mp h3).1 (hq _ fun b => ?_)
    by_cases hb : b = T
    · subst hb
      rw [Heap.get?_update_self _ hT (Obj.isFreed_of_fields (Obj.data_mapFields hdT _)), hT]
      obtain ⟨k1, k2, k3, k4⟩ := oT
      cases hdT
      obtain ⟨lt, h4⟩ := Array.getElem?_eq_some_iff.mp h3
      have : ts.setIfInBounds 3 ((none : Option Addr).elim Value.none fun f => rawInt f) = ts := by
        refine Array.ext (by simp) fun i h1 h2 => ?_
        rw [Array.getElem_setIfInBounds]
        split
        · rename_i q; subst q; exact h4.symm
        · rfl
      show some (Obj.mk k1 k2 (.fields (ts.setIfInBounds 3 ((none : Option Addr).elim Value.none fun f => rawInt f))) k4) = _
      rw [this]
    · exact Heap.get?_update_other _ _ (Ne.symm hb)
end Mine
end
section
set_option maxRecDepth 100000
namespace Mine
open PySem
variable {c : Cx} {d : Nat} {sc : Scope} {m : AEnv} {σ : Led} {P : V → Led → Prop} {X : XP} {K : Fl → AEnv → Led → Prop} {h h' base : Heap} {A A' : Around} {e C : Addr} {env : Env}
theorem unbind_name {s : Shared} {E : Value → Shared → Prop} {x : Str} {v : V} {pos : Pos} (ok : EnvOk env) (st : St c A σ s.heap) (er : EnvRel c (ownS c σ) env ((x, v) :: m) s.heap) (hk : env.kindOf x = some .local) :
    wpAny c.M A (unbindBehindTheSuite env x pos) (fun z1 s' => (Step c.F (places env ++ owned σ) (places env ++ owned σ) s s' ∧ St c A σ s'.heap ∧ EnvRel c (ownS c σ) env [] s'.heap) ∧ Carries (ownS c σ) (ownS c σ) s.heap s'.heap) E s := by
  obtain ⟨mc, hn, hm⟩ := er.ns
  obtain ⟨cv, hv, _⟩ := hm x v (by rw [List.lookup_cons_self]) hk
  have hpl : (env.scope.kind == .class || (env.scope.kind == .module && env.locals != env.globals)) = false := by rw [ok.kind]; rfl
  unfold unbindBehindTheSuite
  refine wpAny_onRaise (wpAny_unbindName_local hk hn hv hpl fun h' u hn' hs' => ?_)
  obtain ⟨oL, es, ep, hoL, hdL, _⟩ := id hn
  obtain ⟨oL', es', ep', hoL', hdL', _⟩ := id hn'
  have hq := not_seq_dict hdL
  have kb : But env.locals s.heap h' := fun b o hb e => (hs'.2 b hb).trans e
  refine ⟨⟨.write (t := s.toks) (by simp [places]) er.lnot.2.2 ⟨_, hoL'⟩ kb, st.write (fun q => er.lnot.1 (List.mem_append_right _ q)) er.lnot.2.1 hoL hq kb hoL' (fun z1 => ⟨_, _, hdL'⟩) (fun z1 vs e => by rw [hdL'] at e; cases e), ?_⟩, kb.carries hoL hq⟩
  refine ⟨⟨_, hn', fun y w hy z1 => by cases hy⟩, (fun y w hy z1 => by cases hy), er.lnot, fun y a ha => ?_, er.apart⟩
  obtain ⟨h1, h2, h3, h4, v', oc, hoc, hdc⟩ := er.cnot y a ha
  exact ⟨h1, h2, h3, h4, v', oc, kb a oc h2 hoc, hdc⟩
theorem Step.through {F W0 W W1 W' : List Addr} {s0 s s5 : Shared} (t0 : Step F W0 W s0 s) (tt : Step F W1 W' s s5) (hn : s0.heap.get? e = none) (hW : ∀ b ∈ W1, b = e ∨ b ∈ W) : Step F W0 W' s0 s5 := by
  refine ⟨fun b o q hb => ?_, fun b o q => (t0.there b o q).elim fun o' q' => tt.there b o' q', fun b hb o q => tt.prot b hb o (t0.prot b hb o q), fun b hb => ?_, tt.os.trans t0.os, tt.gens.trans t0.gens⟩
  · obtain ⟨sl, r1, r2⟩ := t0.kept b o q hb
    obtain ⟨sl', r3, r4⟩ := tt.kept b _ r1 fun hm => by
      rcases hW b hm with k | k
      · rw [k, hn] at q; cases q
      · exact t0.grow.notin hb q k
    exact ⟨sl', r3, fun k => (r4 k).trans (r2 k)⟩
  · rcases tt.grow b hb with k | k
    · rcases hW b k with k | k
      · exact .inr (k ▸ hn)
      · exact t0.grow b k
    · refine .inr ?_
      cases q : s0.heap.get? b with
      | none => rfl
      | some o => obtain ⟨o', q'⟩ := t0.there b o q; rw [k] at q'; cases q'
theorem EnvRel.noted {own fr : List Addr} {cls : Value} (er : EnvRel c own env [] h) (n : Noted e cls base fr h h') : EnvRel c own env [] h' := by
  obtain ⟨mc, ⟨o, es, ep, ho, hd, k1, k2⟩, _⟩ := er.ns
  obtain ⟨sl, r1, _⟩ := n.plain ho fun vs => dict_plain ⟨es, ep, hd⟩
  refine ⟨⟨mc, ⟨_, es, ep, r1, hd, k1, k2⟩, fun z1 z2 q => by cases q⟩, (fun z1 z2 q => by cases q), er.lnot, fun x a q => ?_, er.apart⟩
  obtain ⟨r1, r2, r3, r4, v, oc, q1, q2⟩ := er.cnot x a q
  obtain ⟨sl, r5, _⟩ := n.plain q1 fun vs k => by rw [q2] at k; cases k
  exact ⟨r1, r2, r3, r4, v, _, r5, q2⟩
noncomputable def WH (c : Cx) (d : Nat) (sc : Scope) (hs : List ExceptHandler) (C : Addr) (σ0 σ : Led) (K : Fl → AEnv → Led → Prop) (X : XP) : Prop :=
  ∀ (env : Env) (A : Around) (s0 s : Shared) (E : Value → Shared → Prop) (e : Addr), RS c d sc [] σ X env A s E → Step c.F (places env ++ owned σ0) (places env ++ owned σ) s0 s → ExcAt e (.ref C) s0.heap s.heap → NoExc σ → (∀ b o, c.k.h0.get? b = some o → s0.heap.get? b ≠ none) → (∀ b ∈ c.H, s0.heap.get? b ≠ none) →
    wpAny c.M A (handleBy (.ref e) env hs) (PostS c A env σ0 s0 K) E s
theorem eval_cls {M : Model} {s : Shared} {E : Value → Shared → Prop} {mg : Str → Option Value} {x : Str} {pos : Pos} {cv : Value} {Q : Value → Shared → Prop} (ok : EnvOk env) (hk : env.kindOf x = some .globalImplicit) (hn : s.heap.Ns mainGlobals mg) (hg : mg x = some cv) (hq : Q cv s) : wpAny M A (eval (.Name x pos) env) Q E s :=
  Calls.Name_function_global ok.kind hk (Calls.loadGlobal_global (mg := mg) (by rw [ok.globals]; exact hn) hg hq) (nodebug ok hk)
section
variable {x : Str} {D : Addr} {bm bm' : List Value} {p pos : Pos} {rest : List ExceptHandler} {σ0 : Led} (hc : c.k.OK) (hx : Exc c.k x D bm') (hk : sc.names.lookup x = some .globalImplicit) (own : OwnE c.k.h0 C bm)
include hc hx hk own
theorem WH_miss {name : Option Str} {body : List Stmt} (hno : (Value.ref C :: bm).contains (.ref D) = false) (h : WH c d sc rest C σ0 σ K X) : WH c d sc (.ExceptHandler (some (.Name x p)) name body pos :: rest) C σ0 σ K X := by
  intro env A s0 s E e r ts he hp h0b hH
  obtain ⟨oe, vs, q1, q2, q3, _⟩ := id he.obj
  refine wpAny_handleBy_cons (codeAny_handlers_test (eval_cls r.ok (by unfold Env.kindOf; rw [r.sc]; exact hk) (hc.g.keeps r.st.keep) hx.mg (exc_match (own.keeps r.st.keep) (hx.own.keeps r.st.keep) q1 q2 ?_))) (by intro q; cases q)
  rw [hno]
  exact h env A s0 s E e r ts he hp h0b hH
theorem WH_hit {b₀ : Stmt} {suite : List Stmt} (hyes : (Value.ref C :: bm).contains (.ref D) = true) (h : WSs c.un d sc (b₀ :: suite) [] σ K NoX) : WH c d sc (.ExceptHandler (some (.Name x p)) none (b₀ :: suite) pos :: rest) C σ0 σ K X := by
  intro env A s0 s E e r ts he hp h0b hH
  obtain ⟨oe, vs, q1, q2, q3, _⟩ := id he.obj
  refine wpAny_handleBy_cons (codeAny_handlers_test (eval_cls r.ok (by unfold Env.kindOf; rw [r.sc]; exact hk) (hc.g.keeps r.st.keep) hx.mg (exc_match (own.keeps r.st.keep) (hx.own.keeps r.st.keep) q1 q2 ?_))) (by intro q; cases q)
  rw [hyes]
  refine codeAny_handlers_suite (flight_again he fun h' hs => ?_)
  have ext : Ext s.heap h' := fun b o q => (hs b).trans q
  have t0 : Step c.F (places env ++ owned σ) (places env ++ owned σ) s { s with heap := h' } := .ext ext rfl rfl
  refine wpAny_mono (h env (A.mark (some (.ref e))) { s with heap := h' } _ ⟨r.sc, r.ok, r.fr, ⟨(fun k => by cases k), r.a.depth, r.a.units, r.a.le⟩, St.un (A := A) rfl (r.st.ext ext), (r.er.mono ext.kept .refl).un, .nox⟩) ?_ fun z1 z2 x => x
  rintro f s₃ ⟨fl, m', σ', hK, t, st, er, rf⟩
  exact ⟨fl, m', σ', hK, ts.trans (t0.trans t), St.reun (A := A) (A' := A.mark (some (.ref e))) rfl st, er.reun, rf⟩
theorem WH_as {n : Str} {b₀ : Stmt} {suite : List Stmt} (hyes : (Value.ref C :: bm).contains (.ref D) = true) (hn : sc.names.lookup n = some .local) (h : ∀ e, WSs c.un d sc (b₀ :: suite) [(n, .ref e)] ((e, .exc C) :: σ) (fun fl z1 σ' => K fl [] σ') NoX) :
    WH c d sc (.ExceptHandler (some (.Name x p)) (some n) (b₀ :: suite) pos :: rest) C σ0 σ K X := by
  intro env A s0 s E e r ts he hp h0b hH
  have hkn : env.kindOf n = some .local := by unfold Env.kindOf; rw [r.sc]; exact hn
  obtain ⟨oe, vs, q1, q2, q3, _⟩ := id he.obj
  refine wpAny_handleBy_cons (codeAny_handlers_test (eval_cls r.ok (by unfold Env.kindOf; rw [r.sc]; exact hk) (hc.g.keeps r.st.keep) hx.mg (exc_match (own.keeps r.st.keep) (hx.own.keeps r.st.keep) q1 q2 ?_))) (by intro q; cases q)
  rw [hyes]
  refine codeAny_handlers_suite_as (flight_again he fun h' hs => ?_)
  have ext : Ext s.heap h' := fun b o q => (hs b).trans q
  have hn := he.notin r.st hp
  have st1 := St.un (A := A) (A' := A.mark (some (.ref e))) rfl ((r.st.hold he hp h0b hH).ext ext)
  have er1 := ((r.er.hold he).mono ext.kept .refl).un
  refine wpAny_mono (store_name (c := c.un) (x := n) (v := .ref e) (s := { s with heap := h' }) r.ok st1 er1 (by simp only [VRel]) (.inl hkn)) ?_ fun z1 z2 x => x
  rintro _ s₂ ⟨⟨t2, st2, er2⟩, _⟩
  refine wpAny_mono (h e env (A.mark (some (.ref e))) s₂ _ ⟨r.sc, r.ok, r.fr, ⟨(fun k => by cases k), r.a.depth, r.a.units, r.a.le⟩, st2, er2, .nox⟩) ?_ fun z1 z2 x => x
  rintro f s₃ ⟨fl, m', σ', hK, t3, st3, er3, rf⟩
  refine wpAny_bind (wpAny_bindName (wpAny_mono (store_name (x := n) (v := .none) r.ok (St.reun (A := A) (A' := A.mark (some (.ref e))) rfl st3) er3.reun (by simp only [VRel]) (.inl hkn)) ?_ fun z1 z2 x => x))
  rintro _ s₄ ⟨⟨t4, st4, er4⟩, L, h4, tk4, e4, kb4, kd4⟩
  refine wpAny_mono (unbind_name r.ok st4 er4 hkn) ?_ fun z1 z2 x => x
  rintro _ s₅ ⟨⟨t5, st5, er5⟩, car5⟩
  have tt : Step c.F (places env ++ owned ((e, .exc C) :: σ)) (places env ++ owned σ') s s₅ := ((((Step.ext ext rfl rfl : Step c.F _ _ s { s with heap := h' }).trans t2).trans t3).trans t4).trans t5
  refine ⟨fl, [], σ', hK, ts.through tt he.new fun b hb => ?_, st5, er5, ?_⟩
  · rcases List.mem_append.mp hb with q | q
    · exact .inr (List.mem_append_left _ q)
    · rcases List.mem_cons.mp q with q | q
      · exact .inl q
      · exact .inr (List.mem_append_right _ q)
  · cases fl with
    | ret v =>
      obtain ⟨cv, rfl, rv⟩ := rf
      exact ⟨cv, rfl, Step.vp er4 t5 (Step.vp er3.reun t4 rv)⟩
    | next => exact rf
    | brk => exact rf
    | cont => exact rf
end
theorem WS_try {body : List Stmt} {h₀ : ExceptHandler} {hs : List ExceptHandler} {pos : Pos} (X' : XP) (hb : WSs c d sc body m σ K X') (hh : ∀ cls σ', X' cls σ' → ∃ C, cls = .ref C ∧ NoExc σ' ∧ WH c d sc (h₀ :: hs) C σ σ' K X) : WS c d sc (.Try body (h₀ :: hs) [] [] pos) m σ K X := by
  intro env A s E r
  refine wpAny_Try_except (wpAny_mono (hb env A s _ ⟨r.sc, r.ok, r.fr, r.a, r.st, r.er, fun e cls σ' s' hx t st er he => ?_⟩) ?_ fun z1 z2 x => x)
  · obtain ⟨C, rfl, hp, hw⟩ := hh cls σ' hx
    obtain ⟨outer, hfr⟩ := r.fr
    obtain ⟨l', hl', hf', _⟩ := id st.frames
    have : l' = env :: outer := by rw [hfr] at hl'; exact (Option.some.inj hl').symm
    subst this
    obtain ⟨L, _, hL, _⟩ := id hf'.2.1
    refine note_at (base := s.heap) hfr hf' hL he (fun b o q => t.there b o q) fun h' n => ?_
    have h0b : ∀ b o, c.k.h0.get? b = some o → s.heap.get? b ≠ none := fun b o q k => by rw [r.st.keep b o q] at k; cases k
    have t' := t.noted st hfr n
    exact hw env A s { s' with heap := h' } E e ⟨r.sc, r.ok, r.fr, r.a, st.noted hfr n h0b, er.noted n, r.e.step t'⟩ t' n.exc hp h0b fun b q k => by
      obtain ⟨_, o, q⟩ := r.st.hid b q; rw [q] at k; cases k
  · rintro f s₁ x
    cases f with
    | next => exact wpAny_execs_nil x
    | brk => exact x
    | cont => exact x
    | ret v => exact x
end Mine
end
section
namespace Mine
open PySem PySem.SeqAt
variable {c : Cx} {d : Nat} {sc : Scope} {m : AEnv} {σ : Led} {P : V → Led → Prop} {X : XP}
inductive SameV : V → Prop
  | dat {v : V} : isD v = true → (toD v).depth ≤ 20 → SameV v
  | ref {r : Addr} : SameV (.ref r)
theorem SameV.eq {A : Around} {s : Shared} {own : List Addr} {v : V} {x y : Value} (h : SameV v) (hu : A.units + 65 < cLine) (rx : VRel s.heap own v x) (ry : VRel s.heap own v y) : EqAt A.in1 s x y true := by
  cases h with
  | ref => simp only [VRel] at rx ry; subst rx; subst ry; exact EqAt.same _
  | dat hd hz =>
    obtain ⟨as, r1⟩ := VRel.reads v x hd rx
    obtain ⟨bs, r2⟩ := VRel.reads v y hd ry
    have := eqAt_reads (toD v) (toD v) A.in1 s x y as bs r1 r2 (isD_lay v hd) (isD_lay v hd)
    rw [eqv_self hd] at this
    exact this (by
      have h0 : A.in1.units ≤ A.units + 1 := Nat.le_refl _
      rw [Nat.min_self]
      lia)
theorem Cmp_ne_two {a b : V} (ha : SameV a) (hb : SameV b) (h : P (.bool false) σ) : Op2 c d (compareOp .NotEq) (.lst [a, b]) (.lst [a, b]) σ P := by
  intro A s E ca cb hA st ra rb
  simp only [VRel, VRels] at ra rb
  obtain ⟨l, _, rfl, _, ⟨n, e⟩, _, x1, _, rfl, rx1, x2, _, rfl, rx2, rfl⟩ := ra
  obtain ⟨l', _, rfl, _, ⟨n', e'⟩, _, y1, _, rfl, ry1, y2, _, rfl, ry2, rfl⟩ := rb
  have hu := units_ok hA
  show wpAny _ _ (richCompare .NotEq _ _) _ _ s
  refine (RcNeAt.lists (e := fun z1 => true) (items := #[x1, x2]) (items2 := #[y1, y2]) ⟨_, e, rfl, _, rfl⟩ ⟨_, e', rfl, _, rfl⟩ rfl (Nat.lt_of_le_of_lt (Nat.le_add_right _ 65) hu) fun j h1 h2 => ?_) _ _ _ _ ?_
  · match j, h1, h2 with
    | 0, _, _ => exact ha.eq hu rx1 ry1
    | 1, _, _ => exact hb.eq hu rx2 ry2
    | j + 2, h1, _ => exact absurd h1 (by show ¬ j + 2 < 2; lia)
  · exact Post.same' st h (by simp only [VRel]; rfl)
end Mine
end
section
namespace Mine
namespace Tim
open PySem PyProof.Rows
variable {prog : Program} {w : World} {A : Around} {E : Value → Shared → Prop} {s : Shared} {κ : SortKind} {r : Keyed → Nat} {a₀ : Array Keyed}
noncomputable def Ask (prog : Program) (w : World) (A : Around) (s : Shared) (κ : SortKind) (r : Keyed → Nat) (a₀ : Array Keyed) : Prop :=
  ∀ x ∈ a₀.toList, ∀ y ∈ a₀.toList, ∀ (E : Value → Shared → Prop) (Q : Bool → Shared → Prop), Q (decide (r x < r y)) s → wpAny (model prog w) A (keyLt' κ x.1 y.1) Q E s
theorem wpS_lt (hC : Ask prog w A s κ r a₀) {st : SortSt} {x y : Keyed} {Q : Option Bool → SortSt → Prop} (hk : kindOf st = κ) (hx : x ∈ a₀.toList) (hy : y ∈ a₀.toList) (h : Q (some (decide (r x < r y))) st) :
    wpS (model prog w) A E s (lt' x y) Q st := by
  rw [lt'_eq]
  refine wpS_bind (wpS_get ?_)
  rw [hk]
  refine wpS_bind (wpS_lift (wpAny_attempt (hC x hx y hy _ _ ⟨rfl, ?_⟩)))
  exact wpS_pure h
theorem wpS_elem {M : Model} {st : SortSt} {arr : Array Keyed} {i : Nat} {p : Keyed} {Q : Keyed → SortSt → Prop} (h : arr[i]? = some p) (hq : Q p st) : wpS M A E s (elem' arr i) Q st := by
  rw [elem'_eq, h]; exact wpS_pure hq
noncomputable def R (r : Keyed → Nat) (xs : Array Keyed) (i : Nat) : Nat := match xs[i]? with
  | some p => r p
  | none => 0
theorem R_congr {xs ys : Array Keyed} {i j : Nat} (h : xs[i]? = ys[j]?) : R r xs i = R r ys j := by unfold R; rw [h]
theorem R_of {xs : Array Keyed} {i : Nat} {p : Keyed} (h : xs[i]? = some p) : R r xs i = r p := by unfold R; rw [h]
theorem R_bubble {xs : Array Keyed} {src d : Nat} (hs : src < xs.size) (hd : d ≤ src) (k : Nat) :
    R r (bubble xs src d) k = if k = src - d then R r xs src else if src - d < k ∧ k ≤ src then R r xs (k - 1) else R r xs k := by
  have e := getElem?_bubble hs d hd k
  by_cases h1 : k = src - d
  · rw [if_pos h1] at e ⊢; exact R_congr e
  · rw [if_neg h1] at e ⊢
    by_cases h2 : src - d < k ∧ k ≤ src
    · rw [if_pos h2] at e ⊢; exact R_congr e
    · rw [if_neg h2] at e ⊢; exact R_congr e
theorem R_mirror {xs : Array Keyed} {i j : Nat} (hj : j ≤ xs.size) (k : Nat) :
    R r (mirror xs i j ((j - i) / 2)) k = if i ≤ k ∧ k < j then R r xs (i + j - 1 - k) else R r xs k := by
  have e := getElem?_mirror_all (i := i) hj k
  by_cases h1 : i ≤ k ∧ k < j
  · rw [if_pos h1] at e ⊢; exact R_congr e
  · rw [if_neg h1] at e ⊢; exact R_congr e
structure TB (κ : SortKind) (a₀ : Array Keyed) (st : SortSt) : Prop where
  perm : (arrOf st).Perm a₀
  kind : kindOf st = κ
  failed : failedOf st = none
theorem TB.size {st : SortSt} (h : TB κ a₀ st) : (arrOf st).size = a₀.size := h.perm.size_eq
theorem TB.mem {st : SortSt} (h : TB κ a₀ st) {p : Keyed} : p ∈ (arrOf st).toList ↔ p ∈ a₀.toList := (Array.perm_iff_toList_perm.mp h.perm).mem_iff
theorem TB.at (r : Keyed → Nat) {st : SortSt} (h : TB κ a₀ st) {i : Nat} (hi : i < a₀.size) : ∃ p, (arrOf st)[i]? = some p ∧ p ∈ a₀.toList ∧ R r (arrOf st) i = r p := by
  have hi' : i < (arrOf st).size := by rw [h.size]; exact hi
  have e : (arrOf st)[i]? = some (arrOf st)[i] := getElem?_pos _ i hi'
  exact ⟨_, e, h.mem.mp (by simp), R_of e⟩
theorem TB.setArr {st : SortSt} (h : TB κ a₀ st) {xs : Array Keyed} (hp : xs.Perm (arrOf st)) : TB κ a₀ (setArr st xs) := ⟨hp.trans h.perm, h.kind, h.failed⟩
theorem wpS_ltR (hC : Ask prog w A s κ r a₀) {st : SortSt} {i j : Nat} {Q : Option Bool → SortSt → Prop} (hB : TB κ a₀ st) (hi : i < a₀.size) (hj : j < a₀.size)
    (h : Q (some (decide (R r (arrOf st) i < R r (arrOf st) j))) st) : wpS (model prog w) A E s (ltAt' i j) Q st := by
  obtain ⟨p, e1, m1, k1⟩ := hB.at r hi
  obtain ⟨q, e2, m2, k2⟩ := hB.at r hj
  rw [k1, k2] at h
  rw [ltAt'_eq]
  refine wpS_bind (wpS_get ?_)
  exact wpS_bind (wpS_elem e1 (wpS_bind (wpS_elem e2 (wpS_lt hC hB.kind m1 m2 h))))
noncomputable def Asc (r : Keyed → Nat) (xs : Array Keyed) (lo hi : Nat) : Prop := ∀ i j, lo ≤ i → i ≤ j → j < hi → R r xs i ≤ R r xs j
noncomputable def Dsc (r : Keyed → Nat) (xs : Array Keyed) (lo hi : Nat) : Prop := ∀ i j, lo ≤ i → i ≤ j → j < hi → R r xs j ≤ R r xs i
structure Nx (κ : SortKind) (a₀ : Array Keyed) (lo : Nat) (st st' : SortSt) : Prop where
  tb : TB κ a₀ st'
  pend : pendingOf st' = pendingOf st
  low : ∀ k, k < lo → (arrOf st')[k]? = (arrOf st)[k]?
theorem Nx.refl {lo : Nat} {st : SortSt} (h : TB κ a₀ st) : Nx κ a₀ lo st st := ⟨h, rfl, fun z1 z2 => rfl⟩
theorem Nx.trans {lo : Nat} {st st' st'' : SortSt} (h : Nx κ a₀ lo st st') (k : Nx κ a₀ lo st' st'') : Nx κ a₀ lo st st'' := ⟨k.tb, k.pend.trans h.pend, fun i hi => (k.low i hi).trans (h.low i hi)⟩
theorem Nx.mirror {lo i j : Nat} {st st' : SortSt} (h : Nx κ a₀ lo st st') (hi : lo ≤ i) (hj : j ≤ a₀.size) : Nx κ a₀ lo st (setArr st' (mirror (arrOf st') i j ((j - i) / 2))) :=
  ⟨h.tb.setArr (mirror_perm _ _ _ _), h.pend, fun k hk => by
    refine Eq.trans ?_ (h.low k hk)
    show (PyProof.Rows.mirror (arrOf st') i j ((j - i) / 2))[k]? = _
    rw [getElem?_mirror_all (by rw [h.tb.size]; exact hj), if_neg (by (exact Ar.lin 0 4 (.no (.an (.le (.v 0) (.v 1)) (.lt (.v 1) (.v 2)))) [(.le (.v 3) (.v 0)), (.lt (.v 1) (.v 3))] (by kernel_rfl) [] [_, _, _, _] rfl rfl hi hk))]⟩
theorem Nx.bubble {lo src d : Nat} {st st' : SortSt} (h : Nx κ a₀ lo st st') (hs : src < a₀.size) (hd : d ≤ src) (hi : lo ≤ src - d) : Nx κ a₀ lo st (setArr st' (bubble (arrOf st') src d)) :=
  ⟨h.tb.setArr (bubble_perm _ _ _), h.pend, fun k hk => by
    refine Eq.trans ?_ (h.low k hk)
    show (PyProof.Rows.bubble (arrOf st') src d)[k]? = _
    rw [getElem?_bubble (by rw [h.tb.size]; exact hs) _ hd, if_neg (by (exact Ar.lin 0 4 (.no (.eq (.v 0) (.s (.v 1) (.v 2)))) [(.le (.v 3) (.s (.v 1) (.v 2))), (.lt (.v 0) (.v 3))] (by kernel_rfl) [] [_, _, _, _] rfl rfl hi hk)), if_neg (by (exact Ar.lin 0 4 (.no (.an (.lt (.s (.v 0) (.v 1)) (.v 2)) (.le (.v 2) (.v 0)))) [(.le (.v 3) (.s (.v 0) (.v 1))), (.lt (.v 2) (.v 3))] (by kernel_rfl) [] [_, _, _, _] rfl rfl hi hk))]⟩
theorem Asc.snoc {xs : Array Keyed} {lo x : Nat} (h : Asc r xs lo (lo + x)) (hx : 1 ≤ x) (hn : ¬ R r xs (lo + x) < R r xs (lo + x - 1)) : Asc r xs lo (lo + (x + 1)) := by
  intro i j h1 h2 h3
  by_cases hj : j < lo + x
  · exact h i j h1 h2 hj
  · have : j = lo + x := by (exact Ar.lin 0 3 (.eq (.v 0) (.a (.v 1) (.v 2))) [(.lt (.v 0) (.a (.v 1) (.a (.v 2) (.k 1)))), (.no (.lt (.v 0) (.a (.v 1) (.v 2))))] (by kernel_rfl) [] [_, _, _] rfl rfl h3 hj)
    subst this
    by_cases hi : i = lo + x
    · subst hi; exact Nat.le_refl _
    · have := h i (lo + x - 1) h1 (by (exact Ar.lin 0 3 (.le (.v 0) (.s (.a (.v 1) (.v 2)) (.k 1))) [(.le (.v 0) (.a (.v 1) (.v 2))), (.no (.eq (.v 0) (.a (.v 1) (.v 2))))] (by kernel_rfl) [] [_, _, _] rfl rfl h2 hi)) (by (exact Ar.lin 0 2 (.lt (.s (.a (.v 0) (.v 1)) (.k 1)) (.a (.v 0) (.v 1))) [(.le (.k 1) (.v 1))] (by kernel_rfl) [] [_, _] rfl rfl hx))
      (exact Ar.lin 0 3 (.le (.v 0) (.v 1)) [(.no (.lt (.v 1) (.v 2))), (.le (.v 0) (.v 2))] (by kernel_rfl) [] [_, _, _] rfl rfl hn this)
theorem Dsc.snoc {xs : Array Keyed} {lo x : Nat} (h : Dsc r xs lo (lo + x)) (hx : 1 ≤ x) (hn : R r xs (lo + x) ≤ R r xs (lo + x - 1)) : Dsc r xs lo (lo + (x + 1)) := by
  intro i j h1 h2 h3
  by_cases hj : j < lo + x
  · exact h i j h1 h2 hj
  · have : j = lo + x := by (exact Ar.lin 0 3 (.eq (.v 0) (.a (.v 1) (.v 2))) [(.lt (.v 0) (.a (.v 1) (.a (.v 2) (.k 1)))), (.no (.lt (.v 0) (.a (.v 1) (.v 2))))] (by kernel_rfl) [] [_, _, _] rfl rfl h3 hj)
    subst this
    by_cases hi : i = lo + x
    · subst hi; exact Nat.le_refl _
    · have := h i (lo + x - 1) h1 (by (exact Ar.lin 0 3 (.le (.v 0) (.s (.a (.v 1) (.v 2)) (.k 1))) [(.le (.v 0) (.a (.v 1) (.v 2))), (.no (.eq (.v 0) (.a (.v 1) (.v 2))))] (by kernel_rfl) [] [_, _, _] rfl rfl h2 hi)) (by (exact Ar.lin 0 2 (.lt (.s (.a (.v 0) (.v 1)) (.k 1)) (.a (.v 0) (.v 1))) [(.le (.k 1) (.v 1))] (by kernel_rfl) [] [_, _] rfl rfl hx))
      (exact Ar.lin 0 3 (.le (.v 0) (.v 1)) [(.le (.v 0) (.v 2)), (.le (.v 2) (.v 1))] (by kernel_rfl) [] [_, _, _] rfl rfl hn this)
theorem Dsc.mirrorEq {xs : Array Keyed} {lo m neq : Nat} (hm : lo + m ≤ xs.size) (hq : neq + 1 ≤ m) (he : ∀ i, lo + m - (neq + 1) ≤ i → i < lo + m → R r xs i = R r xs (lo + m - 1)) (k : Nat) :
    R r (mirror xs (lo + m - (neq + 1)) (lo + m) ((lo + m - (lo + m - (neq + 1))) / 2)) k = R r xs k := by
  rw [R_mirror hm]
  split
  · rw [he _ (by lia) (by lia), he k (by lia) (by lia)]
  · rfl
theorem turned {xs : Array Keyed} {lo n : Nat} (hsz : lo + n ≤ xs.size) (hs : Asc r xs lo (lo + n)) (hro : ¬ R r xs lo < R r xs (lo + n - 1)) (hlt : R r xs (lo + n) < R r xs (lo + n - 1)) :
    Dsc r (mirror xs lo (lo + n) ((lo + n - lo) / 2)) lo (lo + (n + 1)) := by
  have hall : ∀ k, lo ≤ k → k < lo + n → R r (mirror xs lo (lo + n) ((lo + n - lo) / 2)) k = R r xs (lo + n - 1) := by
    intro k k1 k2
    rw [R_mirror hsz, if_pos ⟨k1, k2⟩]
    have h0 : lo ≤ lo + (lo + n) - 1 - k := by (exact Ar.lin 0 3 (.le (.v 0) (.s (.s (.a (.v 0) (.a (.v 0) (.v 1))) (.k 1)) (.v 2))) [(.lt (.v 2) (.a (.v 0) (.v 1)))] (by kernel_rfl) [] [_, _, _] rfl rfl k2)
    have h1 : lo + (lo + n) - 1 - k ≤ lo + n - 1 := by (exact Ar.lin 0 3 (.le (.s (.s (.a (.v 0) (.a (.v 0) (.v 1))) (.k 1)) (.v 2)) (.s (.a (.v 0) (.v 1)) (.k 1))) [(.le (.v 0) (.v 2))] (by kernel_rfl) [] [_, _, _] rfl rfl k1)
    have h2 : lo + n - 1 < lo + n := by (exact Ar.lin 0 3 (.lt (.s (.a (.v 0) (.v 1)) (.k 1)) (.a (.v 0) (.v 1))) [(.lt (.v 2) (.a (.v 0) (.v 1)))] (by kernel_rfl) [] [_, _, _] rfl rfl k2)
    have a := hs lo _ (Nat.le_refl _) h0 (Nat.lt_of_le_of_lt h1 h2)
    have b := hs _ (lo + n - 1) h0 h1 h2
    exact Nat.le_antisymm b (Nat.le_trans (Nat.not_lt.mp hro) a)
  have hend : R r (mirror xs lo (lo + n) ((lo + n - lo) / 2)) (lo + n) = R r xs (lo + n) := by rw [R_mirror hsz, if_neg fun q => Nat.lt_irrefl _ q.2]
  intro i j i1 i2 i3
  rcases Nat.lt_or_eq_of_le (show j ≤ lo + n from Nat.le_of_lt_succ i3) with q | q
  · rw [hall i i1 (Nat.lt_of_le_of_lt i2 q), hall j (Nat.le_trans i1 i2) q]; exact Nat.le_refl _
  · rw [q, hend]
    rcases Nat.lt_or_eq_of_le (q ▸ i2) with w | w
    · rw [hall i i1 w]; exact Nat.le_of_lt hlt
    · rw [w, hend]; exact Nat.le_refl _
theorem one_up {xs : Array Keyed} {lo x i : Nat} (a : lo + x - (0 + 1) ≤ i) (b : i < lo + x) : R r xs i = R r xs (lo + x - 1) := by
  have : i = lo + x - 1 := Nat.le_antisymm (Nat.le_sub_one_of_lt b) a
  rw [this]
theorem wpS_countRun (hC : Ask prog w A s κ r a₀) {st : SortSt} {lo nrem : Nat} {Q : Option Nat → SortSt → Prop} (hB : TB κ a₀ st) (hn : lo + nrem ≤ a₀.size) (h1 : 1 ≤ nrem)
    (h : ∀ m st', Nx κ a₀ lo st st' → 1 ≤ m → m ≤ nrem → Asc r (arrOf st') lo (lo + m) → Q (some m) st') : wpS (model prog w) A E s (countRun' lo nrem) Q st := by
  have B : ∀ {x}, x < nrem → lo + x < a₀.size := fun h => Nat.lt_of_lt_of_le (Nat.add_lt_add_left h lo) hn
  have B1 : ∀ {x}, x < nrem → lo + x - 1 < a₀.size := fun h => Nat.lt_of_le_of_lt (Nat.sub_le _ _) (B h)
  have B2 : ∀ {x}, x ≤ nrem → lo + x ≤ a₀.size := fun h => Nat.le_trans (Nat.add_le_add_left h lo) hn
  rw [countRun'_eq]
  refine wpS_bind (wpS_mono (wpS_forRange (I := fun x c st' => st' = st ∧ c = (none, x) ∧ Asc r (arrOf st) lo (lo + x))
    (Q := fun c st' => st' = st ∧ ∃ n, c = (none, n) ∧ 1 ≤ n ∧ n ≤ nrem ∧ Asc r (arrOf st) lo (lo + n) ∧ (n = nrem ∨ R r (arrOf st) (lo + n) < R r (arrOf st) (lo + n - 1))) ?step ?fin ?init) ?post)
  case init => exact ⟨rfl, rfl, fun i j a b c => by have : i = j := by (exact Ar.lin 0 3 (.eq (.v 0) (.v 1)) [(.le (.v 2) (.v 0)), (.le (.v 0) (.v 1)), (.lt (.v 1) (.a (.v 2) (.k 1)))] (by kernel_rfl) [] [_, _, _] rfl rfl a b c)
                                                    subst this; exact Nat.le_refl _⟩
  case fin =>
    rintro c st' ⟨rfl, rfl, hs⟩
    rw [show max 1 nrem = nrem by lia] at hs ⊢
    exact ⟨rfl, nrem, rfl, h1, Nat.le_refl _, hs, .inl rfl⟩
  case step =>
    rintro x c st' hx hxn ⟨rfl, rfl, hs⟩
    dsimp only
    refine wpS_bind (wpS_ltR hC hB (B hxn) (B1 hxn) ?_)
    by_cases hl : R r (arrOf st') (lo + x) < R r (arrOf st') (lo + x - 1)
    · rw [decide_eq_true hl]
      simp only [if_true]
      exact wpS_pure ⟨rfl, x, rfl, hx, Nat.le_of_lt hxn, hs, .inr hl⟩
    · rw [decide_eq_false hl]
      simp only [Bool.false_eq_true, if_false]
      exact wpS_pure ⟨rfl, rfl, hs.snoc hx hl⟩
  case post =>
    rintro c st' ⟨rfl, n0, rfl, hn1, hn2, hs, hor⟩
    extract_lets -underBinder -merge +onlyGivenNames cr n
    have hcr : cr = none := rfl
    have hn : n = n0 := rfl
    clear_value cr n
    subst hcr; subst hn
    dsimp -zeta -zetaHave -zetaUnused only
    by_cases hnn : n = nrem
    · rw [if_pos (by simpa using hnn)]
      exact wpS_pure (h n st' (.refl hB) hn1 hn2 hs)
    · rw [if_neg (by simpa using hnn)]
      have hlt := hor.resolve_left hnn
      extract_lets -underBinder -merge +onlyGivenNames jp
      have H1 : ∀ u st2, Nx κ a₀ lo st' st2 → Dsc r (arrOf st2) lo (lo + (n + 1)) → wpS (model prog w) A E s (jp u) Q st2 := by
        intro u st2 hN hD
        clear hlt hor hs
        refine wpS_bind (wpS_lift (wpAny_rule ⟨rfl, ?_⟩))
        refine wpS_bind (wpS_mono (wpS_forRange (I := fun x c st3 => ∃ neq, c = (none, x, neq) ∧ Nx κ a₀ lo st' st3 ∧ Dsc r (arrOf st3) lo (lo + x) ∧ neq + 1 ≤ x ∧ (∀ i, lo + x - (neq + 1) ≤ i → i < lo + x → R r (arrOf st3) i = R r (arrOf st3) (lo + x - 1)))
          (Q := fun c st3 => ∃ m neq, c = (none, m, neq) ∧ n + 1 ≤ m ∧ m ≤ nrem ∧ Nx κ a₀ lo st' st3 ∧ Dsc r (arrOf st3) lo (lo + m) ∧ neq + 1 ≤ m ∧ (∀ i, lo + m - (neq + 1) ≤ i → i < lo + m → R r (arrOf st3) i = R r (arrOf st3) (lo + m - 1))) ?_ ?_ ?_) ?_)
        · rintro x c st3 hx hxn ⟨neq, rfl, hN3, hD3, hq3, he3⟩
          dsimp only
          have hsz : lo + x ≤ (arrOf st3).size := by rw [hN3.tb.size]; exact Nat.le_of_lt (B hxn)
          have hx1 : 1 ≤ x := Nat.le_trans (Nat.le_add_left 1 n) hx
          refine wpS_bind (wpS_ltR hC hN3.tb (B hxn) (B1 hxn) ?_)
          by_cases hl : R r (arrOf st3) (lo + x) < R r (arrOf st3) (lo + x - 1)
          · rw [decide_eq_true hl]
            simp only [if_true]
            by_cases hneq : neq > 0
            · rw [if_pos hneq]
              refine wpS_bind (wpS_reverse (wpS_pure ⟨0, rfl, hN3.mirror (by (exact Ar.lin 0 3 (.le (.v 0) (.s (.a (.v 0) (.v 1)) (.a (.v 2) (.k 1)))) [(.le (.a (.v 2) (.k 1)) (.v 1))] (by kernel_rfl) [] [_, _, _] rfl rfl hq3)) (Nat.le_of_lt (B hxn)), ?_, Nat.le_add_left _ _, fun i a b => one_up a b⟩))
              refine Dsc.snoc (fun i j a b c => ?_) hx1 ?_
              · show R r (mirror (arrOf st3) _ _ _) j ≤ R r (mirror (arrOf st3) _ _ _) i
                rw [Dsc.mirrorEq hsz hq3 he3, Dsc.mirrorEq hsz hq3 he3]; exact hD3 i j a b c
              · show R r (mirror (arrOf st3) _ _ _) _ ≤ R r (mirror (arrOf st3) _ _ _) _
                rw [Dsc.mirrorEq hsz hq3 he3, Dsc.mirrorEq hsz hq3 he3]; exact Nat.le_of_lt hl
            · rw [if_neg hneq]
              exact wpS_pure ⟨0, rfl, hN3, hD3.snoc hx1 (Nat.le_of_lt hl), Nat.le_add_left _ _, fun i a b => one_up a b⟩
          · rw [decide_eq_false hl]
            simp only [Bool.false_eq_true, if_false]
            refine wpS_bind (wpS_ltR hC hN3.tb (B1 hxn) (B hxn) ?_)
            by_cases hg : R r (arrOf st3) (lo + x - 1) < R r (arrOf st3) (lo + x)
            · rw [decide_eq_true hg]
              simp only [if_true]
              exact wpS_pure ⟨x, neq, rfl, hx, Nat.le_of_lt hxn, hN3, hD3, hq3, he3⟩
            · rw [decide_eq_false hg]
              simp only [Bool.false_eq_true, if_false]
              refine wpS_pure ⟨neq + 1, rfl, hN3, hD3.snoc hx1 (Nat.not_lt.mp hg), Nat.succ_le_succ hq3, fun i a b => ?_⟩
              rw [show lo + (x + 1) - 1 = lo + x by (exact Ar.lin 0 2 (.eq (.s (.a (.v 0) (.a (.v 1) (.k 1))) (.k 1)) (.a (.v 0) (.v 1))) [] (by kernel_rfl) [] [_, _] rfl rfl )]
              by_cases q : i = lo + x
              · subst q; rfl
              · rw [he3 i (by (exact Ar.lin 0 4 (.le (.s (.a (.v 0) (.v 1)) (.a (.v 2) (.k 1))) (.v 3)) [(.le (.s (.a (.v 0) (.a (.v 1) (.k 1))) (.a (.a (.v 2) (.k 1)) (.k 1))) (.v 3))] (by kernel_rfl) [] [_, _, _, _] rfl rfl a)) (by (exact Ar.lin 0 3 (.lt (.v 0) (.a (.v 1) (.v 2))) [(.lt (.v 0) (.a (.v 1) (.a (.v 2) (.k 1)))), (.no (.eq (.v 0) (.a (.v 1) (.v 2))))] (by kernel_rfl) [] [_, _, _] rfl rfl b q))]; (exact Ar.lin 0 2 (.eq (.v 0) (.v 1)) [(.no (.lt (.v 1) (.v 0))), (.no (.lt (.v 0) (.v 1)))] (by kernel_rfl) [] [_, _] rfl rfl hl hg)
        · rintro c st3 ⟨neq, rfl, hN3, hD3, hq3, he3⟩
          rw [show max (n + 1) nrem = nrem by lia] at hD3 hq3 he3 ⊢
          exact ⟨nrem, neq, rfl, by (exact Ar.lin 0 2 (.le (.a (.v 0) (.k 1)) (.v 1)) [(.le (.v 0) (.v 1)), (.no (.eq (.v 0) (.v 1)))] (by kernel_rfl) [] [_, _] rfl rfl hn2 hnn), Nat.le_refl _, hN3, hD3, hq3, he3⟩
        · exact ⟨0, rfl, hN, hD, Nat.le_add_left _ _, fun i a b => one_up a b⟩
        · rintro c st3 ⟨m, neq, rfl, hm1, hm2, hN3, hD3, hq3, he3⟩
          extract_lets -underBinder -merge +onlyGivenNames cr u2 m' neq'
          have hcr : cr = none := rfl
          have hm' : m' = m := rfl
          have hneq' : neq' = neq := rfl
          clear_value cr m' neq'
          subst hcr; subst hm'; subst hneq'
          dsimp -zeta -zetaHave -zetaUnused only
          extract_lets -underBinder -merge +onlyGivenNames jp2
          have H2 : ∀ u st5, Nx κ a₀ lo st' st5 → Dsc r (arrOf st5) lo (lo + m') → wpS (model prog w) A E s (jp2 u) Q st5 := by
            intro u st5 hN5 hD5
            have hsz : lo + m' ≤ (arrOf st5).size := by rw [hN5.tb.size]; exact B2 hm2
            clear hN3 hD3 hq3 he3 hN hD
            refine wpS_bind (wpS_reverse ?_)
            have hN6 := hN5.mirror (i := lo) (j := lo + m') (Nat.le_refl _) (B2 hm2)
            refine wpS_bind (wpS_mono (wpS_forRange (I := fun x c st6 => c = (none, x) ∧ Nx κ a₀ lo st' st6 ∧ Asc r (arrOf st6) lo (lo + x))
              (Q := fun c st6 => ∃ k, c = (none, k) ∧ 1 ≤ k ∧ k ≤ nrem ∧ Nx κ a₀ lo st' st6 ∧ Asc r (arrOf st6) lo (lo + k)) ?_ ?_ ?_) ?_)
            · rintro x c st6 hx hxn ⟨rfl, hN7, hA7⟩
              dsimp only
              refine wpS_bind (wpS_ltR hC hN7.tb (B hxn) (B1 hxn) ?_)
              by_cases hl : R r (arrOf st6) (lo + x) < R r (arrOf st6) (lo + x - 1)
              · rw [decide_eq_true hl]
                simp only [if_true]
                exact wpS_pure ⟨x, rfl, by (exact Ar.lin 0 3 (.le (.k 1) (.v 0)) [(.le (.a (.v 1) (.k 1)) (.v 2)), (.le (.v 2) (.v 0))] (by kernel_rfl) [] [_, _, _] rfl rfl hm1 hx), Nat.le_of_lt hxn, hN7, hA7⟩
              · rw [decide_eq_false hl]
                simp only [Bool.false_eq_true, if_false]
                exact wpS_pure ⟨rfl, hN7, hA7.snoc (by (exact Ar.lin 0 3 (.le (.k 1) (.v 0)) [(.le (.a (.v 1) (.k 1)) (.v 2)), (.le (.v 2) (.v 0))] (by kernel_rfl) [] [_, _, _] rfl rfl hm1 hx)) hl⟩
            · rintro c st6 ⟨rfl, hN7, hA7⟩
              rw [show max m' nrem = nrem by lia] at hA7 ⊢
              exact ⟨nrem, rfl, h1, Nat.le_refl _, hN7, hA7⟩
            · refine ⟨rfl, hN6, fun i j a b c => ?_⟩
              have hsz5 := hsz
              show R r (mirror (arrOf _) _ _ _) i ≤ R r (mirror (arrOf _) _ _ _) j
              rw [R_mirror hsz5, R_mirror hsz5, if_pos (by (exact Ar.lin 0 4 (.an (.le (.v 0) (.v 1)) (.lt (.v 1) (.a (.v 0) (.v 2)))) [(.le (.v 0) (.v 1)), (.le (.v 1) (.v 3)), (.lt (.v 3) (.a (.v 0) (.v 2)))] (by kernel_rfl) [] [_, _, _, _] rfl rfl a b c)), if_pos (by (exact Ar.lin 0 4 (.an (.le (.v 0) (.v 1)) (.lt (.v 1) (.a (.v 0) (.v 2)))) [(.le (.v 0) (.v 3)), (.le (.v 3) (.v 1)), (.lt (.v 1) (.a (.v 0) (.v 2)))] (by kernel_rfl) [] [_, _, _, _] rfl rfl a b c))]
              exact hD5 _ _ (by (exact Ar.lin 0 3 (.le (.v 0) (.s (.s (.a (.v 0) (.a (.v 0) (.v 1))) (.k 1)) (.v 2))) [(.lt (.v 2) (.a (.v 0) (.v 1)))] (by kernel_rfl) [] [_, _, _] rfl rfl c)) (by (exact Ar.lin 0 4 (.le (.s (.s (.a (.v 0) (.a (.v 0) (.v 1))) (.k 1)) (.v 2)) (.s (.s (.a (.v 0) (.a (.v 0) (.v 1))) (.k 1)) (.v 3))) [(.le (.v 3) (.v 2))] (by kernel_rfl) [] [_, _, _, _] rfl rfl b)) (by (exact Ar.lin 0 4 (.lt (.s (.s (.a (.v 0) (.a (.v 0) (.v 1))) (.k 1)) (.v 2)) (.a (.v 0) (.v 1))) [(.le (.a (.v 3) (.k 1)) (.v 1)), (.le (.v 0) (.v 2))] (by kernel_rfl) [] [_, _, _, _] rfl rfl hm1 a))
            · rintro c st6 ⟨k, rfl, hk1, hk2, hN7, hA7⟩
              exact wpS_pure (h k st6 hN7 hk1 hk2 hA7)
          clear_value jp2
          have hsz : lo + m' ≤ (arrOf st3).size := by rw [hN3.tb.size]; exact B2 hm2
          by_cases hneq : neq' > 0
          · rw [if_pos hneq]
            refine wpS_bind (wpS_reverse (H2 _ _ (hN3.mirror (by (exact Ar.lin 0 3 (.le (.v 0) (.s (.a (.v 0) (.v 1)) (.a (.v 2) (.k 1)))) [(.le (.a (.v 2) (.k 1)) (.v 1))] (by kernel_rfl) [] [_, _, _] rfl rfl hq3)) (by (exact Ar.lin 0 4 (.le (.a (.v 0) (.v 1)) (.v 2)) [(.le (.a (.v 0) (.v 3)) (.v 2)), (.le (.v 1) (.v 3))] (by kernel_rfl) [] [_, _, _, _] rfl rfl hn hm2))) fun i j a b c => ?_))
            show R r (mirror (arrOf st3) _ _ _) j ≤ R r (mirror (arrOf st3) _ _ _) i
            rw [Dsc.mirrorEq hsz hq3 he3, Dsc.mirrorEq hsz hq3 he3]; exact hD3 i j a b c
          · rw [if_neg hneq]
            exact H2 _ _ hN3 hD3
      clear_value jp
      by_cases hgt : n > 1
      · rw [if_pos hgt]
        refine wpS_bind (wpS_ltR hC hB (by (exact Ar.lin 0 3 (.lt (.v 0) (.v 1)) [(.le (.a (.v 0) (.v 2)) (.v 1)), (.le (.k 1) (.v 2))] (by kernel_rfl) [] [_, _, _] rfl rfl hn h1)) (by (exact Ar.lin 0 4 (.lt (.s (.a (.v 0) (.v 1)) (.k 1)) (.v 2)) [(.le (.a (.v 0) (.v 3)) (.v 2)), (.le (.k 1) (.v 3)), (.le (.v 1) (.v 3))] (by kernel_rfl) [] [_, _, _, _] rfl rfl hn h1 hn2)) ?_)
        by_cases hro : R r (arrOf st') lo < R r (arrOf st') (lo + n - 1)
        · rw [decide_eq_true hro]
          simp only [if_true]
          exact wpS_pure (h n st' (.refl hB) hn1 hn2 hs)
        · rw [decide_eq_false hro]
          simp only [Bool.false_eq_true, if_false]
          refine wpS_bind (wpS_reverse ?_)
          exact H1 _ _ ((Nx.refl (lo := lo) hB).mirror (i := lo) (j := lo + n) (Nat.le_refl _) (B2 hn2)) (turned (by rw [hB.size]; exact B2 hn2) hs hro hlt)
      · rw [if_neg hgt]
        refine H1 _ _ (.refl hB) ?_
        have : n = 1 := by (exact Ar.lin 0 1 (.eq (.v 0) (.k 1)) [(.le (.k 1) (.v 0)), (.no (.lt (.k 1) (.v 0)))] (by kernel_rfl) [] [_] rfl rfl hn1 hgt)
        subst this
        intro i j i1 i2 i3
        by_cases q : i = j
        · subst q; exact Nat.le_refl _
        · have q1 : i = lo := by (exact Ar.lin 0 3 (.eq (.v 0) (.v 1)) [(.le (.v 1) (.v 0)), (.le (.v 0) (.v 2)), (.lt (.v 2) (.a (.v 1) (.a (.k 1) (.k 1)))), (.no (.eq (.v 0) (.v 2)))] (by kernel_rfl) [] [_, _, _] rfl rfl i1 i2 i3 q)
          have q2 : j = lo + 1 := by (exact Ar.lin 0 3 (.eq (.v 0) (.a (.v 1) (.k 1))) [(.le (.v 1) (.v 2)), (.le (.v 2) (.v 0)), (.lt (.v 0) (.a (.v 1) (.a (.k 1) (.k 1)))), (.no (.eq (.v 2) (.v 0)))] (by kernel_rfl) [] [_, _, _] rfl rfl i1 i2 i3 q)
          rw [show lo + 1 - 1 = lo by (exact Ar.lin 0 1 (.eq (.s (.a (.v 0) (.k 1)) (.k 1)) (.v 0)) [] (by kernel_rfl) [] [_] rfl rfl )] at hlt
          rw [q1, q2]
          (exact Ar.lin 0 2 (.le (.v 0) (.v 1)) [(.lt (.v 0) (.v 1))] (by kernel_rfl) [] [_, _] rfl rfl hlt)
end Tim
end Mine
end
section
namespace Mine
namespace Tim
open PySem PyProof.Rows
variable {prog : Program} {w : World} {A : Around} {E : Value → Shared → Prop} {s : Shared} {κ : SortKind} {r : Keyed → Nat} {a₀ : Array Keyed}
theorem mid {l u n x : Nat} (h : l < u) (hx : u - l ≤ n - x) : l + (u - l) / 2 < u ∧ u - (l + (u - l) / 2 + 1) ≤ n - (x + 1) ∧ l + (u - l) / 2 - l ≤ n - (x + 1) := by
  have he : (u - l) / 2 < u - l := Nat.div_lt_self (Nat.sub_pos_of_lt h) (by decide)
  generalize (u - l) / 2 = e at he
  rw [Nat.add_sub_cancel_left]
  exact ⟨Nat.add_lt_of_lt_sub' he, by (exact Ar.lin 0 5 (.le (.s (.v 0) (.a (.a (.v 1) (.v 2)) (.k 1))) (.s (.v 3) (.a (.v 4) (.k 1)))) [(.le (.s (.v 0) (.v 1)) (.s (.v 3) (.v 4)))] (by kernel_rfl) [] [_, _, _, _, _] rfl rfl hx), by (exact Ar.lin 0 5 (.le (.v 0) (.s (.v 1) (.a (.v 2) (.k 1)))) [(.le (.s (.v 3) (.v 4)) (.s (.v 1) (.v 2))), (.lt (.v 0) (.s (.v 3) (.v 4)))] (by kernel_rfl) [] [_, _, _, _, _] rfl rfl hx he)⟩
theorem mid2 {l q k x : Nat} (h : l < q) (hx : q - l ≤ k - x) : l ≤ (l + q) / 2 ∧ (l + q) / 2 < q ∧ q - ((l + q) / 2 + 1) ≤ k - (x + 1) ∧ (l + q) / 2 - l ≤ k - (x + 1) := by
  have h1 : l ≤ (l + q) / 2 := (Nat.le_div_iff_mul_le (by decide)).mpr (by lia)
  have h2 : (l + q) / 2 < q := (Nat.div_lt_iff_lt_mul (by decide)).mpr (by lia)
  generalize (l + q) / 2 = e at h1 h2
  exact ⟨h1, h2, by (exact Ar.lin 0 5 (.le (.s (.v 0) (.a (.v 1) (.k 1))) (.s (.v 2) (.a (.v 3) (.k 1)))) [(.le (.s (.v 0) (.v 4)) (.s (.v 2) (.v 3))), (.le (.v 4) (.v 1))] (by kernel_rfl) [] [_, _, _, _, _] rfl rfl hx h1), by (exact Ar.lin 0 5 (.le (.s (.v 0) (.v 1)) (.s (.v 2) (.a (.v 3) (.k 1)))) [(.le (.s (.v 4) (.v 1)) (.s (.v 2) (.v 3))), (.lt (.v 0) (.v 4))] (by kernel_rfl) [] [_, _, _, _, _] rfl rfl hx h2)⟩
theorem R_bub {xs : Array Keyed} {src p : Nat} (hs : src < xs.size) (hp : p ≤ src) (k : Nat) (hk : k ≤ src) :
    (k < p → R r (bubble xs src (src - p)) k = R r xs k) ∧ R r (bubble xs src (src - p)) p = R r xs src ∧ (p < k → R r (bubble xs src (src - p)) k = R r xs (k - 1)) := by
  have e : src - (src - p) = p := Nat.sub_sub_self hp
  refine ⟨fun h => ?_, ?_, fun h => ?_⟩
  · rw [R_bubble hs (Nat.sub_le _ _), e, if_neg (Nat.ne_of_lt h), if_neg fun q => Nat.lt_asymm h q.1]
  · rw [R_bubble hs (Nat.sub_le _ _), e, if_pos rfl]
  · rw [R_bubble hs (Nat.sub_le _ _), e, if_neg (Nat.ne_of_gt h), if_pos ⟨h, hk⟩]
theorem bubble_asc {xs : Array Keyed} {lo p src : Nat} (hs : src < xs.size) (hlp : lo ≤ p) (hp : p ≤ src) (ha : Asc r xs lo src) (h1 : ∀ i, lo ≤ i → i < p → R r xs i ≤ R r xs src) (h2 : ∀ i, p ≤ i → i < src → R r xs src < R r xs i) :
    Asc r (bubble xs src (src - p)) lo (src + 1) := by
  intro i j hi hij hj
  have hj' : j ≤ src := Nat.le_of_lt_succ hj
  have ri := R_bub (r := r) hs hp i (Nat.le_trans hij hj')
  have rj := R_bub (r := r) hs hp j hj'
  rcases Nat.lt_trichotomy j p with q | q | q
  · rw [ri.1 (Nat.lt_of_le_of_lt hij q), rj.1 q]
    exact ha i j hi hij (Nat.lt_of_lt_of_le q hp)
  · subst q
    rcases Nat.lt_or_eq_of_le hij with q | q
    · rw [ri.1 q, rj.2.1]; exact h1 i hi q
    · subst q; exact Nat.le_refl _
  · have hj1 : j - 1 < src := Nat.lt_of_lt_of_le (Nat.sub_lt (Nat.lt_of_le_of_lt (Nat.zero_le _) q) Nat.zero_lt_one) hj'
    have hpj : p ≤ j - 1 := Nat.le_sub_one_of_lt q
    rw [rj.2.2 q]
    rcases Nat.lt_trichotomy i p with w | w | w
    · rw [ri.1 w]; exact ha i (j - 1) hi (Nat.le_trans (Nat.le_of_lt w) hpj) hj1
    · rw [w, ri.2.1]; exact Nat.le_of_lt (h2 _ hpj hj1)
    · rw [ri.2.2 w]; exact ha (i - 1) (j - 1) (Nat.le_trans hlp (Nat.le_sub_one_of_lt w)) (Nat.sub_le_sub_right hij 1) hj1
theorem wpS_binarySort (hC : Ask prog w A s κ r a₀) {st : SortSt} {lo n ok : Nat} {Q : Bool → SortSt → Prop} (hn : lo + n ≤ a₀.size) (hok : ok ≤ n) (hB : TB κ a₀ st) (hs : Asc r (arrOf st) lo (lo + ok))
    (h : ∀ st', Nx κ a₀ lo st st' → Asc r (arrOf st') lo (lo + n) → Q true st') : wpS (model prog w) A E s (binarySort' lo n ok) Q st := by
  rw [binarySort'_eq]
  refine wpS_bind (wpS_mono (wpS_forRange (I := fun k c st' => c = (none, ()) ∧ Nx κ a₀ lo st st' ∧ Asc r (arrOf st') lo (lo + min k n))
    (Q := fun c st' => c = (none, ()) ∧ Nx κ a₀ lo st st' ∧ Asc r (arrOf st') lo (lo + n)) ?step ?fin ?init) ?post)
  case post =>
    rintro c st' ⟨rfl, hB', hs'⟩
    exact wpS_pure (h st' hB' hs')
  case init =>
    refine ⟨rfl, .refl hB, fun i j hi hij hj => ?_⟩
    by_cases h1 : ok = 0
    · have : i = j := by lia
      subst this; exact Nat.le_refl _
    · exact hs i j hi hij (by lia)
  case fin =>
    rintro c st' ⟨hc, hB', hs'⟩
    refine ⟨hc, hB', ?_⟩
    rwa [Nat.min_eq_right (Nat.le_max_right _ _)] at hs'
  case step =>
    rintro k c st' hak hkn ⟨rfl, hN', hs'⟩
    rw [Nat.min_eq_left (Nat.le_of_lt hkn)] at hs'
    refine wpS_bind (wpS_mono (wpS_forRange (I := fun x c st'' => st'' = st' ∧ ∃ l q, c = (none, l, q) ∧ l ≤ q ∧ q ≤ k ∧ q - l ≤ k - x ∧
        (∀ i, lo ≤ i → i < lo + l → R r (arrOf st') i ≤ R r (arrOf st') (lo + k)) ∧ (∀ i, lo + q ≤ i → i < lo + k → R r (arrOf st') (lo + k) < R r (arrOf st') i))
      (Q := fun c st'' => st'' = st' ∧ ∃ l q, c = (none, l, q) ∧ l ≤ k ∧
        (∀ i, lo ≤ i → i < lo + l → R r (arrOf st') i ≤ R r (arrOf st') (lo + k)) ∧ (∀ i, lo + l ≤ i → i < lo + k → R r (arrOf st') (lo + k) < R r (arrOf st') i)) ?istep ?ifin ?iinit) ?ipost)
    case iinit => exact ⟨rfl, 0, k, rfl, Nat.zero_le _, Nat.le_refl _, Nat.le_refl _, fun i h1 hi => absurd (Nat.lt_of_le_of_lt h1 hi) (Nat.lt_irrefl _), fun i h1 h2 => absurd (Nat.lt_of_le_of_lt h1 h2) (Nat.lt_irrefl _)⟩
    case ifin =>
      rintro c st'' ⟨rfl, l, q, rfl, hlr, hrk, hm, hlo, hhi⟩
      have : l = q := Nat.le_antisymm hlr (Nat.le_of_sub_eq_zero (Nat.le_zero.mp (Nat.le_trans hm (Nat.le_of_eq (Nat.sub_self _)))))
      subst this
      exact ⟨rfl, l, l, rfl, hrk, hlo, hhi⟩
    case istep =>
      rintro x c st'' _ hxk ⟨rfl, l, q, rfl, hlr, hrk, hm, hlo, hhi⟩
      dsimp only
      by_cases hge : l ≥ q
      · rw [if_pos hge]
        have : l = q := by (exact Ar.lin 0 2 (.eq (.v 0) (.v 1)) [(.le (.v 0) (.v 1)), (.le (.v 1) (.v 0))] (by kernel_rfl) [] [_, _] rfl rfl hlr hge)
        subst this
        exact wpS_pure ⟨rfl, l, l, rfl, hrk, hlo, hhi⟩
      · rw [if_neg hge]
        obtain ⟨y1, y2, y3, y4⟩ := mid2 (Nat.not_le.mp hge) hm
        have hkz : lo + k < a₀.size := Nat.lt_of_lt_of_le (Nat.add_lt_add_left hkn lo) hn
        have hmk : lo + (l + q) / 2 < lo + k := Nat.add_lt_add_left (Nat.lt_of_lt_of_le y2 hrk) lo
        refine wpS_bind (wpS_ltR hC hN'.tb hkz (Nat.lt_trans hmk hkz) ?_)
        by_cases hless : R r (arrOf st'') (lo + k) < R r (arrOf st'') (lo + (l + q) / 2)
        · rw [decide_eq_true hless]
          simp only [if_true]
          exact wpS_pure ⟨rfl, l, (l + q) / 2, rfl, y1, Nat.le_trans (Nat.le_of_lt y2) hrk, y4, hlo, fun i h1 h2 => Nat.lt_of_lt_of_le hless (hs' (lo + (l + q) / 2) i (Nat.le_add_right _ _) h1 h2)⟩
        · rw [decide_eq_false hless]
          simp only [Bool.false_eq_true, if_false]
          exact wpS_pure ⟨rfl, (l + q) / 2 + 1, q, rfl, y2, hrk, y3, fun i h0 h1 => Nat.le_trans (hs' i (lo + (l + q) / 2) h0 (Nat.le_of_lt_succ h1) hmk) (Nat.not_lt.mp hless), hhi⟩
    case ipost =>
      rintro c st'' ⟨rfl, l, q, rfl, hlk, hlo, hhi⟩
      show wpS _ _ _ _ (do moveDown' (lo + k) (lo + l); pure (ForInStep.yield (none, ()))) _ _
      rw [moveDown'_eq]
      have hkz : lo + k < a₀.size := Nat.lt_of_lt_of_le (Nat.add_lt_add_left hkn lo) hn
      have hks : lo + k < (arrOf st'').size := by rw [hN'.tb.size]; exact hkz
      refine wpS_bind (wpS_modify (wpS_pure ⟨rfl, hN'.bubble hkz (Nat.sub_le _ _) (by rw [Nat.sub_sub_self (Nat.add_le_add_left hlk lo)]; exact Nat.le_add_right _ _), ?_⟩))
      rw [Nat.min_eq_left hkn]
      exact bubble_asc hks (Nat.le_add_right lo l) (Nat.add_le_add_left hlk lo) hs' hlo hhi
noncomputable def By (left : Bool) (x y : Nat) : Bool := if left = true then decide (y < x) else decide (y ≤ x)
theorem By.mono {left : Bool} {x y z : Nat} (h : By left x z = true) (hyz : y ≤ z) : By left x y = true := by
  unfold By at h ⊢
  cases left <;> simp at h ⊢ <;> lia
theorem min_top {a b n : Nat} (h : a ≤ n) : a + min b (n - a) ≤ n := Nat.le_trans (Nat.add_le_add_left (Nat.min_le_right _ _) _) (Nat.le_of_eq (Nat.add_sub_of_le h))
theorem sub_min {l o h : Nat} (h2 : l < o) (h3 : l ≤ h) : h + 1 - min o (h + 1) ≤ h - l := by
  have m : l + 1 ≤ min o (h + 1) := Nat.le_min.mpr ⟨h2, Nat.succ_le_succ h3⟩
  exact Nat.le_trans (Nat.sub_le_sub_left m _) (Nat.le_of_eq (Nat.succ_sub_succ h l))
noncomputable def gallop' : Bool → Keyed → Array Keyed → Nat → Nat → Nat → StateT SortSt Sem (Option Nat) := sortPriv% PySem.Builtin.gallop
theorem wpS_bey (hC : Ask prog w A s κ r a₀) {st : SortSt} {left : Bool} {key p : Keyed} {arr : Array Keyed} {j : Nat} {Q : Option Bool → SortSt → Prop} (hk : kindOf st = κ) (hkey : key ∈ a₀.toList) (hp : arr[j]? = some p) (hm : p ∈ a₀.toList)
    (h : Q (some (By left (r key) (R r arr j))) st) : wpS (model prog w) A E s (elem' arr j >>= fun x => if left = true then lt' x key else lt' key x >>= fun o => pure (o.map fun b => !b)) Q st := by
  rw [R_of hp] at h
  refine wpS_bind (wpS_elem hp ?_)
  cases left with
  | true => exact wpS_lt hC hk hm hkey h
  | false =>
    refine wpS_bind (wpS_lt hC hk hkey hm (wpS_pure ?_))
    have e : (Option.map (fun b => !b) (some (decide (r key < r p)))) = some (By false (r key) (r p)) := by
      simp [By]
      by_cases q : r p ≤ r key
      · simp [q]
      · simp [q]; (exact Ar.lin 0 2 (.lt (.v 0) (.v 1)) [(.no (.le (.v 1) (.v 0)))] (by kernel_rfl) [] [_, _] rfl rfl q)
    rw [e]; exact h
theorem wpS_gallop (hC : Ask prog w A s κ r a₀) {st : SortSt} {left : Bool} {key : Keyed} {arr : Array Keyed} {base n hint : Nat} {Q : Option Nat → SortSt → Prop} (hk : kindOf st = κ) (hkey : key ∈ a₀.toList)
    (hin : ∀ i, i < n → ∃ p, arr[base + i]? = some p ∧ p ∈ a₀.toList) (hs : Asc r arr base (base + n)) (hh : hint < n)
    (h : ∀ k, k ≤ n → (∀ i, i < k → By left (r key) (R r arr (base + i)) = true) → (∀ i, k ≤ i → i < n → By left (r key) (R r arr (base + i)) = false) → Q (some k) st) :
    wpS (model prog w) A E s (gallop' left key arr base n hint) Q st := by
  unfold gallop'
  have at_ : ∀ i, i < n → ∃ p, arr[base + i]? = some p ∧ p ∈ a₀.toList := hin
  have mono : ∀ i j, i ≤ j → j < n → By left (r key) (R r arr (base + j)) = true → By left (r key) (R r arr (base + i)) = true := fun i j hij hj hb => By.mono hb (hs _ _ (Nat.le_add_right _ _) (Nat.add_le_add_left hij base) (Nat.add_lt_add_left hj base))
  obtain ⟨p0, hp0, hm0⟩ := at_ hint hh
  refine wpS_bind (wpS_bey hC hk hkey hp0 hm0 ?_)
  dsimp -zeta -zetaHave -zetaUnused only
  extract_lets -underBinder -merge +onlyGivenNames jp
  have H : ∀ u la ofs lo hi, (∀ i, i < lo → By left (r key) (R r arr (base + i)) = true) → (∀ i, hi ≤ i → i < n → By left (r key) (R r arr (base + i)) = false) → lo ≤ hi → hi ≤ n → wpS (model prog w) A E s (jp u la ofs lo hi) Q st := by
    clear hp0 hm0 p0
    intro u la ofs lo hi b1 b2 b3 b4
    refine wpS_bind (wpS_mono (wpS_forRange (I := fun x c st'' => st'' = st ∧ ∃ l u, c = (none, l, u) ∧ l ≤ u ∧ u ≤ n ∧ u - l ≤ n - x ∧ (∀ i, i < l → By left (r key) (R r arr (base + i)) = true) ∧ (∀ i, u ≤ i → i < n → By left (r key) (R r arr (base + i)) = false))
    (Q := fun c st'' => st'' = st ∧ ∃ l, c = (none, l, l) ∧ l ≤ n ∧ (∀ i, i < l → By left (r key) (R r arr (base + i)) = true) ∧ (∀ i, l ≤ i → i < n → By left (r key) (R r arr (base + i)) = false)) ?_ ?_ ?_) ?_)
    · rintro x c st'' _ hx ⟨rfl, l, u, rfl, k1, k2, k3, k4, k5⟩
      dsimp only
      by_cases hge : l ≥ u
      · rw [if_pos hge]
        have : l = u := by (exact Ar.lin 0 2 (.eq (.v 0) (.v 1)) [(.le (.v 0) (.v 1)), (.le (.v 1) (.v 0))] (by kernel_rfl) [] [_, _] rfl rfl k1 hge)
        subst this
        exact wpS_pure ⟨rfl, l, rfl, k2, k4, k5⟩
      · rw [if_neg hge]
        obtain ⟨y1, y2, y3⟩ := mid (Nat.not_le.mp hge) k3
        obtain ⟨p, hp, hm⟩ := at_ (l + (u - l) / 2) (Nat.lt_of_lt_of_le y1 k2)
        refine wpS_bind (wpS_bey hC hk hkey hp hm ?_)
        cases hb2 : By left (r key) (R r arr (base + (l + (u - l) / 2))) with
        | true =>
          simp only [if_true]
          exact wpS_pure ⟨rfl, l + (u - l) / 2 + 1, u, rfl, y1, k2, y2, fun i hi => mono i (l + (u - l) / 2) (Nat.le_of_lt_succ hi) (Nat.lt_of_lt_of_le y1 k2) hb2, k5⟩
        | false =>
          simp only [Bool.false_eq_true, if_false]
          refine wpS_pure ⟨rfl, l, l + (u - l) / 2, rfl, Nat.le_add_right _ _, Nat.le_trans (Nat.le_of_lt y1) k2, y3, k4, fun i hi hn => ?_⟩
          cases e : By left (r key) (R r arr (base + i)) with
          | false => rfl
          | true => have := mono (l + (u - l) / 2) i hi hn e; rw [hb2] at this; cases this
    · rintro c st'' ⟨rfl, l, u, rfl, k1, k2, k3, k4, k5⟩
      have : l = u := Nat.le_antisymm k1 (Nat.le_of_sub_eq_zero (Nat.le_zero.mp (Nat.le_trans k3 (Nat.le_of_eq (Nat.sub_self _)))))
      subst this
      exact ⟨rfl, l, rfl, k2, k4, k5⟩
    · exact ⟨rfl, lo, hi, rfl, b3, b4, Nat.le_trans (Nat.sub_le _ _) b4, b1, b2⟩
    · rintro c st'' ⟨rfl, l, rfl, k2, k4, k5⟩
      exact wpS_pure (h l k2 k4 k5)
  clear_value jp
  cases hb : By left (r key) (R r arr (base + hint)) with
  | true =>
    rw [if_pos rfl]
    refine wpS_bind (wpS_mono (wpS_forRange (I := fun x c st' => st' = st ∧ ∃ last ofs, c = (none, last, ofs) ∧ x < ofs ∧ last < ofs ∧ hint + last < n ∧ By left (r key) (R r arr (base + (hint + last))) = true)
      (Q := fun c st' => st' = st ∧ ∃ last ofs, c = (none, last, ofs) ∧ last < ofs ∧ hint + last < n ∧ By left (r key) (R r arr (base + (hint + last))) = true ∧ (n - hint ≤ ofs ∨ (hint + ofs < n ∧ By left (r key) (R r arr (base + (hint + ofs))) = false))) ?_ ?_ ?_) ?_)
    · rintro x c st' _ hx ⟨rfl, last, ofs, rfl, h1, h2, h3, h4⟩
      dsimp only
      by_cases hge : ofs ≥ n - hint
      · rw [if_pos hge]
        exact wpS_pure ⟨rfl, last, ofs, rfl, h2, h3, h4, .inl hge⟩
      · rw [if_neg hge]
        obtain ⟨p, hp, hm⟩ := at_ (hint + ofs) (by (exact Ar.lin 0 3 (.lt (.a (.v 0) (.v 1)) (.v 2)) [(.no (.le (.s (.v 2) (.v 0)) (.v 1)))] (by kernel_rfl) [] [_, _, _] rfl rfl hge))
        refine wpS_bind (wpS_bey hC hk hkey hp hm ?_)
        cases hb2 : By left (r key) (R r arr (base + (hint + ofs))) with
        | true =>
          simp only [Bool.not_true, Bool.false_eq_true, if_false]
          exact wpS_pure ⟨rfl, ofs, 2 * ofs + 1, rfl, by (exact Ar.lin 0 2 (.lt (.a (.v 0) (.k 1)) (.a (.m 2 (.v 1)) (.k 1))) [(.lt (.v 0) (.v 1))] (by kernel_rfl) [] [_, _] rfl rfl h1), by (exact Ar.lin 0 1 (.lt (.v 0) (.a (.m 2 (.v 0)) (.k 1))) [] (by kernel_rfl) [] [_] rfl rfl ), by (exact Ar.lin 0 3 (.lt (.a (.v 0) (.v 1)) (.v 2)) [(.no (.le (.s (.v 2) (.v 0)) (.v 1)))] (by kernel_rfl) [] [_, _, _] rfl rfl hge), hb2⟩
        | false =>
          simp only [Bool.not_false, if_true]
          exact wpS_pure ⟨rfl, last, ofs, rfl, h2, h3, h4, .inr ⟨by (exact Ar.lin 0 3 (.lt (.a (.v 0) (.v 1)) (.v 2)) [(.no (.le (.s (.v 2) (.v 0)) (.v 1)))] (by kernel_rfl) [] [_, _, _] rfl rfl hge), hb2⟩⟩
    · rintro c st' ⟨rfl, last, ofs, rfl, h1, h2, h3, h4⟩
      exact ⟨rfl, last, ofs, rfl, h2, h3, h4, .inl (by lia)⟩
    · exact ⟨rfl, 0, 1, rfl, Nat.zero_lt_one, Nat.zero_lt_one, by (exact Ar.lin 0 2 (.lt (.a (.v 0) (.k 0)) (.v 1)) [(.lt (.v 0) (.v 1))] (by kernel_rfl) [] [_, _] rfl rfl hh), by simpa using hb⟩
    · rintro c st' ⟨rfl, last, ofs, rfl, h2, h3, h4, hor⟩
      dsimp only
      have b1 : ∀ i, i < hint + last + 1 → By left (r key) (R r arr (base + i)) = true := fun i hi => mono i (hint + last) (Nat.le_of_lt_succ hi) h3 h4
      have b4 : hint + min ofs (n - hint) ≤ n := min_top (Nat.le_of_lt hh)
      have b2 : ∀ i, hint + min ofs (n - hint) ≤ i → i < n → By left (r key) (R r arr (base + i)) = false := fun i hi hn => by
        rcases hor with q | ⟨q1, q2⟩
        · rw [Nat.min_eq_right q, Nat.add_sub_of_le (Nat.le_of_lt hh)] at hi
          exact absurd hn (Nat.not_lt.mpr hi)
        · cases e : By left (r key) (R r arr (base + i)) with
          | false => rfl
          | true => have := mono (hint + ofs) i (Nat.le_trans (Nat.le_of_eq (by rw [Nat.min_eq_left (Nat.le_sub_of_add_le' (Nat.le_of_lt q1))])) hi) hn e; rw [q2] at this; cases this
      have b3 : hint + last + 1 ≤ hint + min ofs (n - hint) := Nat.add_le_add_left (k := hint) (Nat.le_min.mpr ⟨h2, Nat.le_sub_of_add_le' h3⟩)
      exact H _ _ _ _ _ b1 b2 b3 b4
  | false =>
    rw [if_neg (by decide)]
    refine wpS_bind (wpS_mono (wpS_forRange (I := fun x c st' => st' = st ∧ ∃ last ofs, c = (none, last, ofs) ∧ x < ofs ∧ last < ofs ∧ last ≤ hint ∧ By left (r key) (R r arr (base + (hint - last))) = false)
      (Q := fun c st' => st' = st ∧ ∃ last ofs, c = (none, last, ofs) ∧ last < ofs ∧ last ≤ hint ∧ By left (r key) (R r arr (base + (hint - last))) = false ∧ (hint + 1 ≤ ofs ∨ (ofs ≤ hint ∧ By left (r key) (R r arr (base + (hint - ofs))) = true))) ?_ ?_ ?_) ?_)
    · rintro x c st' _ hx ⟨rfl, last, ofs, rfl, h1, h2, h3, h4⟩
      dsimp only
      by_cases hge : ofs ≥ hint + 1
      · rw [if_pos hge]
        exact wpS_pure ⟨rfl, last, ofs, rfl, h2, h3, h4, .inl hge⟩
      · rw [if_neg hge]
        obtain ⟨p, hp, hm⟩ := at_ (hint - ofs) (by (exact Ar.lin 0 3 (.lt (.s (.v 0) (.v 1)) (.v 2)) [(.lt (.v 0) (.v 2))] (by kernel_rfl) [] [_, _, _] rfl rfl hh))
        refine wpS_bind (wpS_bey hC hk hkey hp hm ?_)
        cases hb2 : By left (r key) (R r arr (base + (hint - ofs))) with
        | true =>
          simp only [if_true]
          exact wpS_pure ⟨rfl, last, ofs, rfl, h2, h3, h4, .inr ⟨by (exact Ar.lin 0 2 (.le (.v 0) (.v 1)) [(.no (.le (.a (.v 1) (.k 1)) (.v 0)))] (by kernel_rfl) [] [_, _] rfl rfl hge), hb2⟩⟩
        | false =>
          simp only [Bool.false_eq_true, if_false]
          exact wpS_pure ⟨rfl, ofs, 2 * ofs + 1, rfl, by (exact Ar.lin 0 2 (.lt (.a (.v 0) (.k 1)) (.a (.m 2 (.v 1)) (.k 1))) [(.lt (.v 0) (.v 1))] (by kernel_rfl) [] [_, _] rfl rfl h1), by (exact Ar.lin 0 1 (.lt (.v 0) (.a (.m 2 (.v 0)) (.k 1))) [] (by kernel_rfl) [] [_] rfl rfl ), by (exact Ar.lin 0 2 (.le (.v 0) (.v 1)) [(.no (.le (.a (.v 1) (.k 1)) (.v 0)))] (by kernel_rfl) [] [_, _] rfl rfl hge), hb2⟩
    · rintro c st' ⟨rfl, last, ofs, rfl, h1, h2, h3, h4⟩
      exact ⟨rfl, last, ofs, rfl, h2, h3, h4, .inl (by lia)⟩
    · exact ⟨rfl, 0, 1, rfl, Nat.zero_lt_one, Nat.zero_lt_one, by (exact Ar.lin 0 1 (.le (.k 0) (.v 0)) [] (by kernel_rfl) [] [_] rfl rfl ), by simpa using hb⟩
    · rintro c st' ⟨rfl, last, ofs, rfl, h2, h3, h4, hor⟩
      dsimp only
      have b1 : ∀ i, i < hint + 1 - min ofs (hint + 1) → By left (r key) (R r arr (base + i)) = true := fun i hi => by
        rcases hor with q | ⟨q1, q2⟩
        · rw [Nat.min_eq_right q, Nat.sub_self] at hi
          exact absurd hi (Nat.not_lt_zero _)
        · rw [Nat.min_eq_left (Nat.le_succ_of_le q1), Nat.succ_sub q1] at hi
          exact mono i (hint - ofs) (Nat.le_of_lt_succ hi) (by (exact Ar.lin 0 3 (.lt (.s (.v 0) (.v 1)) (.v 2)) [(.lt (.v 0) (.v 2))] (by kernel_rfl) [] [_, _, _] rfl rfl hh)) q2
      have b2 : ∀ i, hint - last ≤ i → i < n → By left (r key) (R r arr (base + i)) = false := fun i hi hn => by
        cases e : By left (r key) (R r arr (base + i)) with
        | false => rfl
        | true => have := mono (hint - last) i hi hn e; rw [h4] at this; cases this
      have b3 : hint + 1 - min ofs (hint + 1) ≤ hint - last := sub_min h2 h3
      have b4 : hint - last ≤ n := Nat.le_trans (Nat.sub_le _ _) (Nat.le_of_lt hh)
      exact H _ _ _ _ _ b1 b2 b3 b4
end Tim
end Mine
end
section
namespace Mine
namespace Tim
open PySem PyProof.Rows
variable {prog : Program} {w : World} {A : Around} {E : Value → Shared → Prop} {s : Shared} {κ : SortKind} {r : Keyed → Nat} {a₀ : Array Keyed}
noncomputable def Srt (r : Keyed → Nat) (l : List Keyed) : Prop := l.Pairwise fun x y => r x ≤ r y
theorem Asc.srt {xs : Array Keyed} (h : Asc r xs 0 xs.size) : Srt r xs.toList := by
  unfold Srt
  rw [List.pairwise_iff_getElem]
  intro i j hi hj hij
  have := h i j (by (exact Ar.lin 0 1 (.le (.k 0) (.v 0)) [] (by kernel_rfl) [] [_] rfl rfl )) (by (exact Ar.lin 0 2 (.le (.v 0) (.v 1)) [(.lt (.v 0) (.v 1))] (by kernel_rfl) [] [_, _] rfl rfl hij)) (by simpa using hj)
  have e1 : R r xs i = r xs.toList[i] := R_of (by simp at hi; simp [hi])
  have e2 : R r xs j = r xs.toList[j] := R_of (by simp at hj; simp [hj])
  rw [← e1, ← e2]; exact this
theorem mem_ext {xs : Array Keyed} {i k : Nat} {x : Keyed} (h : x ∈ ((xs.toList.drop i).take k)) : ∃ j, i ≤ j ∧ j < i + k ∧ j < xs.size ∧ R r xs j = r x := by
  obtain ⟨n, hn, rfl⟩ := List.mem_iff_getElem.mp h
  simp at hn
  have hn := Nat.lt_min.mp hn
  refine ⟨i + n, by (exact Ar.lin 0 2 (.le (.v 0) (.a (.v 0) (.v 1))) [] (by kernel_rfl) [] [_, _] rfl rfl ), Nat.add_lt_add_left hn.1 _, Nat.add_lt_of_lt_sub' hn.2, R_of ?_⟩
  simp [show i + n < xs.size from Nat.add_lt_of_lt_sub' hn.2]
theorem toList_ext (xs : Array Keyed) (i j : Nat) : (xs.extract i j).toList = (xs.toList.drop i).take (j - i) := by
  rw [Array.toList_extract, List.extract_eq_take_drop]
theorem ext_one {xs : Array Keyed} {i : Nat} {x : Keyed} (h : xs[i]? = some x) : xs.extract i (i + 1) = #[x] := by
  have hi : i < xs.size := by
    rcases Nat.lt_or_ge i xs.size with q | q
    · exact q
    · rw [Array.getElem?_eq_none q] at h; cases h
  have hx : xs[i] = x := by rw [Array.getElem?_eq_getElem hi] at h; exact Option.some.inj h
  apply Array.toList_inj.mp
  rw [toList_ext]
  rw [show i + 1 - i = 1 by (exact Ar.lin 0 1 (.eq (.s (.a (.v 0) (.k 1)) (.v 0)) (.k 1)) [] (by kernel_rfl) [] [_] rfl rfl ), List.drop_eq_getElem_cons (by simpa using hi)]
  simp [hx]
structure MI (r : Keyed → Nat) (a b out : Array Keyed) (ia ib : Nat) : Prop where
  perm : (out.toList ++ (a.toList.drop ia ++ b.toList.drop ib)).Perm (a.toList ++ b.toList)
  srt : Srt r out.toList
  leA : ∀ x ∈ out.toList, ∀ i, ia ≤ i → i < a.size → r x ≤ R r a i
  leB : ∀ x ∈ out.toList, ∀ i, ib ≤ i → i < b.size → r x ≤ R r b i
noncomputable def Fin' (r : Keyed → Nat) (a b res : Array Keyed) : Prop := res.toList.Perm (a.toList ++ b.toList) ∧ Srt r res.toList
theorem Srt.ext {xs : Array Keyed} (h : Asc r xs 0 xs.size) (i k : Nat) : Srt r ((xs.toList.drop i).take k) := List.Pairwise.sublist ((List.take_sublist _ _).trans (List.drop_sublist _ _)) h.srt
theorem MI.takeA {a b out : Array Keyed} {ia ib k : Nat} (h : MI r a b out ia ib) (ha : Asc r a 0 a.size) (hk : ∀ i, ia ≤ i → i < ia + k → ∀ j, ib ≤ j → j < b.size → R r a i ≤ R r b j) (hkz : ia + k ≤ a.size) : MI r a b (out ++ a.extract ia (ia + k)) (ia + k) ib := by
  have e : (out ++ a.extract ia (ia + k)).toList = out.toList ++ (a.toList.drop ia).take k := by rw [Array.toList_append, toList_ext, show ia + k - ia = k by (exact Ar.lin 0 2 (.eq (.s (.a (.v 0) (.v 1)) (.v 0)) (.v 1)) [] (by kernel_rfl) [] [_, _] rfl rfl )]
  refine ⟨?_, ?_, fun x hx i h1 h2 => ?_, fun x hx i h1 h2 => ?_⟩
  · rw [e, List.append_assoc, ← List.append_assoc ((a.toList.drop ia).take k), ← List.drop_drop, List.take_append_drop]
    exact h.perm
  · rw [e]
    refine List.pairwise_append.mpr ⟨h.srt, Srt.ext ha _ _, fun x hx y hy => ?_⟩
    obtain ⟨j, j1, j2, j3, j4⟩ := mem_ext (r := r) hy
    rw [← j4]; exact h.leA x hx j j1 j3
  · rw [e] at hx
    rcases List.mem_append.mp hx with hx | hx
    · exact h.leA x hx i (by (exact Ar.lin 0 3 (.le (.v 0) (.v 1)) [(.le (.a (.v 0) (.v 2)) (.v 1))] (by kernel_rfl) [] [_, _, _] rfl rfl h1)) h2
    · obtain ⟨j, j1, j2, j3, j4⟩ := mem_ext (r := r) hx
      rw [← j4]; exact ha j i (by (exact Ar.lin 0 1 (.le (.k 0) (.v 0)) [] (by kernel_rfl) [] [_] rfl rfl )) (by (exact Ar.lin 0 4 (.le (.v 0) (.v 1)) [(.le (.a (.v 2) (.v 3)) (.v 1)), (.lt (.v 0) (.a (.v 2) (.v 3)))] (by kernel_rfl) [] [_, _, _, _] rfl rfl h1 j2)) h2
  · rw [e] at hx
    rcases List.mem_append.mp hx with hx | hx
    · exact h.leB x hx i h1 h2
    · obtain ⟨j, j1, j2, j3, j4⟩ := mem_ext (r := r) hx
      rw [← j4]; exact hk j j1 j2 i h1 h2
theorem MI.takeB {a b out : Array Keyed} {ia ib k : Nat} (h : MI r a b out ia ib) (hb : Asc r b 0 b.size) (hk : ∀ i, ib ≤ i → i < ib + k → ∀ j, ia ≤ j → j < a.size → R r b i ≤ R r a j) (hkz : ib + k ≤ b.size) : MI r a b (out ++ b.extract ib (ib + k)) ia (ib + k) := by
  have e : (out ++ b.extract ib (ib + k)).toList = out.toList ++ (b.toList.drop ib).take k := by rw [Array.toList_append, toList_ext, show ib + k - ib = k by (exact Ar.lin 0 2 (.eq (.s (.a (.v 0) (.v 1)) (.v 0)) (.v 1)) [] (by kernel_rfl) [] [_, _] rfl rfl )]
  refine ⟨?_, ?_, fun x hx i h1 h2 => ?_, fun x hx i h1 h2 => ?_⟩
  · rw [e, List.append_assoc, ← List.drop_drop]
    refine List.Perm.trans (List.Perm.append_left _ ?_) h.perm
    refine List.Perm.trans (List.perm_append_comm_assoc _ _ _) (List.Perm.append_left _ ?_)
    rw [List.take_append_drop]
  · rw [e]
    refine List.pairwise_append.mpr ⟨h.srt, Srt.ext hb _ _, fun x hx y hy => ?_⟩
    obtain ⟨j, j1, j2, j3, j4⟩ := mem_ext (r := r) hy
    rw [← j4]; exact h.leB x hx j j1 j3
  · rw [e] at hx
    rcases List.mem_append.mp hx with hx | hx
    · exact h.leA x hx i h1 h2
    · obtain ⟨j, j1, j2, j3, j4⟩ := mem_ext (r := r) hx
      rw [← j4]; exact hk j j1 j2 i h1 h2
  · rw [e] at hx
    rcases List.mem_append.mp hx with hx | hx
    · exact h.leB x hx i (by (exact Ar.lin 0 3 (.le (.v 0) (.v 1)) [(.le (.a (.v 0) (.v 2)) (.v 1))] (by kernel_rfl) [] [_, _, _] rfl rfl h1)) h2
    · obtain ⟨j, j1, j2, j3, j4⟩ := mem_ext (r := r) hx
      rw [← j4]; exact hb j i (by (exact Ar.lin 0 1 (.le (.k 0) (.v 0)) [] (by kernel_rfl) [] [_] rfl rfl )) (by (exact Ar.lin 0 4 (.le (.v 0) (.v 1)) [(.le (.a (.v 2) (.v 3)) (.v 1)), (.lt (.v 0) (.a (.v 2) (.v 3)))] (by kernel_rfl) [] [_, _, _, _] rfl rfl h1 j2)) h2
theorem push_ext {out : Array Keyed} {xs : Array Keyed} {i : Nat} {x : Keyed} (h : xs[i]? = some x) : out.push x = out ++ xs.extract i (i + 1) := by
  rw [ext_one h, Array.push_eq_append]
theorem lt_of_get {xs : Array Keyed} {i : Nat} {x : Keyed} (h : xs[i]? = some x) : i < xs.size := by
  rcases Nat.lt_or_ge i xs.size with q | q
  · exact q
  · rw [Array.getElem?_eq_none q] at h; cases h
theorem MI.pushA {a b out : Array Keyed} {ia ib : Nat} {x : Keyed} (h : MI r a b out ia ib) (ha : Asc r a 0 a.size) (hx : a[ia]? = some x) (hk : ∀ j, ib ≤ j → j < b.size → r x ≤ R r b j) : MI r a b (out.push x) (ia + 1) ib := by
  rw [push_ext hx]
  refine h.takeA ha (fun i i1 i2 j j1 j2 => ?_) (lt_of_get hx)
  have : i = ia := by (exact Ar.lin 0 2 (.eq (.v 0) (.v 1)) [(.le (.v 1) (.v 0)), (.lt (.v 0) (.a (.v 1) (.k 1)))] (by kernel_rfl) [] [_, _] rfl rfl i1 i2)
  subst this
  rw [R_of hx]; exact hk j j1 j2
theorem MI.pushB {a b out : Array Keyed} {ia ib : Nat} {x : Keyed} (h : MI r a b out ia ib) (hb : Asc r b 0 b.size) (hx : b[ib]? = some x) (hk : ∀ j, ia ≤ j → j < a.size → r x ≤ R r a j) : MI r a b (out.push x) ia (ib + 1) := by
  rw [push_ext hx]
  refine h.takeB hb (fun i i1 i2 j j1 j2 => ?_) (lt_of_get hx)
  have : i = ib := by (exact Ar.lin 0 2 (.eq (.v 0) (.v 1)) [(.le (.v 1) (.v 0)), (.lt (.v 0) (.a (.v 1) (.k 1)))] (by kernel_rfl) [] [_, _] rfl rfl i1 i2)
  subst this
  rw [R_of hx]; exact hk j j1 j2
theorem extract_end (xs : Array Keyed) (i : Nat) : (xs.extract i).toList = xs.toList.drop i := by
  rw [toList_ext, List.take_of_length_le (by simp)]
theorem MI.done {a b out : Array Keyed} {ia ib : Nat} (h : MI r a b out ia ib) (ha : Asc r a 0 a.size) (hb : Asc r b 0 b.size) (hi : ib = b.size ∨ ia = a.size) : Fin' r a b (out ++ a.extract ia ++ b.extract ib) := by
  have e : (out ++ a.extract ia ++ b.extract ib).toList = out.toList ++ (a.toList.drop ia ++ b.toList.drop ib) := by
    rw [Array.toList_append, Array.toList_append, extract_end, extract_end, List.append_assoc]
  refine ⟨by rw [e]; exact h.perm, ?_⟩
  rw [e]
  have hm : ∀ {xs : Array Keyed} {i : Nat} {y : Keyed}, y ∈ xs.toList.drop i → ∃ j, i ≤ j ∧ j < xs.size ∧ R r xs j = r y := fun {xs i y} hy => by
    have hy' : y ∈ (xs.toList.drop i).take xs.size := by rw [List.take_of_length_le (by simp)]; exact hy
    obtain ⟨j, j1, _, j3, j4⟩ := mem_ext (r := r) hy'
    exact ⟨j, j1, j3, j4⟩
  refine List.pairwise_append.mpr ⟨h.srt, ?_, fun x hx y hy => ?_⟩
  · rcases hi with q | q
    · rw [List.drop_eq_nil_of_le (as := b.toList) (by simp; (exact Ar.lin 0 2 (.le (.v 0) (.v 1)) [(.eq (.v 1) (.v 0))] (by kernel_rfl) [] [_, _] rfl rfl q)), List.append_nil]; exact List.Pairwise.sublist (List.drop_sublist _ _) ha.srt
    · rw [List.drop_eq_nil_of_le (as := a.toList) (by simp; (exact Ar.lin 0 2 (.le (.v 0) (.v 1)) [(.eq (.v 1) (.v 0))] (by kernel_rfl) [] [_, _] rfl rfl q)), List.nil_append]; exact List.Pairwise.sublist (List.drop_sublist _ _) hb.srt
  · rcases List.mem_append.mp hy with hy | hy
    · obtain ⟨j, j1, j3, j4⟩ := hm hy; rw [← j4]; exact h.leA x hx j j1 j3
    · obtain ⟨j, j1, j3, j4⟩ := hm hy; rw [← j4]; exact h.leB x hx j j1 j3
theorem MI.last {a b out : Array Keyed} {ia ib : Nat} (h : MI r a b out ia ib) (ha : Asc r a 0 a.size) (hb : Asc r b 0 b.size) (hi : ia + 1 = a.size) (hl : ∀ j, j < b.size → R r b j ≤ R r a (a.size - 1)) : Fin' r a b (out ++ b.extract ib ++ a.extract ia) := by
  have e : (out ++ b.extract ib ++ a.extract ia).toList = out.toList ++ (b.toList.drop ib ++ a.toList.drop ia) := by
    rw [Array.toList_append, Array.toList_append, extract_end, extract_end, List.append_assoc]
  have hm : ∀ {xs : Array Keyed} {i : Nat} {y : Keyed}, y ∈ xs.toList.drop i → ∃ j, i ≤ j ∧ j < xs.size ∧ R r xs j = r y := fun {xs i y} hy => by
    have hy' : y ∈ (xs.toList.drop i).take xs.size := by rw [List.take_of_length_le (by simp)]; exact hy
    obtain ⟨j, j1, _, j3, j4⟩ := mem_ext (r := r) hy'
    exact ⟨j, j1, j3, j4⟩
  refine ⟨by rw [e]; exact (List.Perm.append_left _ List.perm_append_comm).trans h.perm, ?_⟩
  rw [e]
  refine List.pairwise_append.mpr ⟨h.srt, ?_, fun x hx y hy => ?_⟩
  · refine List.pairwise_append.mpr ⟨List.Pairwise.sublist (List.drop_sublist _ _) hb.srt, List.Pairwise.sublist (List.drop_sublist _ _) ha.srt, fun x hx y hy => ?_⟩
    obtain ⟨j, j1, j3, j4⟩ := hm hx
    obtain ⟨k, k1, k3, k4⟩ := hm hy
    have : k = a.size - 1 := by (exact Ar.lin 0 3 (.eq (.v 0) (.s (.v 1) (.k 1))) [(.eq (.a (.v 2) (.k 1)) (.v 1)), (.le (.v 2) (.v 0)), (.lt (.v 0) (.v 1))] (by kernel_rfl) [] [_, _, _] rfl rfl hi k1 k3)
    rw [← j4, ← k4, this]; exact hl j j3
  · rcases List.mem_append.mp hy with hy | hy
    · obtain ⟨j, j1, j3, j4⟩ := hm hy; rw [← j4]; exact h.leB x hx j j1 j3
    · obtain ⟨j, j1, j3, j4⟩ := hm hy; rw [← j4]; exact h.leA x hx j j1 j3
structure MJ (r : Keyed → Nat) (a b out : Array Keyed) (na nb : Nat) : Prop where
  perm : ((a.toList.take na ++ b.toList.take nb) ++ out.toList.reverse).Perm (a.toList ++ b.toList)
  srt : Srt r out.toList.reverse
  leA : ∀ x ∈ out.toList, ∀ i, i < na → i < a.size → R r a i ≤ r x
  leB : ∀ x ∈ out.toList, ∀ i, i < nb → i < b.size → R r b i ≤ r x
theorem take_split {xs : List Keyed} {k n : Nat} (h : k ≤ n) : xs.take n = xs.take k ++ (xs.drop k).take (n - k) := by
  have e := List.take_append_drop k (xs.take n)
  rw [List.take_take, List.drop_take, show min k n = k by lia] at e
  exact e.symm
theorem MJ.takeA {a b out : Array Keyed} {na nb k : Nat} (h : MJ r a b out na nb) (ha : Asc r a 0 a.size) (hk : ∀ i, k ≤ i → i < na → ∀ j, j < nb → j < b.size → R r b j ≤ R r a i) (hkn : k ≤ na) (hn : na ≤ a.size) : MJ r a b (out ++ (a.extract k na).reverse) k nb := by
  have e : (out ++ (a.extract k na).reverse).toList = out.toList ++ ((a.toList.drop k).take (na - k)).reverse := by rw [Array.toList_append, Array.toList_reverse, toList_ext]
  have er : (out ++ (a.extract k na).reverse).toList.reverse = (a.toList.drop k).take (na - k) ++ out.toList.reverse := by rw [e]; simp
  refine ⟨?_, ?_, fun x hx i h1 h2 => ?_, fun x hx i h1 h2 => ?_⟩
  · rw [er]
    refine List.Perm.trans ?_ h.perm
    rw [take_split hkn (xs := a.toList), ← List.append_assoc]
    refine List.Perm.append_right _ ?_
    rw [List.append_assoc, List.append_assoc]
    exact List.Perm.append_left _ List.perm_append_comm
  · rw [er]
    refine List.pairwise_append.mpr ⟨Srt.ext ha _ _, h.srt, fun x hx y hy => ?_⟩
    obtain ⟨j, j1, j2, j3, j4⟩ := mem_ext (r := r) hx
    rw [← j4]; exact h.leA y (List.mem_reverse.mp hy) j (by (exact Ar.lin 0 3 (.lt (.v 0) (.v 1)) [(.le (.v 2) (.v 1)), (.lt (.v 0) (.a (.v 2) (.s (.v 1) (.v 2))))] (by kernel_rfl) [] [_, _, _] rfl rfl hkn j2)) j3
  · rw [e] at hx
    rcases List.mem_append.mp hx with hx | hx
    · exact h.leA x hx i (by (exact Ar.lin 0 3 (.lt (.v 0) (.v 1)) [(.le (.v 2) (.v 1)), (.lt (.v 0) (.v 2))] (by kernel_rfl) [] [_, _, _] rfl rfl hkn h1)) h2
    · obtain ⟨j, j1, j2, j3, j4⟩ := mem_ext (r := r) (List.mem_reverse.mp hx)
      rw [← j4]; exact ha i j (by (exact Ar.lin 0 1 (.le (.k 0) (.v 0)) [] (by kernel_rfl) [] [_] rfl rfl )) (by (exact Ar.lin 0 3 (.le (.v 0) (.v 1)) [(.lt (.v 0) (.v 2)), (.le (.v 2) (.v 1))] (by kernel_rfl) [] [_, _, _] rfl rfl h1 j1)) j3
  · rw [e] at hx
    rcases List.mem_append.mp hx with hx | hx
    · exact h.leB x hx i h1 h2
    · obtain ⟨j, j1, j2, j3, j4⟩ := mem_ext (r := r) (List.mem_reverse.mp hx)
      rw [← j4]; exact hk j j1 (by (exact Ar.lin 0 3 (.lt (.v 0) (.v 1)) [(.le (.v 2) (.v 1)), (.lt (.v 0) (.a (.v 2) (.s (.v 1) (.v 2))))] (by kernel_rfl) [] [_, _, _] rfl rfl hkn j2)) i h1 h2
theorem MJ.takeB {a b out : Array Keyed} {na nb k : Nat} (h : MJ r a b out na nb) (hb : Asc r b 0 b.size) (hk : ∀ i, k ≤ i → i < nb → ∀ j, j < na → j < a.size → R r a j ≤ R r b i) (hkn : k ≤ nb) (hn : nb ≤ b.size) : MJ r a b (out ++ (b.extract k nb).reverse) na k := by
  have e : (out ++ (b.extract k nb).reverse).toList = out.toList ++ ((b.toList.drop k).take (nb - k)).reverse := by rw [Array.toList_append, Array.toList_reverse, toList_ext]
  have er : (out ++ (b.extract k nb).reverse).toList.reverse = (b.toList.drop k).take (nb - k) ++ out.toList.reverse := by rw [e]; simp
  refine ⟨?_, ?_, fun x hx i h1 h2 => ?_, fun x hx i h1 h2 => ?_⟩
  · rw [er]
    refine List.Perm.trans ?_ h.perm
    rw [take_split hkn (xs := b.toList), ← List.append_assoc, ← List.append_assoc]
  · rw [er]
    refine List.pairwise_append.mpr ⟨Srt.ext hb _ _, h.srt, fun x hx y hy => ?_⟩
    obtain ⟨j, j1, j2, j3, j4⟩ := mem_ext (r := r) hx
    rw [← j4]; exact h.leB y (List.mem_reverse.mp hy) j (by (exact Ar.lin 0 3 (.lt (.v 0) (.v 1)) [(.le (.v 2) (.v 1)), (.lt (.v 0) (.a (.v 2) (.s (.v 1) (.v 2))))] (by kernel_rfl) [] [_, _, _] rfl rfl hkn j2)) j3
  · rw [e] at hx
    rcases List.mem_append.mp hx with hx | hx
    · exact h.leA x hx i h1 h2
    · obtain ⟨j, j1, j2, j3, j4⟩ := mem_ext (r := r) (List.mem_reverse.mp hx)
      rw [← j4]; exact hk j j1 (by (exact Ar.lin 0 3 (.lt (.v 0) (.v 1)) [(.le (.v 2) (.v 1)), (.lt (.v 0) (.a (.v 2) (.s (.v 1) (.v 2))))] (by kernel_rfl) [] [_, _, _] rfl rfl hkn j2)) i h1 h2
  · rw [e] at hx
    rcases List.mem_append.mp hx with hx | hx
    · exact h.leB x hx i (by (exact Ar.lin 0 3 (.lt (.v 0) (.v 1)) [(.le (.v 2) (.v 1)), (.lt (.v 0) (.v 2))] (by kernel_rfl) [] [_, _, _] rfl rfl hkn h1)) h2
    · obtain ⟨j, j1, j2, j3, j4⟩ := mem_ext (r := r) (List.mem_reverse.mp hx)
      rw [← j4]; exact hb i j (by (exact Ar.lin 0 1 (.le (.k 0) (.v 0)) [] (by kernel_rfl) [] [_] rfl rfl )) (by (exact Ar.lin 0 3 (.le (.v 0) (.v 1)) [(.lt (.v 0) (.v 2)), (.le (.v 2) (.v 1))] (by kernel_rfl) [] [_, _, _] rfl rfl h1 j1)) j3
theorem push_rev {out xs : Array Keyed} {i : Nat} {x : Keyed} (h : xs[i]? = some x) : out.push x = out ++ (xs.extract i (i + 1)).reverse := by
  rw [ext_one h, Array.push_eq_append]; simp
theorem MJ.pushA {a b out : Array Keyed} {na nb : Nat} {x : Keyed} (h : MJ r a b out na nb) (ha : Asc r a 0 a.size) (h1 : 1 ≤ na) (hn : na ≤ a.size) (hx : a[na - 1]? = some x) (hk : ∀ j, j < nb → j < b.size → R r b j ≤ r x) : MJ r a b (out.push x) (na - 1) nb := by
  rw [push_rev hx, show na - 1 + 1 = na by (exact Ar.lin 0 1 (.eq (.a (.s (.v 0) (.k 1)) (.k 1)) (.v 0)) [(.le (.k 1) (.v 0))] (by kernel_rfl) [] [_] rfl rfl h1)]
  refine h.takeA ha (fun i i1 i2 j j1 j2 => ?_) (by (exact Ar.lin 0 1 (.le (.s (.v 0) (.k 1)) (.v 0)) [] (by kernel_rfl) [] [_] rfl rfl )) hn
  have : i = na - 1 := by (exact Ar.lin 0 2 (.eq (.v 0) (.s (.v 1) (.k 1))) [(.le (.s (.v 1) (.k 1)) (.v 0)), (.lt (.v 0) (.v 1))] (by kernel_rfl) [] [_, _] rfl rfl i1 i2)
  subst this
  rw [R_of hx]; exact hk j j1 j2
theorem MJ.pushB {a b out : Array Keyed} {na nb : Nat} {x : Keyed} (h : MJ r a b out na nb) (hb : Asc r b 0 b.size) (h1 : 1 ≤ nb) (hn : nb ≤ b.size) (hx : b[nb - 1]? = some x) (hk : ∀ j, j < na → j < a.size → R r a j ≤ r x) : MJ r a b (out.push x) na (nb - 1) := by
  rw [push_rev hx, show nb - 1 + 1 = nb by (exact Ar.lin 0 1 (.eq (.a (.s (.v 0) (.k 1)) (.k 1)) (.v 0)) [(.le (.k 1) (.v 0))] (by kernel_rfl) [] [_] rfl rfl h1)]
  refine h.takeB hb (fun i i1 i2 j j1 j2 => ?_) (by (exact Ar.lin 0 1 (.le (.s (.v 0) (.k 1)) (.v 0)) [] (by kernel_rfl) [] [_] rfl rfl )) hn
  have : i = nb - 1 := by (exact Ar.lin 0 2 (.eq (.v 0) (.s (.v 1) (.k 1))) [(.le (.s (.v 1) (.k 1)) (.v 0)), (.lt (.v 0) (.v 1))] (by kernel_rfl) [] [_, _] rfl rfl i1 i2)
  subst this
  rw [R_of hx]; exact hk j j1 j2
theorem mem_tk {xs : Array Keyed} {k : Nat} {x : Keyed} (h : x ∈ xs.toList.take k) : ∃ j, j < k ∧ j < xs.size ∧ R r xs j = r x := by
  have : x ∈ (xs.toList.drop 0).take k := h
  obtain ⟨j, _, j2, j3, j4⟩ := mem_ext (r := r) this
  exact ⟨j, by (exact Ar.lin 0 2 (.lt (.v 0) (.v 1)) [(.lt (.v 0) (.a (.k 0) (.v 1)))] (by kernel_rfl) [] [_, _] rfl rfl j2), j3, j4⟩
theorem MJ.done {a b out : Array Keyed} {na nb : Nat} (h : MJ r a b out na nb) (ha : Asc r a 0 a.size) (hb : Asc r b 0 b.size) (hi : na = 0 ∨ nb = 0) : Fin' r a b (a.extract 0 na ++ b.extract 0 nb ++ out.reverse) := by
  have e : (a.extract 0 na ++ b.extract 0 nb ++ out.reverse).toList = (a.toList.take na ++ b.toList.take nb) ++ out.toList.reverse := by
    rw [Array.toList_append, Array.toList_append, toList_ext, toList_ext, Array.toList_reverse]; rfl
  refine ⟨by rw [e]; exact h.perm, ?_⟩
  rw [e]
  refine List.pairwise_append.mpr ⟨?_, h.srt, fun x hx y hy => ?_⟩
  · rcases hi with q | q
    · rw [q, List.take_zero, List.nil_append]; exact List.Pairwise.sublist (List.take_sublist _ _) hb.srt
    · rw [q, List.take_zero, List.append_nil]; exact List.Pairwise.sublist (List.take_sublist _ _) ha.srt
  · rcases List.mem_append.mp hx with hx | hx
    · obtain ⟨j, j1, j3, j4⟩ := mem_tk (r := r) hx; rw [← j4]; exact h.leA y (List.mem_reverse.mp hy) j j1 j3
    · obtain ⟨j, j1, j3, j4⟩ := mem_tk (r := r) hx; rw [← j4]; exact h.leB y (List.mem_reverse.mp hy) j j1 j3
theorem MJ.first {a b out : Array Keyed} {na nb : Nat} (h : MJ r a b out na nb) (ha : Asc r a 0 a.size) (hb : Asc r b 0 b.size) (hi : nb = 1) (hl : ∀ j, j < a.size → R r b 0 ≤ R r a j) : Fin' r a b (b.extract 0 nb ++ a.extract 0 na ++ out.reverse) := by
  have e : (b.extract 0 nb ++ a.extract 0 na ++ out.reverse).toList = (b.toList.take nb ++ a.toList.take na) ++ out.toList.reverse := by
    rw [Array.toList_append, Array.toList_append, toList_ext, toList_ext, Array.toList_reverse]; rfl
  refine ⟨by rw [e]; exact (List.Perm.append_right _ List.perm_append_comm).trans h.perm, ?_⟩
  rw [e]
  refine List.pairwise_append.mpr ⟨?_, h.srt, fun x hx y hy => ?_⟩
  · refine List.pairwise_append.mpr ⟨List.Pairwise.sublist (List.take_sublist _ _) hb.srt, List.Pairwise.sublist (List.take_sublist _ _) ha.srt, fun x hx y hy => ?_⟩
    obtain ⟨j, j1, j3, j4⟩ := mem_tk (r := r) hx
    obtain ⟨k, k1, k3, k4⟩ := mem_tk (r := r) hy
    have : j = 0 := by (exact Ar.lin 0 2 (.eq (.v 0) (.k 0)) [(.eq (.v 1) (.k 1)), (.lt (.v 0) (.v 1))] (by kernel_rfl) [] [_, _] rfl rfl hi j1)
    rw [← j4, ← k4, this]; exact hl k k3
  · rcases List.mem_append.mp hx with hx | hx
    · obtain ⟨j, j1, j3, j4⟩ := mem_tk (r := r) hx; rw [← j4]; exact h.leB y (List.mem_reverse.mp hy) j j1 j3
    · obtain ⟨j, j1, j3, j4⟩ := mem_tk (r := r) hx; rw [← j4]; exact h.leA y (List.mem_reverse.mp hy) j j1 j3
end Tim
end Mine
end
section
set_option maxRecDepth 4000
namespace Mine
namespace Tim
open PySem PyProof.Rows
variable {prog : Program} {w : World} {A : Around} {E : Value → Shared → Prop} {s : Shared} {κ : SortKind} {r : Keyed → Nat} {a₀ : Array Keyed}
structure Gs (st st' : SortSt) : Prop where
  kind : kindOf st' = kindOf st
  arr : arrOf st' = arrOf st
  pend : pendingOf st' = pendingOf st
  failed : failedOf st' = failedOf st
theorem Gs.refl {st : SortSt} : Gs st st := ⟨rfl, rfl, rfl, rfl⟩
theorem Gs.gal {st st' : SortSt} (h : Gs st st') (g : Nat) : Gs st (SortSt.mk' (kindOf st') (arrOf st') (pendingOf st') g (failedOf st')) := ⟨h.kind, h.arr, h.pend, h.failed⟩
theorem get_of {xs : Array Keyed} (h : ∀ x ∈ xs.toList, x ∈ a₀.toList) {i : Nat} (hi : i < xs.size) : ∃ x, xs[i]? = some x ∧ x ∈ a₀.toList ∧ R r xs i = r x := by
  have e : xs[i]? = some xs[i] := getElem?_pos xs i hi
  exact ⟨_, e, h _ (by simp), R_of e⟩
theorem wpS_gal (hC : Ask prog w A s κ r a₀) {st : SortSt} {left : Bool} {key : Keyed} {arr : Array Keyed} {base n hint : Nat} {Q : Option Nat → SortSt → Prop} (hk : kindOf st = κ) (hkey : key ∈ a₀.toList) (hmem : ∀ x ∈ arr.toList, x ∈ a₀.toList)
    (hs : Asc r arr 0 arr.size) (hn : base + n ≤ arr.size) (hh : hint < n)
    (h : ∀ k, k ≤ n → (∀ i, base ≤ i → i < base + k → By left (r key) (R r arr i) = true) → (∀ i, base + k ≤ i → i < base + n → By left (r key) (R r arr i) = false) → Q (some k) st) :
    wpS (model prog w) A E s (gallop' left key arr base n hint) Q st := by
  refine wpS_gallop hC hk hkey (fun i hi => ?_) (fun i j i1 i2 i3 => hs i j (Nat.zero_le _) i2 (Nat.lt_of_lt_of_le i3 hn)) hh fun k hk1 hk2 hk3 => h k hk1 (fun i i1 i2 => ?_) fun i i1 i2 => ?_
  · obtain ⟨x, q1, q2, _⟩ := get_of (r := r) hmem (i := base + i) (by (exact Ar.lin 0 4 (.lt (.a (.v 0) (.v 1)) (.v 2)) [(.le (.a (.v 0) (.v 3)) (.v 2)), (.lt (.v 1) (.v 3))] (by kernel_rfl) [] [_, _, _, _] rfl rfl hn hi))
    exact ⟨x, q1, q2⟩
  · have := hk2 (i - base) (by (exact Ar.lin 0 3 (.lt (.s (.v 0) (.v 1)) (.v 2)) [(.le (.v 1) (.v 0)), (.lt (.v 0) (.a (.v 1) (.v 2)))] (by kernel_rfl) [] [_, _, _] rfl rfl i1 i2))
    rwa [show base + (i - base) = i by (exact Ar.lin 0 2 (.eq (.a (.v 0) (.s (.v 1) (.v 0))) (.v 1)) [(.le (.v 0) (.v 1))] (by kernel_rfl) [] [_, _] rfl rfl i1)] at this
  · have := hk3 (i - base) (by (exact Ar.lin 0 3 (.le (.v 0) (.s (.v 1) (.v 2))) [(.le (.a (.v 2) (.v 0)) (.v 1))] (by kernel_rfl) [] [_, _, _] rfl rfl i1)) (by (exact Ar.lin 0 4 (.lt (.s (.v 0) (.v 1)) (.v 2)) [(.lt (.v 3) (.v 2)), (.lt (.v 0) (.a (.v 1) (.v 2)))] (by kernel_rfl) [] [_, _, _, _] rfl rfl hh i2))
    rwa [show base + (i - base) = i by (exact Ar.lin 0 3 (.eq (.a (.v 0) (.s (.v 1) (.v 0))) (.v 1)) [(.le (.a (.v 0) (.v 2)) (.v 1))] (by kernel_rfl) [] [_, _, _] rfl rfl i1)] at this
theorem By.f {x y : Nat} : By false x y = true ↔ y ≤ x := by simp [By]
theorem By.f' {x y : Nat} : By false x y = false ↔ x < y := by simp [By]
theorem By.t {x y : Nat} : By true x y = true ↔ y < x := by simp [By]
theorem By.t' {x y : Nat} : By true x y = false ↔ x ≤ y := by simp [By]
noncomputable def mergeLo' : Array Keyed → Array Keyed → StateT SortSt Sem (Array Keyed) := sortPriv% PySem.Builtin.mergeLo
noncomputable def mergeHi' : Array Keyed → Array Keyed → StateT SortSt Sem (Array Keyed) := sortPriv% PySem.Builtin.mergeHi
structure Two (r : Keyed → Nat) (a₀ a b : Array Keyed) : Prop where
  ma : ∀ x ∈ a.toList, x ∈ a₀.toList
  mb : ∀ x ∈ b.toList, x ∈ a₀.toList
  a0 : 0 < a.size
  b0 : 0 < b.size
  ha : Asc r a 0 a.size
  hb : Asc r b 0 b.size
  first : ∀ i, i < a.size → R r b 0 ≤ R r a i
  last : ∀ j, j < b.size → R r b j ≤ R r a (a.size - 1)
structure LoI (r : Keyed → Nat) (a b : Array Keyed) (p : Nat) (out : Array Keyed) (ia ib : Nat) : Prop where
  m : MI r a b out ia ib
  i1 : ia + 1 < a.size
  i2 : ib < b.size
  pr : p ≤ ia + ib
theorem LoI.le {a b out : Array Keyed} {p q ia ib : Nat} (h : LoI r a b p out ia ib) (hq : q ≤ p) : LoI r a b q out ia ib := ⟨h.m, h.i1, h.i2, Nat.le_trans hq h.pr⟩
theorem LoI.pushB {a b out : Array Keyed} {p ia ib : Nat} {x : Keyed} (T : Two r a₀ a b) (h : LoI r a b p out ia ib) (hx : b[ib]? = some x) (hk : ∀ j, ia ≤ j → j < a.size → r x ≤ R r a j) :
    (ib + 1 = b.size → Fin' r a b (out.push x ++ a.extract ia ++ b.extract (ib + 1))) ∧ (ib + 1 ≠ b.size → LoI r a b (p + 1) (out.push x) ia (ib + 1)) := by
  have M := h.m.pushB T.hb hx hk
  have := h.i2
  have := h.pr
  exact ⟨fun e => M.done T.ha T.hb (.inl e), fun e => ⟨M, h.i1, by lia, by (exact Ar.lin 0 3 (.le (.a (.v 0) (.k 1)) (.a (.v 1) (.a (.v 2) (.k 1)))) [(.le (.v 0) (.a (.v 1) (.v 2)))] (by kernel_rfl) [] [_, _, _] rfl rfl this)⟩⟩
theorem LoI.pushA {a b out : Array Keyed} {p ia ib : Nat} {x : Keyed} (T : Two r a₀ a b) (h : LoI r a b p out ia ib) (hx : a[ia]? = some x) (hk : ∀ j, ib ≤ j → j < b.size → r x ≤ R r b j) :
    (ia + 1 + 1 = a.size → Fin' r a b (out.push x ++ b.extract ib ++ a.extract (ia + 1))) ∧ (ia + 1 + 1 ≠ a.size → LoI r a b (p + 1) (out.push x) (ia + 1) ib) := by
  have M := h.m.pushA T.ha hx hk
  have := h.i1
  have := h.pr
  exact ⟨fun e => M.last T.ha T.hb e T.last, fun e => ⟨M, by lia, h.i2, by (exact Ar.lin 0 3 (.le (.a (.v 0) (.k 1)) (.a (.a (.v 1) (.k 1)) (.v 2))) [(.le (.v 0) (.a (.v 1) (.v 2)))] (by kernel_rfl) [] [_, _, _] rfl rfl this)⟩⟩
theorem LoI.takeA {a b out : Array Keyed} {p ia ib k : Nat} {y : Keyed} (T : Two r a₀ a b) (h : LoI r a b p out ia ib) (hy : R r b ib = r y) (hk : ∀ i, ia ≤ i → i < ia + k → R r a i ≤ r y) (hz : ia + k ≤ a.size) :
    (ia + k + 1 = a.size → Fin' r a b (out ++ a.extract ia (ia + k) ++ b.extract ib ++ a.extract (ia + k))) ∧ (ia + k = a.size → Fin' r a b (out ++ a.extract ia (ia + k) ++ a.extract (ia + k) ++ b.extract ib)) ∧
      (ia + k + 1 ≠ a.size → ia + k ≠ a.size → LoI r a b p (out ++ a.extract ia (ia + k)) (ia + k) ib) := by
  have M := h.m.takeA (k := k) T.ha (fun i i1 i2 j j1 j2 => Nat.le_trans (hk i i1 i2) (hy ▸ T.hb ib j (Nat.zero_le _) j1 j2)) hz
  have := h.pr
  exact ⟨fun e => M.last T.ha T.hb e T.last, fun e => M.done T.ha T.hb (.inr e), fun e1 e2 => ⟨M, by (exact Ar.lin 0 3 (.lt (.a (.a (.v 0) (.v 1)) (.k 1)) (.v 2)) [(.le (.a (.v 0) (.v 1)) (.v 2)), (.no (.eq (.a (.a (.v 0) (.v 1)) (.k 1)) (.v 2))), (.no (.eq (.a (.v 0) (.v 1)) (.v 2)))] (by kernel_rfl) [] [_, _, _] rfl rfl hz e1 e2), h.i2, by (exact Ar.lin 0 4 (.le (.v 0) (.a (.a (.v 1) (.v 2)) (.v 3))) [(.le (.v 0) (.a (.v 1) (.v 3)))] (by kernel_rfl) [] [_, _, _, _] rfl rfl this)⟩⟩
theorem LoI.takeB {a b out : Array Keyed} {p ia ib k : Nat} {z : Keyed} (T : Two r a₀ a b) (h : LoI r a b p out ia ib) (hz : R r a ia = r z) (hk : ∀ i, ib ≤ i → i < ib + k → R r b i < r z) (hzz : ib + k ≤ b.size) :
    (ib + k = b.size → Fin' r a b (out ++ b.extract ib (ib + k) ++ a.extract ia ++ b.extract (ib + k))) ∧ (ib + k ≠ b.size → LoI r a b p (out ++ b.extract ib (ib + k)) ia (ib + k)) := by
  have M := h.m.takeB (k := k) T.hb (fun i i1 i2 j j1 j2 => Nat.le_trans (Nat.le_of_lt (hk i i1 i2)) (hz ▸ T.ha ia j (Nat.zero_le _) j1 j2)) hzz
  have := h.pr
  exact ⟨fun e => M.done T.ha T.hb (.inl e), fun e => ⟨M, h.i1, by (exact Ar.lin 0 3 (.lt (.a (.v 0) (.v 1)) (.v 2)) [(.le (.a (.v 0) (.v 1)) (.v 2)), (.no (.eq (.a (.v 0) (.v 1)) (.v 2)))] (by kernel_rfl) [] [_, _, _] rfl rfl hzz e), by (exact Ar.lin 0 4 (.le (.v 0) (.a (.v 1) (.a (.v 2) (.v 3)))) [(.le (.v 0) (.a (.v 1) (.v 2)))] (by kernel_rfl) [] [_, _, _, _] rfl rfl this)⟩⟩
noncomputable def LoL (r : Keyed → Nat) (a b : Array Keyed) (st : SortSt) (p : Nat) (out : Array Keyed) (ia ib : Nat) (st' : SortSt) : Prop := Gs st st' ∧ LoI r a b p out ia ib
noncomputable def LoE (r : Keyed → Nat) (a b : Array Keyed) (st : SortSt) (c : Option (Array Keyed)) (st' : SortSt) : Prop := ∃ res, c = some res ∧ Fin' r a b res ∧ Gs st st'
noncomputable def LoQ {γ : Type} (r : Keyed → Nat) (a b : Array Keyed) (st : SortSt) (p : Nat) : ForInStep (Option (Array Keyed) × Array Keyed × Nat × Nat × γ) → SortSt → Prop
  | .done c', st' => LoE r a b st c'.1 st' ∨ (c'.1 = none ∧ LoL r a b st p c'.2.1 c'.2.2.1 c'.2.2.2.1 st')
  | .yield c', st' => c'.1 = none ∧ LoL r a b st p c'.2.1 c'.2.2.1 c'.2.2.2.1 st'
theorem wpS_mergeLo (hC : Ask prog w A s κ r a₀) {st : SortSt} {a b : Array Keyed} {Q : Array Keyed → SortSt → Prop} (hk : kindOf st = κ) (T : Two r a₀ a b) (h : ∀ res st', Gs st st' → Fin' r a b res → Q res st') :
    wpS (model prog w) A E s (mergeLo' a b) Q st := by
  have getA : ∀ {i}, i < a.size → ∃ x, a[i]? = some x ∧ x ∈ a₀.toList ∧ R r a i = r x := get_of T.ma
  have getB : ∀ {i}, i < b.size → ∃ x, b[i]? = some x ∧ x ∈ a₀.toList ∧ R r b i = r x := get_of T.mb
  unfold mergeLo'
  refine wpS_bind (wpS_lift (wpAny_rule ⟨rfl, ?_⟩))
  extract_lets -underBinder -merge +onlyGivenNames total done lastOfA
  obtain ⟨y0, hy0, my0, ry0⟩ := getB T.b0
  refine wpS_bind (wpS_elem hy0 ?_)
  extract_lets -underBinder -merge +onlyGivenNames out ia ib
  have M0 : MI r a b #[y0] 0 1 := MI.pushB (out := #[]) ⟨by simp, by simp [Srt], by simp, by simp⟩ T.hb hy0 (fun j z1 j2 => by rw [← ry0]; exact T.first j j2)
  by_cases e1 : b.size = 1
  · rw [if_pos (show (ib == b.size) = true by rw [e1]; rfl)]
    exact wpS_pure (h _ _ .refl (M0.done T.ha T.hb (.inl e1.symm)))
  rw [if_neg (show ¬ (ib == b.size) = true from fun q => e1 (beq_iff_eq.mp q).symm)]
  by_cases e2 : a.size = 1
  · rw [if_pos (show (ia + 1 == a.size) = true by rw [e2]; rfl)]
    exact wpS_pure (h _ _ .refl (M0.last T.ha T.hb e2.symm T.last))
  rw [if_neg (show ¬ (ia + 1 == a.size) = true from fun q => e2 (beq_iff_eq.mp q).symm)]
  refine wpS_bind (wpS_get ?_)
  extract_lets -underBinder -merge +onlyGivenNames mg
  have htot : total = a.size + b.size := rfl
  refine wpS_bind (wpS_mono (wpS_forRange (I := fun x c st' => c.1 = none ∧ LoL r a b st (x + 1) c.2.1 c.2.2.1 c.2.2.2.1 st') (Q := fun c st' => LoE r a b st c.1 st') ?_ ?_ ?_) ?_)
  · rintro x c st' _ hx ⟨_, hG, I⟩
    extract_lets -underBinder -merge +onlyGivenNames u1 o1 u2 i1 u3 j1 mg1 ac bc
    replace I : LoI r a b (x + 1) o1 i1 j1 := I
    clear_value o1 i1 j1 mg1 ac bc
    refine wpS_bind (wpS_mono (wpS_forRange (I := fun x1 c st'' => c.1 = none ∧ LoL r a b st (x + 1 + x1) c.2.1 c.2.2.1 c.2.2.2.1 st'')
      (Q := fun c st'' => LoE r a b st c.1 st'' ∨ (c.1 = none ∧ LoL r a b st (x + 2) c.2.1 c.2.2.1 c.2.2.2.1 st'')) ?_ ?_ ⟨rfl, hG, I⟩) ?_)
    · rintro x1 c1 st'' _ hx1 ⟨_, hG, I⟩
      extract_lets -underBinder -merge +onlyGivenNames v1 o2 v2 i2 v3 j2 v4 ac2 bc2
      replace I : LoI r a b (x + 1 + x1) o2 i2 j2 := I
      clear_value o2 i2 j2 ac2 bc2
      obtain ⟨y, hy, my, ry⟩ := getB I.i2
      obtain ⟨z, hz, mz, rz⟩ := getA (Nat.lt_of_succ_lt I.i1)
      refine wpS_bind (wpS_elem hy (wpS_bind (wpS_elem hz (wpS_bind (wpS_lt hC (hG.kind.trans hk) my mz ?_)))))
      by_cases hw : r y < r z
      · rw [decide_eq_true hw]
        show wpS _ _ _ _ (ite (true = true) _ _) _ _
        rw [if_pos rfl]
        refine wpS_bind (wpS_elem hy ?_)
        have P := I.pushB T hy (fun j j1 j2 => Nat.le_of_lt (Nat.lt_of_lt_of_le hw (rz ▸ T.ha i2 j (Nat.zero_le _) j1 j2)))
        extract_lets -underBinder -merge +onlyGivenNames o3 j3 bc3 ac3
        by_cases e : j2 + 1 = b.size
        · rw [if_pos (show (j3 == b.size) = true from beq_iff_eq.mpr e)]
          exact wpS_pure (.inl ⟨_, rfl, P.1 e, hG⟩)
        · rw [if_neg (show ¬ (j3 == b.size) = true from fun q => e (beq_iff_eq.mp q))]
          split
          · exact wpS_pure (.inr ⟨rfl, hG, (P.2 e).le (by (exact Ar.lin 0 2 (.le (.a (.v 0) (.k 2)) (.a (.a (.a (.v 0) (.k 1)) (.v 1)) (.k 1))) [] (by kernel_rfl) [] [_, _] rfl rfl ))⟩)
          · exact wpS_pure ⟨rfl, hG, P.2 e⟩
      · rw [decide_eq_false hw]
        show wpS _ _ _ _ (ite (false = true) _ _) _ _
        rw [if_neg (by decide)]
        refine wpS_bind (wpS_elem hz ?_)
        have P := I.pushA T hz (fun q q1 q2 => Nat.le_trans (Nat.not_lt.mp hw) (ry ▸ T.hb j2 q (Nat.zero_le _) q1 q2))
        extract_lets -underBinder -merge +onlyGivenNames o3 i3 ac3 bc3
        by_cases e : i2 + 1 + 1 = a.size
        · rw [if_pos (show (i3 + 1 == a.size) = true from beq_iff_eq.mpr e)]
          exact wpS_pure (.inl ⟨_, rfl, P.1 e, hG⟩)
        · rw [if_neg (show ¬ (i3 + 1 == a.size) = true from fun q => e (beq_iff_eq.mp q))]
          split
          · exact wpS_pure (.inr ⟨rfl, hG, (P.2 e).le (by (exact Ar.lin 0 2 (.le (.a (.v 0) (.k 2)) (.a (.a (.a (.v 0) (.k 1)) (.v 1)) (.k 1))) [] (by kernel_rfl) [] [_, _] rfl rfl ))⟩)
          · exact wpS_pure ⟨rfl, hG, P.2 e⟩
    · rintro c st' ⟨_, _, I⟩
      have := I.i1
      have := I.i2
      have := I.pr
      exfalso; lia
    · rintro c1 st'' hor
      extract_lets -underBinder -merge +onlyGivenNames cr v1 o2 v2 i2 v3 j2 v4 ac2 bc2
      rcases hor with ⟨res, hc, hF, hG⟩ | ⟨hc, hG, I⟩
      · have hcr : cr = some res := hc
        clear_value cr
        subst hcr
        exact wpS_pure ⟨res, rfl, hF, hG⟩
      · have hcr : cr = none := hc
        replace I : LoI r a b (x + 2) o2 i2 j2 := I
        clear_value cr o2 i2 j2 ac2 bc2
        subst hcr
        refine wpS_bind (wpS_lift (wpAny_rule ⟨rfl, ?_⟩))
        extract_lets -underBinder -merge +onlyGivenNames mg2
        refine wpS_bind (wpS_mono (wpS_forRange (I := fun z1 c st3 => c.1 = none ∧ LoL r a b st (x + 2) c.2.1 c.2.2.1 c.2.2.2.1 st3)
          (Q := fun c st3 => LoE r a b st c.1 st3 ∨ (c.1 = none ∧ LoL r a b st (x + 2) c.2.1 c.2.2.1 c.2.2.2.1 st3)) ?_ (fun z1 z2 q => .inr q) ⟨rfl, hG, I⟩) ?_)
        · rintro x2 c2 st3 _ _ ⟨_, hG, I⟩
          extract_lets -underBinder -merge +onlyGivenNames w1 o3 w2 i3 w3 j3 w4 mg3 w5 ac3 bc3 jp
          replace I : LoI r a b (x + 2) o3 i3 j3 := I
          have H : ∀ g, wpS (model prog w) A E s (jp () g) (LoQ r a b st (x + 2)) st3 := by
            intro g
            clear_value o3 i3 j3 ac3 bc3
            refine wpS_bind (wpS_modify ?_)
            have hG4 := hG.gal g
            obtain ⟨y, hy, my, ry⟩ := getB I.i2
            refine wpS_bind (wpS_elem hy (wpS_bind (wpS_gal hC (hG4.kind.trans hk) my T.ma T.ha (by have := I.i1; (exact Ar.lin 0 2 (.le (.a (.v 0) (.s (.v 1) (.v 0))) (.v 1)) [(.lt (.a (.v 0) (.k 1)) (.v 1))] (by kernel_rfl) [] [_, _] rfl rfl this)) (by have := I.i1; (exact Ar.lin 0 2 (.lt (.k 0) (.s (.v 0) (.v 1))) [(.lt (.a (.v 1) (.k 1)) (.v 0))] (by kernel_rfl) [] [_, _] rfl rfl this)) ?_)))
            intro k hk1 hk2 hk3
            have hz1 : i3 + k ≤ a.size := by have := I.i1; (exact Ar.lin 0 3 (.le (.a (.v 0) (.v 1)) (.v 2)) [(.le (.v 1) (.s (.v 2) (.v 0))), (.lt (.a (.v 0) (.k 1)) (.v 2))] (by kernel_rfl) [] [_, _, _] rfl rfl hk1 this)
            have P := I.takeA (k := k) T ry (fun i i1 i2 => By.f.mp (hk2 i i1 i2)) hz1
            replace hk3 : ∀ i, i3 + k ≤ i → i < a.size → r y < R r a i := fun i i1 i2 => By.f'.mp (hk3 i i1 (by have := I.i1; (exact Ar.lin 0 3 (.lt (.v 0) (.a (.v 1) (.s (.v 2) (.v 1)))) [(.lt (.v 0) (.v 2))] (by kernel_rfl) [] [_, _, _] rfl rfl i2)))
            clear hk1 hk2
            dsimp -zeta -zetaHave -zetaUnused only
            extract_lets -underBinder -merge +onlyGivenNames ac4 jp2
            have H2 : ∀ o i, LoI r a b (x + 2) o i j3 → i3 ≤ i → (∀ q, i ≤ q → q < a.size → r y < R r a q) → wpS (model prog w) A E s (jp2 () o i) (LoQ r a b st (x + 2)) (SortSt.mk' (kindOf st3) (arrOf st3) (pendingOf st3) g (failedOf st3)) := by
              clear P hk3 hz1 I
              intro o i I hi hq
              clear_value ac4
              refine wpS_bind (wpS_elem hy ?_)
              have P := I.pushB T hy (fun j j1 j2 => Nat.le_of_lt (hq j j1 j2))
              extract_lets -underBinder -merge +onlyGivenNames o5 j5
              by_cases e : j3 + 1 = b.size
              · rw [if_pos (show (j5 == b.size) = true from beq_iff_eq.mpr e)]
                exact wpS_pure (.inl ⟨_, rfl, P.1 e, hG4⟩)
              · rw [if_neg (show ¬ (j5 == b.size) = true from fun q => e (beq_iff_eq.mp q))]
                replace P : LoI r a b (x + 3) o5 i j5 := P.2 e
                clear_value o5 j5
                obtain ⟨z, hz, mz, rz⟩ := getA (Nat.lt_of_succ_lt P.i1)
                refine wpS_bind (wpS_elem hz (wpS_bind (wpS_gal hC (hG4.kind.trans hk) mz T.mb T.hb (by have := P.i2; (exact Ar.lin 0 2 (.le (.a (.v 0) (.s (.v 1) (.v 0))) (.v 1)) [(.lt (.v 0) (.v 1))] (by kernel_rfl) [] [_, _] rfl rfl this)) (by have := P.i2; (exact Ar.lin 0 2 (.lt (.k 0) (.s (.v 0) (.v 1))) [(.lt (.v 1) (.v 0))] (by kernel_rfl) [] [_, _] rfl rfl this)) ?_)))
                intro k1 hk1 hk2 hk3
                have hz1 : j5 + k1 ≤ b.size := by have := P.i2; (exact Ar.lin 0 3 (.le (.a (.v 0) (.v 1)) (.v 2)) [(.le (.v 1) (.s (.v 2) (.v 0))), (.lt (.v 0) (.v 2))] (by kernel_rfl) [] [_, _, _] rfl rfl hk1 this)
                have P2 := P.takeB (k := k1) T rz (fun q i1 i2 => By.t.mp (hk2 q i1 i2)) hz1
                replace hk3 : ∀ q, j5 + k1 ≤ q → q < b.size → r z ≤ R r b q := fun q i1 i2 => By.t'.mp (hk3 q i1 (by have := P.i2; (exact Ar.lin 0 3 (.lt (.v 0) (.a (.v 1) (.s (.v 2) (.v 1)))) [(.lt (.v 0) (.v 2))] (by kernel_rfl) [] [_, _, _] rfl rfl i2)))
                clear hk1 hk2
                dsimp -zeta -zetaHave -zetaUnused only
                extract_lets -underBinder -merge +onlyGivenNames bc4 jp3
                have H3 : ∀ o q, LoI r a b (x + 3) o i q → (∀ l, q ≤ l → l < b.size → r z ≤ R r b l) → wpS (model prog w) A E s (jp3 () o q) (LoQ r a b st (x + 2)) (SortSt.mk' (kindOf st3) (arrOf st3) (pendingOf st3) g (failedOf st3)) := by
                  clear P2 hk3 hz1 P
                  intro o q P hl
                  refine wpS_bind (wpS_elem hz ?_)
                  have P2 := P.pushA T hz hl
                  extract_lets -underBinder -merge +onlyGivenNames o6 i6
                  by_cases e : i + 1 + 1 = a.size
                  · rw [if_pos (show (i6 + 1 == a.size) = true from beq_iff_eq.mpr e)]
                    exact wpS_pure (.inl ⟨_, rfl, P2.1 e, hG4⟩)
                  · rw [if_neg (show ¬ (i6 + 1 == a.size) = true from fun q => e (beq_iff_eq.mp q))]
                    split
                    · exact wpS_pure (.inr ⟨rfl, hG4, (P2.2 e).le (by (exact Ar.lin 0 1 (.le (.a (.v 0) (.k 2)) (.a (.a (.v 0) (.k 3)) (.k 1))) [] (by kernel_rfl) [] [_] rfl rfl ))⟩)
                    · exact wpS_pure ⟨rfl, hG4, (P2.2 e).le (by (exact Ar.lin 0 1 (.le (.a (.v 0) (.k 2)) (.a (.a (.v 0) (.k 3)) (.k 1))) [] (by kernel_rfl) [] [_] rfl rfl ))⟩
                clear_value jp3
                by_cases e4 : k1 > 0
                · rw [if_pos e4]
                  extract_lets -underBinder -merge +onlyGivenNames o7 j7
                  by_cases e5 : j5 + k1 = b.size
                  · rw [if_pos (show (j7 == b.size) = true from beq_iff_eq.mpr e5)]
                    exact wpS_pure (.inl ⟨_, rfl, P2.1 e5, hG4⟩)
                  · rw [if_neg (show ¬ (j7 == b.size) = true from fun q => e5 (beq_iff_eq.mp q))]
                    exact H3 _ _ (P2.2 e5) hk3
                · rw [if_neg e4]
                  exact H3 _ _ P fun l l1 l2 => hk3 l (by (exact Ar.lin 0 3 (.le (.a (.v 0) (.v 1)) (.v 2)) [(.no (.lt (.k 0) (.v 1))), (.le (.v 0) (.v 2))] (by kernel_rfl) [] [_, _, _] rfl rfl e4 l1)) l2
            clear_value jp2
            by_cases e4 : k > 0
            · rw [if_pos e4]
              extract_lets -underBinder -merge +onlyGivenNames o7 i7
              by_cases e5 : i3 + k + 1 = a.size
              · rw [if_pos (show (i7 + 1 == a.size) = true from beq_iff_eq.mpr e5)]
                exact wpS_pure (.inl ⟨_, rfl, P.1 e5, hG4⟩)
              · rw [if_neg (show ¬ (i7 + 1 == a.size) = true from fun q => e5 (beq_iff_eq.mp q))]
                by_cases e6 : i3 + k = a.size
                · rw [if_pos (show (i7 == a.size) = true from beq_iff_eq.mpr e6)]
                  exact wpS_pure (.inl ⟨_, rfl, P.2.1 e6, hG4⟩)
                · rw [if_neg (show ¬ (i7 == a.size) = true from fun q => e6 (beq_iff_eq.mp q))]
                  exact H2 _ _ (P.2.2 e5 e6) (Nat.le_add_right _ _) hk3
            · rw [if_neg e4]
              exact H2 _ _ I (Nat.le_refl _) fun q q1 q2 => hk3 q (by (exact Ar.lin 0 3 (.le (.a (.v 0) (.v 1)) (.v 2)) [(.no (.lt (.k 0) (.v 1))), (.le (.v 0) (.v 2))] (by kernel_rfl) [] [_, _, _] rfl rfl e4 q1)) q2
          clear_value jp
          split
          · exact wpS_mono (H (mg3 - 1)) fun r' st' q => by cases r' <;> exact q
          · exact wpS_mono (H mg3) fun r' st' q => by cases r' <;> exact q
        · rintro c2 st3 hor
          extract_lets -underBinder -merge +onlyGivenNames cr w1 o3 w2 i3 w3 j3 w4 mg3
          rcases hor with ⟨res, hc, hF, hG⟩ | ⟨hc, hG, I⟩
          · have hcr : cr = some res := hc
            clear_value cr
            subst hcr
            exact wpS_pure ⟨res, rfl, hF, hG⟩
          · have hcr : cr = none := hc
            clear_value cr
            subst hcr
            exact wpS_bind (wpS_modify (wpS_pure ⟨rfl, hG.gal _, I⟩))
  · rintro c st' ⟨_, _, I⟩
    have := I.i1
    have := I.i2
    have := I.pr
    exfalso; lia
  · exact ⟨rfl, .refl, M0, by have := T.a0; show 0 + 1 < a.size; (exact Ar.lin 0 1 (.lt (.a (.k 0) (.k 1)) (.v 0)) [(.no (.eq (.v 0) (.k 1))), (.lt (.k 0) (.v 0))] (by kernel_rfl) [] [_] rfl rfl e2 this), by have := T.b0; show 1 < b.size; (exact Ar.lin 0 1 (.lt (.k 1) (.v 0)) [(.no (.eq (.v 0) (.k 1))), (.lt (.k 0) (.v 0))] (by kernel_rfl) [] [_] rfl rfl e1 this), Nat.le_refl _⟩
  · rintro c st' ⟨res, hc, hF, hG⟩
    extract_lets -underBinder -merge +onlyGivenNames cr
    have hcr : cr = some res := hc
    clear_value cr
    subst hcr
    exact wpS_pure (h res st' hG hF)
structure HiI (r : Keyed → Nat) (a b : Array Keyed) (p : Nat) (out : Array Keyed) (na nb : Nat) : Prop where
  m : MJ r a b out na nb
  n1 : 0 < na
  n2 : 1 < nb
  n3 : na ≤ a.size
  n4 : nb ≤ b.size
  pr : na + nb + p ≤ a.size + b.size
theorem HiI.le {a b out : Array Keyed} {p q na nb : Nat} (h : HiI r a b p out na nb) (hq : q ≤ p) : HiI r a b q out na nb := ⟨h.m, h.n1, h.n2, h.n3, h.n4, by have := h.pr; (exact Ar.lin 0 6 (.le (.a (.a (.v 0) (.v 1)) (.v 2)) (.a (.v 3) (.v 4))) [(.le (.v 2) (.v 5)), (.le (.a (.a (.v 0) (.v 1)) (.v 5)) (.a (.v 3) (.v 4)))] (by kernel_rfl) [] [_, _, _, _, _, _] rfl rfl hq this)⟩
theorem HiI.a1 {a b out : Array Keyed} {p na nb : Nat} (h : HiI r a b p out na nb) : na - 1 < a.size := by have := h.n1; have := h.n3; lia
theorem HiI.b1 {a b out : Array Keyed} {p na nb : Nat} (h : HiI r a b p out na nb) : nb - 1 < b.size := by have := h.n2; have := h.n4; lia
theorem HiI.pushA {a b out : Array Keyed} {p na nb : Nat} {x : Keyed} (T : Two r a₀ a b) (h : HiI r a b p out na nb) (hx : a[na - 1]? = some x) (hk : ∀ j, j < nb → j < b.size → R r b j ≤ r x) :
    (na - 1 = 0 → Fin' r a b (a.extract 0 (na - 1) ++ b.extract 0 nb ++ (out.push x).reverse)) ∧ (na - 1 ≠ 0 → HiI r a b (p + 1) (out.push x) (na - 1) nb) := by
  have M := h.m.pushA T.ha h.n1 h.n3 hx hk
  have := h.pr
  have := h.n3
  exact ⟨fun e => M.done T.ha T.hb (.inl e), fun e => ⟨M, Nat.pos_of_ne_zero e, h.n2, by (exact Ar.lin 0 2 (.le (.s (.v 0) (.k 1)) (.v 1)) [(.le (.v 0) (.v 1))] (by kernel_rfl) [] [_, _] rfl rfl this), h.n4, by lia⟩⟩
theorem HiI.pushB {a b out : Array Keyed} {p na nb : Nat} {x : Keyed} (T : Two r a₀ a b) (h : HiI r a b p out na nb) (hx : b[nb - 1]? = some x) (hk : ∀ j, j < na → j < a.size → R r a j ≤ r x) :
    (nb - 1 = 1 → Fin' r a b (b.extract 0 (nb - 1) ++ a.extract 0 na ++ (out.push x).reverse)) ∧ (nb - 1 ≠ 1 → HiI r a b (p + 1) (out.push x) na (nb - 1)) := by
  have M := h.m.pushB T.hb (Nat.le_of_lt h.n2) h.n4 hx hk
  have := h.pr
  have := h.n2
  have := h.n4
  exact ⟨fun e => M.first T.ha T.hb e T.first, fun e => ⟨M, h.n1, by lia, h.n3, by (exact Ar.lin 0 2 (.le (.s (.v 0) (.k 1)) (.v 1)) [(.le (.v 0) (.v 1))] (by kernel_rfl) [] [_, _] rfl rfl this), by lia⟩⟩
theorem HiI.takeA {a b out : Array Keyed} {p na nb k : Nat} {y : Keyed} (T : Two r a₀ a b) (h : HiI r a b p out na nb) (hy : R r b (nb - 1) = r y) (hk : ∀ i, k ≤ i → i < na → r y < R r a i) (hz : k ≤ na) :
    (k = 0 → Fin' r a b (a.extract 0 k ++ b.extract 0 nb ++ (out ++ (a.extract k na).reverse).reverse)) ∧ (k ≠ 0 → HiI r a b p (out ++ (a.extract k na).reverse) k nb) := by
  have M := h.m.takeA (k := k) T.ha (fun i i1 i2 j j1 j2 => Nat.le_trans (hy ▸ T.hb j (nb - 1) (Nat.zero_le _) (Nat.le_pred_of_lt j1) h.b1) (Nat.le_of_lt (hk i i1 i2))) hz h.n3
  have := h.pr
  have := h.n3
  exact ⟨fun e => M.done T.ha T.hb (.inl e), fun e => ⟨M, Nat.pos_of_ne_zero e, h.n2, by (exact Ar.lin 0 3 (.le (.v 0) (.v 1)) [(.le (.v 0) (.v 2)), (.le (.v 2) (.v 1))] (by kernel_rfl) [] [_, _, _] rfl rfl hz this), h.n4, by lia⟩⟩
theorem HiI.takeB {a b out : Array Keyed} {p na nb k : Nat} {z : Keyed} (T : Two r a₀ a b) (h : HiI r a b p out na nb) (hzr : R r a (na - 1) = r z) (hk : ∀ i, k ≤ i → i < nb → r z ≤ R r b i) (hz : k ≤ nb) :
    (k = 1 → Fin' r a b (b.extract 0 k ++ a.extract 0 na ++ (out ++ (b.extract k nb).reverse).reverse)) ∧ (k = 0 → Fin' r a b (a.extract 0 na ++ b.extract 0 k ++ (out ++ (b.extract k nb).reverse).reverse)) ∧ (k ≠ 1 → k ≠ 0 → HiI r a b p (out ++ (b.extract k nb).reverse) na k) := by
  have M := h.m.takeB (k := k) T.hb (fun i i1 i2 j j1 j2 => Nat.le_trans (hzr ▸ T.ha j (na - 1) (Nat.zero_le _) (Nat.le_pred_of_lt j1) h.a1) (hk i i1 i2)) hz h.n4
  have := h.pr
  have := h.n4
  exact ⟨fun e => M.first T.ha T.hb e T.first, fun e => M.done T.ha T.hb (.inr e), fun e1 e2 => ⟨M, h.n1, by (exact Ar.lin 0 1 (.lt (.k 1) (.v 0)) [(.no (.eq (.v 0) (.k 1))), (.no (.eq (.v 0) (.k 0)))] (by kernel_rfl) [] [_] rfl rfl e1 e2), h.n3, by (exact Ar.lin 0 3 (.le (.v 0) (.v 1)) [(.le (.v 0) (.v 2)), (.le (.v 2) (.v 1))] (by kernel_rfl) [] [_, _, _] rfl rfl hz this), by lia⟩⟩
noncomputable def HiL (r : Keyed → Nat) (a b : Array Keyed) (st : SortSt) (p : Nat) (out : Array Keyed) (na nb : Nat) (st' : SortSt) : Prop := Gs st st' ∧ HiI r a b p out na nb
noncomputable def HiQ {γ : Type} (r : Keyed → Nat) (a b : Array Keyed) (st : SortSt) (p : Nat) : ForInStep (Option (Array Keyed) × Nat × Nat × Array Keyed × γ) → SortSt → Prop
  | .done c', st' => LoE r a b st c'.1 st' ∨ (c'.1 = none ∧ HiL r a b st p c'.2.2.2.1 c'.2.1 c'.2.2.1 st')
  | .yield c', st' => c'.1 = none ∧ HiL r a b st p c'.2.2.2.1 c'.2.1 c'.2.2.1 st'
theorem wpS_mergeHi (hC : Ask prog w A s κ r a₀) {st : SortSt} {a b : Array Keyed} {Q : Array Keyed → SortSt → Prop} (hk : kindOf st = κ) (T : Two r a₀ a b) (h : ∀ res st', Gs st st' → Fin' r a b res → Q res st') :
    wpS (model prog w) A E s (mergeHi' a b) Q st := by
  have getA : ∀ {i}, i < a.size → ∃ x, a[i]? = some x ∧ x ∈ a₀.toList ∧ R r a i = r x := get_of T.ma
  have getB : ∀ {i}, i < b.size → ∃ x, b[i]? = some x ∧ x ∈ a₀.toList ∧ R r b i = r x := get_of T.mb
  unfold mergeHi'
  refine wpS_bind (wpS_lift (wpAny_rule ⟨rfl, ?_⟩))
  extract_lets -underBinder -merge +onlyGivenNames total done firstOfB na nb
  obtain ⟨z0, hz0, mz0, rz0⟩ := getA (i := a.size - 1) (Nat.pred_lt (Nat.ne_of_gt T.a0))
  refine wpS_bind (wpS_elem hz0 ?_)
  extract_lets -underBinder -merge +onlyGivenNames out
  have M0 : MJ r a b #[z0] (a.size - 1) b.size := MJ.pushA (out := #[]) (na := a.size) ⟨by simp [List.take_of_length_le], by simp [Srt], by simp, by simp⟩ T.ha T.a0 (Nat.le_refl _) hz0 (fun j z1 j2 => by rw [← rz0]; exact T.last j j2)
  by_cases e1 : a.size - 1 = 0
  · rw [if_pos (show (na == 0) = true from beq_iff_eq.mpr e1)]
    exact wpS_pure (h _ _ .refl (M0.done T.ha T.hb (.inl e1)))
  rw [if_neg (show ¬ (na == 0) = true from fun q => e1 (beq_iff_eq.mp q))]
  by_cases e2 : b.size = 1
  · rw [if_pos (show (nb == 1) = true from beq_iff_eq.mpr e2)]
    exact wpS_pure (h _ _ .refl (M0.first T.ha T.hb e2 T.first))
  rw [if_neg (show ¬ (nb == 1) = true from fun q => e2 (beq_iff_eq.mp q))]
  refine wpS_bind (wpS_get ?_)
  extract_lets -underBinder -merge +onlyGivenNames mg
  have htot : total = a.size + b.size := rfl
  refine wpS_bind (wpS_mono (wpS_forRange (I := fun x c st' => c.1 = none ∧ HiL r a b st (x + 1) c.2.2.2.1 c.2.1 c.2.2.1 st') (Q := fun c st' => LoE r a b st c.1 st') ?_ ?_ ?_) ?_)
  · rintro x c st' _ hx ⟨_, hG, I⟩
    extract_lets -underBinder -merge +onlyGivenNames u1 n1 u2 m1 u3 o1 mg1 ac bc
    replace I : HiI r a b (x + 1) o1 n1 m1 := I
    clear_value o1 n1 m1 mg1 ac bc
    refine wpS_bind (wpS_mono (wpS_forRange (I := fun x1 c st'' => c.1 = none ∧ HiL r a b st (x + 1 + x1) c.2.2.2.1 c.2.1 c.2.2.1 st'')
      (Q := fun c st'' => LoE r a b st c.1 st'' ∨ (c.1 = none ∧ HiL r a b st (x + 2) c.2.2.2.1 c.2.1 c.2.2.1 st'')) ?_ ?_ ⟨rfl, hG, I⟩) ?_)
    · rintro x1 c1 st'' _ hx1 ⟨_, hG, I⟩
      extract_lets -underBinder -merge +onlyGivenNames v1 n2 v2 m2 v3 o2 v4 ac2 bc2
      replace I : HiI r a b (x + 1 + x1) o2 n2 m2 := I
      clear_value o2 n2 m2 ac2 bc2
      obtain ⟨y, hy, my, ry⟩ := getB I.b1
      obtain ⟨z, hz, mz, rz⟩ := getA I.a1
      refine wpS_bind (wpS_elem hy (wpS_bind (wpS_elem hz (wpS_bind (wpS_lt hC (hG.kind.trans hk) my mz ?_)))))
      by_cases hw : r y < r z
      · rw [decide_eq_true hw]
        show wpS _ _ _ _ (ite (true = true) _ _) _ _
        rw [if_pos rfl]
        extract_lets -underBinder -merge +onlyGivenNames n3
        refine wpS_bind (wpS_elem hz ?_)
        have P := I.pushA T hz (fun q q1 q2 => Nat.le_trans (ry ▸ T.hb q (m2 - 1) (Nat.zero_le _) (Nat.le_pred_of_lt q1) I.b1) (Nat.le_of_lt hw))
        extract_lets -underBinder -merge +onlyGivenNames o3 ac3 bc3
        by_cases e : n2 - 1 = 0
        · rw [if_pos (show (n3 == 0) = true from beq_iff_eq.mpr e)]
          exact wpS_pure (.inl ⟨_, rfl, P.1 e, hG⟩)
        · rw [if_neg (show ¬ (n3 == 0) = true from fun q => e (beq_iff_eq.mp q))]
          split
          · exact wpS_pure (.inr ⟨rfl, hG, (P.2 e).le (by (exact Ar.lin 0 2 (.le (.a (.v 0) (.k 2)) (.a (.a (.a (.v 0) (.k 1)) (.v 1)) (.k 1))) [] (by kernel_rfl) [] [_, _] rfl rfl ))⟩)
          · exact wpS_pure ⟨rfl, hG, P.2 e⟩
      · rw [decide_eq_false hw]
        show wpS _ _ _ _ (ite (false = true) _ _) _ _
        rw [if_neg (by decide)]
        extract_lets -underBinder -merge +onlyGivenNames m3
        refine wpS_bind (wpS_elem hy ?_)
        have P := I.pushB T hy (fun q q1 q2 => Nat.le_trans (rz ▸ T.ha q (n2 - 1) (Nat.zero_le _) (Nat.le_pred_of_lt q1) I.a1) (Nat.not_lt.mp hw))
        extract_lets -underBinder -merge +onlyGivenNames o3 bc3 ac3
        by_cases e : m2 - 1 = 1
        · rw [if_pos (show (m3 == 1) = true from beq_iff_eq.mpr e)]
          exact wpS_pure (.inl ⟨_, rfl, P.1 e, hG⟩)
        · rw [if_neg (show ¬ (m3 == 1) = true from fun q => e (beq_iff_eq.mp q))]
          split
          · exact wpS_pure (.inr ⟨rfl, hG, (P.2 e).le (by (exact Ar.lin 0 2 (.le (.a (.v 0) (.k 2)) (.a (.a (.a (.v 0) (.k 1)) (.v 1)) (.k 1))) [] (by kernel_rfl) [] [_, _] rfl rfl ))⟩)
          · exact wpS_pure ⟨rfl, hG, P.2 e⟩
    · rintro c st' ⟨_, _, I⟩
      have := I.n1
      have := I.n2
      have := I.pr
      exfalso; lia
    · rintro c1 st'' hor
      extract_lets -underBinder -merge +onlyGivenNames cr v1 n2 v2 m2 v3 o2 v4 ac2 bc2
      rcases hor with ⟨res, hc, hF, hG⟩ | ⟨hc, hG, I⟩
      · have hcr : cr = some res := hc
        clear_value cr
        subst hcr
        exact wpS_pure ⟨res, rfl, hF, hG⟩
      · have hcr : cr = none := hc
        replace I : HiI r a b (x + 2) o2 n2 m2 := I
        clear_value cr o2 n2 m2 ac2 bc2
        subst hcr
        refine wpS_bind (wpS_lift (wpAny_rule ⟨rfl, ?_⟩))
        extract_lets -underBinder -merge +onlyGivenNames mg2
        refine wpS_bind (wpS_mono (wpS_forRange (I := fun z1 c st3 => c.1 = none ∧ HiL r a b st (x + 2) c.2.2.2.1 c.2.1 c.2.2.1 st3)
          (Q := fun c st3 => LoE r a b st c.1 st3 ∨ (c.1 = none ∧ HiL r a b st (x + 2) c.2.2.2.1 c.2.1 c.2.2.1 st3)) ?_ (fun z1 z2 q => .inr q) ⟨rfl, hG, I⟩) ?_)
        · rintro x2 c2 st3 _ _ ⟨_, hG, I⟩
          extract_lets -underBinder -merge +onlyGivenNames w1 n3 w2 m3 w3 o3 w4 mg3 w5 ac3 bc3 jp
          replace I : HiI r a b (x + 2) o3 n3 m3 := I
          have H : ∀ g, wpS (model prog w) A E s (jp () g) (HiQ r a b st (x + 2)) st3 := by
            intro g
            clear_value o3 n3 m3 ac3 bc3
            refine wpS_bind (wpS_modify ?_)
            have hG4 := hG.gal g
            obtain ⟨y, hy, my, ry⟩ := getB I.b1
            refine wpS_bind (wpS_elem hy (wpS_bind (wpS_gal hC (hG4.kind.trans hk) my T.ma T.ha (by rw [Nat.zero_add]; exact I.n3) (Nat.pred_lt (Nat.ne_of_gt I.n1)) ?_)))
            intro k hk1 hk2 hk3
            rw [Nat.zero_add] at hk2 hk3
            have P := I.takeA (k := k) T ry (fun i i1 i2 => By.f'.mp (hk3 i i1 (by rw [Nat.zero_add]; exact i2))) hk1
            replace hk2 : ∀ i, i < k → i < a.size → R r a i ≤ r y := fun i i1 z1 => By.f.mp (hk2 i (Nat.zero_le _) i1)
            clear hk3
            dsimp -zeta -zetaHave -zetaUnused only
            extract_lets -underBinder -merge +onlyGivenNames k' ac4 jp2
            have H2 : ∀ n o, HiI r a b (x + 2) o n m3 → (∀ q, q < n → q < a.size → R r a q ≤ r y) → wpS (model prog w) A E s (jp2 () n o) (HiQ r a b st (x + 2)) (SortSt.mk' (kindOf st3) (arrOf st3) (pendingOf st3) g (failedOf st3)) := by
              clear P hk2 hk1 I
              intro n o I hq
              clear_value ac4
              refine wpS_bind (wpS_elem hy ?_)
              have P := I.pushB T hy hq
              extract_lets -underBinder -merge +onlyGivenNames o5
              by_cases e : m3 - 1 = 1
              · rw [if_pos (show (m3 - 1 == 1) = true from beq_iff_eq.mpr e)]
                exact wpS_pure (.inl ⟨_, rfl, P.1 e, hG4⟩)
              · rw [if_neg (show ¬ (m3 - 1 == 1) = true from fun q => e (beq_iff_eq.mp q))]
                replace P : HiI r a b (x + 3) o5 n (m3 - 1) := P.2 e
                clear_value o5
                obtain ⟨z, hz, mz, rz⟩ := getA P.a1
                refine wpS_bind (wpS_elem hz (wpS_bind (wpS_gal hC (hG4.kind.trans hk) mz T.mb T.hb (by rw [Nat.zero_add]; exact P.n4) (Nat.pred_lt (Nat.ne_of_gt (Nat.lt_trans Nat.zero_lt_one P.n2))) ?_)))
                intro k1 hk1 hk2 hk3
                rw [Nat.zero_add] at hk2 hk3
                have P2 := P.takeB (k := k1) T rz (fun q i1 i2 => By.t'.mp (hk3 q i1 (by rw [Nat.zero_add]; exact i2))) hk1
                replace hk2 : ∀ q, q < k1 → q < b.size → R r b q ≤ r z := fun q i1 z1 => Nat.le_of_lt (By.t.mp (hk2 q (Nat.zero_le _) i1))
                clear hk3
                dsimp -zeta -zetaHave -zetaUnused only
                extract_lets -underBinder -merge +onlyGivenNames k1' bc4 jp3
                have H3 : ∀ q o, HiI r a b (x + 3) o n q → (∀ l, l < q → l < b.size → R r b l ≤ r z) → wpS (model prog w) A E s (jp3 () q o) (HiQ r a b st (x + 2)) (SortSt.mk' (kindOf st3) (arrOf st3) (pendingOf st3) g (failedOf st3)) := by
                  clear P2 hk2 hk1 P
                  intro q o P hl
                  refine wpS_bind (wpS_elem hz ?_)
                  have P2 := P.pushA T hz hl
                  extract_lets -underBinder -merge +onlyGivenNames o6
                  by_cases e : n - 1 = 0
                  · rw [if_pos (show (n - 1 == 0) = true from beq_iff_eq.mpr e)]
                    exact wpS_pure (.inl ⟨_, rfl, P2.1 e, hG4⟩)
                  · rw [if_neg (show ¬ (n - 1 == 0) = true from fun q => e (beq_iff_eq.mp q))]
                    split
                    · exact wpS_pure (.inr ⟨rfl, hG4, (P2.2 e).le (by (exact Ar.lin 0 1 (.le (.a (.v 0) (.k 2)) (.a (.a (.v 0) (.k 3)) (.k 1))) [] (by kernel_rfl) [] [_] rfl rfl ))⟩)
                    · exact wpS_pure ⟨rfl, hG4, (P2.2 e).le (by (exact Ar.lin 0 1 (.le (.a (.v 0) (.k 2)) (.a (.a (.v 0) (.k 3)) (.k 1))) [] (by kernel_rfl) [] [_] rfl rfl ))⟩
                clear_value jp3
                by_cases e4 : m3 - 1 - k1 > 0
                · rw [if_pos e4]
                  extract_lets -underBinder -merge +onlyGivenNames o7 m7
                  by_cases e5 : k1 = 1
                  · rw [if_pos (show (m7 == 1) = true from beq_iff_eq.mpr e5)]
                    exact wpS_pure (.inl ⟨_, rfl, P2.1 e5, hG4⟩)
                  · rw [if_neg (show ¬ (m7 == 1) = true from fun q => e5 (beq_iff_eq.mp q))]
                    by_cases e6 : k1 = 0
                    · rw [if_pos (show (m7 == 0) = true from beq_iff_eq.mpr e6)]
                      exact wpS_pure (.inl ⟨_, rfl, P2.2.1 e6, hG4⟩)
                    · rw [if_neg (show ¬ (m7 == 0) = true from fun q => e6 (beq_iff_eq.mp q))]
                      exact H3 _ _ (P2.2.2 e5 e6) hk2
                · rw [if_neg e4]
                  exact H3 _ _ P fun l l1 l2 => hk2 l (by (exact Ar.lin 0 3 (.lt (.v 0) (.v 1)) [(.no (.lt (.k 0) (.s (.s (.v 2) (.k 1)) (.v 1)))), (.lt (.v 0) (.s (.v 2) (.k 1)))] (by kernel_rfl) [] [_, _, _] rfl rfl e4 l1)) l2
            clear_value jp2
            by_cases e4 : n3 - k > 0
            · rw [if_pos e4]
              extract_lets -underBinder -merge +onlyGivenNames o7 n7
              by_cases e5 : k = 0
              · rw [if_pos (show (n7 == 0) = true from beq_iff_eq.mpr e5)]
                exact wpS_pure (.inl ⟨_, rfl, P.1 e5, hG4⟩)
              · rw [if_neg (show ¬ (n7 == 0) = true from fun q => e5 (beq_iff_eq.mp q))]
                exact H2 _ _ (P.2 e5) hk2
            · rw [if_neg e4]
              exact H2 _ _ I fun q q1 q2 => hk2 q (by (exact Ar.lin 0 3 (.lt (.v 0) (.v 1)) [(.no (.lt (.k 0) (.s (.v 2) (.v 1)))), (.lt (.v 0) (.v 2))] (by kernel_rfl) [] [_, _, _] rfl rfl e4 q1)) q2
          clear_value jp
          split
          · exact wpS_mono (H (mg3 - 1)) fun r' st' q => by cases r' <;> exact q
          · exact wpS_mono (H mg3) fun r' st' q => by cases r' <;> exact q
        · rintro c2 st3 hor
          extract_lets -underBinder -merge +onlyGivenNames cr w1 n3 w2 m3 w3 o3 w4 mg3
          rcases hor with ⟨res, hc, hF, hG⟩ | ⟨hc, hG, I⟩
          · have hcr : cr = some res := hc
            clear_value cr
            subst hcr
            exact wpS_pure ⟨res, rfl, hF, hG⟩
          · have hcr : cr = none := hc
            clear_value cr
            subst hcr
            exact wpS_bind (wpS_modify (wpS_pure ⟨rfl, hG.gal _, I⟩))
  · rintro c st' ⟨_, _, I⟩
    have := I.n1
    have := I.n2
    have := I.pr
    exfalso; lia
  · exact ⟨rfl, .refl, M0, Nat.pos_of_ne_zero e1, by have := T.b0; show 1 < b.size; (exact Ar.lin 0 1 (.lt (.k 1) (.v 0)) [(.no (.eq (.v 0) (.k 1))), (.lt (.k 0) (.v 0))] (by kernel_rfl) [] [_] rfl rfl e2 this), Nat.sub_le _ _, Nat.le_refl _, by have := T.a0; show a.size - 1 + b.size + (0 + 1) ≤ _; (exact Ar.lin 0 2 (.le (.a (.a (.s (.v 0) (.k 1)) (.v 1)) (.a (.k 0) (.k 1))) (.a (.v 0) (.v 1))) [(.no (.eq (.s (.v 0) (.k 1)) (.k 0)))] (by kernel_rfl) [] [_, _] rfl rfl e1)⟩
  · rintro c st' ⟨res, hc, hF, hG⟩
    extract_lets -underBinder -merge +onlyGivenNames cr
    have hcr : cr = some res := hc
    clear_value cr
    subst hcr
    exact wpS_pure (h res st' hG hF)
end Tim
end Mine
end
section
namespace Mine
namespace Tim
open PySem PyProof.Rows
variable {prog : Program} {w : World} {A : Around} {E : Value → Shared → Prop} {s : Shared} {κ : SortKind} {r : Keyed → Nat} {a₀ : Array Keyed}
noncomputable def writeAt (o : Nat) : List Keyed → Nat → Array Keyed → Array Keyed
  | [], _, a => a
  | p :: l, j, a => writeAt o l (j + 1) (a.setIfInBounds (o + j) p)
theorem writeAt_eq (o : Nat) : ∀ (l : List Keyed) (j : Nat) (a : Array Keyed), (l.zipIdx j).foldl (fun a x => a.setIfInBounds (o + x.2) x.1) a = writeAt o l j a
  | [], _, _ => rfl
  | p :: l, j, a => by rw [List.zipIdx_cons, List.foldl_cons]; exact writeAt_eq o l (j + 1) _
theorem writeAt_get (o : Nat) : ∀ (l : List Keyed) (j : Nat) (a : Array Keyed), o + j + l.length ≤ a.size → ∀ k, (writeAt o l j a)[k]? = if o + j ≤ k ∧ k < o + j + l.length then l[k - (o + j)]? else a[k]?
  | [], j, a, _, k => by
    show a[k]? = _
    rw [if_neg (by simp)]
  | p :: l, j, a, h, k => by
    show (writeAt o l (j + 1) (a.setIfInBounds (o + j) p))[k]? = _
    simp only [List.length_cons] at h ⊢
    rw [writeAt_get o l (j + 1) _ (by simp; (exact Ar.lin 0 4 (.le (.a (.a (.v 0) (.a (.v 1) (.k 1))) (.v 2)) (.v 3)) [(.le (.a (.a (.v 0) (.v 1)) (.a (.v 2) (.k 1))) (.v 3))] (by kernel_rfl) [] [_, _, _, _] rfl rfl h)) k]
    by_cases h1 : o + (j + 1) ≤ k ∧ k < o + (j + 1) + l.length
    · rw [if_pos h1, if_pos (by (exact Ar.lin 0 4 (.an (.le (.a (.v 0) (.v 1)) (.v 2)) (.lt (.v 2) (.a (.a (.v 0) (.v 1)) (.a (.v 3) (.k 1))))) [(.an (.le (.a (.v 0) (.a (.v 1) (.k 1))) (.v 2)) (.lt (.v 2) (.a (.a (.v 0) (.a (.v 1) (.k 1))) (.v 3))))] (by kernel_rfl) [] [_, _, _, _] rfl rfl h1)), show k - (o + j) = (k - (o + (j + 1))) + 1 by (exact Ar.lin 0 4 (.eq (.s (.v 0) (.a (.v 1) (.v 2))) (.a (.s (.v 0) (.a (.v 1) (.a (.v 2) (.k 1)))) (.k 1))) [(.an (.le (.a (.v 1) (.a (.v 2) (.k 1))) (.v 0)) (.lt (.v 0) (.a (.a (.v 1) (.a (.v 2) (.k 1))) (.v 3))))] (by kernel_rfl) [] [_, _, _, _] rfl rfl h1), List.getElem?_cons_succ]
    · rw [if_neg h1]
      by_cases h2 : k = o + j
      · subst h2
        rw [if_pos (by (exact Ar.lin 0 3 (.an (.le (.a (.v 0) (.v 1)) (.a (.v 0) (.v 1))) (.lt (.a (.v 0) (.v 1)) (.a (.a (.v 0) (.v 1)) (.a (.v 2) (.k 1))))) [] (by kernel_rfl) [] [_, _, _] rfl rfl )), show o + j - (o + j) = 0 by (exact Ar.lin 0 2 (.eq (.s (.a (.v 0) (.v 1)) (.a (.v 0) (.v 1))) (.k 0)) [] (by kernel_rfl) [] [_, _] rfl rfl )]
        simp [Array.getElem?_setIfInBounds_self_of_lt, show o + j < a.size by (exact Ar.lin 0 4 (.lt (.a (.v 0) (.v 1)) (.v 2)) [(.le (.a (.a (.v 0) (.v 1)) (.a (.v 3) (.k 1))) (.v 2))] (by kernel_rfl) [] [_, _, _, _] rfl rfl h)]
      · rw [if_neg (by (exact Ar.lin 0 4 (.no (.an (.le (.a (.v 0) (.v 1)) (.v 2)) (.lt (.v 2) (.a (.a (.v 0) (.v 1)) (.a (.v 3) (.k 1)))))) [(.no (.an (.le (.a (.v 0) (.a (.v 1) (.k 1))) (.v 2)) (.lt (.v 2) (.a (.a (.v 0) (.a (.v 1) (.k 1))) (.v 3))))), (.no (.eq (.v 2) (.a (.v 0) (.v 1))))] (by kernel_rfl) [] [_, _, _, _] rfl rfl h1 h2)), Array.getElem?_setIfInBounds_ne (fun q => h2 q.symm)]
theorem writeAt_list {o : Nat} {l : List Keyed} {a : Array Keyed} (h : o + l.length ≤ a.size) : (writeAt o l 0 a).toList = a.toList.take o ++ (l ++ a.toList.drop (o + l.length)) := by
  apply List.ext_getElem?
  intro k
  rw [Array.getElem?_toList, writeAt_get o l 0 a (by (exact Ar.lin 0 3 (.le (.a (.a (.v 0) (.k 0)) (.v 1)) (.v 2)) [(.le (.a (.v 0) (.v 1)) (.v 2))] (by kernel_rfl) [] [_, _, _] rfl rfl h))]
  by_cases h1 : k < o
  · rw [if_neg (by (exact Ar.lin 0 3 (.no (.an (.le (.a (.v 0) (.k 0)) (.v 1)) (.lt (.v 1) (.a (.a (.v 0) (.k 0)) (.v 2))))) [(.lt (.v 1) (.v 0))] (by kernel_rfl) [] [_, _, _] rfl rfl h1)), List.getElem?_append_left (by simp; lia), List.getElem?_take_of_lt h1, Array.getElem?_toList]
  · rw [List.getElem?_append_right (by simp; lia)]
    have e : (a.toList.take o).length = o := by simp; lia
    rw [e]
    by_cases h2 : k < o + l.length
    · rw [if_pos (by (exact Ar.lin 0 3 (.an (.le (.a (.v 0) (.k 0)) (.v 1)) (.lt (.v 1) (.a (.a (.v 0) (.k 0)) (.v 2)))) [(.no (.lt (.v 1) (.v 0))), (.lt (.v 1) (.a (.v 0) (.v 2)))] (by kernel_rfl) [] [_, _, _] rfl rfl h1 h2)), List.getElem?_append_left (by (exact Ar.lin 0 3 (.lt (.s (.v 0) (.v 1)) (.v 2)) [(.no (.lt (.v 0) (.v 1))), (.lt (.v 0) (.a (.v 1) (.v 2)))] (by kernel_rfl) [] [_, _, _] rfl rfl h1 h2))]; rfl
    · rw [if_neg (by (exact Ar.lin 0 3 (.no (.an (.le (.a (.v 0) (.k 0)) (.v 1)) (.lt (.v 1) (.a (.a (.v 0) (.k 0)) (.v 2))))) [(.no (.lt (.v 1) (.a (.v 0) (.v 2))))] (by kernel_rfl) [] [_, _, _] rfl rfl h2)), List.getElem?_append_right (by (exact Ar.lin 0 3 (.le (.v 0) (.s (.v 1) (.v 2))) [(.no (.lt (.v 1) (.a (.v 2) (.v 0))))] (by kernel_rfl) [] [_, _, _] rfl rfl h2)), List.getElem?_drop, ← Array.getElem?_toList]; congr 1; (exact Ar.lin 0 3 (.eq (.v 0) (.a (.a (.v 1) (.v 2)) (.s (.s (.v 0) (.v 1)) (.v 2)))) [(.no (.lt (.v 0) (.a (.v 1) (.v 2))))] (by kernel_rfl) [] [_, _, _] rfl rfl h2)
theorem wpS_set {M : Model} {σ : Type} {x : σ} {Q : PUnit → σ → Prop} {st : σ} (h : Q ⟨⟩ x) : wpS M A E s (set x : StateT σ Sem PUnit) Q st := by
  unfold wpS; rw [StateT.run_set]; exact wpAny_pure ⟨rfl, h⟩
theorem Asc.join {xs : Array Keyed} {lo mid hi : Nat} (h1 : Asc r xs lo mid) (h2 : Asc r xs mid hi) (h : ∀ i j, lo ≤ i → i < mid → mid ≤ j → j < hi → R r xs i ≤ R r xs j) : Asc r xs lo hi := by
  intro i j a b c
  by_cases q : j < mid
  · exact h1 i j a b q
  · by_cases q2 : i < mid
    · exact h i j a q2 (by (exact Ar.lin 0 2 (.le (.v 0) (.v 1)) [(.no (.lt (.v 1) (.v 0)))] (by kernel_rfl) [] [_, _] rfl rfl q)) c
    · exact h2 i j (by (exact Ar.lin 0 2 (.le (.v 0) (.v 1)) [(.no (.lt (.v 1) (.v 0)))] (by kernel_rfl) [] [_, _] rfl rfl q2)) b c
theorem R_extract {xs : Array Keyed} {i j k : Nat} (hj : j ≤ xs.size) (hk : k < j - i) : R r (xs.extract i j) k = R r xs (i + k) := by
  refine R_congr ?_
  rw [Array.getElem?_extract, if_pos (by lia)]
theorem size_extract' {xs : Array Keyed} {i j : Nat} (hj : j ≤ xs.size) : (xs.extract i j).size = j - i := by simp; lia
theorem Asc.extract {xs : Array Keyed} {i j : Nat} (hj : j ≤ xs.size) (h : Asc r xs i j) : Asc r (xs.extract i j) 0 (xs.extract i j).size := by
  intro p q _ b c
  rw [size_extract' hj] at c
  rw [R_extract hj (by (exact Ar.lin 0 4 (.lt (.v 0) (.s (.v 1) (.v 2))) [(.le (.v 0) (.v 3)), (.lt (.v 3) (.s (.v 1) (.v 2)))] (by kernel_rfl) [] [_, _, _, _] rfl rfl b c)), R_extract hj (by (exact Ar.lin 0 3 (.lt (.v 0) (.s (.v 1) (.v 2))) [(.lt (.v 0) (.s (.v 1) (.v 2)))] (by kernel_rfl) [] [_, _, _] rfl rfl c))]
  exact h _ _ (by (exact Ar.lin 0 2 (.le (.v 0) (.a (.v 0) (.v 1))) [] (by kernel_rfl) [] [_, _] rfl rfl )) (by (exact Ar.lin 0 3 (.le (.a (.v 0) (.v 1)) (.a (.v 0) (.v 2))) [(.le (.v 1) (.v 2))] (by kernel_rfl) [] [_, _, _] rfl rfl b)) (by (exact Ar.lin 0 3 (.lt (.a (.v 0) (.v 1)) (.v 2)) [(.lt (.v 1) (.s (.v 2) (.v 0)))] (by kernel_rfl) [] [_, _, _] rfl rfl c))
theorem laid {st : SortSt} {res : Array Keyed} {sa k sb k1 e : Nat} {y z : Keyed} (hB : TB κ a₀ st) (ha : Asc r (arrOf st) sa sb) (hb : Asc r (arrOf st) sb e) (hk : sa + k ≤ sb) (hk1 : sb + k1 ≤ e) (he : e ≤ a₀.size)
    (kA : ∀ i, i < k → R r (arrOf st) (sa + i) ≤ r y) (hy : ∀ j, sb ≤ j → j < e → r y ≤ R r (arrOf st) j) (kB : ∀ j, sb + k1 ≤ j → j < e → r z ≤ R r (arrOf st) j) (hz : ∀ i, sa ≤ i → i < sb → R r (arrOf st) i ≤ r z)
    (hF : Fin' r ((arrOf st).extract (sa + k) sb) ((arrOf st).extract sb (sb + k1)) res) :
    (writeAt (sa + k) res.toList 0 (arrOf st)).Perm (arrOf st) ∧ Asc r (writeAt (sa + k) res.toList 0 (arrOf st)) sa e ∧ ∀ i, i < sa ∨ e ≤ i → (writeAt (sa + k) res.toList 0 (arrOf st))[i]? = (arrOf st)[i]? := by
  have hsz := hB.size
  obtain ⟨hp, hs⟩ := hF
  have hlen : res.toList.length = sb + k1 - (sa + k) := by
    have := hp.length_eq
    rw [List.length_append, toList_ext, toList_ext] at this
    simp only [List.length_take, List.length_drop, Array.length_toList] at this
    rw [Array.length_toList]
    rw [Nat.min_eq_left (Nat.sub_le_sub_right (Nat.le_trans (Nat.le_trans (Nat.le_add_right _ _) hk1) (hsz.symm ▸ he)) _), Nat.min_eq_left (Nat.sub_le_sub_right (Nat.le_trans hk1 (hsz.symm ▸ he)) _)] at this
    exact Ar.lin 0 5 (.eq (.v 0) (.s (.a (.v 1) (.v 2)) (.a (.v 3) (.v 4)))) [(.eq (.v 0) (.a (.s (.v 1) (.a (.v 3) (.v 4))) (.s (.a (.v 1) (.v 2)) (.v 1)))), (.le (.a (.v 3) (.v 4)) (.v 1))] (by kernel_rfl) [] [_, _, _, _, _] rfl rfl this hk
  have hfit : sa + k + res.toList.length ≤ (arrOf st).size := by (exact Ar.lin 0 8 (.le (.a (.a (.v 0) (.v 1)) (.v 2)) (.v 3)) [(.le (.a (.v 0) (.v 1)) (.v 4)), (.le (.a (.v 4) (.v 5)) (.v 6)), (.le (.v 6) (.v 7)), (.eq (.v 3) (.v 7)), (.eq (.v 2) (.s (.a (.v 4) (.v 5)) (.a (.v 0) (.v 1))))] (by kernel_rfl) [] [_, _, _, _, _, _, _, _] rfl rfl hk hk1 he hsz hlen)
  have hg := writeAt_get (sa + k) res.toList 0 (arrOf st) (by (exact Ar.lin 0 4 (.le (.a (.a (.a (.v 0) (.v 1)) (.k 0)) (.v 2)) (.v 3)) [(.le (.a (.a (.v 0) (.v 1)) (.v 2)) (.v 3))] (by kernel_rfl) [] [_, _, _, _] rfl rfl hfit))
  have hnot : ∀ i, i < sa + k ∨ sb + k1 ≤ i → ¬ (sa + k + 0 ≤ i ∧ i < sa + k + 0 + res.toList.length) := fun i hi q => by
    rcases hi with hi | hi
    · exact absurd hi (Nat.not_lt.mpr q.1)
    · have q2 := q.2
      exact Ar.fls 0 6 [(.le (.a (.v 0) (.v 1)) (.v 2)), (.lt (.v 2) (.a (.a (.a (.v 3) (.v 4)) (.k 0)) (.v 5))), (.eq (.v 5) (.s (.a (.v 0) (.v 1)) (.a (.v 3) (.v 4)))), (.le (.a (.v 3) (.v 4)) (.v 0))] (by kernel_rfl) [] [_, _, _, _, _, _] rfl rfl hi q2 hlen hk
  have hout : ∀ i, i < sa + k ∨ sb + k1 ≤ i → R r (writeAt (sa + k) res.toList 0 (arrOf st)) i = R r (arrOf st) i := fun i hi => R_congr (by rw [hg, if_neg (hnot i hi)])
  have hmid : ∀ i, sa + k ≤ i → i < sb + k1 → ∃ x, x ∈ res.toList ∧ R r (writeAt (sa + k) res.toList 0 (arrOf st)) i = r x := fun i h1 h2 => by
    have hlt : i - (sa + k) < res.toList.length := by (exact Ar.lin 0 6 (.lt (.s (.v 0) (.a (.v 1) (.v 2))) (.v 3)) [(.eq (.v 3) (.s (.a (.v 4) (.v 5)) (.a (.v 1) (.v 2)))), (.le (.a (.v 1) (.v 2)) (.v 0)), (.lt (.v 0) (.a (.v 4) (.v 5)))] (by kernel_rfl) [] [_, _, _, _, _, _] rfl rfl hlen h1 h2)
    refine ⟨res.toList[i - (sa + k)], List.getElem_mem hlt, R_of ?_⟩
    rw [hg, if_pos (by (exact Ar.lin 0 4 (.an (.le (.a (.a (.v 0) (.v 1)) (.k 0)) (.v 2)) (.lt (.v 2) (.a (.a (.a (.v 0) (.v 1)) (.k 0)) (.v 3)))) [(.le (.a (.v 0) (.v 1)) (.v 2)), (.lt (.s (.v 2) (.a (.v 0) (.v 1))) (.v 3))] (by kernel_rfl) [] [_, _, _, _] rfl rfl h1 hlt))]
    simp only [Nat.add_zero]
    exact List.getElem?_eq_getElem hlt
  have hfrom : ∀ x, x ∈ res.toList → ∃ j, sa + k ≤ j ∧ j < sb + k1 ∧ R r (arrOf st) j = r x := fun x hx => by
    rcases List.mem_append.mp (hp.mem_iff.mp hx) with q | q
    · rw [toList_ext] at q
      obtain ⟨j, j1, j2, _, j4⟩ := mem_ext (r := r) q
      exact ⟨j, j1, by (exact Ar.lin 0 5 (.lt (.v 0) (.a (.v 1) (.v 2))) [(.le (.a (.v 3) (.v 4)) (.v 1)), (.lt (.v 0) (.a (.a (.v 3) (.v 4)) (.s (.v 1) (.a (.v 3) (.v 4)))))] (by kernel_rfl) [] [_, _, _, _, _] rfl rfl hk j2), j4⟩
    · rw [toList_ext] at q
      obtain ⟨j, j1, j2, _, j4⟩ := mem_ext (r := r) q
      exact ⟨j, by (exact Ar.lin 0 4 (.le (.a (.v 0) (.v 1)) (.v 2)) [(.le (.a (.v 0) (.v 1)) (.v 3)), (.le (.v 3) (.v 2))] (by kernel_rfl) [] [_, _, _, _] rfl rfl hk j1), by (exact Ar.lin 0 3 (.lt (.v 0) (.a (.v 1) (.v 2))) [(.lt (.v 0) (.a (.v 1) (.s (.a (.v 1) (.v 2)) (.v 1))))] (by kernel_rfl) [] [_, _, _] rfl rfl j2), j4⟩
  refine ⟨?_, ?_, fun i hi => by rw [hg, if_neg (hnot i (hi.imp (fun q => Nat.lt_of_lt_of_le q (Nat.le_add_right _ _)) (Nat.le_trans hk1)))]⟩
  · refine Array.perm_iff_toList_perm.mpr ?_
    rw [writeAt_list hfit]
    have e1 : (arrOf st).toList = (arrOf st).toList.take (sa + k) ++ (((arrOf st).extract (sa + k) sb).toList ++ ((arrOf st).extract sb (sb + k1)).toList ++ (arrOf st).toList.drop (sa + k + res.toList.length)) := by
      rw [toList_ext, toList_ext, hlen, show sa + k + (sb + k1 - (sa + k)) = sb + k1 by (exact Ar.lin 0 4 (.eq (.a (.a (.v 0) (.v 1)) (.s (.a (.v 2) (.v 3)) (.a (.v 0) (.v 1)))) (.a (.v 2) (.v 3))) [(.le (.a (.v 0) (.v 1)) (.v 2))] (by kernel_rfl) [] [_, _, _, _] rfl rfl hk)]
      conv => lhs; rw [← List.take_append_drop (sa + k) (arrOf st).toList]
      congr 1
      conv => lhs; rw [← List.take_append_drop (sb - (sa + k)) ((arrOf st).toList.drop (sa + k))]
      rw [List.append_assoc]
      congr 1
      rw [List.drop_drop, show sa + k + (sb - (sa + k)) = sb by (exact Ar.lin 0 3 (.eq (.a (.a (.v 0) (.v 1)) (.s (.v 2) (.a (.v 0) (.v 1)))) (.v 2)) [(.le (.a (.v 0) (.v 1)) (.v 2))] (by kernel_rfl) [] [_, _, _] rfl rfl hk)]
      conv => lhs; rw [← List.take_append_drop (sb + k1 - sb) ((arrOf st).toList.drop sb)]
      congr 1
      rw [List.drop_drop]; congr 1; (exact Ar.lin 0 2 (.eq (.a (.v 0) (.s (.a (.v 0) (.v 1)) (.v 0))) (.a (.v 0) (.v 1))) [] (by kernel_rfl) [] [_, _] rfl rfl )
    conv => rhs; rw [e1]
    exact List.Perm.append_left _ (List.Perm.append_right _ hp)
  · intro i j i1 i2 i3
    by_cases c1 : j < sa + k
    · rw [hout i (.inl (Nat.lt_of_le_of_lt i2 c1)), hout j (.inl c1)]; exact ha i j i1 i2 (by (exact Ar.lin 0 4 (.lt (.v 0) (.v 1)) [(.le (.a (.v 2) (.v 3)) (.v 1)), (.lt (.v 0) (.a (.v 2) (.v 3)))] (by kernel_rfl) [] [_, _, _, _] rfl rfl hk c1))
    · by_cases c2 : j < sb + k1
      · obtain ⟨x, hx, rx⟩ := hmid j (by (exact Ar.lin 0 3 (.le (.a (.v 0) (.v 1)) (.v 2)) [(.no (.lt (.v 2) (.a (.v 0) (.v 1))))] (by kernel_rfl) [] [_, _, _] rfl rfl c1)) c2
        obtain ⟨q, q1, q2, q3⟩ := hfrom x hx
        by_cases c3 : i < sa + k
        · rw [hout i (.inl c3), rx, ← q3]
          by_cases c4 : q < sb
          · exact ha i q i1 (by (exact Ar.lin 0 4 (.le (.v 0) (.v 1)) [(.le (.a (.v 2) (.v 3)) (.v 1)), (.lt (.v 0) (.a (.v 2) (.v 3)))] (by kernel_rfl) [] [_, _, _, _] rfl rfl q1 c3)) c4
          · have := kA (i - sa) (by (exact Ar.lin 0 3 (.lt (.s (.v 0) (.v 1)) (.v 2)) [(.le (.v 1) (.v 0)), (.lt (.v 0) (.a (.v 1) (.v 2)))] (by kernel_rfl) [] [_, _, _] rfl rfl i1 c3))
            rw [show sa + (i - sa) = i by (exact Ar.lin 0 2 (.eq (.a (.v 0) (.s (.v 1) (.v 0))) (.v 1)) [(.le (.v 0) (.v 1))] (by kernel_rfl) [] [_, _] rfl rfl i1)] at this
            exact Nat.le_trans this (hy q (by (exact Ar.lin 0 2 (.le (.v 0) (.v 1)) [(.no (.lt (.v 1) (.v 0)))] (by kernel_rfl) [] [_, _] rfl rfl c4)) (by (exact Ar.lin 0 4 (.lt (.v 0) (.v 1)) [(.le (.a (.v 2) (.v 3)) (.v 1)), (.lt (.v 0) (.a (.v 2) (.v 3)))] (by kernel_rfl) [] [_, _, _, _] rfl rfl hk1 q2)))
        · -- both inside
          have l1 : i - (sa + k) < res.toList.length := by (exact Ar.lin 0 7 (.lt (.s (.v 0) (.a (.v 1) (.v 2))) (.v 3)) [(.eq (.v 3) (.s (.a (.v 4) (.v 5)) (.a (.v 1) (.v 2)))), (.le (.v 0) (.v 6)), (.no (.lt (.v 6) (.a (.v 1) (.v 2)))), (.lt (.v 6) (.a (.v 4) (.v 5)))] (by kernel_rfl) [] [_, _, _, _, _, _, _] rfl rfl hlen i2 c1 c2)
          have l2 : j - (sa + k) < res.toList.length := by (exact Ar.lin 0 6 (.lt (.s (.v 0) (.a (.v 1) (.v 2))) (.v 3)) [(.eq (.v 3) (.s (.a (.v 4) (.v 5)) (.a (.v 1) (.v 2)))), (.no (.lt (.v 0) (.a (.v 1) (.v 2)))), (.lt (.v 0) (.a (.v 4) (.v 5)))] (by kernel_rfl) [] [_, _, _, _, _, _] rfl rfl hlen c1 c2)
          have e1 : R r (writeAt (sa + k) res.toList 0 (arrOf st)) i = r res.toList[i - (sa + k)] := R_of (by rw [hg, if_pos (by (exact Ar.lin 0 4 (.an (.le (.a (.a (.v 0) (.v 1)) (.k 0)) (.v 2)) (.lt (.v 2) (.a (.a (.a (.v 0) (.v 1)) (.k 0)) (.v 3)))) [(.no (.lt (.v 2) (.a (.v 0) (.v 1)))), (.lt (.s (.v 2) (.a (.v 0) (.v 1))) (.v 3))] (by kernel_rfl) [] [_, _, _, _] rfl rfl c3 l1))]; simp only [Nat.add_zero]; exact List.getElem?_eq_getElem l1)
          have e2 : R r (writeAt (sa + k) res.toList 0 (arrOf st)) j = r res.toList[j - (sa + k)] := R_of (by rw [hg, if_pos (by (exact Ar.lin 0 4 (.an (.le (.a (.a (.v 0) (.v 1)) (.k 0)) (.v 2)) (.lt (.v 2) (.a (.a (.a (.v 0) (.v 1)) (.k 0)) (.v 3)))) [(.no (.lt (.v 2) (.a (.v 0) (.v 1)))), (.lt (.s (.v 2) (.a (.v 0) (.v 1))) (.v 3))] (by kernel_rfl) [] [_, _, _, _] rfl rfl c1 l2))]; simp only [Nat.add_zero]; exact List.getElem?_eq_getElem l2)
          rw [e1, e2]
          by_cases q : i = j
          · subst q; exact Nat.le_refl _
          · exact (List.pairwise_iff_getElem.mp hs) _ _ l1 l2 (by (exact Ar.lin 0 4 (.lt (.s (.v 0) (.a (.v 1) (.v 2))) (.s (.v 3) (.a (.v 1) (.v 2)))) [(.le (.v 0) (.v 3)), (.no (.lt (.v 0) (.a (.v 1) (.v 2)))), (.no (.eq (.v 0) (.v 3)))] (by kernel_rfl) [] [_, _, _, _] rfl rfl i2 c3 q))
      · rw [hout j (.inr (Nat.not_lt.mp c2))]
        by_cases c3 : i < sa + k
        · rw [hout i (.inl c3)]
          have := kA (i - sa) (by (exact Ar.lin 0 3 (.lt (.s (.v 0) (.v 1)) (.v 2)) [(.le (.v 1) (.v 0)), (.lt (.v 0) (.a (.v 1) (.v 2)))] (by kernel_rfl) [] [_, _, _] rfl rfl i1 c3))
          rw [show sa + (i - sa) = i by (exact Ar.lin 0 2 (.eq (.a (.v 0) (.s (.v 1) (.v 0))) (.v 1)) [(.le (.v 0) (.v 1))] (by kernel_rfl) [] [_, _] rfl rfl i1)] at this
          exact Nat.le_trans this (hy j (by (exact Ar.lin 0 3 (.le (.v 0) (.v 1)) [(.no (.lt (.v 1) (.a (.v 0) (.v 2))))] (by kernel_rfl) [] [_, _, _] rfl rfl c2)) i3)
        · by_cases c4 : i < sb + k1
          · obtain ⟨x, hx, rx⟩ := hmid i (by (exact Ar.lin 0 3 (.le (.a (.v 0) (.v 1)) (.v 2)) [(.no (.lt (.v 2) (.a (.v 0) (.v 1))))] (by kernel_rfl) [] [_, _, _] rfl rfl c3)) c4
            obtain ⟨q, q1, q2, q3⟩ := hfrom x hx
            rw [rx, ← q3]
            by_cases c5 : q < sb
            · exact Nat.le_trans (hz q (by (exact Ar.lin 0 3 (.le (.v 0) (.v 1)) [(.le (.a (.v 0) (.v 2)) (.v 1))] (by kernel_rfl) [] [_, _, _] rfl rfl q1)) c5) (kB j (by (exact Ar.lin 0 3 (.le (.a (.v 0) (.v 1)) (.v 2)) [(.no (.lt (.v 2) (.a (.v 0) (.v 1))))] (by kernel_rfl) [] [_, _, _] rfl rfl c2)) i3)
            · exact hb q j (by (exact Ar.lin 0 2 (.le (.v 0) (.v 1)) [(.no (.lt (.v 1) (.v 0)))] (by kernel_rfl) [] [_, _] rfl rfl c5)) (by (exact Ar.lin 0 4 (.le (.v 0) (.v 1)) [(.no (.lt (.v 1) (.a (.v 2) (.v 3)))), (.lt (.v 0) (.a (.v 2) (.v 3)))] (by kernel_rfl) [] [_, _, _, _] rfl rfl c2 q2)) i3
          · rw [hout i (.inr (Nat.not_lt.mp c4))]; exact hb i j (by (exact Ar.lin 0 3 (.le (.v 0) (.v 1)) [(.no (.lt (.v 1) (.a (.v 0) (.v 2))))] (by kernel_rfl) [] [_, _, _] rfl rfl c4)) i2 i3
theorem wpS_mergeAt (hC : Ask prog w A s κ r a₀) {st : SortSt} {i sa na pa sb nb pb : Nat} {Q : Bool → SortSt → Prop} (hB : TB κ a₀ st) (hp1 : (pendingOf st)[i]? = some (sa, na, pa)) (hp2 : (pendingOf st)[i + 1]? = some (sb, nb, pb))
    (hsb : sb = sa + na) (hna : 0 < na) (hnb : 0 < nb) (hsz : sb + nb ≤ a₀.size) (ha : Asc r (arrOf st) sa sb) (hb : Asc r (arrOf st) sb (sb + nb))
    (h : ∀ st', TB κ a₀ st' → pendingOf st' = ((pendingOf st).setIfInBounds i (sa, na + nb, pa)).eraseIdxIfInBounds (i + 1) → Asc r (arrOf st') sa (sb + nb) → (∀ k, k < sa ∨ sb + nb ≤ k → (arrOf st')[k]? = (arrOf st)[k]?) → Q true st') :
    wpS (model prog w) A E s (mergeAt' i) Q st := by
  unfold mergeAt'
  refine wpS_bind (wpS_get ?_)
  dsimp only
  rw [show (sortPriv% PySem.Builtin.SortState.pending) st = pendingOf st from rfl, hp1, hp2]
  dsimp only
  refine wpS_bind (wpS_set ?_)
  have hsz0 := hB.size
  have hB1 : TB κ a₀ (SortSt.mk' (kindOf st) (arrOf st) (((pendingOf st).setIfInBounds i (sa, na + nb, pa)).eraseIdxIfInBounds (i + 1)) (gallopOf st) (failedOf st)) := ⟨hB.perm, hB.kind, hB.failed⟩
  obtain ⟨y, hy, my, ry⟩ := hB.at r (i := sb) (by (exact Ar.lin 0 3 (.lt (.v 0) (.v 1)) [(.lt (.k 0) (.v 2)), (.le (.a (.v 0) (.v 2)) (.v 1))] (by kernel_rfl) [] [_, _, _] rfl rfl hnb hsz))
  refine wpS_bind (wpS_elem hy ?_)
  refine wpS_bind (wpS_gallop hC hB1.kind my (fun q hq => let ⟨p, p1, p2, _⟩ := hB.at r (i := sa + q) (by (exact Ar.lin 0 6 (.lt (.a (.v 0) (.v 1)) (.v 2)) [(.eq (.v 3) (.a (.v 0) (.v 4))), (.le (.a (.v 3) (.v 5)) (.v 2)), (.lt (.v 1) (.v 4))] (by kernel_rfl) [] [_, _, _, _, _, _] rfl rfl hsb hsz hq)); ⟨p, p1, p2⟩) (by rw [← hsb]; exact ha) hna ?_)
  intro k hk1 hk2 hk3
  dsimp only
  have kA : ∀ q, q < k → R r (arrOf st) (sa + q) ≤ r y := fun q hq => by simpa [By] using hk2 q hq
  have kA' : ∀ q, k ≤ q → q < na → r y < R r (arrOf st) (sa + q) := fun q hq hn => by simpa [By] using hk3 q hq hn
  have hyb : ∀ j, sb ≤ j → j < sb + nb → r y ≤ R r (arrOf st) j := fun j h1 h2 => by rw [← ry]; exact hb sb j (Nat.le_refl _) h1 h2
  by_cases e1 : na - k = 0
  · rw [if_pos (by simpa using e1)]
    refine wpS_pure (h _ hB1 rfl (ha.join hb fun p q p1 p2 p3 p4 => ?_) fun z1 z2 => rfl)
    have := kA (p - sa) (by (exact Ar.lin 0 5 (.lt (.s (.v 0) (.v 1)) (.v 2)) [(.eq (.v 3) (.a (.v 1) (.v 4))), (.lt (.k 0) (.v 4)), (.eq (.s (.v 4) (.v 2)) (.k 0)), (.lt (.v 0) (.v 3))] (by kernel_rfl) [] [_, _, _, _, _] rfl rfl hsb hna e1 p2))
    rw [show sa + (p - sa) = p by (exact Ar.lin 0 2 (.eq (.a (.v 0) (.s (.v 1) (.v 0))) (.v 1)) [(.le (.v 0) (.v 1))] (by kernel_rfl) [] [_, _] rfl rfl p1)] at this
    exact Nat.le_trans this (hyb q p3 p4)
  · rw [if_neg (by simpa using e1)]
    obtain ⟨z, hz, mz, rz⟩ := hB.at r (i := sa + k + (na - k) - 1) (by (exact Ar.lin 0 6 (.lt (.s (.a (.a (.v 0) (.v 1)) (.s (.v 2) (.v 1))) (.k 1)) (.v 3)) [(.eq (.v 4) (.a (.v 0) (.v 2))), (.le (.a (.v 4) (.v 5)) (.v 3)), (.no (.eq (.s (.v 2) (.v 1)) (.k 0)))] (by kernel_rfl) [] [_, _, _, _, _, _] rfl rfl hsb hsz e1))
    have hza : ∀ p, sa ≤ p → p < sb → R r (arrOf st) p ≤ r z := fun p p1 p2 => by rw [← rz]; exact ha p _ p1 (by (exact Ar.lin 0 5 (.le (.v 0) (.s (.a (.a (.v 1) (.v 2)) (.s (.v 3) (.v 2))) (.k 1))) [(.eq (.v 4) (.a (.v 1) (.v 3))), (.lt (.v 0) (.v 4))] (by kernel_rfl) [] [_, _, _, _, _] rfl rfl hsb p2)) (by (exact Ar.lin 0 4 (.lt (.s (.a (.a (.v 0) (.v 1)) (.s (.v 2) (.v 1))) (.k 1)) (.v 3)) [(.eq (.v 3) (.a (.v 0) (.v 2))), (.no (.eq (.s (.v 2) (.v 1)) (.k 0)))] (by kernel_rfl) [] [_, _, _, _] rfl rfl hsb e1))
    refine wpS_bind (wpS_elem hz ?_)
    refine wpS_bind (wpS_gallop hC hB1.kind mz (fun q hq => let ⟨p, p1, p2, _⟩ := hB.at r (i := sb + q) (by (exact Ar.lin 0 4 (.lt (.a (.v 0) (.v 1)) (.v 2)) [(.le (.a (.v 0) (.v 3)) (.v 2)), (.lt (.v 1) (.v 3))] (by kernel_rfl) [] [_, _, _, _] rfl rfl hsz hq)); ⟨p, p1, p2⟩) hb (by (exact Ar.lin 0 1 (.lt (.s (.v 0) (.k 1)) (.v 0)) [(.lt (.k 0) (.v 0))] (by kernel_rfl) [] [_] rfl rfl hnb)) ?_)
    intro k1 hl1 hl2 hl3
    dsimp only
    have kB : ∀ j, sb + k1 ≤ j → j < sb + nb → r z ≤ R r (arrOf st) j := fun j h1 h2 => by
      have := hl3 (j - sb) (by (exact Ar.lin 0 3 (.le (.v 0) (.s (.v 1) (.v 2))) [(.le (.a (.v 2) (.v 0)) (.v 1))] (by kernel_rfl) [] [_, _, _] rfl rfl h1)) (by (exact Ar.lin 0 3 (.lt (.s (.v 0) (.v 1)) (.v 2)) [(.lt (.k 0) (.v 2)), (.lt (.v 0) (.a (.v 1) (.v 2)))] (by kernel_rfl) [] [_, _, _] rfl rfl hnb h2))
      rw [show sb + (j - sb) = j by (exact Ar.lin 0 3 (.eq (.a (.v 0) (.s (.v 1) (.v 0))) (.v 1)) [(.le (.a (.v 0) (.v 2)) (.v 1))] (by kernel_rfl) [] [_, _, _] rfl rfl h1)] at this
      simpa [By] using this
    have kB' : ∀ q, q < k1 → R r (arrOf st) (sb + q) < r z := fun q hq => by simpa [By] using hl2 q hq
    by_cases e2 : k1 = 0
    · rw [if_pos (by simpa using e2)]
      refine wpS_pure (h _ hB1 rfl (ha.join hb fun p q p1 p2 p3 p4 => ?_) fun z1 z2 => rfl)
      exact Nat.le_trans (hza p p1 p2) (kB q (by (exact Ar.lin 0 3 (.le (.a (.v 0) (.v 1)) (.v 2)) [(.eq (.v 1) (.k 0)), (.le (.v 0) (.v 2))] (by kernel_rfl) [] [_, _, _] rfl rfl e2 p3)) p4)
    · rw [if_neg (by simpa using e2)]
      have s1 : ((arrOf st).extract (sa + k) sb).size = sb - (sa + k) := size_extract' (by (exact Ar.lin 0 4 (.le (.v 0) (.v 1)) [(.le (.a (.v 0) (.v 2)) (.v 3)), (.eq (.v 1) (.v 3))] (by kernel_rfl) [] [_, _, _, _] rfl rfl hsz hsz0))
      have s2 : ((arrOf st).extract sb (sb + k1)).size = sb + k1 - sb := size_extract' (by (exact Ar.lin 0 5 (.le (.a (.v 0) (.v 1)) (.v 2)) [(.le (.a (.v 0) (.v 3)) (.v 4)), (.eq (.v 2) (.v 4)), (.le (.v 1) (.v 3))] (by kernel_rfl) [] [_, _, _, _, _] rfl rfl hsz hsz0 hl1))
      have sub : ∀ (p q : Nat), ∀ x ∈ ((arrOf st).extract p q).toList, x ∈ a₀.toList := fun p q x hx => by
        rw [toList_ext] at hx
        exact hB.mem.mp (List.mem_of_mem_drop (List.mem_of_mem_take hx))
      have f1 : ∀ p, p < ((arrOf st).extract (sa + k) sb).size → R r ((arrOf st).extract sb (sb + k1)) 0 ≤ R r ((arrOf st).extract (sa + k) sb) p := fun p hp => by
        rw [s1] at hp
        rw [R_extract (by (exact Ar.lin 0 5 (.le (.a (.v 0) (.v 1)) (.v 2)) [(.le (.a (.v 0) (.v 3)) (.v 4)), (.eq (.v 2) (.v 4)), (.le (.v 1) (.v 3))] (by kernel_rfl) [] [_, _, _, _, _] rfl rfl hsz hsz0 hl1)) (by (exact Ar.lin 0 2 (.lt (.k 0) (.s (.a (.v 0) (.v 1)) (.v 0))) [(.no (.eq (.v 1) (.k 0)))] (by kernel_rfl) [] [_, _] rfl rfl e2)), R_extract (by (exact Ar.lin 0 4 (.le (.v 0) (.v 1)) [(.le (.a (.v 0) (.v 2)) (.v 3)), (.eq (.v 1) (.v 3))] (by kernel_rfl) [] [_, _, _, _] rfl rfl hsz hsz0)) (by (exact Ar.lin 0 4 (.lt (.v 0) (.s (.v 1) (.a (.v 2) (.v 3)))) [(.lt (.v 0) (.s (.v 1) (.a (.v 2) (.v 3))))] (by kernel_rfl) [] [_, _, _, _] rfl rfl hp))]
        have := kA' (k + p) (by (exact Ar.lin 0 2 (.le (.v 0) (.a (.v 0) (.v 1))) [] (by kernel_rfl) [] [_, _] rfl rfl )) (by (exact Ar.lin 0 5 (.lt (.a (.v 0) (.v 1)) (.v 2)) [(.eq (.v 3) (.a (.v 4) (.v 2))), (.lt (.v 1) (.s (.v 3) (.a (.v 4) (.v 0))))] (by kernel_rfl) [] [_, _, _, _, _] rfl rfl hsb hp))
        rw [show sa + (k + p) = sa + k + p by (exact Ar.lin 0 3 (.eq (.a (.v 0) (.a (.v 1) (.v 2))) (.a (.a (.v 0) (.v 1)) (.v 2))) [] (by kernel_rfl) [] [_, _, _] rfl rfl )] at this
        rw [Nat.add_zero, ry]; (exact Ar.lin 0 2 (.le (.v 0) (.v 1)) [(.lt (.v 0) (.v 1))] (by kernel_rfl) [] [_, _] rfl rfl this)
      have f2 : ∀ p, p < ((arrOf st).extract sb (sb + k1)).size → R r ((arrOf st).extract sb (sb + k1)) p ≤ R r ((arrOf st).extract (sa + k) sb) (((arrOf st).extract (sa + k) sb).size - 1) := fun p hp => by
        rw [s2] at hp
        rw [s1, R_extract (by (exact Ar.lin 0 5 (.le (.a (.v 0) (.v 1)) (.v 2)) [(.le (.a (.v 0) (.v 3)) (.v 4)), (.eq (.v 2) (.v 4)), (.le (.v 1) (.v 3))] (by kernel_rfl) [] [_, _, _, _, _] rfl rfl hsz hsz0 hl1)) (by (exact Ar.lin 0 3 (.lt (.v 0) (.s (.a (.v 1) (.v 2)) (.v 1))) [(.lt (.v 0) (.s (.a (.v 1) (.v 2)) (.v 1)))] (by kernel_rfl) [] [_, _, _] rfl rfl hp)), R_extract (by (exact Ar.lin 0 4 (.le (.v 0) (.v 1)) [(.le (.a (.v 0) (.v 2)) (.v 3)), (.eq (.v 1) (.v 3))] (by kernel_rfl) [] [_, _, _, _] rfl rfl hsz hsz0)) (by (exact Ar.lin 0 4 (.lt (.s (.s (.v 0) (.a (.v 1) (.v 2))) (.k 1)) (.s (.v 0) (.a (.v 1) (.v 2)))) [(.eq (.v 0) (.a (.v 1) (.v 3))), (.no (.eq (.s (.v 3) (.v 2)) (.k 0)))] (by kernel_rfl) [] [_, _, _, _] rfl rfl hsb e1))]
        have := kB' p (by (exact Ar.lin 0 3 (.lt (.v 0) (.v 1)) [(.lt (.v 0) (.s (.a (.v 2) (.v 1)) (.v 2)))] (by kernel_rfl) [] [_, _, _] rfl rfl hp))
        rw [show sa + k + (sb - (sa + k) - 1) = sa + k + (na - k) - 1 by (exact Ar.lin 0 4 (.eq (.a (.a (.v 0) (.v 1)) (.s (.s (.v 2) (.a (.v 0) (.v 1))) (.k 1))) (.s (.a (.a (.v 0) (.v 1)) (.s (.v 3) (.v 1))) (.k 1))) [(.eq (.v 2) (.a (.v 0) (.v 3))), (.no (.eq (.s (.v 3) (.v 1)) (.k 0)))] (by kernel_rfl) [] [_, _, _, _] rfl rfl hsb e1), rz]; (exact Ar.lin 0 2 (.le (.v 0) (.v 1)) [(.lt (.v 0) (.v 1))] (by kernel_rfl) [] [_, _] rfl rfl this)
      have fin : ∀ (res : Array Keyed) (st2 : SortSt), Gs (SortSt.mk' (kindOf st) (arrOf st) (((pendingOf st).setIfInBounds i (sa, na + nb, pa)).eraseIdxIfInBounds (i + 1)) (gallopOf st) (failedOf st)) st2 → Fin' r ((arrOf st).extract (sa + k) sb) ((arrOf st).extract sb (sb + k1)) res →
          Q ((failedOf (setArr st2 (List.foldl (fun a x => a.setIfInBounds (sa + k + x.snd) x.fst) (arrOf st2) res.toList.zipIdx))).isNone) (setArr st2 (List.foldl (fun a x => a.setIfInBounds (sa + k + x.snd) x.fst) (arrOf st2) res.toList.zipIdx)) := fun res st2 hG hF => by
        have hfl : failedOf st2 = none := hG.failed.trans hB.failed
        have e : List.foldl (fun a x => a.setIfInBounds (sa + k + x.snd) x.fst) (arrOf st2) res.toList.zipIdx = writeAt (sa + k) res.toList 0 (arrOf st) := by
          rw [hG.arr]; exact writeAt_eq (sa + k) res.toList 0 (arrOf st)
        rw [e]
        show Q (failedOf st2).isNone _
        rw [hfl]
        obtain ⟨q1, q2, q3⟩ := laid (e := sb + nb) hB ha hb (by (exact Ar.lin 0 4 (.le (.a (.v 0) (.v 1)) (.v 2)) [(.eq (.v 2) (.a (.v 0) (.v 3))), (.le (.v 1) (.v 3))] (by kernel_rfl) [] [_, _, _, _] rfl rfl hsb hk1)) (by (exact Ar.lin 0 3 (.le (.a (.v 0) (.v 1)) (.a (.v 0) (.v 2))) [(.le (.v 1) (.v 2))] (by kernel_rfl) [] [_, _, _] rfl rfl hl1)) hsz kA hyb kB hza hF
        exact h _ ⟨q1.trans hB.perm, hG.kind.trans hB.kind, hfl⟩ hG.pend q2 q3
      have z1 : 0 < ((arrOf st).extract (sa + k) sb).size := by (exact Ar.lin 0 5 (.lt (.k 0) (.v 0)) [(.eq (.v 1) (.a (.v 2) (.v 3))), (.no (.eq (.s (.v 3) (.v 4)) (.k 0))), (.eq (.v 0) (.s (.v 1) (.a (.v 2) (.v 4))))] (by kernel_rfl) [] [_, _, _, _, _] rfl rfl hsb e1 s1)
      have z2 : 0 < ((arrOf st).extract sb (sb + k1)).size := by (exact Ar.lin 0 3 (.lt (.k 0) (.v 0)) [(.no (.eq (.v 1) (.k 0))), (.eq (.v 0) (.s (.a (.v 2) (.v 1)) (.v 2)))] (by kernel_rfl) [] [_, _, _] rfl rfl e2 s2)
      have c1 : Asc r ((arrOf st).extract (sa + k) sb) 0 ((arrOf st).extract (sa + k) sb).size := Asc.extract (by (exact Ar.lin 0 4 (.le (.v 0) (.v 1)) [(.le (.a (.v 0) (.v 2)) (.v 3)), (.eq (.v 1) (.v 3))] (by kernel_rfl) [] [_, _, _, _] rfl rfl hsz hsz0)) fun p q p1 p2 p3 => ha p q (by (exact Ar.lin 0 3 (.le (.v 0) (.v 1)) [(.le (.a (.v 0) (.v 2)) (.v 1))] (by kernel_rfl) [] [_, _, _] rfl rfl p1)) p2 p3
      have c2 : Asc r ((arrOf st).extract sb (sb + k1)) 0 ((arrOf st).extract sb (sb + k1)).size := Asc.extract (by (exact Ar.lin 0 5 (.le (.a (.v 0) (.v 1)) (.v 2)) [(.le (.a (.v 0) (.v 3)) (.v 4)), (.eq (.v 2) (.v 4)), (.le (.v 1) (.v 3))] (by kernel_rfl) [] [_, _, _, _, _] rfl rfl hsz hsz0 hl1)) fun p q p1 p2 p3 => hb p q p1 p2 (by (exact Ar.lin 0 4 (.lt (.v 0) (.a (.v 1) (.v 2))) [(.le (.v 3) (.v 2)), (.lt (.v 0) (.a (.v 1) (.v 3)))] (by kernel_rfl) [] [_, _, _, _] rfl rfl hl1 p3))
      have two : Two r a₀ ((arrOf st).extract (sa + k) sb) ((arrOf st).extract sb (sb + k1)) := ⟨sub _ _, sub _ _, z1, z2, c1, c2, f1, f2⟩
      by_cases e3 : na - k ≤ k1
      · rw [if_pos e3]
        refine wpS_bind (wpS_mergeLo hC hB1.kind two fun res st2 hG hF => ?_)
        exact wpS_bind (wpS_modify (wpS_bind (wpS_get (wpS_pure (fin res st2 hG hF)))))
      · rw [if_neg e3]
        refine wpS_bind (wpS_mergeHi hC hB1.kind two fun res st2 hG hF => ?_)
        exact wpS_bind (wpS_modify (wpS_bind (wpS_get (wpS_pure (fin res st2 hG hF)))))
end Tim
end Mine
end
section
namespace Mine
namespace Tim
open PySem PyProof.Rows
variable {prog : Program} {w : World} {A : Around} {E : Value → Shared → Prop} {s : Shared} {κ : SortKind} {r : Keyed → Nat} {a₀ : Array Keyed}
noncomputable def Chain (r : Keyed → Nat) (xs : Array Keyed) : Nat → List (Nat × Nat × Nat) → Nat → Prop
  | o, [], e => o = e
  | o, x :: t, e => x.1 = o ∧ 1 ≤ x.2.1 ∧ Asc r xs o (o + x.2.1) ∧ Chain r xs (o + x.2.1) t e
theorem Chain.len {xs : Array Keyed} : ∀ {l : List (Nat × Nat × Nat)} {o e : Nat}, Chain r xs o l e → o + l.length ≤ e
  | [], o, e, h => by have : o = e := h; simp [this]
  | x :: t, o, e, h => by
    obtain ⟨_, h1, _, h2⟩ := h
    have := h2.len
    simp only [List.length_cons]; (exact Ar.lin 0 4 (.le (.a (.v 0) (.a (.v 1) (.k 1))) (.v 2)) [(.le (.k 1) (.v 3)), (.le (.a (.a (.v 0) (.v 3)) (.v 1)) (.v 2))] (by kernel_rfl) [] [_, _, _, _] rfl rfl h1 this)
theorem Chain.append {xs : Array Keyed} : ∀ {l l' : List (Nat × Nat × Nat)} {o m e : Nat}, Chain r xs o l m → Chain r xs m l' e → Chain r xs o (l ++ l') e
  | [], l', o, m, e, h, h' => by have : o = m := h; subst this; exact h'
  | x :: t, l', o, m, e, h, h' => by
    obtain ⟨a, b, c, d⟩ := h
    exact ⟨a, b, c, d.append h'⟩
theorem Chain.split {xs : Array Keyed} : ∀ {l l' : List (Nat × Nat × Nat)} {o e : Nat}, Chain r xs o (l ++ l') e → ∃ m, Chain r xs o l m ∧ Chain r xs m l' e
  | [], l', o, e, h => ⟨o, rfl, h⟩
  | x :: t, l', o, e, h => by
    obtain ⟨a, b, c, d⟩ := h
    obtain ⟨m, h1, h2⟩ := d.split
    exact ⟨m, ⟨a, b, c, h1⟩, h2⟩
theorem Chain.congr {xs ys : Array Keyed} : ∀ {l : List (Nat × Nat × Nat)} {o e : Nat}, (∀ k, o ≤ k → k < e → R r ys k = R r xs k) → Chain r xs o l e → Chain r ys o l e
  | [], o, e, _, h => h
  | x :: t, o, e, hk, h => by
    obtain ⟨a, b, c, d⟩ := h
    have hl := d.len
    refine ⟨a, b, fun i j h1 h2 h3 => ?_, d.congr fun k h1 h2 => hk k (by lia) h2⟩
    rw [hk i h1 (by lia), hk j (by lia) (by lia)]
    exact c i j h1 h2 h3
theorem Chain.power {xs : Array Keyed} {l : List (Nat × Nat × Nat)} {s n p q o e : Nat} (h : Chain r xs o (l ++ [(s, n, p)]) e) : Chain r xs o (l ++ [(s, n, q)]) e := by
  obtain ⟨m, h1, h2⟩ := h.split
  exact h1.append h2
theorem modify_last {α : Type} (f : α → α) (y : α) : ∀ (l : List α), (l ++ [y]).modify l.length f = l ++ [f y]
  | [] => rfl
  | x :: l => by simp [modify_last f y l]
theorem split_at {α : Type} {l : List α} {i : Nat} (h : i + 1 < l.length) : ∃ pre a b post, l = pre ++ a :: b :: post ∧ pre.length = i := by
  refine ⟨l.take i, l[i], l[i + 1], l.drop (i + 2), ?_, by simp; lia⟩
  conv => lhs; rw [← List.take_append_drop i l, List.drop_eq_getElem_cons (by lia), List.drop_eq_getElem_cons (by lia)]
theorem wpS_mergeC (hC : Ask prog w A s κ r a₀) {st : SortSt} {i e : Nat} {Q : Bool → SortSt → Prop} (hB : TB κ a₀ st) (hch : Chain r (arrOf st) 0 (pendingOf st).toList e) (he : e ≤ a₀.size) (hi : i + 1 < (pendingOf st).size)
    (h : ∀ st', TB κ a₀ st' → Chain r (arrOf st') 0 (pendingOf st').toList e → (pendingOf st').size + 1 = (pendingOf st).size → (∀ k, e ≤ k → (arrOf st')[k]? = (arrOf st)[k]?) → Q true st') :
    wpS (model prog w) A E s (mergeAt' i) Q st := by
  obtain ⟨pre, ⟨sa, na, pa⟩, ⟨sb, nb, pb⟩, post, hl, hlen⟩ := split_at (l := (pendingOf st).toList) (i := i) (by simpa using hi)
  have hch' := hch
  rw [hl] at hch'
  obtain ⟨m, c1, c2⟩ := hch'.split
  obtain ⟨d1, d2, d3, d4, d5, d6, d7⟩ := c2
  dsimp only at d1 d2 d3 d4 d5 d6 d7
  subst d1
  have hle := d7.len
  have g1 : (pendingOf st)[i]? = some (sa, na, pa) := by
    rw [← Array.getElem?_toList, hl, List.getElem?_append_right (by (exact Ar.lin 0 2 (.le (.v 0) (.v 1)) [(.eq (.v 0) (.v 1))] (by kernel_rfl) [] [_, _] rfl rfl hlen)), hlen]; simp
  have g2 : (pendingOf st)[i + 1]? = some (sb, nb, pb) := by
    rw [← Array.getElem?_toList, hl, List.getElem?_append_right (by (exact Ar.lin 0 2 (.le (.v 0) (.a (.v 1) (.k 1))) [(.eq (.v 0) (.v 1))] (by kernel_rfl) [] [_, _] rfl rfl hlen)), hlen, show i + 1 - i = 1 by (exact Ar.lin 0 1 (.eq (.s (.a (.v 0) (.k 1)) (.v 0)) (.k 1)) [] (by kernel_rfl) [] [_] rfl rfl )]; simp
  refine wpS_mergeAt hC hB g1 g2 d4 (by (exact Ar.lin 0 1 (.lt (.k 0) (.v 0)) [(.le (.k 1) (.v 0))] (by kernel_rfl) [] [_] rfl rfl d2)) (by (exact Ar.lin 0 1 (.lt (.k 0) (.v 0)) [(.le (.k 1) (.v 0))] (by kernel_rfl) [] [_] rfl rfl d5)) (by (exact Ar.lin 0 7 (.le (.a (.v 0) (.v 1)) (.v 2)) [(.le (.v 3) (.v 2)), (.eq (.v 0) (.a (.v 4) (.v 5))), (.le (.a (.a (.a (.v 4) (.v 5)) (.v 1)) (.v 6)) (.v 3))] (by kernel_rfl) [] [_, _, _, _, _, _, _] rfl rfl he d4 hle)) (by rw [d4]; exact d3) (by rw [d4]; exact d6) fun st' hB' hp' hA' hk' => ?_
  have hpl : (pendingOf st').toList = pre ++ (sa, na + nb, pa) :: post := by
    rw [hp', Array.toList_eraseIdxIfInBounds, Array.toList_setIfInBounds, hl, ← hlen]
    rw [List.set_append_right _ _ (Nat.le_refl _), Nat.sub_self, List.set_cons_zero, List.eraseIdx_append_of_length_le (by (exact Ar.lin 0 1 (.le (.v 0) (.a (.v 0) (.k 1))) [] (by kernel_rfl) [] [_] rfl rfl )), show pre.length + 1 - pre.length = 1 by (exact Ar.lin 0 1 (.eq (.s (.a (.v 0) (.k 1)) (.v 0)) (.k 1)) [] (by kernel_rfl) [] [_] rfl rfl )]
    rfl
  have hRo : ∀ k, k < sa ∨ sb + nb ≤ k → R r (arrOf st') k = R r (arrOf st) k := fun k hk => R_congr (hk' k hk)
  have cpre := c1.len
  refine h st' hB' ?_ ?_ fun k hk => hk' k (.inr (by (exact Ar.lin 0 7 (.le (.a (.v 0) (.v 1)) (.v 2)) [(.eq (.v 0) (.a (.v 3) (.v 4))), (.le (.a (.a (.a (.v 3) (.v 4)) (.v 1)) (.v 5)) (.v 6)), (.le (.v 6) (.v 2))] (by kernel_rfl) [] [_, _, _, _, _, _, _] rfl rfl d4 hle hk)))
  · rw [hpl]
    refine (c1.congr fun k z1 hk => hRo k (.inl hk)).append ⟨rfl, by dsimp only; (exact Ar.lin 0 2 (.le (.k 1) (.a (.v 0) (.v 1))) [(.le (.k 1) (.v 0))] (by kernel_rfl) [] [_, _] rfl rfl d2), ?_, ?_⟩
    · dsimp only; rw [show sa + (na + nb) = sb + nb by (exact Ar.lin 0 4 (.eq (.a (.v 0) (.a (.v 1) (.v 2))) (.a (.v 3) (.v 2))) [(.eq (.v 3) (.a (.v 0) (.v 1)))] (by kernel_rfl) [] [_, _, _, _] rfl rfl d4)]; exact hA'
    · dsimp only; rw [show sa + (na + nb) = sa + na + nb by (exact Ar.lin 0 3 (.eq (.a (.v 0) (.a (.v 1) (.v 2))) (.a (.a (.v 0) (.v 1)) (.v 2))) [] (by kernel_rfl) [] [_, _, _] rfl rfl )]
      exact d7.congr fun k hk z1 => hRo k (.inr (by (exact Ar.lin 0 5 (.le (.a (.v 0) (.v 1)) (.v 2)) [(.eq (.v 0) (.a (.v 3) (.v 4))), (.le (.a (.a (.v 3) (.v 4)) (.v 1)) (.v 2))] (by kernel_rfl) [] [_, _, _, _, _] rfl rfl d4 hk)))
  · rw [← Array.length_toList, hpl, ← Array.length_toList, hl]; simp; (exact Ar.lin 0 2 (.eq (.a (.a (.v 0) (.a (.v 1) (.k 1))) (.k 1)) (.a (.v 0) (.a (.a (.v 1) (.k 1)) (.k 1)))) [] (by kernel_rfl) [] [_, _] rfl rfl )
theorem wpS_sortRuns (hC : Ask prog w A s κ r a₀) {st : SortSt} {Q : Unit → SortSt → Prop} (hB : TB κ a₀ st) (hp : pendingOf st = #[])
    (h : ∀ st', TB κ a₀ st' → Asc r (arrOf st') 0 a₀.size → Q () st') : wpS (model prog w) A E s sortRuns' Q st := by
  rw [sortRuns'_eq]
  refine wpS_bind (wpS_get ?_)
  extract_lets -underBinder -merge +onlyGivenNames size mr
  have hsize : size = a₀.size := hB.size
  clear_value mr size
  subst hsize
  refine wpS_bind (wpS_mono (wpS_forRange
    (I := fun x c st' => ∃ lo, c = (none, lo) ∧ TB κ a₀ st' ∧ Chain r (arrOf st') 0 (pendingOf st').toList lo ∧ lo ≤ a₀.size ∧ x ≤ lo)
    (Q := fun c st' => c = (none, a₀.size) ∧ TB κ a₀ st' ∧ Chain r (arrOf st') 0 (pendingOf st').toList a₀.size) ?_ ?_ ?_) ?_)
  · rintro x c st' _ hx ⟨lo, rfl, hB', hch, hlo, hxl⟩
    extract_lets -underBinder -merge +onlyGivenNames lo'
    have hlo' : lo' = lo := rfl
    clear_value lo'
    subst hlo'
    by_cases hge : lo' ≥ a₀.size
    · rw [if_pos hge]
      have : lo' = a₀.size := by (exact Ar.lin 0 2 (.eq (.v 0) (.v 1)) [(.le (.v 0) (.v 1)), (.le (.v 1) (.v 0))] (by kernel_rfl) [] [_, _] rfl rfl hlo hge)
      subst this
      exact wpS_pure ⟨rfl, hB', hch⟩
    · rw [if_neg hge]
      refine wpS_bind (wpS_countRun hC hB' (by (exact Ar.lin 0 2 (.le (.a (.v 0) (.s (.v 1) (.v 0))) (.v 1)) [(.le (.v 0) (.v 1))] (by kernel_rfl) [] [_, _] rfl rfl hlo)) (by (exact Ar.lin 0 2 (.le (.k 1) (.s (.v 0) (.v 1))) [(.no (.le (.v 0) (.v 1)))] (by kernel_rfl) [] [_, _] rfl rfl hge)) fun n st2 hN2 hn1 hn2 hA2 => ?_)
      dsimp -zeta -zetaHave -zetaUnused only
      extract_lets -underBinder -merge +onlyGivenNames n' jp
      have H : ∀ u n st3, Nx κ a₀ lo' st' st3 → Asc r (arrOf st3) lo' (lo' + n) → 1 ≤ n → lo' + n ≤ a₀.size → wpS (model prog w) A E s (jp u n) (fun r' st' => match r' with | .done c' => c' = (none, a₀.size) ∧ TB κ a₀ st' ∧ Chain r (arrOf st') 0 (pendingOf st').toList a₀.size | .yield c' => ∃ lo, c' = (none, lo) ∧ TB κ a₀ st' ∧ Chain r (arrOf st') 0 (pendingOf st').toList lo ∧ lo ≤ a₀.size ∧ x + 1 ≤ lo) st3 := by
        clear hA2 hn2 hn1 hN2 n' n
        intro u n st3 hN3 hA3 hn1 hn2
        have hch3 : Chain r (arrOf st3) 0 (pendingOf st3).toList lo' := by rw [hN3.pend]; exact hch.congr fun k z1 hk => R_congr (hN3.low k hk)
        refine wpS_bind (wpS_get ?_)
        extract_lets -underBinder -merge +onlyGivenNames jp2
        have H2 : ∀ u st9, TB κ a₀ st9 → Chain r (arrOf st9) 0 (pendingOf st9).toList lo' → Asc r (arrOf st9) lo' (lo' + n) → wpS (model prog w) A E s (jp2 u) (fun r' st' => match r' with | .done c' => c' = (none, a₀.size) ∧ TB κ a₀ st' ∧ Chain r (arrOf st') 0 (pendingOf st').toList a₀.size | .yield c' => ∃ lo, c' = (none, lo) ∧ TB κ a₀ st' ∧ Chain r (arrOf st') 0 (pendingOf st').toList lo ∧ lo ≤ a₀.size ∧ x + 1 ≤ lo) st9 := by
          intro u st9 hB9 hch9 hA9
          refine wpS_bind (wpS_modify (wpS_pure ⟨lo' + n, rfl, ⟨hB9.perm, hB9.kind, hB9.failed⟩, ?_, hn2, by (exact Ar.lin 0 3 (.le (.a (.v 0) (.k 1)) (.a (.v 1) (.v 2))) [(.le (.v 0) (.v 1)), (.le (.k 1) (.v 2))] (by kernel_rfl) [] [_, _, _] rfl rfl hxl hn1)⟩))
          show Chain r (arrOf st9) 0 ((pendingOf st9).push (lo', n, 0)).toList (lo' + n)
          rw [Array.toList_push]
          exact hch9.append ⟨rfl, hn1, hA9, rfl⟩
        clear_value jp2
        cases hbk : (pendingOf st3).back? with
        | none => exact H2 _ _ hN3.tb hch3 hA3
        | some x =>
          obtain ⟨s1, n1, q1⟩ := x
          dsimp -zeta -zetaHave -zetaUnused only
          extract_lets -underBinder -merge +onlyGivenNames pw
          clear_value pw
          refine wpS_bind (wpS_mono (wpS_forRange (I := fun z1 c st4 => c = (none, ()) ∧ TB κ a₀ st4 ∧ Chain r (arrOf st4) 0 (pendingOf st4).toList lo' ∧ Asc r (arrOf st4) lo' (lo' + n))
            (Q := fun c st4 => c = (none, ()) ∧ TB κ a₀ st4 ∧ Chain r (arrOf st4) 0 (pendingOf st4).toList lo' ∧ Asc r (arrOf st4) lo' (lo' + n)) ?_ (fun z1 z2 q => q) ⟨rfl, hN3.tb, hch3, hA3⟩) ?_)
          · rintro x c st4 _ _ ⟨rfl, hB4, hch4, hA4⟩
            refine wpS_bind (wpS_get ?_)
            (try dsimp only)
            by_cases hs1 : (pendingOf st4).size > 1
            · rw [if_pos hs1]
              obtain ⟨⟨u1, u2, older⟩, hu⟩ : ∃ u, (pendingOf st4)[(pendingOf st4).size - 2]? = some u := ⟨_, getElem?_pos _ _ (by (exact Ar.lin 0 1 (.lt (.s (.v 0) (.k 2)) (.v 0)) [(.lt (.k 1) (.v 0))] (by kernel_rfl) [] [_] rfl rfl hs1))⟩
              rw [hu]
              dsimp only
              by_cases hold : older ≤ pw
              · rw [if_pos hold]
                exact wpS_pure ⟨rfl, hB4, hch4, hA4⟩
              · rw [if_neg hold]
                refine wpS_bind (wpS_mergeC hC hB4 hch4 (by (exact Ar.lin 0 2 (.le (.v 0) (.v 1)) [(.le (.v 0) (.v 1))] (by kernel_rfl) [] [_, _] rfl rfl hlo)) (by (exact Ar.lin 0 1 (.lt (.a (.s (.v 0) (.k 2)) (.k 1)) (.v 0)) [(.lt (.k 1) (.v 0))] (by kernel_rfl) [] [_] rfl rfl hs1)) fun st5 hB5 hch5 z1 hk5 => ?_)
                simp only [Bool.not_true, Bool.false_eq_true, if_false]
                refine wpS_pure ⟨rfl, hB5, hch5, fun i j i1 i2 i3 => ?_⟩
                rw [R_congr (hk5 i i1), R_congr (hk5 j (by (exact Ar.lin 0 3 (.le (.v 0) (.v 1)) [(.le (.v 0) (.v 2)), (.le (.v 2) (.v 1))] (by kernel_rfl) [] [_, _, _] rfl rfl i1 i2)))]; exact hA4 i j i1 i2 i3
            · rw [if_neg hs1]
              exact wpS_pure ⟨rfl, hB4, hch4, hA4⟩
          · rintro c st4 ⟨rfl, hB4, hch4, hA4⟩
            refine wpS_bind (wpS_modify (H2 _ _ ⟨hB4.perm, hB4.kind, hB4.failed⟩ ?_ hA4))
            show Chain r (arrOf st4) 0 ((pendingOf st4).modify ((pendingOf st4).size - 1) fun x => (x.1, x.2.1, pw)).toList lo'
            rw [Array.toList_modify]
            rcases List.eq_nil_or_concat (pendingOf st4).toList with q | ⟨l, y, q⟩
            · rw [q] at hch4 ⊢; simpa using hch4
            · have hz : (pendingOf st4).size = l.length + 1 := by rw [← Array.length_toList, q]; simp
              rw [q] at hch4 ⊢
              rw [hz, show l.length + 1 - 1 = l.length by (exact Ar.lin 0 1 (.eq (.s (.a (.v 0) (.k 1)) (.k 1)) (.v 0)) [] (by kernel_rfl) [] [_] rfl rfl ), List.concat_eq_append, modify_last]
              rw [List.concat_eq_append] at hch4
              obtain ⟨y1, y2, y3⟩ := y
              simpa using hch4.power (q := pw)
      clear_value jp
      have hnn : n' = n := rfl
      clear_value n'
      subst hnn
      by_cases hmr : n' < mr
      · rw [if_pos hmr]
        refine wpS_bind (wpS_lift (wpAny_rule ⟨rfl, ?_⟩))
        extract_lets -underBinder -merge +onlyGivenNames force
        refine wpS_bind (wpS_binarySort hC (show lo' + min (a₀.size - lo') mr ≤ a₀.size by lia) (by lia) hN2.tb hA2 fun st3 hN23 hA3 => ?_)
        simp only [Bool.not_true, Bool.false_eq_true, if_false]
        exact wpS_mono (H _ _ _ (hN2.trans hN23) hA3 (by lia) (by lia)) fun r' st' q => by cases r' <;> exact q
      · rw [if_neg hmr]
        exact wpS_mono (H _ _ _ hN2 hA2 hn1 (by (exact Ar.lin 0 3 (.le (.a (.v 0) (.v 1)) (.v 2)) [(.le (.v 0) (.v 2)), (.le (.v 1) (.s (.v 2) (.v 0)))] (by kernel_rfl) [] [_, _, _] rfl rfl hlo hn2))) fun r' st' q => by cases r' <;> exact q
  · rintro c st' ⟨lo, rfl, hB', hch, hlo, hxl⟩
    have : lo = a₀.size := by lia
    subst this
    exact ⟨rfl, hB', hch⟩
  · exact ⟨0, rfl, hB, by rw [hp]; rfl, by (exact Ar.lin 0 1 (.le (.k 0) (.v 0)) [] (by kernel_rfl) [] [_] rfl rfl ), by (exact Ar.lin 0 0 (.le (.k 0) (.k 0)) [] (by kernel_rfl) [] [] rfl rfl )⟩
  · rintro c st' ⟨rfl, hB', hch⟩
    dsimp only
    refine wpS_bind (wpS_mono (wpS_forRange (I := fun x c st'' => c = (none, ()) ∧ TB κ a₀ st'' ∧ Chain r (arrOf st'') 0 (pendingOf st'').toList a₀.size ∧ ((pendingOf st'').size + x ≤ a₀.size ∨ (pendingOf st'').size ≤ 1))
      (Q := fun c st'' => c = (none, ()) ∧ TB κ a₀ st'' ∧ Chain r (arrOf st'') 0 (pendingOf st'').toList a₀.size ∧ (pendingOf st'').size ≤ 1) ?_ ?_ ?_) ?_)
    · rintro x c st'' _ hx ⟨rfl, hB2, hch2, hor⟩
      refine wpS_bind (wpS_get ?_)
      (try dsimp only)
      by_cases h1 : (pendingOf st'').size ≤ 1
      · rw [if_pos h1]
        exact wpS_pure ⟨rfl, hB2, hch2, h1⟩
      · rw [if_neg h1]
        obtain ⟨i, hi, hi'⟩ : ∃ i, i + 1 < (pendingOf st'').size ∧ (if (Option.any (fun x => decide (x < (Option.elim (pendingOf st'')[(pendingOf st'').size - 2 + 1]? 0 fun x => x.2.1))) (if (pendingOf st'').size - 2 > 0 then Option.map (fun x => x.2.1) (pendingOf st'')[(pendingOf st'').size - 2 - 1]? else none)) = true then (pendingOf st'').size - 2 - 1 else (pendingOf st'').size - 2) = i := ⟨_, by (repeat' split) <;> lia, rfl⟩
        rw [hi']
        refine wpS_bind (wpS_mergeC hC hB2 hch2 (Nat.le_refl _) hi fun st5 hB5 hch5 hz5 z1 => ?_)
        simp only [Bool.not_true, Bool.false_eq_true, if_false]
        exact wpS_pure ⟨rfl, hB5, hch5, by lia⟩
    · rintro c st'' ⟨rfl, hB2, hch2, hor⟩
      exact ⟨rfl, hB2, hch2, by lia⟩
    · refine ⟨rfl, hB', hch, .inl ?_⟩
      have := hch.len
      rw [Array.length_toList] at this; (exact Ar.lin 0 2 (.le (.a (.v 0) (.k 0)) (.v 1)) [(.le (.a (.k 0) (.v 0)) (.v 1))] (by kernel_rfl) [] [_, _] rfl rfl this)
    · rintro c st'' ⟨rfl, hB2, hch2, h1⟩
      dsimp only
      refine wpS_pure (h st'' hB2 ?_)
      match hl : (pendingOf st'').toList, hch2 with
      | [], q => intro i j _ _ hj; have : 0 = a₀.size := q; (exact Ar.lin 0 4 (.le (.v 0) (.v 1)) [(.lt (.v 2) (.v 3)), (.eq (.k 0) (.v 3))] (by kernel_rfl) [] [_, _, _, _] rfl rfl hj this)
      | [y], q =>
        obtain ⟨_, _, q3, q4⟩ := q
        have : 0 + y.2.1 = a₀.size := q4
        rw [this] at q3; exact q3
      | _ :: _ :: _, _ => rw [← Array.length_toList, hl] at h1; simp at h1
end Tim
end Mine
end
section
namespace Mine
namespace Tim
open PySem PyProof.Rows
variable {prog : Program} {w : World} {A : Around} {E : Value → Shared → Prop} {s : Shared}
theorem pairs_mem {vs : List Value} {p : Keyed} (h : p ∈ (pairsOf vs).toList) : p.1 = p.2 ∧ p.1 ∈ vs := by
  unfold pairsOf at h
  simp only [Array.toList_zip] at h
  rw [List.zip_eq_zipWith] at h
  obtain ⟨i, hi, rfl⟩ := List.mem_iff_getElem.mp h
  simp at hi
  simp
theorem pairs_map2 (vs : List Value) : (pairsOf vs).toList.map (·.2) = vs := by
  unfold pairsOf
  simp only [Array.toList_zip]
  exact List.map_snd_zip (by simp)
theorem out_of {vs : List Value} {r : Value → Nat} {xs : Array Keyed} (hp : xs.Perm (pairsOf vs)) (hs : Asc (fun p => r p.1) xs 0 (pairsOf vs).size) :
    (xs.map (·.2)).toList.Perm vs ∧ (xs.map (·.2)).toList.Pairwise fun x y => r x ≤ r y := by
  have hp' := Array.perm_iff_toList_perm.mp hp
  refine ⟨?_, ?_⟩
  · have := hp'.map (·.2)
    rw [pairs_map2] at this
    rw [Array.toList_map]; exact this
  · rw [Array.toList_map, List.pairwise_map]
    have h1 : Srt (fun p => r p.1) xs.toList := Asc.srt (by rw [hp.size_eq]; exact hs)
    refine List.Pairwise.imp_of_mem ?_ h1
    intro a b ha hb hab
    rw [← (pairs_mem (hp'.mem_iff.mp ha)).1, ← (pairs_mem (hp'.mem_iff.mp hb)).1]; exact hab
theorem list_sort_T {r : Value → Nat} {a : Addr} {vs : List Value} {n : Nat} {P : PySem.Fin → Shared → Prop} (ho : s.heap.get? a = some (seqObj "list" vs.toArray n)) (hz : vs.length ≤ 16777216)
    (hask : 2 ≤ vs.length → ∀ s' : Shared, (∀ b o, b ≠ a → s.heap.get? b = some o → s'.heap.get? b = some o) → ∃ κ, (∀ (E : Value → Shared → Prop) (Q : SortKind → Shared → Prop), Q κ s' → wpAny (model prog w) A (keyKind' vs.toArray) Q E s') ∧ Ask prog w A s' κ (fun p => r p.1) (pairsOf vs))
    (h : ∀ out : Array Value, out.toList.Perm vs → (out.toList.Pairwise fun x y => r x ≤ r y) → P (.done (.ret .none)) { s with heap := sortedHeap s.heap a vs out }) :
    wpAny (model prog w) A (Builtin.«list.sort» ⟨[.ref a], []⟩) P E s := by
  rw [list_sort_plain]
  have ha : a < s.heap.objs.size := Heap.lt_size ho
  have hz' : vs.toArray.size ≤ sizeLine := by rw [sizeLine_eq]; simpa using hz
  refine wpAny_bind (listItems_at ho rfl ?_)
  refine wpAny_bind (listUpdate_at ho rfl ?_ hz' (Nat.zero_le _))
  obtain ⟨e1, ho1⟩ : ∃ e1, (s.heap.update a (Obj.mapSeq fun z1 => #[])).get? a = some (seqObj "list" #[] e1) := ⟨_, get?_update_seq ho (fun z1 => #[])⟩
  refine wpAny_bind (seqEpoch_at ho1 rfl ?_)
  refine wpAny_bind (wpAny_newTuple ?_ (by simpa using hz'))
  refine wpAny_bind (wpAny_newList ?_ (Nat.zero_le _))
  refine wpAny_holding ?_
  have ho6 : (((s.heap.update a (Obj.mapSeq fun z1 => #[])).push (seqObj "tuple" vs.toArray 0)).push (seqObj "list" #[] 0)).get? a = some (seqObj "list" #[] e1) := by
    rw [Heap.get?_push_ne _ _ _ (by rw [size_push', Heap.size_update]; exact Nat.ne_of_lt (Nat.lt_succ_of_lt ha)), Heap.get?_push_ne _ _ _ (by rw [Heap.size_update]; exact Nat.ne_of_lt ha)]
    exact ho1
  have keep : ∀ b o, b ≠ a → s.heap.get? b = some o → (((s.heap.update a (Obj.mapSeq fun z1 => #[])).push (seqObj "tuple" vs.toArray 0)).push (seqObj "list" #[] 0)).get? b = some o := fun b o hb e => by
    have hlt : b < s.heap.objs.size := Heap.lt_size e
    rw [Heap.get?_push_ne _ _ _ (by rw [size_push', Heap.size_update]; exact Nat.ne_of_lt (Nat.lt_succ_of_lt hlt)), Heap.get?_push_ne _ _ _ (by rw [Heap.size_update]; exact Nat.ne_of_lt hlt), Heap.get?_update_ne _ _ _ _ hb]
    exact e
  show wpAny (model prog w) A _ P E { s with heap := ((s.heap.update a (Obj.mapSeq fun z1 => #[])).push (seqObj "tuple" vs.toArray 0)).push (seqObj "list" #[] 0) }
  dsimp only
  have fin : ∀ xs : Array Keyed, xs.Perm (pairsOf vs) → Asc (fun p => r p.1) xs 0 (pairsOf vs).size → P (.done (.ret .none)) { s with heap := sortedHeap s.heap a vs (xs.map (·.2)) } := fun xs h1 h2 => by
    obtain ⟨q1, q2⟩ := out_of h1 h2
    exact h _ q1 q2
  by_cases h2 : vs.toArray.size < 2
  · rw [if_pos h2, if_pos h2]
    refine wpAny_bind (wpAny_pure ?_)
    rw [StateT.run_pure]
    refine wpAny_bind (wpAny_pure ?_)
    dsimp only
    refine wpAny_bind (seqEpoch_at ho6 rfl ?_)
    refine wpAny_bind (listUpdate_at ho6 rfl ?_ (Nat.zero_le _) (by rw [Array.size_map]; show (pairsOf vs).size ≤ _; rw [pairsOf_size, sizeLine_eq]; lia))
    simp only [bne_self_eq_false, Bool.false_eq_true, if_false]
    refine wpAny_pure (fin (vs.toArray.zip vs.toArray) (Array.Perm.refl _) ?_)
    intro i j _ hij hj
    have : i = j := by rw [pairsOf_size] at hj; simp at h2; lia
    subst this; exact Nat.le_refl _
  · rw [if_neg h2, if_neg h2]
    obtain ⟨κ, hk, hC⟩ := hask (by simp at h2; lia) { s with heap := ((s.heap.update a (Obj.mapSeq fun z1 => #[])).push (seqObj "tuple" vs.toArray 0)).push (seqObj "list" #[] 0) } keep
    refine wpAny_bind (hk _ _ ?_)
    refine wpAny_bind (wpAny_mono (wpS_sortRuns hC (a₀ := pairsOf vs) (st := SortSt.mk' κ (vs.toArray.zip vs.toArray) #[] 7 none)
      (Q := fun z1 st' => (arrOf st').Perm (pairsOf vs) ∧ failedOf st' = none ∧ Asc (fun p => r p.1) (arrOf st') 0 (pairsOf vs).size) ⟨Array.Perm.refl _, rfl, rfl⟩ rfl fun st' a1 a2 => ⟨a1.perm, a1.failed, a2⟩) ?_ fun z1 z2 e => e)
    rintro ⟨⟨⟩, st'⟩ s' ⟨rfl, hp, hf, hs⟩
    dsimp only
    refine wpAny_bind (seqEpoch_at ho6 rfl ?_)
    refine wpAny_bind (listUpdate_at ho6 rfl ?_ (Nat.zero_le _) (by refine Nat.le_trans (Nat.le_of_eq ((Array.size_map ..).trans (hp.size_eq.trans (pairsOf_size _)))) ?_; rw [sizeLine_eq]; lia))
    rw [hf]
    simp only [bne_self_eq_false, Bool.false_eq_true, if_false]
    exact wpAny_pure (fin _ hp hs)
theorem sorted_T {r : Value → Nat} {l : Addr} {vs : List Value} {Q : Value → Shared → Prop} (hl : s.heap.IsList l vs.toArray) (hz : vs.length ≤ 16777216)
    (hask : 2 ≤ vs.length → ∀ (A' : Around) (s' : Shared), (∀ b o, s.heap.get? b = some o → s'.heap.get? b = some o) → ∃ κ, (∀ (E : Value → Shared → Prop) (Q : SortKind → Shared → Prop), Q κ s' → wpAny (model prog w) A' (keyKind' vs.toArray) Q E s') ∧ Ask prog w A' s' κ (fun p => r p.1) (pairsOf vs))
    (h : ∀ out : Array Value, out.toList.Perm vs → (out.toList.Pairwise fun x y => r x ≤ r y) → Q (.ref (s.heap.objs.size + 1)) { s with heap := sortedAll s.heap vs out }) :
    wpAny (model prog w) A (call (.builtin "sorted") [.ref l]) Q E s := by
  have hz' : vs.length ≤ sizeLine := by rw [sizeLine_eq]; exact hz
  refine Calls.call_function_entry kind_sorted plain_sorted entry_sorted (args_sorted1 _) ?_
  unfold Builtin.«sorted»
  refine wpAny_bind (m := checkCount "sorted" 1 1 _) (wpAny_pure ?_)
  refine wpAny_bind (collect_list hl ?_ hz')
  refine wpAny_bind (wpAny_newList ?_ hz')
  have hsz : ((s.heap.push (seqObj "list" #[] 0)).update s.heap.objs.size (Obj.mapSeq (· ++ vs.toArray))).objs.size = s.heap.objs.size + 1 := by
    rw [Heap.size_update, size_push']
  have hoL : (((s.heap.push (seqObj "list" #[] 0)).update s.heap.objs.size (Obj.mapSeq (· ++ vs.toArray))).push (seqObj "list" vs.toArray 0)).get? (s.heap.objs.size + 1) = some (seqObj "list" vs.toArray 0) := by
    rw [← hsz]; exact Heap.get?_push_size _ rfl
  have keep : ∀ b o, s.heap.get? b = some o → (((s.heap.push (seqObj "list" #[] 0)).update s.heap.objs.size (Obj.mapSeq (· ++ vs.toArray))).push (seqObj "list" vs.toArray 0)).get? b = some o := fun b o q => by
    have hlt : b < s.heap.objs.size := Heap.lt_size q
    rw [Heap.get?_push_ne _ _ _ (by rw [hsz]; exact Nat.ne_of_lt (Nat.lt_succ_of_lt hlt)), Heap.get?_update_ne _ _ _ _ (Nat.ne_of_lt hlt), Heap.get?_push_ne _ _ _ (Nat.ne_of_lt hlt)]
    exact q
  show wpAny _ _ _ _ _ { s with heap := ((s.heap.push (seqObj "list" #[] 0)).update s.heap.objs.size (Obj.mapSeq (· ++ vs.toArray))).push (seqObj "list" vs.toArray 0) }
  rw [hsz]
  refine wpAny_bind (wpAny_holding (wpAny_call_entry slot_list_sort ⟨_, hoL, rfl⟩ entry_list_sort (list_sort_T (r := r) hoL hz (fun h2 s' hk' => hask h2 _ s' fun b o e => ?_) fun out a1 a2 => ⟨_, rfl, ?_⟩) (args_list_sort _)))
  · exact hk' b o (Nat.ne_of_lt (Nat.lt_succ_of_lt (Heap.lt_size e))) (keep b o e)
  · exact wpAny_pure ⟨_, rfl, h out a1 a2⟩
end Tim
end Mine
end
section
namespace Mine
open PySem PyProof.Rows
variable {c : Cx} {d : Nat} {sc : Scope} {m : AEnv} {σ : Led} {P : V → Led → Prop} {X : XP} {K : Fl → AEnv → Led → Prop}
structure Lin {κ : Type} (lt : κ → κ → Bool) : Prop where
  irrefl : ∀ a, lt a a = false
  trans : ∀ a b c, lt a b = true → lt b c = true → lt a c = true
  tot : ∀ a b, lt a b = false → lt b a = false → a = b
theorem filter_le {α : Type} {p q : α → Bool} : ∀ {l : List α}, (∀ x ∈ l, p x = true → q x = true) → (l.filter p).length ≤ (l.filter q).length
  | [], _ => Nat.le_refl _
  | x :: l, h => by
    have ih := filter_le fun y hy => h y (List.mem_cons_of_mem _ hy)
    have h0 := h x (List.mem_cons_self ..)
    by_cases hp : p x = true
    · simp [hp, h0 hp]; exact ih
    · by_cases hq : q x = true
      · simp [hp, hq]; (exact Ar.lin 0 2 (.le (.v 0) (.a (.v 1) (.k 1))) [(.le (.v 0) (.v 1))] (by kernel_rfl) [] [_, _] rfl rfl ih)
      · simp [hp, hq]; exact ih
theorem filter_lt {α : Type} {p q : α → Bool} : ∀ {l : List α}, (∀ x ∈ l, p x = true → q x = true) → (∃ x ∈ l, p x = false ∧ q x = true) → (l.filter p).length < (l.filter q).length
  | [], _, h => by obtain ⟨_, h, _⟩ := h; cases h
  | x :: l, h, ⟨y, hy, h1, h2⟩ => by
    have h0 := h x (List.mem_cons_self ..)
    have hl : ∀ y ∈ l, p y = true → q y = true := fun y hy => h y (List.mem_cons_of_mem _ hy)
    rcases List.mem_cons.mp hy with e | hy
    · subst e
      have := filter_le hl
      simp [h1, h2]; (exact Ar.lin 0 2 (.lt (.v 0) (.a (.v 1) (.k 1))) [(.le (.v 0) (.v 1))] (by kernel_rfl) [] [_, _] rfl rfl this)
    · have ih := filter_lt hl ⟨y, hy, h1, h2⟩
      by_cases hp : p x = true
      · simp [hp, h0 hp]; exact ih
      · by_cases hq : q x = true
        · simp [hp, hq]; (exact Ar.lin 0 2 (.lt (.v 0) (.a (.v 1) (.k 1))) [(.lt (.v 0) (.v 1))] (by kernel_rfl) [] [_, _] rfl rfl ih)
        · simp [hp, hq]; exact ih
noncomputable def rank {κ : Type} (lt : κ → κ → Bool) (kv : Value → κ) (vs : List Value) (v : Value) : Nat := (vs.filter fun u => lt (kv u) (kv v)).length
theorem rank_lt {κ : Type} {lt : κ → κ → Bool} (L : Lin lt) {kv : Value → κ} {vs : List Value} {u v : Value} (hu : u ∈ vs) : decide (rank lt kv vs u < rank lt kv vs v) = lt (kv u) (kv v) := by
  unfold rank
  cases h : lt (kv u) (kv v) with
  | true =>
    rw [decide_eq_true_eq]
    exact filter_lt (fun x z1 hx => L.trans _ _ _ hx h) ⟨u, hu, L.irrefl _, h⟩
  | false =>
    rw [decide_eq_false_iff_not, Nat.not_lt]
    refine filter_le fun x z1 hx => ?_
    cases h2 : lt (kv v) (kv u) with
    | true => exact L.trans _ _ _ hx h2
    | false => rw [L.tot _ _ h h2]; exact hx
theorem VRels.perm {h : Heap} {own : List Addr} {α : Type} {e : α → V} {cs ds : List Value} (p : ds.Perm cs) : ∀ {xs : List α}, VRels h own (xs.map e) cs → ∃ ys : List α, ys.Perm xs ∧ VRels h own (ys.map e) ds := by
  induction p with
  | nil => intro xs r; exact ⟨xs, .refl _, r⟩
  | cons x _ ih =>
    intro xs r
    cases xs with
    | nil => simp only [List.map_nil, VRels] at r; cases r
    | cons a xs =>
      simp only [List.map_cons, VRels] at r
      obtain ⟨cv, cs', e', r1, r2⟩ := r
      cases e'
      obtain ⟨ys, hp, hr⟩ := ih r2
      exact ⟨a :: ys, hp.cons a, by simp only [List.map_cons, VRels]; exact ⟨_, _, rfl, r1, hr⟩⟩
  | swap x y l =>
    intro xs r
    match xs, r with
    | [], r => simp only [List.map_nil, VRels] at r; cases r
    | [a], r => simp only [List.map_cons, List.map_nil, VRels] at r; obtain ⟨_, _, e', _, e2⟩ := r; cases e'; cases e2
    | a :: b :: xs, r =>
      simp only [List.map_cons, VRels] at r
      obtain ⟨cv, cs', e', r1, cv2, cs2, e2, r2, r3⟩ := r
      cases e'; cases e2
      exact ⟨b :: a :: xs, List.Perm.swap a b xs, by simp only [List.map_cons, VRels]; exact ⟨_, _, rfl, r2, _, _, rfl, r1, r3⟩⟩
  | trans _ _ h1 h2 =>
    intro xs r
    obtain ⟨ys, hp, hr⟩ := h2 r
    obtain ⟨zs, hp', hr'⟩ := h1 hr
    exact ⟨zs, hp'.trans hp, hr'⟩
theorem VRels.mem {h : Heap} {own : List Addr} {α : Type} {e : α → V} : ∀ {xs : List α} {cs : List Value} {cv : Value}, VRels h own (xs.map e) cs → cv ∈ cs → ∃ a ∈ xs, VRel h own (e a) cv
  | [], cs, cv, r, hm => by simp only [List.map_nil, VRels] at r; subst r; cases hm
  | a :: xs, cs, cv, r, hm => by
    simp only [List.map_cons, VRels] at r
    obtain ⟨c1, cs', rfl, r1, r2⟩ := r
    rcases List.mem_cons.mp hm with rfl | hm
    · exact ⟨a, List.mem_cons_self .., r1⟩
    · obtain ⟨b, hb, q⟩ := VRels.mem r2 hm
      exact ⟨b, List.mem_cons_of_mem _ hb, q⟩
theorem VRels.pairwise {h : Heap} {own : List Addr} {α : Type} {e : α → V} {S : Value → Value → Prop} {T : α → α → Prop} {L : List α} (hST : ∀ a b ca cb, a ∈ L → b ∈ L → VRel h own (e a) ca → VRel h own (e b) cb → S ca cb → T a b) :
    ∀ {xs : List α} {cs : List Value}, (∀ a ∈ xs, a ∈ L) → VRels h own (xs.map e) cs → cs.Pairwise S → xs.Pairwise T
  | [], _, _, _, _ => .nil
  | a :: xs, cs, hL, r, hp => by
    simp only [List.map_cons, VRels] at r
    obtain ⟨c1, cs', rfl, r1, r2⟩ := r
    obtain ⟨h1, h2⟩ := List.pairwise_cons.mp hp
    refine List.pairwise_cons.mpr ⟨fun b hb => ?_, VRels.pairwise hST (fun b hb => hL b (List.mem_cons_of_mem _ hb)) r2 h2⟩
    obtain ⟨i, hi, rfl⟩ := List.mem_iff_getElem.mp hb
    obtain ⟨cb, hcb, rb⟩ := r2.get (i := i) (v := e xs[i]) (by simp [hi])
    exact hST _ _ _ _ (hL a (List.mem_cons_self ..)) (hL _ (List.mem_cons_of_mem _ hb)) r1 rb (h1 cb (List.mem_of_getElem? hcb))
theorem Call_sorted {loc : Bool} {κ : Type} {lt : κ → κ → Bool} (L : Lin lt) {α : Type} (e : α → V) (key : α → κ) (kv : Heap → Value → κ) {xs : List α} {lv : V} (hl : IsLst σ lv (xs.map e))
    (hkv : ∀ h own a cv, a ∈ xs → VRel h own (e a) cv → kv h cv = key a)
    (hask : ∀ (prog : Program) (w : World) (A : Around) (s : Shared) (own : List Addr) (vs : List Value), 2 ≤ vs.length → VRels s.heap own (xs.map e) vs → ∃ k, (∀ (E : Value → Shared → Prop) (Q : SortKind → Shared → Prop), Q k s → wpAny (model prog w) A (keyKind' vs.toArray) Q E s) ∧
      ∀ x ∈ vs, ∀ y ∈ vs, ∀ (E : Value → Shared → Prop) (Q : Bool → Shared → Prop), Q (lt (kv s.heap x) (kv s.heap y)) s → wpAny (model prog w) A (keyLt' k x y) Q E s)
    (h : ∀ ys : List α, ys.Perm xs → (ys.Pairwise fun a b => lt (key b) (key a) = false) → Made c.F loc P (ys.map e) σ) : CallS c d (.builtin "sorted") [lv] σ P X := by
  intro A s E cs hA st rs _
  obtain ⟨x, rfl, r⟩ := rs.un1
  obtain ⟨a, vs, rfl, p, hsz, rs⟩ := hl.plain st r
  have hkvs : ∀ v ∈ vs, ∀ h', Ext s.heap h' → kv h' v = kv s.heap v := fun v hv h' hx => by
    obtain ⟨b, hb, rb⟩ := VRels.mem rs hv
    rw [hkv _ _ b v hb rb, hkv h' (ownS c σ) b v hb (VRel.mono hx.kept .refl _ _ rb)]
  refine Tim.sorted_T (r := rank lt (kv s.heap) vs) p.isList (by rw [sizeLine_eq] at hsz; exact hsz) (fun h2 A' s' hk' => ?_) fun out hp hs => ?_
  · obtain ⟨k, h1, h3⟩ := hask c.k.prog c.k.w A' s' (ownS c σ) vs h2 (VRels.mono (Ext.kept hk') .refl _ _ rs)
    refine ⟨k, h1, fun x hx y hy E' Q hQ => h3 x.1 (Tim.pairs_mem hx).2 y.1 (Tim.pairs_mem hy).2 E' Q ?_⟩
    rw [hkvs _ (Tim.pairs_mem hx).2 _ hk', hkvs _ (Tim.pairs_mem hy).2 _ hk', ← rank_lt L (Tim.pairs_mem hx).2]
    exact hQ
  · have hx : Ext s.heap (sortedAll s.heap vs out) := fun b o e => sortedAll_old e
    obtain ⟨ep, he⟩ := sortedAll_at s.heap vs out
    obtain ⟨ys, hy, hr⟩ := VRels.perm hp rs
    have hlen : out.toList.length = vs.length := hp.length_eq
    have hnew : s.heap.get? (s.heap.objs.size + 1) = none := Heap.get?_none_of_le (Nat.le_succ _)
    have hno : s.heap.objs.size + 1 ∉ ownS c σ := fun hm => by
      rcases List.mem_append.mp hm with q | q
      · obtain ⟨_, o, e⟩ := st.hid _ q; rw [hnew] at e; cases e
      · obtain ⟨o, e⟩ := st.there q; rw [hnew] at e; cases e
    have hpw : out.toList.Pairwise fun x y => lt (kv s.heap y) (kv s.heap x) = false := by
      refine List.Pairwise.imp_of_mem ?_ hs
      intro u v hu hv huv
      have hv' := hp.mem_iff.mp hv
      have := rank_lt (u := v) (v := u) L (kv := kv s.heap) hv'
      rw [← this, decide_eq_false_iff_not]; exact Nat.not_lt.mpr huv
    have hm := h ys hy (VRels.pairwise (L := xs) (by
      intro a b ca cb ha hb ra rb hq
      rw [hkv _ _ a ca ha ra, hkv _ _ b cb hb rb] at hq; exact hq) (fun b hb => hy.mem_iff.mp hb) hr hpw)
    have hpl : PlainSeq (sortedAll s.heap vs out) "list" (s.heap.objs.size + 1) out.toList := ⟨ep, by simpa using he⟩
    have hl2 : out.toList.length ≤ sizeLine := by rw [hlen]; exact hsz
    cases loc with
    | false =>
      refine ⟨.lst (ys.map e), σ, hm, .ext hx rfl rfl, st.ext hx, ?_⟩
      simp only [VRel]
      exact ⟨_, out.toList, rfl, hno, hpl, hl2, VRels.mono hx.kept .refl _ _ hr⟩
    | true =>
      have hn : ∀ b ∈ (O.list (ys.map e)).addrs (s.heap.objs.size + 1), s.heap.get? b = none := fun b hb => by
        rw [List.mem_singleton.mp hb]; exact hnew
      refine ⟨.ref (s.heap.objs.size + 1), _, hm _ (fun q => hno (List.mem_append_right _ q)) (fun q => ?_), ⟨hx.kept, fun b o e => ⟨o, hx b o e⟩, fun b z1 o e => hx b o e, .alloc hn, rfl, rfl⟩, st.alloc hx hn (by simp [O.addrs]) ?_, by simp only [VRel]⟩
      · obtain ⟨o, e⟩ := st.prot _ q; rw [hnew] at e; cases e
      · exact ⟨_, hpl, hl2, VRels.mono hx.kept (Grow.alloc hn).wider _ _ hr⟩
noncomputable def ltL : List Int → List Int → Bool
  | [], [] => false
  | [], _ :: _ => true
  | _ :: _, [] => false
  | x :: xs, y :: ys => if x = y then ltL xs ys else decide (x < y)
theorem ltL_lin : Lin ltL := by
  refine ⟨fun a => ?_, ?_, ?_⟩
  · induction a with
    | nil => rfl
    | cons x a ih => simp [ltL, ih]
  · intro a
    induction a with
    | nil =>
      intro b c h1 h2
      cases b with
      | nil => cases h1
      | cons y b => cases c with
        | nil => cases h2
        | cons z c => rfl
    | cons x a ih =>
      intro b c h1 h2
      cases b with
      | nil => cases h1
      | cons y b => cases c with
        | nil => cases h2
        | cons z c =>
          simp only [ltL] at h1 h2 ⊢
          by_cases e1 : x = y
          · subst e1
            rw [if_pos rfl] at h1
            by_cases e2 : x = z
            · rw [if_pos e2] at h2 ⊢; exact ih b c h1 h2
            · rw [if_neg e2] at h2 ⊢; exact h2
          · rw [if_neg e1] at h1
            simp only [decide_eq_true_eq] at h1
            by_cases e2 : y = z
            · subst e2; rw [if_neg e1]; simpa using h1
            · rw [if_neg e2] at h2
              simp only [decide_eq_true_eq] at h2
              rw [if_neg (by (exact Ar.lin 3 0 (.no (.ieq (.v 0) (.v 1))) [(.ilt (.v 0) (.v 2)), (.ilt (.v 2) (.v 1))] (by kernel_rfl) [_, _, _] [] rfl rfl h1 h2))]; simp only [decide_eq_true_eq]; (exact Ar.lin 3 0 (.ilt (.v 0) (.v 1)) [(.ilt (.v 0) (.v 2)), (.ilt (.v 2) (.v 1))] (by kernel_rfl) [_, _, _] [] rfl rfl h1 h2)
  · intro a
    induction a with
    | nil =>
      intro b h1 h2
      cases b with
      | nil => rfl
      | cons y b => cases h1
    | cons x a ih =>
      intro b h1 h2
      cases b with
      | nil => cases h2
      | cons y b =>
        simp only [ltL] at h1 h2
        by_cases e : x = y
        · subst e
          rw [if_pos rfl] at h1 h2
          rw [ih b h1 h2]
        · rw [if_neg e] at h1
          rw [if_neg (fun q => e q.symm)] at h2
          simp only [decide_eq_false_iff_not] at h1 h2
          lia
noncomputable def intV : Value → Int
  | .int n _ => n
  | _ => 0
noncomputable def kvT (h : Heap) : Value → List Int
  | .ref a => match h.get? a with
    | some o => (match o.data with | .seq xs _ => xs.toList.map intV | _ => [])
    | none => []
  | _ => []
theorem VRels.intV {h : Heap} {own : List Addr} : ∀ {ns : List Int} {cs : List Value}, VRels h own (ns.map .int) cs → cs.map Mine.intV = ns
  | [], cs, r => by simp only [List.map_nil, VRels] at r; subst r; rfl
  | n :: ns, cs, r => by
    simp only [List.map_cons, VRels, VRel] at r
    obtain ⟨_, _, rfl, ⟨t, rfl⟩, rs⟩ := r
    simp [Mine.intV, VRels.intV rs]
theorem kvT_of {h : Heap} {own : List Addr} {ns : List Int} {cv : Value} (r : VRel h own (.tup (ns.map .int)) cv) : ∃ a cs n, cv = .ref a ∧ h.get? a = some { cls := .type "tuple", data := .seq cs.toArray n } ∧ VRels h own (ns.map .int) cs ∧ kvT h cv = ns := by
  simp only [VRel] at r
  obtain ⟨a, cs, rfl, _, ⟨n, e⟩, _, rs⟩ := r
  refine ⟨a, cs, n, rfl, e, rs, ?_⟩
  show (match h.get? a with
    | some o => (match o.data with | .seq xs _ => xs.toList.map Mine.intV | _ => [])
    | none => []) = ns
  rw [e]
  exact rs.intV
section
variable {prog : Program} {w : World} {A : Around} {E : Value → Shared → Prop} {s : Shared}
theorem oneLt_ints {b : Bool} {x y : Int} {t u : Tok} {Q : Bool → Shared → Prop} (h : Q (decide (x < y)) s) : wpAny (model prog w) A (oneLt' b (.int x t) (.int y u)) Q E s := by
  cases b with
  | true => exact oneLt_int h
  | false =>
    rw [oneLt'_eq]
    simp only [Bool.false_eq_true, if_false]
    refine wpAny_bind (wpAny_mono (show wpAny (model prog w) A (richCompare .Lt (.int x t) (.int y u)) (fun v s' => v = .bool (decide (x < y)) ∧ s' = s) E s from PySem.P.lt_int ⟨rfl, rfl⟩) ?_ fun z1 z2 x => x)
    rintro v s' ⟨rfl, rfl⟩
    exact wpAny_truthy_bool h
theorem lex_loop {own : List Addr} {R : Option Bool × Unit → Shared → Prop} {body : (Value × Value) × Nat → Option Bool × Unit → Sem (ForInStep (Option Bool × Unit))}
    (hb : ∀ x t y u i (R' : ForInStep (Option Bool × Unit) → Shared → Prop), R' (if x = y then .yield (none, ()) else .done (some (decide (x < y)), ())) s → wpAny (model prog w) A (body ((.int x t, .int y u), i) (none, ())) R' E s) :
    ∀ (ns ks : List Int) (cs ds : List Value) (i : Nat), VRels s.heap own (ns.map .int) cs → VRels s.heap own (ks.map .int) ds → (∀ r, (∀ b, r = some b → b = ltL ns ks) → (r = none → decide (cs.length < ds.length) = ltL ns ks) → R (r, ()) s) →
      wpAny (model prog w) A (forIn ((cs.zip ds).zipIdx i) (none, ()) body) R E s
  | [], ks, cs, ds, i, r1, r2, h => by
    simp only [List.map_nil, VRels] at r1; subst r1
    simp only [List.zip_nil_left, List.zipIdx_nil, List.forIn_nil]
    refine wpAny_pure (h none (by simp) fun z1 => ?_)
    have := r2.length
    cases ks with
    | nil => simp at this; simp [ltL, this]
    | cons k ks => simp at this; simp [ltL]; (exact Ar.lin 0 2 (.lt (.k 0) (.v 0)) [(.eq (.v 0) (.a (.v 1) (.k 1)))] (by kernel_rfl) [] [_, _] rfl rfl this)
  | n :: ns, [], cs, ds, i, r1, r2, h => by
    simp only [List.map_nil, VRels] at r2; subst r2
    simp only [List.zip_nil_right, List.zipIdx_nil, List.forIn_nil]
    refine wpAny_pure (h none (by simp) fun z1 => ?_)
    simp [ltL]
  | n :: ns, k :: ks, cs, ds, i, r1, r2, h => by
    simp only [List.map_cons, VRels, VRel] at r1 r2
    obtain ⟨_, cs', rfl, ⟨t, rfl⟩, r1⟩ := r1
    obtain ⟨_, ds', rfl, ⟨u, rfl⟩, r2⟩ := r2
    rw [List.zip_cons_cons, List.zipIdx_cons, List.forIn_cons]
    refine wpAny_bind (hb n t k u i _ ?_)
    by_cases e : n = k
    · rw [if_pos e]
      refine lex_loop hb ns ks cs' ds' (i + 1) r1 r2 fun r hr1 hr2 => h r ?_ ?_
      · intro b hrb; rw [hr1 b hrb]; simp [ltL, e]
      · intro hrn; have := hr2 hrn; simp only [List.length_cons, ltL, if_pos e]; rw [← this]; simp
    · rw [if_neg e]
      refine wpAny_pure (h _ ?_ (by simp))
      intro b hrb; cases hrb; simp [ltL, e]
theorem lt_tups {own : List Addr} {a b : Addr} {cs ds : List Value} {n k : Nat} {ns ks : List Int} {fl : Bool} {Q : Bool → Shared → Prop} (h1 : s.heap.get? a = some { cls := .type "tuple", data := .seq cs.toArray n }) (h2 : s.heap.get? b = some { cls := .type "tuple", data := .seq ds.toArray k })
    (r1 : VRels s.heap own (ns.map .int) cs) (r2 : VRels s.heap own (ks.map .int) ds) (h : Q (ltL ns ks) s) : wpAny (model prog w) A (keyLt' (tuples' fl) (.ref a) (.ref b)) Q E s := by
  unfold keyLt'
  refine wpAny_bind (listItems_at h1 rfl (wpAny_bind (listItems_at h2 rfl ?_)))
  dsimp only
  refine wpAny_bind (lex_loop (own := own) ?_ ns ks cs ds 0 r1 r2 fun r hr1 hr2 => ?_)
  · intro x t y u i R' hR
    refine wpAny_bind (wpAny_eqBool_int ?_)
    by_cases e : x = y
    · rw [if_pos e] at hR
      rw [beq_iff_eq.mpr e]
      simp only [Bool.not_true, Bool.false_eq_true, if_false]
      exact wpAny_pure hR
    · rw [if_neg e] at hR
      rw [beq_eq_false_iff_ne.mpr e]
      simp only [Bool.not_false, if_true]
      exact wpAny_bind (oneLt_ints (wpAny_pure hR))
  · cases r with
    | none => dsimp only; refine wpAny_pure ?_; have := hr2 rfl; simp only [List.size_toArray]; rw [this]; exact h
    | some b => dsimp only; refine wpAny_pure ?_; rw [hr1 b rfl]; exact h
theorem firsts_tups {own : List Addr} {α : Type} {e : α → V} {key : α → List Int} (he : ∀ a, e a = .tup ((key a).map .int)) (hne : ∀ a, key a ≠ []) : ∀ (xs : List α) (vs : List Value) {Q : List (Option Value) → Shared → Prop}, VRels s.heap own (xs.map e) vs →
    (∀ fs : List Value, fs.length = vs.length → (∀ f ∈ fs, ∃ n t, f = .int n t) → Q (fs.map some) s) → wpAny (model prog w) A (vs.mapM firstOfTuple') Q E s
  | [], vs, Q, r, h => by
    simp only [List.map_nil, VRels] at r; subst r
    rw [List.mapM_nil]; exact wpAny_pure (h [] rfl (by simp))
  | x :: xs, vs, Q, r, h => by
    simp only [List.map_cons, VRels] at r
    obtain ⟨v, vs', rfl, r1, r2⟩ := r
    rw [he x] at r1
    obtain ⟨a, cs, n, rfl, ha, rs, _⟩ := kvT_of r1
    obtain ⟨k, ks, hk⟩ : ∃ k ks, key x = k :: ks := by
      cases q : key x with
      | nil => exact absurd q (hne x)
      | cons k ks => exact ⟨k, ks, rfl⟩
    rw [hk] at rs
    simp only [List.map_cons, VRels, VRel] at rs
    obtain ⟨_, cs', rfl, ⟨t, rfl⟩, _⟩ := rs
    rw [List.mapM_cons]
    refine wpAny_bind ?_
    unfold firstOfTuple'
    refine wpAny_bind (wpAny_typeOf (T := "tuple") ⟨_, ha, rfl⟩ ?_)
    rw [if_neg (by decide)]
    refine wpAny_bind (listItems_at ha rfl (wpAny_pure ?_))
    refine wpAny_bind (firsts_tups he hne xs vs' r2 fun fs hl hf => wpAny_pure ?_)
    have := h (.int k t :: fs) (by simp [hl]) (by
      intro f hf'
      rcases List.mem_cons.mp hf' with rfl | q
      · exact ⟨_, _, rfl⟩
      · exact hf f q)
    simpa using this
theorem mapM_types : ∀ (fs : List Value) {Q : List Value → Shared → Prop}, (∀ f ∈ fs, ∃ n t, f = Value.int n t) → Q (fs.map fun z1 => Value.type "int") s → wpAny (model prog w) A (fs.mapM typeOf) Q E s
  | [], Q, _, h => by rw [List.mapM_nil]; exact wpAny_pure h
  | f :: fs, Q, hf, h => by
    obtain ⟨n, t, rfl⟩ := hf f (List.mem_cons_self ..)
    rw [List.mapM_cons]
    refine wpAny_bind (wpAny_typeOf (typeIs_int s n t) ?_)
    exact wpAny_bind (mapM_types fs (fun f hf' => hf f (List.mem_cons_of_mem _ hf')) (wpAny_pure h))
theorem kind_tups {own : List Addr} {α : Type} {e : α → V} {key : α → List Int} (he : ∀ a, e a = .tup ((key a).map .int)) (hne : ∀ a, key a ≠ []) {xs : List α} {vs : List Value} {Q : SortKind → Shared → Prop} (r : VRels s.heap own (xs.map e) vs) (h2 : 2 ≤ vs.length) (h : Q (tuples' true) s) :
    wpAny (model prog w) A (keyKind' vs.toArray) Q E s := by
  rw [keyKind'_eq, List.mapM_toArray, map_eq_pure_bind]
  refine wpAny_bind (wpAny_bind (firsts_tups he hne xs vs r fun fs hl hf => wpAny_pure ?_))
  obtain ⟨f₁, fr, rfl⟩ : ∃ f₁ fr, fs = f₁ :: fr := by
    cases fs with
    | nil => simp at hl; lia
    | cons a b => exact ⟨a, b, rfl⟩
  have hall : (((f₁ :: fr).map some).toArray.all fun x => x.isSome) = true := by simp
  rw [if_pos hall]
  refine wpAny_bind (wpAny_rule ?_)
  have hfm : (((f₁ :: fr).map some).toArray.filterMap id) = (f₁ :: fr).toArray := by simp
  rw [hfm, oneTypeOnly'_eq, List.mapM_toArray, map_eq_pure_bind]
  refine wpAny_bind (wpAny_bind (wpAny_bind (mapM_types _ hf (wpAny_pure ?_))))
  have hall2 : ((List.map (fun z1 => Value.type "int") (f₁ :: fr)).toArray.all fun x => x == Value.type "int") = true := by
    simp only [List.all_toArray, List.all_map, List.all_eq_true]
    intro _ _
    rfl
  have h0 : (List.map (fun z1 => Value.type "int") (f₁ :: fr)).toArray[0]? = some (Value.type "int") := by simp
  rw [h0]
  simp only [hall2, if_true]
  exact wpAny_pure (wpAny_pure h)
end
theorem Call_sorted_tupL {loc : Bool} {α : Type} (e : α → V) (key : α → List Int) (he : ∀ a, e a = .tup ((key a).map .int)) (hne : ∀ a, key a ≠ []) {xs : List α} {lv : V} (hl : IsLst σ lv (xs.map e))
    (h : ∀ ys : List α, ys.Perm xs → (ys.Pairwise fun a b => ltL (key b) (key a) = false) → Made c.F loc P (ys.map e) σ) : CallS c d (.builtin "sorted") [lv] σ P X := by
  refine Call_sorted ltL_lin e key kvT hl (fun h own a cv z1 r => ?_) (fun prog w A s own vs h2 r => ⟨tuples' true, fun E Q hQ => kind_tups he hne r h2 hQ, fun x hx y hy E Q hQ => ?_⟩) h
  · rw [he a] at r
    obtain ⟨_, _, _, _, _, _, q⟩ := kvT_of r
    exact q
  · obtain ⟨a, _, ra⟩ := VRels.mem r hx
    obtain ⟨b, _, rb⟩ := VRels.mem r hy
    rw [he a] at ra
    rw [he b] at rb
    obtain ⟨a1, cs, n, rfl, q1, q2, q3⟩ := kvT_of ra
    obtain ⟨b1, ds, k, rfl, p1, p2, p3⟩ := kvT_of rb
    rw [q3, p3] at hQ
    exact lt_tups q1 p1 q2 p2 hQ
theorem Call_sorted_tup {α : Type} (e : α → V) (key : α → List Int) (he : ∀ a, e a = .tup ((key a).map .int)) (hne : ∀ a, key a ≠ []) {xs : List α} {lv : V} (hl : IsLst σ lv (xs.map e))
    (h : ∀ ys : List α, ys.Perm xs → (ys.Pairwise fun a b => ltL (key b) (key a) = false) → P (.lst (ys.map e)) σ) : CallS c d (.builtin "sorted") [lv] σ P X := Call_sorted_tupL (loc := false) e key he hne hl h
theorem ltI_lin : Lin (fun a b : Int => decide (a < b)) := ⟨fun a => by simp, fun a b c h1 h2 => by simp at *; (exact Ar.lin 3 0 (.ilt (.v 0) (.v 1)) [(.ilt (.v 0) (.v 2)), (.ilt (.v 2) (.v 1))] (by kernel_rfl) [_, _, _] [] rfl rfl h1 h2), fun a b h1 h2 => by simp at *; (exact Ar.lin 2 0 (.ieq (.v 0) (.v 1)) [(.ile (.v 1) (.v 0)), (.ile (.v 0) (.v 1))] (by kernel_rfl) [_, _] [] rfl rfl h1 h2)⟩
theorem VRels.intsAre {h : Heap} {own : List Addr} : ∀ {ns : List Int} {cs : List Value}, VRels h own (ns.map .int) cs → IntsAre cs ns
  | [], cs, r => by simp only [List.map_nil, VRels] at r; subst r; exact .nil
  | n :: ns, cs, r => by
    simp only [List.map_cons, VRels, VRel] at r
    obtain ⟨_, _, rfl, ⟨t, rfl⟩, rs⟩ := r
    exact .cons _ _ (VRels.intsAre rs)
theorem Call_sorted_int {xs : List Int} {lv : V} (hl : IsLst σ lv (xs.map .int)) (h : ∀ ys : List Int, ys.Perm xs → (ys.Pairwise fun a b => a ≤ b) → P (.lst (ys.map .int)) σ) : CallS c d (.builtin "sorted") [lv] σ P X := by
  refine Call_sorted (loc := false) ltI_lin V.int id (fun z1 v => intV v) hl (fun h own a cv z1 r => ?_) (fun prog w A s own vs h2 r => ⟨oneType', fun E Q hQ => ?_, fun x hx y hy E Q hQ => ?_⟩) fun ys hp hs => h ys hp ?_
  · simp only [VRel] at r; obtain ⟨t, rfl⟩ := r; rfl
  · obtain ⟨v₁, v₂, vr, rfl⟩ : ∃ v₁ v₂ vr, vs = v₁ :: v₂ :: vr := by
      match vs, h2 with
      | v₁ :: v₂ :: vr, _ => exact ⟨_, _, _, rfl⟩
    rw [keyKind_ints (VRels.intsAre r)]; exact wpAny_pure hQ
  · obtain ⟨a, _, ra⟩ := VRels.mem r hx
    obtain ⟨b, _, rb⟩ := VRels.mem r hy
    simp only [VRel] at ra rb
    obtain ⟨t, rfl⟩ := ra
    obtain ⟨u, rfl⟩ := rb
    exact oneLt_int hQ
  · refine List.Pairwise.imp ?_ hs
    intro a b hab; simp at hab; exact hab
noncomputable def strV : Value → List Nat
  | .str x _ => x.cps.toList
  | _ => []
theorem ltS_lin : Lin strKind.blt := ⟨strKind.irrefl, strKind.trans, strKind.total⟩
end Mine
end
section
namespace Mine
open PySem
section
variable {prog : Program} {w : World} {K : Type} [DecidableEq K] {knd : KeyKind prog w K} {A : Around} {E : Value → Shared → Prop} {s : Shared}
end
end Mine
end
section
set_option maxRecDepth 100000
namespace Mine
open PySem PySem.Spec
section
variable {prog : Program} {w : World} {K : Type} [DecidableEq K] {knd : KeyKind prog w K} {A : Around} {E : Value → Shared → Prop} {s : Shared}
end
end Mine
end
section
set_option maxRecDepth 100000
namespace Mine
open PySem
section
variable {prog : Program} {w : World} {A : Around} {E : Value → Shared → Prop} {s : Shared}
end
end Mine
end
section
set_option maxRecDepth 100000
namespace Mine
open PySem
section
variable {prog : Program} {w : World} {A : Around} {E : Value → Shared → Prop} {s : Shared}
end
end Mine
end
section
set_option maxRecDepth 100000
namespace Mine
open PySem
section
variable {prog : Program} {w : World} {A : Around} {E : Value → Shared → Prop} {s : Shared}
theorem hint_dict {a : Addr} {Q : Bool → Shared → Prop} (hT : s.TypeIs (.ref a) "dict") (h : Q false s) : wpAny (model prog w) A (Builtin.List.listLengthHint (.ref a)) Q E s := by
  unfold Builtin.List.listLengthHint
  refine wpAny_bind (wpAny_specialOf hT F.slot_dict_len.lookup ?_)
  generalize hid : ("dict.__len__" : String) = id0
  wp_delta
  rw [show splitId id0 = some ("dict", "__len__") from by subst hid; decide +kernel]
  subst hid
  refine wpAny_bind (wpAny_isInstance (T := "dict") (b := true) hT (by rw [isSubtype_type]; kernel_rfl) ?_)
  refine wpAny_ite_split (fun hab => absurd hab (by decide)) (fun z1 => ?_)
  refine wpAny_ite_split (fun z1 => ?_) (fun hab => absurd (by decide +kernel) hab)
  exact wpAny_bind (wpAny_typeOf hT (wpAny_pure h))
theorem collect_src {D : Addr} {T : String} (hTt : T = "dict" ∨ T = "set") (hT : ∀ h', (∀ b o, s.heap.get? b = some o → h'.get? b = some o) → Shared.TypeIs { s with heap := h' } (.ref D) T) {n : Nat} (hn : n ≤ sizeLine) {Good : (Nat → Value → Prop) → Prop} {Q : List Value → Shared → Prop}
    (hint : ∀ (s1 : Shared) (Q' : Bool → Shared → Prop) (E' : Value → Shared → Prop), s1.TypeIs (.ref D) T → Q' false s1 → wpAny (model prog w) A.in1 (Builtin.List.listLengthHint (.ref D)) Q' E' s1)
    (iter : ∀ (h1 : Heap) (Q' : Value → Shared → Prop) (E' : Value → Shared → Prop), (∀ b o, s.heap.get? b = some o → h1.get? b = some o) → (∀ (I : Addr) (fp : List Addr) (P : Nat → Value → Prop) (St : Nat → Heap → Prop) (h2 : Heap) (d : Drawn), Walks prog w A.in1 I fp [I] n P St → St 0 h2 → (∀ b ∈ fp, (∃ o, s.heap.get? b = some o) ∨ h1.get? b = none) → h1.get? I = none → (∀ b o, h1.get? b = some o → h2.get? b = some o) → Good P → Q' (.ref I) { s with heap := h2, drawn := d }) →
      wpAny (model prog w) A.in1 (pyIter (.ref D)) Q' E' { s with heap := h1 })
    (hQ : ∀ h' d tk acc P, Good P → (∀ b o, s.heap.get? b = some o → h'.get? b = some o) → ItemsOf P acc n → Q acc.toList { s with heap := h', drawn := d, toks := tk }) : wpAny (model prog w) A (collect (.ref D)) Q E s := by
  unfold collect
  refine wpAny_bind (wpAny_runValue (codeAny_builtin F.entry_proto_collect ?_))
  rw [Around.under_plainId F.plain_proto_collect _]
  show wpAny _ A.in1 (newList [] >>= fun l => again (.builtin "list.__iadd__" ⟨[l, .ref D], []⟩)) _ _ s
  refine wpAny_bind (wpAny_newObj_type ?_)
  refine wpAny_pure ⟨plainId_quiet F.plain_list_iadd _, codeAny_builtin F.entry_list_iadd ?_⟩
  rw [Around.under_plainId F.plain_list_iadd _]
  show wpAny _ A.in1 (Builtin.List.listExtendWith (.ref s.heap.objs.size) (.ref D) (.ref s.heap.objs.size)) _ _ _
  unfold Builtin.List.listExtendWith
  have hx1 : ∀ b o, s.heap.get? b = some o → (s.heap.push { cls := .type "list", data := .seq ([] : List Value).toArray }).get? b = some o := fun b o e => Heap.get?_push_of_some _ e
  have hT1 := hT _ hx1
  refine wpAny_bind (wpAny_typeOf hT1 ?_)
  have hDlt : D < s.heap.objs.size := by
    obtain ⟨o, e, _⟩ := hT s.heap fun z1 z2 e => e
    exact Heap.lt_size e
  have h1 : Builtin.List.listSameRef (.ref s.heap.objs.size) (.ref D) = false := beq_eq_false_iff_ne.mpr (Nat.ne_of_gt hDlt)
  have h2 : (Value.type T == Value.type "list") = false ∧ (Value.type T == Value.type "tuple") = false := by rcases hTt with rfl | rfl <;> decide
  simp only [h1, h2.1, h2.2, Bool.or_false, Bool.false_eq_true, if_false]
  refine wpAny_bind (iter _ _ _ hx1 fun I fp P St h2 d W st hfp hI hx2 good => ?_)
  have hx12 : ∀ b o, s.heap.get? b = some o → h2.get? b = some o := fun b o e => hx2 b o (hx1 b o e)
  refine wpAny_bind (wpAny_holding (hint { s with heap := h2, drawn := d } _ _ ?_ ?_))
  · obtain ⟨o, e, c⟩ := hT h2 hx12
    exact ⟨o, e, c⟩
  have hS0 : (s.heap.push { cls := .type "list", data := .seq ([] : List Value).toArray }).get? s.heap.objs.size = some { cls := .type "list", data := .seq ([] : List Value).toArray } := Heap.get?_push_size _ rfl
  have hS₁ := hx2 _ _ hS0
  have hSf : s.heap.objs.size ∉ fp := fun hm => by
    rcases hfp _ hm with ⟨o, e⟩ | e
    · exact absurd (Heap.lt_size e) (Nat.lt_irrefl _)
    · rw [hS0] at e; cases e
  have hSI : s.heap.objs.size ≠ I := fun q => by rw [q] at hS0; rw [hS0] at hI; cases hI
  have hany : (["set", "frozenset", "dict", "dict_keys", "dict_values", "dict_items"].any fun x => Value.type T == Value.type x) = true := by rcases hTt with rfl | rfl <;> decide
  show wpAny _ A.in1 (if (false || (["set", "frozenset", "dict", "dict_keys", "dict_values", "dict_items"].any fun x => Value.type T == Value.type x)) = true then _ else _) _ _ _
  rw [if_pos (by rw [hany]; rfl)]
  refine wpAny_bind (wpAny_rule ?_)
  refine wpAny_bind ?_
  show wpAny _ A.in1 (updateSeq s.heap.objs.size (·.push .none) >>= fun z1 => updateSeq s.heap.objs.size (·.pop)) _ _ _
  refine wpAny_bind (wpAny_updateSeq hS₁ rfl ?_)
  have hS₂ := Heap.get?_update_self (Obj.mapSeq (·.push Value.none)) hS₁ rfl
  refine wpAny_updateSeq hS₂ rfl ?_
  have hS₃ := Heap.get?_update_self (Obj.mapSeq (·.pop)) hS₂ rfl
  have oth : ∀ b o, b ≠ s.heap.objs.size → h2.get? b = some o → ((h2.update s.heap.objs.size (Obj.mapSeq (·.push Value.none))).update s.heap.objs.size (Obj.mapSeq (·.pop))).get? b = some o :=
    fun b o hb e => (Heap.get?_update_other _ _ (Ne.symm hb)).trans ((Heap.get?_update_other _ _ (Ne.symm hb)).trans e)
  refine wpAny_pure ⟨plainId_quiet F.plain_extend_loop _, codeAny_extend_loopS W.toS hn _ hSf _ n 0 _ _ _ rfl (Nat.zero_le _) (W.frame 0 h2 _ st fun b hb o e => oth b o (fun h => hSf (h ▸ hb)) e) hS₃ (ItemsOf.nil P) fun s' acc' c' hm hS' hacc => ?_⟩
  show wpAny _ A (load s.heap.objs.size >>= _) _ _ s'
  refine wpAny_bind (wpAny_load hS' ?_)
  obtain ⟨h', g', d', tk', os'⟩ := s'
  have eg : g' = s.gens := hm.gens
  have eo : os' = s.os := hm.os
  subst eg; subst eo
  refine wpAny_pure (hQ h' d' tk' acc' P good (fun b o e => ?_) hacc)
  have hb1 : b ≠ s.heap.objs.size := Nat.ne_of_lt (Heap.lt_size e)
  refine hm.heap b o (by
    simp only [List.mem_cons, List.not_mem_nil, or_false, not_or]
    exact ⟨hb1, fun q => by rw [← q, hx1 b o e] at hI; cases hI⟩) (oth b o hb1 (hx12 b o e))
end
end Mine
end
section
namespace Mine
open PySem PyProof.Rows
namespace Tim
section
variable {prog : Program} {w : World} {A : Around} {E : Value → Shared → Prop} {s : Shared}
theorem sorted_C {x : Value} {Ok : Heap → List Value → Prop} {r : Heap → List Value → Value → Nat} {Q : Value → Shared → Prop}
    (hcol : ∀ (Q' : List Value → Shared → Prop) (E' : Value → Shared → Prop), (∀ h' d tk vs, Ok h' vs → Q' vs { s with heap := h', drawn := d, toks := tk }) → wpAny (model prog w) A.in1 (collect x) Q' E' s)
    (hz : ∀ h' vs, Ok h' vs → vs.length ≤ 16777216)
    (hask : ∀ h' vs, Ok h' vs → 2 ≤ vs.length → ∀ (A' : Around) (s' : Shared), (∀ b o, h'.get? b = some o → s'.heap.get? b = some o) → ∃ κ, (∀ (E : Value → Shared → Prop) (Q : SortKind → Shared → Prop), Q κ s' → wpAny (model prog w) A' (keyKind' vs.toArray) Q E s') ∧ Ask prog w A' s' κ (fun p => r h' vs p.1) (pairsOf vs))
    (h : ∀ h' d tk vs (out : Array Value) h'' L, Ok h' vs → out.toList.Perm vs → (out.toList.Pairwise fun x y => r h' vs x ≤ r h' vs y) → (∀ b o, h'.get? b = some o → h''.get? b = some o) → h'.get? L = none → PlainSeq h'' "list" L out.toList → Q (.ref L) { s with heap := h'', drawn := d, toks := tk }) :
    wpAny (model prog w) A (call (.builtin "sorted") [x]) Q E s := by
  refine Calls.call_function_entry kind_sorted plain_sorted entry_sorted (args_sorted1 _) ?_
  unfold Builtin.«sorted»
  refine wpAny_bind (m := checkCount "sorted" 1 1 _) (wpAny_pure ?_)
  refine wpAny_bind (hcol _ _ fun h' d tk vs hok => ?_)
  have hz1 := hz h' vs hok
  have hz' : vs.length ≤ sizeLine := by rw [sizeLine_eq]; exact hz1
  refine wpAny_bind (wpAny_newList ?_ hz')
  have hoL : (h'.push (seqObj "list" vs.toArray 0)).get? h'.objs.size = some (seqObj "list" vs.toArray 0) := Heap.get?_push_size _ rfl
  have keep : ∀ b o, h'.get? b = some o → (h'.push (seqObj "list" vs.toArray 0)).get? b = some o := fun b o e => Heap.get?_push_of_some _ e
  show wpAny _ _ _ _ _ { s with heap := h'.push (seqObj "list" vs.toArray 0), drawn := d, toks := tk }
  refine wpAny_bind (wpAny_holding (wpAny_call_entry slot_list_sort ⟨_, hoL, rfl⟩ entry_list_sort (list_sort_T (s := { s with heap := h'.push (seqObj "list" vs.toArray 0), drawn := d, toks := tk }) (r := r h' vs) hoL hz1 (fun h2 s' hk' => hask h' vs hok h2 _ s' fun b o e => ?_) fun out a1 a2 => ⟨_, rfl, ?_⟩) (args_list_sort _)))
  · exact hk' b o (Nat.ne_of_lt (Heap.lt_size e)) (keep b o e)
  · obtain ⟨ep, he⟩ := sortedHeap_at (out := out) hoL
    refine wpAny_pure ⟨_, rfl, h h' d tk vs out _ h'.objs.size hok a1 a2 (fun b o e => ?_) (Heap.get?_none_of_le (Nat.le_refl _)) ⟨ep, by simpa using he⟩⟩
    have hlt := Heap.lt_size e
    rw [sortedHeap_old (Nat.ne_of_lt hlt) (by rw [size_push']; exact Nat.lt_succ_of_lt hlt)]
    exact keep b o e
end
end Tim
variable {c : Cx} {d : Nat} {sc : Scope} {m : AEnv} {σ : Led} {P : V → Led → Prop} {X : XP} {K : Fl → AEnv → Led → Prop}
theorem sorted_strs {x : Value} {xs : List Str} {A : Around} {s : Shared} {E : Value → Shared → Prop} (st : St c A σ s.heap) (hxs : xs.length ≤ sizeLine)
    (hcol : ∀ (Q' : List Value → Shared → Prop) (E' : Value → Shared → Prop), (∀ h' d tk vs (us : List Str), (∀ b o, s.heap.get? b = some o → h'.get? b = some o) → us.Perm xs → VRels h' (ownS c σ) (us.map .str) vs → Q' vs { s with heap := h', drawn := d, toks := tk }) → wpAny c.M A.in1 (collect x) Q' E' s)
    (h : ∀ ys : List Str, ys.Perm xs → (ys.Pairwise fun a b => decide (b.cps.toList < a.cps.toList) = false) → P (.lst (ys.map .str)) σ) : wpAny c.M A (call (.builtin "sorted") [x]) (Post c A σ s P) E s := by
  refine Tim.sorted_C (Ok := fun h' vs => (∀ b o, s.heap.get? b = some o → h'.get? b = some o) ∧ ∃ us : List Str, us.Perm xs ∧ VRels h' (ownS c σ) (us.map .str) vs) (r := fun z1 vs => rank PyProof.Rows.strKind.blt strV vs) (fun Q' E' hq => hcol Q' E' fun h' d tk vs us h1 h2 h3 => hq h' d tk vs ⟨h1, us, h2, h3⟩) ?_ ?_ ?_
  · rintro h' vs ⟨_, us, h2, h3⟩
    have := h3.length
    rw [List.length_map, h2.length_eq] at this
    rw [this, ← sizeLine_eq]; exact hxs
  · rintro h' vs ⟨h1, us, h2, h3⟩ hl A' s' hx
    refine ⟨oneType', fun E' Q hQ => ?_, fun x hx y hy E' Q hQ => ?_⟩
    · obtain ⟨v₁, v₂, vr, rfl⟩ : ∃ v₁ v₂ vr, vs = v₁ :: v₂ :: vr := by
        match vs, hl with
        | v₁ :: v₂ :: vr, _ => exact ⟨_, _, _, rfl⟩
      rw [keyKind_strs (VRels.strs h3)]; exact wpAny_pure hQ
    · have hx' := (Tim.pairs_mem hx).2
      have hy' := (Tim.pairs_mem hy).2
      rw [rank_lt ltS_lin hx'] at hQ
      obtain ⟨a, _, ra⟩ := VRels.mem h3 hx'
      obtain ⟨b, _, rb⟩ := VRels.mem h3 hy'
      simp only [VRel] at ra rb
      obtain ⟨t, ea⟩ := ra
      obtain ⟨u, eb⟩ := rb
      rw [ea, eb] at hQ ⊢
      exact oneLt_str hQ
  · rintro h' d tk vs out h'' L ⟨h1, us, h2, h3⟩ hp hs hx hL pl
    obtain ⟨ys, hy, hr⟩ := VRels.perm hp h3
    have hx2 : Ext s.heap h'' := fun b o e => hx b o (h1 b o e)
    have hno : L ∉ ownS c σ := fun hm => by
      rcases List.mem_append.mp hm with q | q
      · obtain ⟨_, o, e⟩ := st.hid _ q; rw [h1 _ _ e] at hL; cases hL
      · obtain ⟨o, e⟩ := st.there q; rw [h1 _ _ e] at hL; cases hL
    have hpw : out.toList.Pairwise fun x y => PyProof.Rows.strKind.blt (strV y) (strV x) = false := by
      refine List.Pairwise.imp_of_mem ?_ hs
      intro u v hu hv huv
      have := rank_lt (u := v) (v := u) ltS_lin (kv := strV) (hp.mem_iff.mp hv)
      rw [← this, decide_eq_false_iff_not]; exact Nat.not_lt.mpr huv
    have hm := h ys (hy.trans h2) (VRels.pairwise (L := ys) (by
      intro a b ca cb ha hb ra rb hq
      simp only [VRel] at ra rb
      obtain ⟨t, rfl⟩ := ra
      obtain ⟨u, rfl⟩ := rb
      exact hq) (fun b hb => hb) hr hpw)
    refine ⟨.lst (ys.map .str), σ, hm, .ext hx2 rfl rfl, st.ext hx2, ?_⟩
    simp only [VRel]
    refine ⟨L, out.toList, rfl, hno, pl, ?_, VRels.mono (Ext.kept hx) .refl _ _ hr⟩
    have := hr.length
    rw [List.length_map, (hy.trans h2).length_eq] at this
    rw [this]; exact hxs
theorem Call_sorted_dict (hh : c.k.hd = true) {a : Addr} {kvs : List (Str × V)} (hl : σ.lookup a = some (.dictS kvs)) (hz : kvs.length ≤ 1000) (h : ∀ ys : List Str, ys.Perm (kvs.map (·.1)) → (ys.Pairwise fun a b => decide (b.cps.toList < a.cps.toList) = false) → P (.lst (ys.map .str)) σ) :
    CallS c d (.builtin "sorted") [.ref a] σ P X := by
  intro A s E cs hA st rs _
  obtain ⟨x, rfl, r⟩ := rs.un1
  simp only [VRel] at r
  subst r
  obtain ⟨cs, hs, p, e, rs⟩ := st.objs _ _ (lookup_mem hl)
  obtain ⟨ep, hD⟩ : ∃ ep, s.heap.DictAt (PySem.strKind c.k.prog c.k.w) a cs ep := by
    obtain ⟨o, es, ep, q⟩ := p
    exact ⟨ep, o, es, q⟩
  have hlen : cs.length = kvs.length := by rw [← List.length_map (f := fun x : Str × Value => x.1), e, List.length_map]
  refine sorted_strs (xs := kvs.map (·.1)) st (by rw [List.length_map, sizeLine_eq]; omega) (fun Q' E' hq => ?_) h
  refine collect_src (D := a) (T := "dict") (n := cs.length) (Good := fun P => P = fun i v => ∃ k x, cs[i]? = some (k, x) ∧ (PySem.strKind c.k.prog c.k.w).is k v = true) (.inl rfl) (fun h' hx => ?_) (by rw [hlen, sizeLine_eq]; omega) (fun s1 Q1 E1 hT q => hint_dict hT q) (fun h1 Q1 E1 hx k => ?_) (fun h' d tk acc P' hg hx hacc => ?_)
  · obtain ⟨o, es, ho, hc, _⟩ := hD
    exact ⟨o, hx _ _ ho, hc.1⟩
  · have hD1 := hD.at' (h' := h1) fun o e => hx _ _ e
    refine wpAny_pyIter_dict (s := { s with heap := h1 }) hs hD1 ?_
    have hne : a ≠ h1.objs.size := Nat.ne_of_lt hD1.lt_size
    refine k h1.objs.size [h1.objs.size, a] _ _ _ s.drawn (Walks.dictKeys (knd := PySem.strKind c.k.prog c.k.w) (by simp [hA.handled hh]) _ a hne cs ep) ⟨⟨_, Heap.get?_push_size _ rfl, rfl, rfl⟩, hD1.push _⟩ (fun b hb => ?_) (Heap.get?_none_of_le (Nat.le_refl _)) (fun b o e => Heap.get?_push_of_some _ e) rfl
    simp only [List.mem_cons, List.not_mem_nil, or_false] at hb
    rcases hb with rfl | rfl
    · exact .inr (Heap.get?_none_of_le (Nat.le_refl _))
    · obtain ⟨o, es, ho, _⟩ := hD
      exact .inl ⟨o, ho⟩
  · subst hg
    refine hq h' d tk acc.toList (kvs.map (·.1)) hx (.refl _) ?_
    rw [← e]
    have key : ∀ (n : Nat) (cs : List (Str × Value)) (l : List Value), l.length = cs.length → (∀ (j : Nat) v, l[j]? = some v → ∃ k x, cs[j]? = some (k, x) ∧ (PySem.strKind c.k.prog c.k.w).is k v = true) → VRels h' (ownS c σ) ((cs.map (·.1)).map .str) l := by
      intro n cs
      induction cs with
      | nil => intro l hl _; rw [List.eq_nil_of_length_eq_zero hl]; rfl
      | cons kv cs ih =>
        intro l hl hk
        cases l with
        | nil => cases hl
        | cons v l =>
          simp only [List.map_cons, VRels]
          refine ⟨v, l, rfl, ?_, ih l (Nat.succ.inj hl) fun j v' e => hk (j + 1) v' e⟩
          obtain ⟨k, x, e, q⟩ := hk 0 v rfl
          cases e
          simp only [VRel]
          exact Value.isStrOf_shape q
    exact key 0 cs acc.toList (by rw [Array.length_toList, hacc.1]) fun j v e => hacc.2 j v (by rw [← Array.getElem?_toList]; exact e)
end Mine
end
section
namespace Mine
namespace Deal
noncomputable abbrev Row := Nat × Nat × Int
variable {W : Type} [DecidableEq W]
end Deal
end Mine
end
section
namespace Mine
open PySem PyProof.Rows
variable {c : Cx} {d : Nat} {sc : Scope} {m : AEnv} {σ : Led} {P : V → Led → Prop} {X : XP} {K : Fl → AEnv → Led → Prop}
section
variable {prog : Program} {w : World} {A : Around} {E : Value → Shared → Prop} {s : Shared}
end
end Mine
end
section
set_option genSizeOf false
set_option genInjectivity false
namespace Mine
open PySem
inductive Bf where
  | len | isinstance | int | bool | str | tuple | list | dict | set | range | max | min | sum | all | sorted
noncomputable def Bf.name : Bf → Str
  | .len => "len" | .isinstance => "isinstance" | .int => "int" | .bool => "bool" | .str => "str" | .tuple => "tuple" | .list => "list" | .dict => "dict" | .set => "set"
  | .range => "range" | .max => "max" | .min => "min" | .sum => "sum" | .all => "all" | .sorted => "sorted"
noncomputable def Bf.val : Bf → Value
  | .len => .builtin "len" | .isinstance => .builtin "isinstance" | .int => .type "int" | .bool => .type "bool" | .str => .type "str" | .tuple => .type "tuple" | .list => .type "list" | .dict => .type "dict" | .set => .type "set"
  | .range => .type "range" | .max => .builtin "max" | .min => .builtin "min" | .sum => .builtin "sum" | .all => .builtin "all" | .sorted => .builtin "sorted"
inductive T where
  | nil | cons (e r : T)
  | int (i : Int) | str (x : Str) | bool (b : Bool) | none
  | var (i : Nat)
  | bin (op : Operator) (l r : T) | un (op : UnaryOp) (e : T)
  | cmp (op : CmpOp) (l r : T) | cmp2 (l : T) (o₁ : CmpOp) (a : T) (o₂ : CmpOp) (b : T)
  | bo (op : BoolOp) (es : T) | ife (t a b : T)
  | tup (es : T) | lst (loc : Bool) (es : T)
  | call (f : Str) (es : T) | blt (f : Bf) (es : T) | isi (e : T) (f : Bf) | meth (o : T) (x : Str) (es : T)
  | item (v i : T) | slice (v lo hi : T)
  | comp (loc hc : Bool) (elt t it cond : T)
  | attr (o : T) (x : Str) | dict (ks vs : T) | cut (q : T)
  | ret (e : T) | ret0 | pass | brk | cont | expr (e : T)
  | asgn (t e : T) | asgnC (i : Nat) (loc hc : Bool) (elt t it cond : T)
  | ite (t a b : T) | for_ (t it body : T) | while_ (t body : T)
  | raise (x : Str) (es : T) | try_ (body hs : T) | handler (x : Str) (v : Option Nat) (body : T)
  | isx (a : T) (tp : Bool) (xs : List Str)
noncomputable abbrev Rho := List (Nat × V)
structure Glob where
  gInts : List (Str × Int)
  gStrs : List (Str × Str)
  gDefs : List Str
structure GlobOk (k : Base) (G : Glob) : Prop where
  ok : k.OK
  hInts : ∀ x i, G.gInts.lookup x = some i → Const k x (.int i)
  hStrs : ∀ x y, G.gStrs.lookup x = some y → Const k x (.str y)
  hDefs : ∀ x, G.gDefs.contains x = true → Def k x
  hBlts : ∀ f : Bf, Blt k f.name f.val
  hd : k.hd = true
noncomputable def gi (sc : Scope) (x : Str) : Bool := sc.names.lookup x == some .globalImplicit
theorem gi_of {sc : Scope} {x : Str} (h : gi sc x = true) : sc.names.lookup x = some .globalImplicit := by simpa [gi] using h
noncomputable def noStar (e : Expr) : Bool := e.ctorIdx != 22
noncomputable def noSet (e : Expr) : Bool := e.ctorIdx != 7
noncomputable def noComp (e : Expr) : Bool := e.ctorIdx != 8 && e.ctorIdx != 9 && e.ctorIdx != 10
noncomputable def noSlice (e : Expr) : Bool := e.ctorIdx != 26
noncomputable def onCst (e : Expr) (f : PySem.Const → Bool) : Bool := if h : e.ctorIdx = 19 then Expr.Constant.elim (motive_1 := fun z1 => Bool) e h (fun k z1 z2 => f k) else false
set_option tactic.hygienic true
theorem onCst_inv {e : Expr} {f : PySem.Const → Bool} (h : onCst e f = true) : ∃ k n p, e = .Constant k n p ∧ f k = true := by
  unfold onCst at h
  split at h
  · rename_i q; revert h; exact Expr.Constant.elim (motive_1 := fun e => ∀ h : e.ctorIdx = 19, Expr.Constant.elim (motive_1 := fun z1 => Bool) e h (fun k z1 z2 => f k) = true → ∃ k n p, e = .Constant k n p ∧ f k = true) e q (fun k n p z1 hk => ⟨k, n, p, rfl, hk⟩) q
  · cases h
noncomputable def onNm (e : Expr) (f : Str → Bool) : Bool := if h : e.ctorIdx = 23 then Expr.Name.elim (motive_1 := fun z1 => Bool) e h (fun x z1 => f x) else false
theorem onNm_inv {e : Expr} {f : Str → Bool} (h : onNm e f = true) : ∃ x p, e = .Name x p ∧ f x = true := by
  unfold onNm at h
  split at h
  · rename_i q; revert h; exact Expr.Name.elim (motive_1 := fun e => ∀ h : e.ctorIdx = 23, Expr.Name.elim (motive_1 := fun z1 => Bool) e h (fun x z1 => f x) = true → ∃ x p, e = .Name x p ∧ f x = true) e q (fun x p z1 hk => ⟨x, p, rfl, hk⟩) q
  · cases h
noncomputable def onNmp (e : Expr) (f : Str → Pos → Bool) : Bool := if h : e.ctorIdx = 23 then Expr.Name.elim (motive_1 := fun z1 => Bool) e h (fun x p => f x p) else false
theorem onNmp_inv {e : Expr} {f : Str → Pos → Bool} (h : onNmp e f = true) : ∃ x p, e = .Name x p ∧ f x p = true := by
  unfold onNmp at h
  split at h
  · rename_i q; revert h; exact Expr.Name.elim (motive_1 := fun e => ∀ h : e.ctorIdx = 23, Expr.Name.elim (motive_1 := fun z1 => Bool) e h (fun x p => f x p) = true → ∃ x p, e = .Name x p ∧ f x p = true) e q (fun x p z1 hk => ⟨x, p, rfl, hk⟩) q
  · cases h
noncomputable def onBin (e : Expr) (f : Expr → Operator → Expr → Bool) : Bool := if h : e.ctorIdx = 2 then Expr.BinOp.elim (motive_1 := fun z1 => Bool) e h (fun l o r z1 => f l o r) else false
theorem onBin_inv {e : Expr} {f : Expr → Operator → Expr → Bool} (h : onBin e f = true) : ∃ l o r p, e = .BinOp l o r p ∧ f l o r = true := by
  unfold onBin at h
  split at h
  · rename_i q; revert h; exact Expr.BinOp.elim (motive_1 := fun e => ∀ h : e.ctorIdx = 2, Expr.BinOp.elim (motive_1 := fun z1 => Bool) e h (fun l o r z1 => f l o r) = true → ∃ l o r p, e = .BinOp l o r p ∧ f l o r = true) e q (fun l o r p z1 hk => ⟨l, o, r, p, rfl, hk⟩) q
  · cases h
noncomputable def onUn (e : Expr) (f : UnaryOp → Expr → Bool) : Bool := if h : e.ctorIdx = 3 then Expr.UnaryOp.elim (motive_1 := fun z1 => Bool) e h (fun o l z1 => f o l) else false
theorem onUn_inv {e : Expr} {f : UnaryOp → Expr → Bool} (h : onUn e f = true) : ∃ o l p, e = .UnaryOp o l p ∧ f o l = true := by
  unfold onUn at h
  split at h
  · rename_i q; revert h; exact Expr.UnaryOp.elim (motive_1 := fun e => ∀ h : e.ctorIdx = 3, Expr.UnaryOp.elim (motive_1 := fun z1 => Bool) e h (fun o l z1 => f o l) = true → ∃ o l p, e = .UnaryOp o l p ∧ f o l = true) e q (fun o l p z1 hk => ⟨o, l, p, rfl, hk⟩) q
  · cases h
noncomputable def onCmp (e : Expr) (f : Expr → List CmpOp → List Expr → Bool) : Bool := if h : e.ctorIdx = 15 then Expr.Compare.elim (motive_1 := fun z1 => Bool) e h (fun l os rs z1 => f l os rs) else false
theorem onCmp_inv {e : Expr} {f : Expr → List CmpOp → List Expr → Bool} (h : onCmp e f = true) : ∃ l os rs p, e = .Compare l os rs p ∧ f l os rs = true := by
  unfold onCmp at h
  split at h
  · rename_i q; revert h; exact Expr.Compare.elim (motive_1 := fun e => ∀ h : e.ctorIdx = 15, Expr.Compare.elim (motive_1 := fun z1 => Bool) e h (fun l os rs z1 => f l os rs) = true → ∃ l os rs p, e = .Compare l os rs p ∧ f l os rs = true) e q (fun l os rs p z1 hk => ⟨l, os, rs, p, rfl, hk⟩) q
  · cases h
noncomputable def onBo (e : Expr) (f : BoolOp → List Expr → Bool) : Bool := if h : e.ctorIdx = 0 then Expr.BoolOp.elim (motive_1 := fun z1 => Bool) e h (fun o es z1 => f o es) else false
theorem onBo_inv {e : Expr} {f : BoolOp → List Expr → Bool} (h : onBo e f = true) : ∃ o es p, e = .BoolOp o es p ∧ f o es = true := by
  unfold onBo at h
  split at h
  · rename_i q; revert h; exact Expr.BoolOp.elim (motive_1 := fun e => ∀ h : e.ctorIdx = 0, Expr.BoolOp.elim (motive_1 := fun z1 => Bool) e h (fun o es z1 => f o es) = true → ∃ o es p, e = .BoolOp o es p ∧ f o es = true) e q (fun o es p z1 hk => ⟨o, es, p, rfl, hk⟩) q
  · cases h
noncomputable def onIf (e : Expr) (f : Expr → Expr → Expr → Bool) : Bool := if h : e.ctorIdx = 5 then Expr.IfExp.elim (motive_1 := fun z1 => Bool) e h (fun t a b z1 => f t a b) else false
theorem onIf_inv {e : Expr} {f : Expr → Expr → Expr → Bool} (h : onIf e f = true) : ∃ t a b p, e = .IfExp t a b p ∧ f t a b = true := by
  unfold onIf at h
  split at h
  · rename_i q; revert h; exact Expr.IfExp.elim (motive_1 := fun e => ∀ h : e.ctorIdx = 5, Expr.IfExp.elim (motive_1 := fun z1 => Bool) e h (fun t a b z1 => f t a b) = true → ∃ t a b p, e = .IfExp t a b p ∧ f t a b = true) e q (fun t a b p z1 hk => ⟨t, a, b, p, rfl, hk⟩) q
  · cases h
noncomputable def onTup (e : Expr) (f : List Expr → Bool) : Bool := if h : e.ctorIdx = 25 then Expr.Tuple.elim (motive_1 := fun z1 => Bool) e h (fun es z1 z2 => f es) else false
theorem onTup_inv {e : Expr} {f : List Expr → Bool} (h : onTup e f = true) : ∃ es k p, e = .Tuple es k p ∧ f es = true := by
  unfold onTup at h
  split at h
  · rename_i q; revert h; exact Expr.Tuple.elim (motive_1 := fun e => ∀ h : e.ctorIdx = 25, Expr.Tuple.elim (motive_1 := fun z1 => Bool) e h (fun es z1 z2 => f es) = true → ∃ es k p, e = .Tuple es k p ∧ f es = true) e q (fun es k p z1 hk => ⟨es, k, p, rfl, hk⟩) q
  · cases h
noncomputable def onLs (e : Expr) (f : List Expr → Bool) : Bool := if h : e.ctorIdx = 24 then Expr.List.elim (motive_1 := fun z1 => Bool) e h (fun es z1 => f es) else false
theorem onLs_inv {e : Expr} {f : List Expr → Bool} (h : onLs e f = true) : ∃ es p, e = .List es p ∧ f es = true := by
  unfold onLs at h
  split at h
  · rename_i q; revert h; exact Expr.List.elim (motive_1 := fun e => ∀ h : e.ctorIdx = 24, Expr.List.elim (motive_1 := fun z1 => Bool) e h (fun es z1 => f es) = true → ∃ es p, e = .List es p ∧ f es = true) e q (fun es p z1 hk => ⟨es, p, rfl, hk⟩) q
  · cases h
noncomputable def onDict (e : Expr) (f : List (Option Expr) → List Expr → Bool) : Bool := if h : e.ctorIdx = 6 then Expr.Dict.elim (motive_1 := fun z1 => Bool) e h (fun ks vs z1 => f ks vs) else false
theorem onDict_inv {e : Expr} {f : List (Option Expr) → List Expr → Bool} (h : onDict e f = true) : ∃ ks vs p, e = .Dict ks vs p ∧ f ks vs = true := by
  unfold onDict at h
  split at h
  · rename_i q; revert h; exact Expr.Dict.elim (motive_1 := fun e => ∀ h : e.ctorIdx = 6, Expr.Dict.elim (motive_1 := fun z1 => Bool) e h (fun ks vs z1 => f ks vs) = true → ∃ ks vs p, e = .Dict ks vs p ∧ f ks vs = true) e q (fun ks vs p z1 hk => ⟨ks, vs, p, rfl, hk⟩) q
  · cases h
noncomputable def onCall (e : Expr) (f : Expr → List Expr → List Keyword → Pos → Bool) : Bool := if h : e.ctorIdx = 16 then Expr.Call.elim (motive_1 := fun z1 => Bool) e h (fun g es ks p => f g es ks p) else false
theorem onCall_inv {e : Expr} {f : Expr → List Expr → List Keyword → Pos → Bool} (h : onCall e f = true) : ∃ g es ks p, e = .Call g es ks p ∧ f g es ks p = true := by
  unfold onCall at h
  split at h
  · rename_i q; revert h; exact Expr.Call.elim (motive_1 := fun e => ∀ h : e.ctorIdx = 16, Expr.Call.elim (motive_1 := fun z1 => Bool) e h (fun g es ks p => f g es ks p) = true → ∃ g es ks p, e = .Call g es ks p ∧ f g es ks p = true) e q (fun g es ks p z1 hk => ⟨g, es, ks, p, rfl, hk⟩) q
  · cases h
noncomputable def onAttr (e : Expr) (f : Expr → Str → Pos → Bool) : Bool := if h : e.ctorIdx = 20 then Expr.Attribute.elim (motive_1 := fun z1 => Bool) e h (fun o y p => f o y p) else false
theorem onAttr_inv {e : Expr} {f : Expr → Str → Pos → Bool} (h : onAttr e f = true) : ∃ o y p, e = .Attribute o y p ∧ f o y p = true := by
  unfold onAttr at h
  split at h
  · rename_i q; revert h; exact Expr.Attribute.elim (motive_1 := fun e => ∀ h : e.ctorIdx = 20, Expr.Attribute.elim (motive_1 := fun z1 => Bool) e h (fun o y p => f o y p) = true → ∃ o y p, e = .Attribute o y p ∧ f o y p = true) e q (fun o y p z1 hk => ⟨o, y, p, rfl, hk⟩) q
  · cases h
noncomputable def onSub (e : Expr) (f : Expr → Expr → Bool) : Bool := if h : e.ctorIdx = 21 then Expr.Subscript.elim (motive_1 := fun z1 => Bool) e h (fun v i z1 => f v i) else false
theorem onSub_inv {e : Expr} {f : Expr → Expr → Bool} (h : onSub e f = true) : ∃ v i p, e = .Subscript v i p ∧ f v i = true := by
  unfold onSub at h
  split at h
  · rename_i q; revert h; exact Expr.Subscript.elim (motive_1 := fun e => ∀ h : e.ctorIdx = 21, Expr.Subscript.elim (motive_1 := fun z1 => Bool) e h (fun v i z1 => f v i) = true → ∃ v i p, e = .Subscript v i p ∧ f v i = true) e q (fun v i p z1 hk => ⟨v, i, p, rfl, hk⟩) q
  · cases h
noncomputable def onSl (e : Expr) (f : Option Expr → Option Expr → Option Expr → Bool) : Bool := if h : e.ctorIdx = 26 then Expr.Slice.elim (motive_1 := fun z1 => Bool) e h (fun lo hi st z1 => f lo hi st) else false
theorem onSl_inv {e : Expr} {f : Option Expr → Option Expr → Option Expr → Bool} (h : onSl e f = true) : ∃ lo hi st p, e = .Slice lo hi st p ∧ f lo hi st = true := by
  unfold onSl at h
  split at h
  · rename_i q; revert h; exact Expr.Slice.elim (motive_1 := fun e => ∀ h : e.ctorIdx = 26, Expr.Slice.elim (motive_1 := fun z1 => Bool) e h (fun lo hi st z1 => f lo hi st) = true → ∃ lo hi st p, e = .Slice lo hi st p ∧ f lo hi st = true) e q (fun lo hi st p z1 hk => ⟨lo, hi, st, p, rfl, hk⟩) q
  · cases h
noncomputable def onComp (e : Expr) (f : Expr → List Comprehension → Scope → Pos → Bool) : Bool := if h : e.ctorIdx = 8 then Expr.ListComp.elim (motive_1 := fun z1 => Bool) e h (fun elt gs scope p => f elt gs scope p) else false
theorem onComp_inv {e : Expr} {f : Expr → List Comprehension → Scope → Pos → Bool} (h : onComp e f = true) : ∃ elt gs scope p, e = .ListComp elt gs scope p ∧ f elt gs scope p = true := by
  unfold onComp at h
  split at h
  · rename_i q; revert h; exact Expr.ListComp.elim (motive_1 := fun e => ∀ h : e.ctorIdx = 8, Expr.ListComp.elim (motive_1 := fun z1 => Bool) e h (fun elt gs scope p => f elt gs scope p) = true → ∃ elt gs scope p, e = .ListComp elt gs scope p ∧ f elt gs scope p = true) e q (fun elt gs scope p z1 hk => ⟨elt, gs, scope, p, rfl, hk⟩) q
  · cases h
noncomputable def onRet (e : Stmt) (f : Option Expr → Bool) : Bool := if h : e.ctorIdx = 3 then Stmt.Return.elim (motive_2 := fun z1 => Bool) e h (fun o z1 => f o) else false
theorem onRet_inv {e : Stmt} {f : Option Expr → Bool} (h : onRet e f = true) : ∃ o p, e = .Return o p ∧ f o = true := by
  unfold onRet at h
  split at h
  · rename_i q; revert h; exact Stmt.Return.elim (motive_2 := fun e => ∀ h : e.ctorIdx = 3, Stmt.Return.elim (motive_2 := fun z1 => Bool) e h (fun o z1 => f o) = true → ∃ o p, e = .Return o p ∧ f o = true) e q (fun o p z1 hk => ⟨o, p, rfl, hk⟩) q
  · cases h
noncomputable def onAsgn (e : Stmt) (f : List Expr → Expr → Bool) : Bool := if h : e.ctorIdx = 5 then Stmt.Assign.elim (motive_2 := fun z1 => Bool) e h (fun ts v z1 => f ts v) else false
theorem onAsgn_inv {e : Stmt} {f : List Expr → Expr → Bool} (h : onAsgn e f = true) : ∃ ts v p, e = .Assign ts v p ∧ f ts v = true := by
  unfold onAsgn at h
  split at h
  · rename_i q; revert h; exact Stmt.Assign.elim (motive_2 := fun e => ∀ h : e.ctorIdx = 5, Stmt.Assign.elim (motive_2 := fun z1 => Bool) e h (fun ts v z1 => f ts v) = true → ∃ ts v p, e = .Assign ts v p ∧ f ts v = true) e q (fun ts v p z1 hk => ⟨ts, v, p, rfl, hk⟩) q
  · cases h
noncomputable def onFor (e : Stmt) (f : Expr → Expr → List Stmt → List Stmt → Bool) : Bool := if h : e.ctorIdx = 9 then Stmt.For.elim (motive_2 := fun z1 => Bool) e h (fun t it b o z1 => f t it b o) else false
theorem onFor_inv {e : Stmt} {f : Expr → Expr → List Stmt → List Stmt → Bool} (h : onFor e f = true) : ∃ t it b o p, e = .For t it b o p ∧ f t it b o = true := by
  unfold onFor at h
  split at h
  · rename_i q; revert h; exact Stmt.For.elim (motive_2 := fun e => ∀ h : e.ctorIdx = 9, Stmt.For.elim (motive_2 := fun z1 => Bool) e h (fun t it b o z1 => f t it b o) = true → ∃ t it b o p, e = .For t it b o p ∧ f t it b o = true) e q (fun t it b o p z1 hk => ⟨t, it, b, o, p, rfl, hk⟩) q
  · cases h
noncomputable def onIte (e : Stmt) (f : Expr → List Stmt → List Stmt → Bool) : Bool := if h : e.ctorIdx = 12 then Stmt.If.elim (motive_2 := fun z1 => Bool) e h (fun t a b z1 => f t a b) else false
theorem onIte_inv {e : Stmt} {f : Expr → List Stmt → List Stmt → Bool} (h : onIte e f = true) : ∃ t a b p, e = .If t a b p ∧ f t a b = true := by
  unfold onIte at h
  split at h
  · rename_i q; revert h; exact Stmt.If.elim (motive_2 := fun e => ∀ h : e.ctorIdx = 12, Stmt.If.elim (motive_2 := fun z1 => Bool) e h (fun t a b z1 => f t a b) = true → ∃ t a b p, e = .If t a b p ∧ f t a b = true) e q (fun t a b p z1 hk => ⟨t, a, b, p, rfl, hk⟩) q
  · cases h
noncomputable def onExpr (e : Stmt) (f : Expr → Bool) : Bool := if h : e.ctorIdx = 24 then Stmt.Expr.elim (motive_2 := fun z1 => Bool) e h (fun v z1 => f v) else false
theorem onExpr_inv {e : Stmt} {f : Expr → Bool} (h : onExpr e f = true) : ∃ v p, e = .Expr v p ∧ f v = true := by
  unfold onExpr at h
  split at h
  · rename_i q; revert h; exact Stmt.Expr.elim (motive_2 := fun e => ∀ h : e.ctorIdx = 24, Stmt.Expr.elim (motive_2 := fun z1 => Bool) e h (fun v z1 => f v) = true → ∃ v p, e = .Expr v p ∧ f v = true) e q (fun v p z1 hk => ⟨v, p, rfl, hk⟩) q
  · cases h
noncomputable def onRaise (e : Stmt) (f : Option Expr → Option Expr → Bool) : Bool := if h : e.ctorIdx = 16 then Stmt.Raise.elim (motive_2 := fun z1 => Bool) e h (fun x c z1 => f x c) else false
theorem onRaise_inv {e : Stmt} {f : Option Expr → Option Expr → Bool} (h : onRaise e f = true) : ∃ x c p, e = .Raise x c p ∧ f x c = true := by
  unfold onRaise at h
  split at h
  · rename_i q; revert h; exact Stmt.Raise.elim (motive_2 := fun e => ∀ h : e.ctorIdx = 16, Stmt.Raise.elim (motive_2 := fun z1 => Bool) e h (fun x c z1 => f x c) = true → ∃ x c p, e = .Raise x c p ∧ f x c = true) e q (fun x c p z1 hk => ⟨x, c, p, rfl, hk⟩) q
  · cases h
noncomputable def onTry (e : Stmt) (f : List Stmt → List ExceptHandler → List Stmt → List Stmt → Bool) : Bool := if h : e.ctorIdx = 17 then Stmt.Try.elim (motive_2 := fun z1 => Bool) e h (fun b hs o z z1 => f b hs o z) else false
theorem onTry_inv {e : Stmt} {f : List Stmt → List ExceptHandler → List Stmt → List Stmt → Bool} (h : onTry e f = true) : ∃ b hs o z p, e = .Try b hs o z p ∧ f b hs o z = true := by
  unfold onTry at h
  split at h
  · rename_i q; revert h; exact Stmt.Try.elim (motive_2 := fun e => ∀ h : e.ctorIdx = 17, Stmt.Try.elim (motive_2 := fun z1 => Bool) e h (fun b hs o z z1 => f b hs o z) = true → ∃ b hs o z p, e = .Try b hs o z p ∧ f b hs o z = true) e q (fun b hs o z p z1 hk => ⟨b, hs, o, z, p, rfl, hk⟩) q
  · cases h
noncomputable def onPass (e : Stmt) : Bool := e.ctorIdx == 25
set_option tactic.hygienic false
theorem onPass_inv {e : Stmt} (h : onPass e = true) : ∃ p, e = .Pass p := by
  exact Stmt.Pass.elim (motive_2 := fun e => ∃ p, e = .Pass p) e (by simpa [onPass] using h) (fun p => ⟨p, rfl⟩)
noncomputable def onBrk (e : Stmt) : Bool := e.ctorIdx == 26
theorem onBrk_inv {e : Stmt} (h : onBrk e = true) : ∃ p, e = .Break p := by
  exact Stmt.Break.elim (motive_2 := fun e => ∃ p, e = .Break p) e (by simpa [onBrk] using h) (fun p => ⟨p, rfl⟩)
noncomputable def onCont (e : Stmt) : Bool := e.ctorIdx == 27
theorem onCont_inv {e : Stmt} (h : onCont e = true) : ∃ p, e = .Continue p := by
  exact Stmt.Continue.elim (motive_2 := fun e => ∃ p, e = .Continue p) e (by simpa [onCont] using h) (fun p => ⟨p, rfl⟩)
noncomputable def on1 {α : Type} (l : List α) (f : α → Bool) : Bool := match l with
  | [a] => f a
  | _ => false
theorem on1_inv {α : Type} {l : List α} {f : α → Bool} (h : on1 l f = true) : ∃ a, l = [a] ∧ f a = true := by
  match l, h with
  | [a], h => exact ⟨a, rfl, h⟩
noncomputable def on2 {α : Type} (l : List α) (f : α → α → Bool) : Bool := match l with
  | [a, b] => f a b
  | _ => false
theorem on2_inv {α : Type} {l : List α} {f : α → α → Bool} (h : on2 l f = true) : ∃ a b, l = [a, b] ∧ f a b = true := by
  match l, h with
  | [a, b], h => exact ⟨a, b, rfl, h⟩
noncomputable def on0 {α : Type} (l : List α) : Bool := l.isEmpty
theorem on0_inv {α : Type} {l : List α} (h : on0 l = true) : l = [] := List.isEmpty_iff.mp h
noncomputable def onSome {α : Type} (o : Option α) (f : α → Bool) : Bool := match o with
  | some a => f a
  | none => false
theorem onSome_inv {α : Type} {o : Option α} {f : α → Bool} (h : onSome o f = true) : ∃ a, o = some a ∧ f a = true := by
  match o, h with
  | some a, h => exact ⟨a, rfl, h⟩
noncomputable def onCons {α : Type} (l : List α) (f : α → List α → Bool) : Bool := match l with
  | a :: r => f a r
  | [] => false
theorem onCons_inv {α : Type} {l : List α} {f : α → List α → Bool} (h : onCons l f = true) : ∃ a r, l = a :: r ∧ f a r = true := by
  match l, h with
  | a :: r, h => exact ⟨a, r, rfl, h⟩
inductive Nd where
  | e (x : Expr) | q (x : Expr) | t (x : Expr)
  | l (x : List Expr) | ql (x : List Expr) | tl (x : List Expr)
  | o (x : Option Expr)
  | s (x : Stmt) | b (x : List Stmt)
  | hl (x : List ExceptHandler) | hd (x : ExceptHandler)
noncomputable def onHd (h : ExceptHandler) (f : Option Expr → Option Str → List Stmt → Bool) : Bool := match h with
  | .ExceptHandler t n b _ => f t n b
theorem onHd_inv {h : ExceptHandler} {f : Option Expr → Option Str → List Stmt → Bool} (k : onHd h f = true) : ∃ t n b p, h = .ExceptHandler t n b p ∧ f t n b = true := by
  cases h with
  | ExceptHandler t n b p => exact ⟨t, n, b, p, rfl, k⟩
noncomputable def ndE (n : Nd) (f : Expr → Bool) : Bool := match n with
  | .e x => f x
  | .o (some x) => f x
  | _ => false
noncomputable def ndEQ (n : Nd) (f : Expr → Bool) : Bool := match n with
  | .e x | .q x => f x
  | .o (some x) => f x
  | _ => false
noncomputable def ndS (n : Nd) (f : Stmt → Bool) : Bool := match n with
  | .s x => f x
  | _ => false
noncomputable def isCst (e : Expr) (k : PySem.Const) : Bool := onCst e fun k' => k' == k
noncomputable def isCall (e : Expr) (f : Str → List Expr → Bool) : Bool := onCall e fun g es ks z1 => on0 ks && onNm g fun x => f x es
noncomputable def isMeth (e : Expr) (x : Str) (f : Expr → List Expr → Bool) : Bool := onCall e fun g es ks p => on0 ks && onAttr g fun o y ap => y == x && plainBase o && ap.endLine == p.line && es.all noStar && decide (es.length < 30) && f o es
noncomputable def onVar (t : T) (f : Nat → Bool) : Bool := if h : t.ctorIdx = T.ctorIdx (.var 0) then T.var.elim (motive := fun z1 => Bool) t h f else false
set_option tactic.hygienic true
theorem onVar_inv {t : T} {f : Nat → Bool} (h : onVar t f = true) : ∃ i, t = .var i ∧ f i = true := by
  unfold onVar at h
  split at h
  · rename_i q; revert h; exact T.var.elim (motive := fun t => ∀ h : t.ctorIdx = T.ctorIdx (.var 0), T.var.elim (motive := fun z1 => Bool) t h f = true → ∃ i, t = .var i ∧ f i = true) t q (fun i z1 hk => ⟨i, rfl, hk⟩) q
  · cases h
noncomputable def isComp (e : Expr) (sc : Scope) (t : T) (N : List Str) (f : Expr → Expr → List Expr → Scope → Bool) : Bool :=
  onComp e fun elt gs scope z1 => on1 gs fun g => g.is_async == 0 && onNmp g.target fun x z1 => onVar t fun i => N[i]? == some x && compOk scope sc x && noSet g.iter && f elt g.iter g.ifs (relabelS scope sc)
noncomputable def lc (hc : Bool) (ifs : List Expr) (f : Expr → Bool) : Bool := match hc with
  | false => on0 ifs
  | true => on1 ifs f
noncomputable def isAsgnC (s : Stmt) (sc : Scope) (x : Str) (f : Expr → Bool) : Bool := onAsgn s fun ts e => on1 ts fun t => onNmp t fun y px => y == x && isLoc sc x &&
  (onComp e fun z1 z2 scope pos => !(sc.names.lookup x == some .local) || (px.line == pos.line && !(scope.names.any fun (n, k) => n == x && (k == .local || k == .cell)))) && f e
noncomputable def nmIs (N : List Str) (sc : Scope) (v : Option Nat) (nm : Option Str) : Bool := match v with
  | none => nm.isNone
  | some i => onSome nm fun y => N[i]? == some y && sc.names.lookup y == some .local
noncomputable def nmsAre (sc : Scope) : List Str → List Expr → Bool
  | [], es => on0 es
  | x :: xs, es => onCons es fun e r => onNm e (fun y => y == x && gi sc x) && nmsAre sc xs r
noncomputable def clsIs (sc : Scope) (tp : Bool) (xs : List Str) (z : Expr) : Bool := match tp with
  | true => onTup z fun es => decide (es.length ≤ 1000) && nmsAre sc xs es
  | false => nmsAre sc xs [z]
section
variable (G : Glob) (N : List Str)
noncomputable def chk : T → Scope → Nd → Bool
  | .nil, sc, n => (match n with
    | .l x | .ql x | .tl x => on0 x
    | .b x => on0 x
    | .hl x => on0 x
    | .o x => x.isNone
    | _ => false)
  | .cons a r, sc, n => (match n with
    | .l x => onCons x fun e es => noStar e && es.all noStar && chk a sc (.e e) && chk r sc (.l es)
    | .ql x => onCons x fun e es => chk a sc (.q e) && chk r sc (.ql es)
    | .tl x => onCons x fun e es => noStar e && es.all noStar && chk a sc (.t e) && chk r sc (.tl es)
    | .b x => onCons x fun s ss => chk a sc (.s s) && chk r sc (.b ss)
    | .hl x => onCons x fun h hs => chk a sc (.hd h) && chk r sc (.hl hs)
    | _ => false)
  | .int i, sc, n => ndE n fun e => isCst e (.int i) || onNm e (fun x => gi sc x && G.gInts.lookup x == some i)
  | .str y, sc, n => ndE n fun e => isCst e (.str y) || onNm e (fun x => gi sc x && G.gStrs.lookup x == some y)
  | .bool b, sc, n => ndE n fun e => isCst e (.bool b)
  | .none, sc, n => ndE n fun e => isCst e .none
  | .var i, sc, n => (match n with
    | .t e => onNm e (fun x => isLoc sc x && N[i]? == some x)
    | n => ndEQ n fun e => onNm e (fun x => isVar sc x && N[i]? == some x))
  | .bin op a b, sc, n => ndE n fun e => onBin e (fun l o r => o == op && chk a sc (.e l) && chk b sc (.e r))
  | .un op a, sc, n => (match n with
    | .q e => onUn e (fun o l => o == op && op == .Not && chk a sc (.q l))
    | n => ndE n fun e => onUn e (fun o l => o == op && chk a sc (.e l)))
  | .cmp op a b, sc, n => ndEQ n fun e => onCmp e fun l os rs => os == [op] && on1 rs fun r => !behindInMarks op r && chk a sc (.e l) && chk b sc (.e r)
  | .cmp2 a o₁ b o₂ b', sc, n => ndEQ n fun e => onCmp e fun l os rs => os == [o₁, o₂] && on2 rs fun r r' => !behindInMarks o₂ r' && chk a sc (.e l) && chk b sc (.e r) && chk b' sc (.e r')
  | .bo op es, sc, n => (match n with
    | .q e => onBo e (fun o xs => o == op && chk es sc (.ql xs))
    | n => ndE n fun e => onBo e (fun o xs => o == op && chk es sc (.l xs)))
  | .ife t a b, sc, n => ndE n fun e => onIf e (fun x y z => chk t sc (.q x) && chk a sc (.e y) && chk b sc (.e z))
  | .tup es, sc, n => (match n with
    | .t e => onTup e (fun xs => chk es sc (.tl xs))
    | n => ndE n fun e => onTup e (fun xs => decide (xs.length ≤ 1000) && chk es sc (.l xs)))
  | .lst _ es, sc, n => ndE n fun e => onLs e (fun xs => decide (xs.length ≤ 1000) && chk es sc (.l xs))
  | .call f es, sc, n => ndEQ n fun e => isCall e (fun x xs => x == f && gi sc f && G.gDefs.contains f && chk es sc (.l xs))
  | .blt f es, sc, n => ndEQ n fun e => isCall e (fun x xs => x == f.name && gi sc f.name && true && chk es sc (.l xs))
  | .isi a f, sc, n => ndEQ n fun e => isCall e (fun x xs => x == Bf.isinstance.name && gi sc Bf.isinstance.name && on2 xs fun y z => noStar y && onNm z (fun x => x == f.name && gi sc f.name) && chk a sc (.e y))
  | .meth o x es, sc, n => ndEQ n fun e => isMeth e x (fun p xs => chk o sc (.e p) && chk es sc (.l xs))
  | .item a b, sc, n => (match n with
    | .t e => onSub e (fun v i => noSlice i && chk a sc (.e v) && chk b sc (.e i))
    | n => ndEQ n fun e => onSub e (fun v i => noSlice i && chk a sc (.e v) && chk b sc (.e i)))
  | .slice a lo hi, sc, n => ndE n fun e => onSub e (fun v s => onSl s fun l h st => st.isNone && chk a sc (.e v) && chk lo sc (.o l) && chk hi sc (.o h))
  | .comp _ hc elt t it cond, sc, n => ndE n fun e => isComp e sc t N (fun e it' ifs sc' => chk it sc (.e it') && chk elt sc' (.e e) && lc hc ifs (fun q => chk cond sc' (.q q)))
  | .cut q, sc, n => (match n with
    | .q e => chk q sc (.q e)
    | .e e => chk q sc (.e e)
    | _ => false)
  | .ret e, sc, n => ndS n fun s => onRet s fun o => onSome o fun x => chk e sc (.e x)
  | .ret0, sc, n => ndS n fun s => onRet s fun o => o.isNone
  | .pass, sc, n => ndS n onPass
  | .brk, sc, n => ndS n onBrk
  | .cont, sc, n => ndS n onCont
  | .expr e, sc, n => ndS n fun s => onExpr s (fun x => noComp x && chk e sc (.e x))
  | .asgn t e, sc, n => ndS n fun s => onAsgn s (fun ts y => on1 ts fun x => noComp y && noStar x && chk t sc (.t x) && chk e sc (.e y))
  | .asgnC i _ hc elt t it cond, sc, n => ndS n fun s => onSome N[i]? fun x => isAsgnC s sc x (fun e => isComp e sc t N (fun e it' ifs sc' => chk it sc (.e it') && chk elt sc' (.e e) && lc hc ifs (fun q => chk cond sc' (.q q))))
  | .ite t a b, sc, n => ndS n fun s => onIte s (fun x y z => chk t sc (.q x) && chk a sc (.b y) && chk b sc (.b z))
  | .for_ t it body, sc, n => ndS n fun s => onFor s (fun x y z o => on0 o && noSet y && chk t sc (.t x) && chk it sc (.e y) && chk body sc (.b z))
  | .dict _ _, sc, n => ndE n fun e => onDict e (fun ks vs => on0 ks && on0 vs)
  | .raise x es, sc, n => ndS n fun s => onRaise s fun o c => c.isNone && onSome o fun e => isCall e (fun y xs => y == x && gi sc x && decide (xs.length ≤ 1000) && chk es sc (.l xs))
  | .try_ body hs, sc, n => ndS n fun s => onTry s fun b h o z => on0 o && on0 z && chk body sc (.b b) && chk hs sc (.hl h)
  | .handler x v body, sc, n => (match n with
    | .hd h => onHd h fun t nm b => onSome t (fun t => onNm t fun y => y == x && gi sc x) && nmIs N sc v nm && chk body sc (.b b)
    | _ => false)
  | .isx a tp xs, sc, n => ndEQ n fun e => isCall e (fun x ys => x == Bf.isinstance.name && gi sc Bf.isinstance.name && on2 ys fun y z => noStar y && noStar z && clsIs sc tp xs z && chk a sc (.e y))
  | _, _, _ => false
end
end Mine
end
section
namespace Mine
open PySem
variable {c : Cx} {d : Nat} {sc : Scope} {σ : Led} {P P' : V → Led → Prop} {X : XP} {G : Glob} {N : List Str} {ρ : Rho}
noncomputable def Nm (N : List Str) (ρ : Rho) : AEnv := ρ.filterMap fun p => N[p.1]?.map (·, p.2)
structure NmOk (N : List Str) : Prop where
  nd : N.Nodup
  dot : (".0" : Str) ∉ N
theorem nm_cons {i : Nat} {x : Str} {v : V} (hx : N[i]? = some x) : Nm N ((i, v) :: ρ) = (x, v) :: Nm N ρ := by
  unfold Nm; rw [List.filterMap_cons, hx]; rfl
theorem nm_lookup (ok : NmOk N) {i : Nat} {x : Str} (hx : N[i]? = some x) : ∀ ρ : Rho, (Nm N ρ).lookup x = ρ.lookup i
  | [] => rfl
  | (j, w) :: ρ => by
    have ih := nm_lookup ok hx ρ
    rw [List.lookup_cons]
    cases hj : N[j]? with
    | none =>
      have hne : (i == j) = false := by
        rw [beq_eq_false_iff_ne]; rintro rfl; rw [hx] at hj; cases hj
      rw [hne]
      unfold Nm at ih ⊢
      rw [List.filterMap_cons, hj]
      exact ih
    | some y =>
      rw [nm_cons hj, List.lookup_cons]
      by_cases e : i = j
      · subst e
        rw [hx] at hj; cases hj
        rw [beq_self_eq_true, beq_self_eq_true]
      · have hxy : (x == y) = false := by
          rw [beq_eq_false_iff_ne]; rintro rfl
          obtain ⟨hi, e1⟩ := List.getElem?_eq_some_iff.mp hx
          obtain ⟨hj', e2⟩ := List.getElem?_eq_some_iff.mp hj
          exact e ((List.getElem_inj ok.nd).mp (e1.trans e2.symm))
        have hij : (i == j) = false := by simpa using e
        rw [hxy, hij]; exact ih
theorem nm_mem {x : Str} {v : V} : ∀ {ρ : Rho}, (Nm N ρ).lookup x = some v → ∃ i : Nat, N[i]? = some x
  | [], h => by cases h
  | (j, w) :: ρ, h => by
    cases hj : N[j]? with
    | none => unfold Nm at h; rw [List.filterMap_cons, hj] at h; exact nm_mem (ρ := ρ) h
    | some y =>
      rw [nm_cons hj, List.lookup_cons] at h
      cases e : x == y with
      | true => rw [eq_of_beq e]; exact ⟨j, hj⟩
      | false => rw [e] at h; exact nm_mem (ρ := ρ) h
theorem nm_dot (ok : NmOk N) : (Nm N ρ).lookup (".0" : Str) = none := by
  cases h : (Nm N ρ).lookup (".0" : Str) with
  | none => rfl
  | some v => obtain ⟨i, hi⟩ := nm_mem h; exact absurd (List.mem_of_getElem? hi) ok.dot
noncomputable def RSub (ρ' ρ : Rho) : Prop := ∀ i v, ρ'.lookup i = some v → ρ.lookup i = some v
theorem nm_sub (ok : NmOk N) {ρ' : Rho} (h : RSub ρ' ρ) : Sub (Nm N ρ') (Nm N ρ) := fun x v e => by
  obtain ⟨i, hi⟩ := nm_mem e
  rw [nm_lookup ok hi] at e ⊢
  exact h i v e
theorem Sub.refl' {m : AEnv} : Sub m m := fun z1 z2 h => h
noncomputable def After (N : List Str) (K : Rho → Led → Prop) (m : AEnv) (σ : Led) : Prop := ∃ ρ, Sub (Nm N ρ) m ∧ K ρ σ
noncomputable def AfterF (N : List Str) (K : Fl → Rho → Led → Prop) (f : Fl) (m : AEnv) (σ : Led) : Prop := ∃ ρ, Sub (Nm N ρ) m ∧ K f ρ σ
noncomputable def JE (c : Cx) (d : Nat) (X : XP) (t : T) (ρ : Rho) (σ : Led) (P : V → Led → Prop) : Prop := ∀ G N sc e, GlobOk c.k G → NmOk N → chk G N t sc (.e e) = true → WE c d sc e (Nm N ρ) σ P X
noncomputable def JT (c : Cx) (d : Nat) (X : XP) (t : T) (ρ : Rho) (σ : Led) (P : Bool → Led → Prop) : Prop := ∀ G N sc e, GlobOk c.k G → NmOk N → chk G N t sc (.q e) = true → WT c d sc e (Nm N ρ) σ P X
noncomputable def JTs (c : Cx) (d : Nat) (X : XP) (op : BoolOp) (t : T) (ρ : Rho) (σ : Led) (P : Bool → Led → Prop) : Prop := ∀ G N sc es, GlobOk c.k G → NmOk N → chk G N t sc (.ql es) = true → WTs c d sc op es (Nm N ρ) σ P X
noncomputable def JBo (c : Cx) (d : Nat) (X : XP) (op : BoolOp) (t : T) (ρ : Rho) (σ : Led) (P : V → Led → Prop) : Prop := ∀ G N sc es, GlobOk c.k G → NmOk N → chk G N t sc (.l es) = true → WEb c d sc op es (Nm N ρ) σ P X
noncomputable def JL (c : Cx) (d : Nat) (X : XP) (t : T) (ρ : Rho) (σ : Led) (P : List V → Led → Prop) : Prop := ∀ G N sc es, GlobOk c.k G → NmOk N → chk G N t sc (.l es) = true → WEs c d sc es (Nm N ρ) σ P X
noncomputable def JO (c : Cx) (d : Nat) (X : XP) (t : T) (ρ : Rho) (σ : Led) (P : Option Int → Led → Prop) : Prop := ∀ G N sc o, GlobOk c.k G → NmOk N → chk G N t sc (.o o) = true → WEo c d sc o (Nm N ρ) σ P X
noncomputable def JA (c : Cx) (d : Nat) (X : XP) (t : T) (v : V) (ρ : Rho) (σ : Led) (K : Rho → Led → Prop) : Prop := ∀ G N sc e, GlobOk c.k G → NmOk N → chk G N t sc (.t e) = true → WA c d sc e v (Nm N ρ) σ (After N K) X
noncomputable def JAs (c : Cx) (d : Nat) (X : XP) (t : T) (vs : List V) (ρ : Rho) (σ : Led) (K : Rho → Led → Prop) : Prop := ∀ G N sc es, GlobOk c.k G → NmOk N → chk G N t sc (.tl es) = true → WAs c d sc es vs (Nm N ρ) σ (After N K) X
noncomputable def JS (c : Cx) (d : Nat) (X : XP) (t : T) (ρ : Rho) (σ : Led) (K : Fl → Rho → Led → Prop) : Prop := ∀ G N sc s, GlobOk c.k G → NmOk N → chk G N t sc (.s s) = true → WS c d sc s (Nm N ρ) σ (AfterF N K) X
noncomputable def JB (c : Cx) (d : Nat) (X : XP) (t : T) (ρ : Rho) (σ : Led) (K : Fl → Rho → Led → Prop) : Prop := ∀ G N sc ss, GlobOk c.k G → NmOk N → chk G N t sc (.b ss) = true → WSs c d sc ss (Nm N ρ) σ (AfterF N K) X
theorem and_tt {a b : Bool} (h : (a && b) = true) : a = true ∧ b = true := Bool.and_eq_true_iff.mp h
theorem star_cons {e : Expr} (h : noStar e = true) (es : List Expr) (env : Env) : starEach (e :: es) env = (false, eval e env) :: starEach es env := by
  cases e with
  | Starred => cases h
  | _ => rfl
theorem star_all : ∀ {es : List Expr}, es.all noStar = true → ∀ env, (starEach es env).any (·.1) = false
  | [], _, _ => rfl
  | e :: es, h, env => by
    obtain ⟨h1, h2⟩ := and_tt h
    rw [star_cons h1, List.any_cons, star_all h2 env]; rfl
theorem asg_cons {e : Expr} (h : noStar e = true) (es : List Expr) (env : Env) : assignEach (e :: es) env = (false, assign e env) :: assignEach es env := by
  cases e with
  | Starred => cases h
  | _ => rfl
theorem asg_all : ∀ {es : List Expr}, es.all noStar = true → ∀ env, (assignEach es env).findIdx? (·.1) = none ∧ (assignEach es env).length = es.length
  | [], _, _ => ⟨rfl, rfl⟩
  | e :: es, h, env => by
    obtain ⟨h1, h2⟩ := and_tt h
    obtain ⟨i1, i2⟩ := asg_all h2 env
    rw [asg_cons h1]
    exact ⟨by rw [List.findIdx?_cons]; simp [i1], by simp [i2]⟩
theorem fold_no {e : Expr} (h : noSet e = true) (env : Env) (x : Value) : foldedSetIterable e env x = pure x := by
  cases e with
  | Set => cases h
  | _ => rfl
theorem index_no {e : Expr} (h : noSlice e = true) (o i : Value) : subscripted e false o i = operate [o, i] (getItem o i) := by
  cases e with
  | Slice => cases h
  | _ => rfl
theorem swaps_no {e : Expr} (h : noComp e = true) (t : Option Expr) (line : Nat) (env : Env) : swapsWith e t line env = pure false := by
  cases e with
  | ListComp => cases h
  | SetComp => cases h
  | DictComp => cases h
  | _ => rfl
theorem stores_nm {x : Str} {p : Pos} {e : Expr} (env : Env) : swappedStores [.Name x p] e env = pure none := rfl
theorem stores_sub {o i : Expr} {p : Pos} {e : Expr} (env : Env) : swappedStores [.Subscript o i p] e env = pure none := rfl
theorem stores_tup {ts : List Expr} {k : Nat} {p q : Pos} {o i : Expr} (env : Env) : swappedStores [.Tuple ts k p] (.Subscript o i q) env = pure none := rfl
end Mine
end
section
namespace Mine
open PySem
variable {c : Cx} {d : Nat} {sc : Scope} {σ : Led} {P P' : V → Led → Prop} {X : XP} {G : Glob} {N : List Str} {ρ : Rho}
theorem JE.mono {t : T} (h : JE c d X t ρ σ P) (k : ∀ v σ', P v σ' → P' v σ') : JE c d X t ρ σ P' := fun G N sc e hG hN hc => (h G N sc e hG hN hc).mono k
theorem WEs.mono {es : List Expr} {m : AEnv} {P P' : List V → Led → Prop} (h : WEs c d sc es m σ P X) (k : ∀ v σ', P v σ' → P' v σ') : WEs c d sc es m σ P' X := fun env A s E pos r =>
  ⟨(h env A s E pos r).1, wpAny_mono (h env A s E pos r).2 (fun _ _ ⟨vs, σ', ⟨q1, q2⟩, w⟩ => ⟨vs, σ', ⟨q1, k _ _ q2⟩, w⟩) fun z1 z2 x => x⟩
theorem WEo.mono {o : Option Expr} {m : AEnv} {P P' : Option Int → Led → Prop} (h : WEo c d sc o m σ P X) (k : ∀ v σ', P v σ' → P' v σ') : WEo c d sc o m σ P' X := fun env A s E r =>
  wpAny_mono (h env A s E r) (fun _ _ ⟨o, σ', q1, q2, w⟩ => ⟨o, σ', q1, k _ _ q2, w⟩) fun z1 z2 x => x
theorem WS.mono {st : Stmt} {m : AEnv} {K K' : Fl → AEnv → Led → Prop} (h : WS c d sc st m σ K X) (k : ∀ f m' σ', K f m' σ' → K' f m' σ') : WS c d sc st m σ K' X := fun env A s E r =>
  wpAny_mono (h env A s E r) (fun _ _ ⟨fl, m', σ', q1, w⟩ => ⟨fl, m', σ', k _ _ _ q1, w⟩) fun z1 z2 x => x
theorem WAs_sub {ts : List Expr} {vs : List V} {m m' : AEnv} {K : AEnv → Led → Prop} (k : Sub m' m) (h : WAs c d sc ts vs m' σ K X) : WAs c d sc ts vs m σ K X := fun env A s E cvs r rv =>
  h env A s E cvs ⟨r.sc, r.ok, r.fr, r.a, r.st, r.er.sub k, r.e⟩ rv
theorem JE_int {i : Int} (h : P (.int i) σ) : JE c d X (.int i) ρ σ P := fun G N sc e hG hN hc => by
  rcases (Bool.or_eq_true _ _).mp (show (isCst e (.int i) || onNm e (fun x => gi sc x && G.gInts.lookup x == some i)) = true from hc) with q | q
  · obtain ⟨k, n, p, rfl, e⟩ := onCst_inv q
    rw [eq_of_beq e]; exact WE_int h
  · obtain ⟨x, p, rfl, e⟩ := onNm_inv q
    obtain ⟨e1, e2⟩ := and_tt e
    exact WE_const hG.ok (hG.hInts x i (eq_of_beq e2)) h (gi_of e1)
theorem JE_str {y : Str} (h : P (.str y) σ) : JE c d X (.str y) ρ σ P := fun G N sc e hG hN hc => by
  rcases (Bool.or_eq_true _ _).mp (show (isCst e (.str y) || onNm e (fun x => gi sc x && G.gStrs.lookup x == some y)) = true from hc) with q | q
  · obtain ⟨k, n, p, rfl, e⟩ := onCst_inv q
    rw [eq_of_beq e]; exact WE_str h
  · obtain ⟨x, p, rfl, e⟩ := onNm_inv q
    obtain ⟨e1, e2⟩ := and_tt e
    exact WE_const hG.ok (hG.hStrs x y (eq_of_beq e2)) h (gi_of e1)
theorem JE_bool {b : Bool} (h : P (.bool b) σ) : JE c d X (.bool b) ρ σ P := fun G N sc e hG hN hc => by
  obtain ⟨k, n, p, rfl, e⟩ := onCst_inv (show isCst e (.bool b) = true from hc)
  rw [eq_of_beq e]; exact WE_bool h
theorem JE_none (h : P .none σ) : JE c d X .none ρ σ P := fun G N sc e hG hN hc => by
  obtain ⟨k, n, p, rfl, e⟩ := onCst_inv (show isCst e .none = true from hc)
  rw [eq_of_beq e]; exact WE_none h
theorem JE_var {i : Nat} {v : V} (hv : ρ.lookup i = some v) (h : P v σ) : JE c d X (.var i) ρ σ P := fun G N sc e hG hN hc => by
  obtain ⟨x, p, rfl, e⟩ := onNm_inv (show onNm e (fun x => isVar sc x && N[i]? == some x) = true from hc)
  obtain ⟨e1, e2⟩ := and_tt e
  exact WE_name ((nm_lookup hN (eq_of_beq e2) ρ).trans hv) h e1
theorem JE_bin {op : Operator} {a b : T} (h : JE c d X a ρ σ (fun x σ₁ => JE c d X b ρ σ₁ (fun y σ₂ => Op2 c d (binaryOp op) x y σ₂ P))) : JE c d X (.bin op a b) ρ σ P := fun G N sc e hG hN hc => by
  obtain ⟨l, o, r, p, rfl, e⟩ := onBin_inv (show onBin e (fun l o r => o == op && chk G N a sc (.e l) && chk G N b sc (.e r)) = true from hc)
  obtain ⟨e1, e3⟩ := and_tt e
  obtain ⟨e1, e2⟩ := and_tt e1
  rw [eq_of_beq e1]
  exact WE_binop ((h G N sc l hG hN e2).mono fun x σ₁ q => q G N sc r hG hN e3)
theorem JE_un {op : UnaryOp} {a : T} (h : JE c d X a ρ σ (fun x σ₁ => Op1 c d (unaryOp op) x σ₁ P)) : JE c d X (.un op a) ρ σ P := fun G N sc e hG hN hc => by
  obtain ⟨o, l, p, rfl, e⟩ := onUn_inv (show onUn e (fun o l => o == op && chk G N a sc (.e l)) = true from hc)
  obtain ⟨e1, e2⟩ := and_tt e
  rw [eq_of_beq e1]
  exact WE_unary (h G N sc l hG hN e2)
theorem cmp_inv {op : CmpOp} {a b : T} {e : Expr} (hc : onCmp e (fun l os rs => os == [op] && on1 rs fun r => !behindInMarks op r && chk G N a sc (.e l) && chk G N b sc (.e r)) = true) :
    ∃ l r p, e = .Compare l [op] [r] p ∧ behindInMarks op r = false ∧ chk G N a sc (.e l) = true ∧ chk G N b sc (.e r) = true := by
  obtain ⟨l, os, rs, p, rfl, e⟩ := onCmp_inv hc
  obtain ⟨e1, e2⟩ := and_tt e
  obtain ⟨r, rfl, e3⟩ := on1_inv e2
  obtain ⟨e3, e5⟩ := and_tt e3
  obtain ⟨e3, e4⟩ := and_tt e3
  rw [eq_of_beq e1]
  exact ⟨l, r, p, rfl, by simpa using e3, e4, e5⟩
theorem JE_cmp {op : CmpOp} {a b : T} (h : JE c d X a ρ σ (fun x σ₁ => JE c d X b ρ σ₁ (fun y σ₂ => Op2 c d (compareOp op) x y σ₂ P))) : JE c d X (.cmp op a b) ρ σ P := fun G N sc e hG hN hc => by
  obtain ⟨l, r, p, rfl, e1, e2, e3⟩ := cmp_inv hc
  exact WE_cmp ((h G N sc l hG hN e2).mono fun x σ₁ q => q G N sc r hG hN e3) e1
theorem JT_cmp {op : CmpOp} {a b : T} {P : Bool → Led → Prop} (h : JE c d X a ρ σ (fun x σ₁ => JE c d X b ρ σ₁ (fun y σ₂ => Op2 c d (compareOp op) x y σ₂ (fun v σ₃ => ∃ t, v = .bool t ∧ P t σ₃)))) : JT c d X (.cmp op a b) ρ σ P := fun G N sc e hG hN hc => by
  obtain ⟨l, r, p, rfl, e1, e2, e3⟩ := cmp_inv hc
  exact WT_cmp ((h G N sc l hG hN e2).mono fun x σ₁ q => q G N sc r hG hN e3) e1
theorem cmp2_inv {o₁ o₂ : CmpOp} {a b b' : T} {e : Expr} (hc : onCmp e (fun l os rs => os == [o₁, o₂] && on2 rs fun r r' => !behindInMarks o₂ r' && chk G N a sc (.e l) && chk G N b sc (.e r) && chk G N b' sc (.e r')) = true) :
    ∃ l r r' p, e = .Compare l [o₁, o₂] [r, r'] p ∧ behindInMarks o₂ r' = false ∧ chk G N a sc (.e l) = true ∧ chk G N b sc (.e r) = true ∧ chk G N b' sc (.e r') = true := by
  obtain ⟨l, os, rs, p, rfl, e⟩ := onCmp_inv hc
  obtain ⟨e1, e2⟩ := and_tt e
  obtain ⟨r, r', rfl, e3⟩ := on2_inv e2
  obtain ⟨e3, e6⟩ := and_tt e3
  obtain ⟨e3, e5⟩ := and_tt e3
  obtain ⟨e3, e4⟩ := and_tt e3
  rw [eq_of_beq e1]
  exact ⟨l, r, r', p, rfl, by simpa using e3, e4, e5, e6⟩
theorem Op2.mono {t : Value → Value → Sem Value} {a b : V} (h : Op2 c d t a b σ P) (k : ∀ v σ', P v σ' → P' v σ') : Op2 c d t a b σ P' := fun A s E ca cb ha hs ra rb =>
  wpAny_mono (h A s E ca cb ha hs ra rb) (fun _ _ ⟨v, σ', q, w⟩ => ⟨v, σ', k _ _ q, w⟩) fun z1 z2 x => x
theorem JE_cmp2 {o₁ o₂ : CmpOp} {a b b' : T} (h : JE c d X a ρ σ (fun x σ₁ => JE c d X b ρ σ₁ (fun y σ₂ => Op2 c d (compareOp o₁) x y σ₂ (fun v σ₃ => ∃ t, v = .bool t ∧ if t = true then JE c d X b' ρ σ₃ (fun z σ₄ => Op2 c d (compareOp o₂) y z σ₄ P) else P (.bool false) σ₃)))) :
    JE c d X (.cmp2 a o₁ b o₂ b') ρ σ P := fun G N sc e hG hN hc => by
  obtain ⟨l, r, r', p, rfl, e1, e2, e3, e4⟩ := cmp2_inv hc
  refine WE_cmp2 ((h G N sc l hG hN e2).mono fun x σ₁ q => (q G N sc r hG hN e3).mono fun y σ₂ q => q.mono fun v σ₃ q => ?_) e1
  obtain ⟨t, q1, q2⟩ := q
  refine ⟨t, q1, ?_⟩
  cases t with
  | true => exact q2 G N sc r' hG hN e4
  | false => exact q2
theorem JT_cmp2 {o₁ o₂ : CmpOp} {a b b' : T} {P : Bool → Led → Prop} (h : JE c d X a ρ σ (fun x σ₁ => JE c d X b ρ σ₁ (fun y σ₂ => Op2 c d (compareOp o₁) x y σ₂ (fun v σ₃ => ∃ t, v = .bool t ∧ if t = true then JE c d X b' ρ σ₃ (fun z σ₄ => Op2 c d (compareOp o₂) y z σ₄ (fun v σ₅ => ∃ t, v = .bool t ∧ P t σ₅)) else P false σ₃)))) :
    JT c d X (.cmp2 a o₁ b o₂ b') ρ σ P := fun G N sc e hG hN hc => by
  obtain ⟨l, r, r', p, rfl, e1, e2, e3, e4⟩ := cmp2_inv hc
  refine WT_cmp2 ((h G N sc l hG hN e2).mono fun x σ₁ q => (q G N sc r hG hN e3).mono fun y σ₂ q => q.mono fun v σ₃ q => ?_) e1
  obtain ⟨t, q1, q2⟩ := q
  refine ⟨t, q1, ?_⟩
  cases t with
  | true => exact q2 G N sc r' hG hN e4
  | false => exact q2
theorem JT_not {a : T} {P : Bool → Led → Prop} (h : JT c d X a ρ σ (fun b σ₁ => P (!b) σ₁)) : JT c d X (.un .Not a) ρ σ P := fun G N sc e hG hN hc => by
  obtain ⟨o, l, p, rfl, e⟩ := onUn_inv (show onUn e (fun o l => o == .Not && UnaryOp.Not == .Not && chk G N a sc (.q l)) = true from hc)
  obtain ⟨e1, e2⟩ := and_tt e
  obtain ⟨e1, _⟩ := and_tt e1
  rw [eq_of_beq e1]
  exact WT_not (h G N sc l hG hN e2)
theorem JT_bo {op : BoolOp} {es : T} {P : Bool → Led → Prop} (h : JTs c d X op es ρ σ P) : JT c d X (.bo op es) ρ σ P := fun G N sc e hG hN hc => by
  obtain ⟨o, l, p, rfl, e⟩ := onBo_inv (show onBo e (fun o xs => o == op && chk G N es sc (.ql xs)) = true from hc)
  obtain ⟨e1, e2⟩ := and_tt e
  rw [eq_of_beq e1]
  exact WT_bool (h G N sc l hG hN e2)
theorem JTs_and_nil {P : Bool → Led → Prop} (h : P true σ) : JTs c d X .And .nil ρ σ P := fun G N sc es hG hN hc => by
  rw [on0_inv (show on0 es = true from hc)]; exact WTs_and_nil h
theorem JTs_or_nil {P : Bool → Led → Prop} (h : P false σ) : JTs c d X .Or .nil ρ σ P := fun G N sc es hG hN hc => by
  rw [on0_inv (show on0 es = true from hc)]; exact WTs_or_nil h
theorem JTs_and {a r : T} {P : Bool → Led → Prop} (h : JT c d X a ρ σ (fun b σ₁ => if b = true then JTs c d X .And r ρ σ₁ P else P false σ₁)) : JTs c d X .And (.cons a r) ρ σ P := fun G N sc es hG hN hc => by
  obtain ⟨e, es, rfl, q⟩ := onCons_inv (show onCons es (fun e es => chk G N a sc (.q e) && chk G N r sc (.ql es)) = true from hc)
  obtain ⟨e1, e2⟩ := and_tt q
  refine WTs_and ((h G N sc e hG hN e1).mono fun b σ₁ q => ?_)
  cases b with
  | true => exact q G N sc es hG hN e2
  | false => exact q
theorem JTs_or {a r : T} {P : Bool → Led → Prop} (h : JT c d X a ρ σ (fun b σ₁ => if b = true then P true σ₁ else JTs c d X .Or r ρ σ₁ P)) : JTs c d X .Or (.cons a r) ρ σ P := fun G N sc es hG hN hc => by
  obtain ⟨e, es, rfl, q⟩ := onCons_inv (show onCons es (fun e es => chk G N a sc (.q e) && chk G N r sc (.ql es)) = true from hc)
  obtain ⟨e1, e2⟩ := and_tt q
  refine WTs_or ((h G N sc e hG hN e1).mono fun b σ₁ q => ?_)
  cases b with
  | true => exact q
  | false => exact q G N sc es hG hN e2
theorem JT_var {i : Nat} {P : Bool → Led → Prop} (h : JE c d X (.var i) ρ σ (fun v σ₁ => ∃ b, v = .bool b ∧ P b σ₁)) : JT c d X (.var i) ρ σ P := fun G N sc e hG hN hc => by
  have h1 := h G N sc e hG hN hc
  obtain ⟨x, p, rfl, _⟩ := onNm_inv hc
  exact WT_value h1 (fun z1 z2 => rfl)
theorem JT_call {f : Str} {es : T} {P : Bool → Led → Prop} (h : JE c d X (.call f es) ρ σ (fun v σ₁ => ∃ b, v = .bool b ∧ P b σ₁)) : JT c d X (.call f es) ρ σ P := fun G N sc e hG hN hc => by
  have h1 := h G N sc e hG hN hc
  obtain ⟨g, xs, ks, p, rfl, _⟩ := onCall_inv hc
  exact WT_value h1 (fun z1 z2 => rfl)
theorem JT_blt {f : Bf} {es : T} {P : Bool → Led → Prop} (h : JE c d X (.blt f es) ρ σ (fun v σ₁ => ∃ b, v = .bool b ∧ P b σ₁)) : JT c d X (.blt f es) ρ σ P := fun G N sc e hG hN hc => by
  have h1 := h G N sc e hG hN hc
  obtain ⟨g, xs, ks, p, rfl, _⟩ := onCall_inv hc
  exact WT_value h1 (fun z1 z2 => rfl)
theorem JT_isi {a : T} {f : Bf} {P : Bool → Led → Prop} (h : JE c d X (.isi a f) ρ σ (fun v σ₁ => ∃ b, v = .bool b ∧ P b σ₁)) : JT c d X (.isi a f) ρ σ P := fun G N sc e hG hN hc => by
  have h1 := h G N sc e hG hN hc
  obtain ⟨g, xs, ks, p, rfl, _⟩ := onCall_inv hc
  exact WT_value h1 (fun z1 z2 => rfl)
theorem JT_meth {o es : T} {x : Str} {P : Bool → Led → Prop} (h : JE c d X (.meth o x es) ρ σ (fun v σ₁ => ∃ b, v = .bool b ∧ P b σ₁)) : JT c d X (.meth o x es) ρ σ P := fun G N sc e hG hN hc => by
  have h1 := h G N sc e hG hN hc
  obtain ⟨g, xs, ks, p, rfl, _⟩ := onCall_inv hc
  exact WT_value h1 (fun z1 z2 => rfl)
theorem JT_item {a b : T} {P : Bool → Led → Prop} (h : JE c d X (.item a b) ρ σ (fun v σ₁ => ∃ b, v = .bool b ∧ P b σ₁)) : JT c d X (.item a b) ρ σ P := fun G N sc e hG hN hc => by
  have h1 := h G N sc e hG hN hc
  obtain ⟨v, i, p, rfl, _⟩ := onSub_inv hc
  exact WT_value h1 (fun z1 z2 => rfl)
theorem JE_cut {q : T} {v : V} (h : ∀ Q : V → Led → Prop, Q v σ → JE c d X q ρ σ Q) (k : P v σ) : JE c d X (.cut q) ρ σ P := fun G N sc e hG hN hc => h P k G N sc e hG hN hc
theorem JT_cut {q : T} {b : Bool} {P : Bool → Led → Prop} (h : ∀ Q : Bool → Led → Prop, Q b σ → JT c d X q ρ σ Q) (k : P b σ) : JT c d X (.cut q) ρ σ P := fun G N sc e hG hN hc => h P k G N sc e hG hN hc
theorem JE_ife {t a b : T} (h : JT c d X t ρ σ (fun k σ₁ => if k = true then JE c d X a ρ σ₁ P else JE c d X b ρ σ₁ P)) : JE c d X (.ife t a b) ρ σ P := fun G N sc e hG hN hc => by
  obtain ⟨x, y, z, p, rfl, e⟩ := onIf_inv (show onIf e (fun x y z => chk G N t sc (.q x) && chk G N a sc (.e y) && chk G N b sc (.e z)) = true from hc)
  obtain ⟨e1, e3⟩ := and_tt e
  obtain ⟨e1, e2⟩ := and_tt e1
  refine WE_ifexp ((h G N sc x hG hN e1).mono fun k σ₁ q => ?_)
  cases k with
  | true => exact q G N sc y hG hN e2
  | false => exact q G N sc z hG hN e3
theorem JE_bo {op : BoolOp} {es : T} (h : JBo c d X op es ρ σ P) : JE c d X (.bo op es) ρ σ P := fun G N sc e hG hN hc => by
  obtain ⟨o, l, p, rfl, e⟩ := onBo_inv (show onBo e (fun o xs => o == op && chk G N es sc (.l xs)) = true from hc)
  obtain ⟨e1, e2⟩ := and_tt e
  rw [eq_of_beq e1]
  exact WE_boolop (h G N sc l hG hN e2)
theorem cons_inv {a r : T} {es : List Expr} (hc : chk G N (.cons a r) sc (.l es) = true) : ∃ e es', es = e :: es' ∧ noStar e = true ∧ es'.all noStar = true ∧ chk G N a sc (.e e) = true ∧ chk G N r sc (.l es') = true := by
  obtain ⟨e, es', rfl, q⟩ := onCons_inv (show onCons es (fun e es => noStar e && es.all noStar && chk G N a sc (.e e) && chk G N r sc (.l es)) = true from hc)
  obtain ⟨e1, e4⟩ := and_tt q
  obtain ⟨e1, e3⟩ := and_tt e1
  obtain ⟨e1, e2⟩ := and_tt e1
  exact ⟨e, es', rfl, e1, e2, e3, e4⟩
theorem JBo_one {op : BoolOp} {a : T} (h : JE c d X a ρ σ P) : JBo c d X op (.cons a .nil) ρ σ P := fun G N sc es hG hN hc => by
  obtain ⟨e, es', rfl, _, _, e1, e2⟩ := cons_inv hc
  rw [on0_inv (show on0 es' = true from e2)]
  exact WEb_one (h G N sc e hG hN e1)
theorem JBo_and {a b r : T} (h : JE c d X a ρ σ (fun v σ₁ => ∃ t, v = .bool t ∧ if t = true then JBo c d X .And (.cons b r) ρ σ₁ P else P (.bool false) σ₁)) : JBo c d X .And (.cons a (.cons b r)) ρ σ P := fun G N sc es hG hN hc => by
  obtain ⟨e, es', rfl, _, _, e1, e2⟩ := cons_inv hc
  obtain ⟨e', es'', rfl, _⟩ := cons_inv e2
  refine WEb_and ((h G N sc e hG hN e1).mono fun v σ₁ ⟨t, q1, q2⟩ => ⟨t, q1, ?_⟩)
  cases t with
  | true => exact q2 G N sc _ hG hN e2
  | false => exact q2
theorem JBo_or {a b r : T} (h : JE c d X a ρ σ (fun v σ₁ => ∃ t, v = .bool t ∧ if t = true then P (.bool true) σ₁ else JBo c d X .Or (.cons b r) ρ σ₁ P)) : JBo c d X .Or (.cons a (.cons b r)) ρ σ P := fun G N sc es hG hN hc => by
  obtain ⟨e, es', rfl, _, _, e1, e2⟩ := cons_inv hc
  obtain ⟨e', es'', rfl, _⟩ := cons_inv e2
  refine WEb_or ((h G N sc e hG hN e1).mono fun v σ₁ ⟨t, q1, q2⟩ => ⟨t, q1, ?_⟩)
  cases t with
  | true => exact q2
  | false => exact q2 G N sc _ hG hN e2
theorem JL_nil {P : List V → Led → Prop} (h : P [] σ) : JL c d X .nil ρ σ P := fun G N sc es hG hN hc => by
  rw [on0_inv (show on0 es = true from hc)]; exact WEs_nil h
theorem JL_cons {a r : T} {P : List V → Led → Prop} (h : JE c d X a ρ σ (fun v σ₁ => JL c d X r ρ σ₁ (fun vs σ₂ => P (v :: vs) σ₂))) : JL c d X (.cons a r) ρ σ P := fun G N sc es hG hN hc => by
  obtain ⟨e, es', rfl, e1, e2, e3, e4⟩ := cons_inv hc
  exact WEs_cons ((h G N sc e hG hN e3).mono fun v σ₁ q => q G N sc es' hG hN e4) (star_cons e1 es') (star_all e2)
theorem JE_tup {es : T} (h : JL c d X es ρ σ (fun vs σ₁ => P (.tup vs) σ₁)) : JE c d X (.tup es) ρ σ P := fun G N sc e hG hN hc => by
  obtain ⟨xs, k, p, rfl, e⟩ := onTup_inv (show onTup e (fun xs => decide (xs.length ≤ 1000) && chk G N es sc (.l xs)) = true from hc)
  obtain ⟨e1, e2⟩ := and_tt e
  exact WE_tuple (h G N sc xs hG hN e2) (of_decide_eq_true e1)
theorem JE_lst {es : T} (h : JL c d X es ρ σ (fun vs σ₁ => P (.lst vs) σ₁)) : JE c d X (.lst false es) ρ σ P := fun G N sc e hG hN hc => by
  obtain ⟨xs, p, rfl, e⟩ := onLs_inv (show onLs e (fun xs => decide (xs.length ≤ 1000) && chk G N es sc (.l xs)) = true from hc)
  obtain ⟨e1, e2⟩ := and_tt e
  exact WE_list (h G N sc xs hG hN e2) (of_decide_eq_true e1)
theorem JE_loc {es : T} (h : JL c d X es ρ σ (fun vs σ₁ => ∀ a, a ∉ owned σ₁ → a ∉ c.F → P (.ref a) ((a, .list vs) :: σ₁))) : JE c d X (.lst true es) ρ σ P := fun G N sc e hG hN hc => by
  obtain ⟨xs, p, rfl, e⟩ := onLs_inv (show onLs e (fun xs => decide (xs.length ≤ 1000) && chk G N es sc (.l xs)) = true from hc)
  obtain ⟨e1, e2⟩ := and_tt e
  exact WE_list_loc (h G N sc xs hG hN e2) (of_decide_eq_true e1)
theorem isCall_inv {e : Expr} {f : Str → List Expr → Bool} (hc : isCall e f = true) : ∃ x q xs p, e = .Call (.Name x q) xs [] p ∧ f x xs = true := by
  obtain ⟨h, xs, ks, p, rfl, e⟩ := onCall_inv hc
  rw [on0_inv (and_tt e).1]
  obtain ⟨x, q, rfl, w⟩ := onNm_inv (and_tt e).2
  exact ⟨x, q, xs, p, rfl, w⟩
theorem and3_tt {a b c : Bool} (h : (a && b && c) = true) : a = true ∧ b = true ∧ c = true := ⟨(and_tt (and_tt h).1).1, (and_tt (and_tt h).1).2, (and_tt h).2⟩
theorem name_inv {e : Expr} {f : Str} {g : Bool} {h : List Expr → Bool} (hc : isCall e (fun x xs => x == f && g && h xs) = true) : ∃ q xs p, e = .Call (.Name f q) xs [] p ∧ g = true ∧ h xs = true := by
  obtain ⟨x, q, xs, p, rfl, w⟩ := isCall_inv hc
  obtain ⟨e1, e2, e3⟩ := and3_tt w
  rw [eq_of_beq e1]
  exact ⟨q, xs, p, rfl, e2, e3⟩
theorem call_inv {f : Str} {es : T} {e : Expr} {g : Bool} (hc : isCall e (fun x xs => x == f && gi sc f && g && chk G N es sc (.l xs)) = true) : ∃ q xs p, e = .Call (.Name f q) xs [] p ∧ gi sc f = true ∧ g = true ∧ chk G N es sc (.l xs) = true := by
  obtain ⟨x, q, xs, p, rfl, w⟩ := isCall_inv hc
  obtain ⟨w, e3, e4⟩ := and3_tt w
  rw [eq_of_beq (and_tt w).1]
  exact ⟨q, xs, p, rfl, (and_tt w).2, e3, e4⟩
theorem JE_call {f : Str} {es : T} (h : JL c d X es ρ σ (fun vs σ₁ => CallN c d f vs σ₁ P X)) : JE c d X (.call f es) ρ σ P := fun G N sc e hG hN hc => by
  obtain ⟨q, xs, p, rfl, e1, e2, e3⟩ := call_inv hc
  exact WE_callN hG.ok (hG.hDefs f e2) (h G N sc xs hG hN e3) (gi_of e1)
theorem blt_callee (f : Bf) : Callee c f.val := by
  cases f <;> first | exact .b | exact .t
theorem JE_blt {f : Bf} {es : T} (h : JL c d X es ρ σ (fun vs σ₁ => c.k.hd = true → CallS c d f.val vs σ₁ P X)) : JE c d X (.blt f es) ρ σ P := fun G N sc e hG hN hc => by
  obtain ⟨q, xs, p, rfl, e1, e2, e3⟩ := call_inv hc
  exact WE_callB hG.ok (hG.hBlts f) ((h G N sc xs hG hN e3).mono fun z1 z2 q => q hG.hd) (blt_callee f) (gi_of e1)
theorem isi_inv {sc : Scope} {f : Str} {g : Expr → Bool} {xs : List Expr} (h : (on2 xs fun y z => noStar y && onNm z (fun x => x == f && gi sc f) && g y) = true) : ∃ y q, xs = [y, .Name f q] ∧ noStar y = true ∧ gi sc f = true ∧ g y = true := by
  obtain ⟨y, z, rfl, r⟩ := on2_inv h
  obtain ⟨w1, w2, w3⟩ := and3_tt r
  obtain ⟨x', q', rfl, u⟩ := onNm_inv w2
  rw [eq_of_beq (and_tt u).1]
  exact ⟨y, q', rfl, w1, (and_tt u).2, w3⟩
theorem JE_isi {f : Bf} {a : T} (h : JE c d X a ρ σ (fun v σ₁ => CallS c d (.builtin "isinstance") [v, .raw f.val] σ₁ P X)) : JE c d X (.isi a f) ρ σ P := fun G N sc e hG hN hc => by
  obtain ⟨q, xs, p, rfl, e2, e3⟩ := name_inv (h := fun xs => on2 xs fun y z => noStar y && onNm z (fun x => x == f.name && gi sc f.name) && chk G N a sc (.e y)) hc
  obtain ⟨y, q', rfl, w1, u2, w3⟩ := isi_inv (g := fun y => chk G N a sc (.e y)) e3
  exact WE_callB hG.ok (hG.hBlts .isinstance) (WEs_cons ((h G N sc y hG hN w3).mono fun v σ₁ k => WEs_cons (WE_blt hG.ok (hG.hBlts f) (WEs_nil k) (gi_of u2)) (star_cons rfl _) (star_all rfl)) (star_cons w1 _) (star_all rfl)) .b (gi_of e2)
theorem JE_meth {o es : T} {x : Str} (h : JE c d X o ρ σ (fun ov σ₁ => ∃ T id, Meth c σ₁ ov x T id ∧ JL c d X es ρ σ₁ (fun vs σ₂ => CallS c d (.builtin id) (ov :: vs) σ₂ P X))) : JE c d X (.meth o x es) ρ σ P := fun G N sc e hG hN hc => by
  obtain ⟨g, xs, ks, p, rfl, e⟩ := onCall_inv (show isMeth e x (fun p xs => chk G N o sc (.e p) && chk G N es sc (.l xs)) = true from hc)
  obtain ⟨k1, k2⟩ := and_tt e
  rw [on0_inv k1]
  obtain ⟨b, y, ap, rfl, w⟩ := onAttr_inv k2
  obtain ⟨e1, e6⟩ := and_tt w
  obtain ⟨e1, e5⟩ := and_tt e1
  obtain ⟨e1, e4⟩ := and_tt e1
  obtain ⟨e1, e3⟩ := and_tt e1
  obtain ⟨e1, e2⟩ := and_tt e1
  obtain ⟨e6, e7⟩ := and_tt e6
  rw [eq_of_beq e1]
  exact WE_method e2 e3 ((h G N sc b hG hN e6).mono fun ov σ₁ ⟨T, id, q1, q2⟩ => ⟨T, id, q1, q2 G N sc xs hG hN e7⟩) (star_all e4) (of_decide_eq_true e5)
noncomputable def Item (c : Cx) (d : Nat) (a b : V) (σ : Led) (P : V → Led → Prop) : Prop := ∀ v i, noSlice i = true → Op2 c d (PyProof.Rows.subscriptTail v i) a b σ P
theorem sub_inv {a b : T} {e : Expr} (hc : onSub e (fun v i => noSlice i && chk G N a sc (.e v) && chk G N b sc (.e i)) = true) : ∃ v i p, e = .Subscript v i p ∧ noSlice i = true ∧ chk G N a sc (.e v) = true ∧ chk G N b sc (.e i) = true := by
  obtain ⟨v, i, p, rfl, e⟩ := onSub_inv hc
  obtain ⟨e1, e3⟩ := and_tt e
  obtain ⟨e1, e2⟩ := and_tt e1
  exact ⟨v, i, p, rfl, e1, e2, e3⟩
theorem JE_item {a b : T} (h : JE c d X a ρ σ (fun x σ₁ => JE c d X b ρ σ₁ (fun y σ₂ => Item c d x y σ₂ P))) : JE c d X (.item a b) ρ σ P := fun G N sc e hG hN hc => by
  obtain ⟨v, i, p, rfl, e1, e2, e3⟩ := sub_inv hc
  exact WE_sub ((h G N sc v hG hN e2).mono fun x σ₁ q => (q G N sc i hG hN e3).mono fun y σ₂ q => q v i e1)
theorem JO_nil {P : Option Int → Led → Prop} (h : P none σ) : JO c d X .nil ρ σ P := fun G N sc o hG hN hc => by
  cases o with
  | none => exact WEo_none h
  | some e => cases hc
theorem JO_int {i : Int} {P : Option Int → Led → Prop} (h : JE c d X (.int i) ρ σ (fun v σ₁ => ∃ i, v = .int i ∧ P (some i) σ₁)) : JO c d X (.int i) ρ σ P := fun G N sc o hG hN hc => by
  cases o with
  | none => cases hc
  | some e => exact WEo_some (h G N sc e hG hN hc)
theorem JO_var {i : Nat} {P : Option Int → Led → Prop} (h : JE c d X (.var i) ρ σ (fun v σ₁ => ∃ i, v = .int i ∧ P (some i) σ₁)) : JO c d X (.var i) ρ σ P := fun G N sc o hG hN hc => by
  cases o with
  | none => cases hc
  | some e => exact WEo_some (h G N sc e hG hN hc)
theorem JO_bin {op : Operator} {a b : T} {P : Option Int → Led → Prop} (h : JE c d X (.bin op a b) ρ σ (fun v σ₁ => ∃ i, v = .int i ∧ P (some i) σ₁)) : JO c d X (.bin op a b) ρ σ P := fun G N sc o hG hN hc => by
  cases o with
  | none => cases hc
  | some e => exact WEo_some (h G N sc e hG hN hc)
theorem JO_un {op : UnaryOp} {a : T} {P : Option Int → Led → Prop} (h : JE c d X (.un op a) ρ σ (fun v σ₁ => ∃ i, v = .int i ∧ P (some i) σ₁)) : JO c d X (.un op a) ρ σ P := fun G N sc o hG hN hc => by
  cases o with
  | none => cases hc
  | some e => exact WEo_some (h G N sc e hG hN hc)
theorem JO_call {f : Str} {es : T} {P : Option Int → Led → Prop} (h : JE c d X (.call f es) ρ σ (fun v σ₁ => ∃ i, v = .int i ∧ P (some i) σ₁)) : JO c d X (.call f es) ρ σ P := fun G N sc o hG hN hc => by
  cases o with
  | none => cases hc
  | some e => exact WEo_some (h G N sc e hG hN hc)
theorem JO_blt {f : Bf} {es : T} {P : Option Int → Led → Prop} (h : JE c d X (.blt f es) ρ σ (fun v σ₁ => ∃ i, v = .int i ∧ P (some i) σ₁)) : JO c d X (.blt f es) ρ σ P := fun G N sc o hG hN hc => by
  cases o with
  | none => cases hc
  | some e => exact WEo_some (h G N sc e hG hN hc)
theorem JE_slice {a lo hi : T} (h : JE c d X a ρ σ (fun x σ₁ => JO c d X lo ρ σ₁ (fun l σ₂ => JO c d X hi ρ σ₂ (fun u σ₃ => ∃ w, SliceOf σ₃ l u x w ∧ P w σ₃)))) : JE c d X (.slice a lo hi) ρ σ P := fun G N sc e hG hN hc => by
  obtain ⟨v, i, p, rfl, e⟩ := onSub_inv (show onSub e (fun v s => onSl s fun l h st => st.isNone && chk G N a sc (.e v) && chk G N lo sc (.o l) && chk G N hi sc (.o h)) = true from hc)
  obtain ⟨l, u, st, p, rfl, e⟩ := onSl_inv e
  obtain ⟨e1, e4⟩ := and_tt e
  obtain ⟨e1, e3⟩ := and_tt e1
  obtain ⟨e1, e2⟩ := and_tt e1
  cases st with
  | some _ => cases e1
  | none => exact WE_slice ((h G N sc v hG hN e2).mono fun x σ₁ q => (q G N sc l hG hN e3).mono fun y σ₂ q => q G N sc u hG hN e4)
end Mine
end
section
namespace Mine
open PySem
variable {c : Cx} {d : Nat} {sc : Scope} {σ : Led} {P P' : V → Led → Prop} {X : XP} {G : Glob} {N : List Str} {ρ : Rho} {K K' : Fl → Rho → Led → Prop}
theorem JB.mono {t : T} (h : JB c d X t ρ σ K) (k : ∀ f ρ' σ', K f ρ' σ' → K' f ρ' σ') : JB c d X t ρ σ K' := fun G N sc e hG hN hc => (h G N sc e hG hN hc).mono fun f m' σ' ⟨ρ', q1, q2⟩ => ⟨ρ', q1, k _ _ _ q2⟩
theorem JB_sub {t : T} {ρ' : Rho} (k : RSub ρ' ρ) (h : JB c d X t ρ' σ K) : JB c d X t ρ σ K := fun G N sc e hG hN hc => WSs_sub (nm_sub hN k) (h G N sc e hG hN hc)
theorem JA.mono {t : T} {v : V} {K K' : Rho → Led → Prop} (h : JA c d X t v ρ σ K) (k : ∀ ρ' σ', K ρ' σ' → K' ρ' σ') : JA c d X t v ρ σ K' := fun G N sc e hG hN hc => (h G N sc e hG hN hc).mono fun m' σ' ⟨ρ', q1, q2⟩ => ⟨ρ', q1, k _ _ q2⟩
theorem JA_sub {t : T} {v : V} {ρ' : Rho} {K : Rho → Led → Prop} (k : RSub ρ' ρ) (h : JA c d X t v ρ' σ K) : JA c d X t v ρ σ K := fun G N sc e hG hN hc => WA_sub (nm_sub hN k) (h G N sc e hG hN hc)
theorem JA_var {i : Nat} {v : V} {K : Rho → Led → Prop} (h : K ((i, v) :: ρ) σ) : JA c d X (.var i) v ρ σ K := fun G N sc e hG hN hc => by
  obtain ⟨x, p, rfl, q⟩ := onNm_inv (show onNm e (fun x => isLoc sc x && N[i]? == some x) = true from hc)
  obtain ⟨e1, e2⟩ := and_tt q
  exact WA_name ⟨_, by rw [nm_cons (eq_of_beq e2)]; exact Sub.refl', h⟩ e1
theorem JAs_nil {K : Rho → Led → Prop} (h : K ρ σ) : JAs c d X .nil [] ρ σ K := fun G N sc es hG hN hc => by
  rw [on0_inv (show on0 es = true from hc)]; exact WAs_nil ⟨ρ, Sub.refl', h⟩
theorem JAs_cons {a r : T} {v : V} {vs : List V} {K : Rho → Led → Prop} (hl : ∀ G N sc es, chk G N r sc (.tl es) = true → es.length = vs.length)
    (h : JA c d X a v ρ σ (fun ρ₁ σ₁ => JAs c d X r vs ρ₁ σ₁ K)) : JAs c d X (.cons a r) (v :: vs) ρ σ K := fun G N sc es hG hN hc => by
  obtain ⟨e, es', rfl, q⟩ := onCons_inv (show onCons es (fun e es => noStar e && es.all noStar && chk G N a sc (.t e) && chk G N r sc (.tl es)) = true from hc)
  obtain ⟨e1, e4⟩ := and_tt q
  obtain ⟨e1, e3⟩ := and_tt e1
  obtain ⟨e1, e2⟩ := and_tt e1
  exact WAs_cons ((h G N sc e hG hN e3).mono fun m' σ' ⟨ρ', k1, k2⟩ => WAs_sub k1 (k2 G N sc es' hG hN e4)) (asg_cons e1 es') (fun env => by rw [(asg_all e2 env).2, hl G N sc es' e4]) (fun env => (asg_all e2 env).1)
theorem JA_tup {ts : T} {vs : List V} {K : Rho → Led → Prop} (h : JAs c d X ts vs ρ σ K) : JA c d X (.tup ts) (.tup vs) ρ σ K := fun G N sc e hG hN hc => by
  obtain ⟨xs, k, p, rfl, q⟩ := onTup_inv (show onTup e (fun xs => chk G N ts sc (.tl xs)) = true from hc)
  exact WA_tuple hG.hd (h G N sc xs hG hN q)
theorem JA_item {a b : T} {v : V} {K : Rho → Led → Prop} (h : JE c d X a ρ σ (fun ov σ₁ => JE c d X b ρ σ₁ (fun iv σ₂ => SetIt c d ov iv v σ₂ (fun σ₃ => K ρ σ₃)))) : JA c d X (.item a b) v ρ σ K := fun G N sc e hG hN hc => by
  obtain ⟨o, i, p, rfl, e1, e2, e3⟩ := sub_inv hc
  refine WA_item ((h G N sc o hG hN e2).mono fun x σ₁ q => (q G N sc i hG hN e3).mono fun y σ₂ q A s E co ci cv ha hs ro ri rv => wpAny_mono (q A s E co ci cv ha hs ro ri rv) (fun _ _ ⟨σ', q1, w⟩ => ⟨σ', ⟨ρ, Sub.refl', q1⟩, w⟩) fun z1 z2 x => x)
theorem JB_nil (h : K .next ρ σ) : JB c d X .nil ρ σ K := fun G N sc ss hG hN hc => by
  rw [on0_inv (show on0 ss = true from hc)]; exact WSs_nil ⟨ρ, Sub.refl', h⟩
noncomputable def then_ (K : Fl → Rho → Led → Prop) (R : Rho → Led → Prop) : Fl → Rho → Led → Prop
  | .next, ρ, σ => R ρ σ
  | f, ρ, σ => K f ρ σ
theorem JB_cons {a r : T} (h : JS c d X a ρ σ (then_ K fun ρ₁ σ₁ => JB c d X r ρ₁ σ₁ K)) : JB c d X (.cons a r) ρ σ K := fun G N sc ss hG hN hc => by
  obtain ⟨s, ss', rfl, q⟩ := onCons_inv (show onCons ss (fun s ss => chk G N a sc (.s s) && chk G N r sc (.b ss)) = true from hc)
  obtain ⟨e1, e2⟩ := and_tt q
  refine WSs_cons ((h G N sc s hG hN e1).mono fun f m' σ' ⟨ρ', k1, k2⟩ => ?_)
  cases f with
  | next => exact WSs_sub k1 (k2 G N sc ss' hG hN e2)
  | brk => exact ⟨ρ', k1, k2⟩
  | cont => exact ⟨ρ', k1, k2⟩
  | ret v => exact ⟨ρ', k1, k2⟩
theorem JS_ret {e : T} (h : JE c d X e ρ σ (fun v σ₁ => K (.ret v) ρ σ₁)) : JS c d X (.ret e) ρ σ K := fun G N sc s hG hN hc => by
  obtain ⟨o, p, rfl, q⟩ := onRet_inv (show onRet s (fun o => onSome o fun x => chk G N e sc (.e x)) = true from hc)
  obtain ⟨x, rfl, q⟩ := onSome_inv q
  exact WS_return ((h G N sc x hG hN q).mono fun v σ₁ k => ⟨ρ, Sub.refl', k⟩)
theorem JS_ret0 (h : K (.ret .none) ρ σ) : JS c d X .ret0 ρ σ K := fun G N sc s hG hN hc => by
  obtain ⟨o, p, rfl, q⟩ := onRet_inv (show onRet s (fun o => o.isNone) = true from hc)
  cases o with
  | some _ => cases q
  | none => exact WS_return_none ⟨ρ, Sub.refl', h⟩
theorem JS_pass (h : K .next ρ σ) : JS c d X .pass ρ σ K := fun G N sc s hG hN hc => by
  obtain ⟨p, rfl⟩ := onPass_inv hc; exact WS_pass ⟨ρ, Sub.refl', h⟩
theorem JS_brk (h : K .brk ρ σ) : JS c d X .brk ρ σ K := fun G N sc s hG hN hc => by
  obtain ⟨p, rfl⟩ := onBrk_inv hc; exact WS_break ⟨ρ, Sub.refl', h⟩
theorem JS_cont (h : K .cont ρ σ) : JS c d X .cont ρ σ K := fun G N sc s hG hN hc => by
  obtain ⟨p, rfl⟩ := onCont_inv hc; exact WS_continue ⟨ρ, Sub.refl', h⟩
theorem JS_expr {e : T} (h : JE c d X e ρ σ (fun z1 σ₁ => K .next ρ σ₁)) : JS c d X (.expr e) ρ σ K := fun G N sc s hG hN hc => by
  obtain ⟨x, p, rfl, q⟩ := onExpr_inv (show onExpr s (fun x => noComp x && chk G N e sc (.e x)) = true from hc)
  obtain ⟨e1, e2⟩ := and_tt q
  exact WS_expr ((h G N sc x hG hN e2).mono fun v σ₁ k => ⟨ρ, Sub.refl', k⟩) (fun env => swaps_no e1 _ _ env)
theorem JS_ite {t a b : T} (h : JT c d X t ρ σ (fun k σ₁ => if k = true then JB c d X a ρ σ₁ K else JB c d X b ρ σ₁ K)) : JS c d X (.ite t a b) ρ σ K := fun G N sc s hG hN hc => by
  obtain ⟨x, y, z, p, rfl, q⟩ := onIte_inv (show onIte s (fun x y z => chk G N t sc (.q x) && chk G N a sc (.b y) && chk G N b sc (.b z)) = true from hc)
  obtain ⟨e1, e3⟩ := and_tt q
  obtain ⟨e1, e2⟩ := and_tt e1
  refine WS_if ((h G N sc x hG hN e1).mono fun k σ₁ q => ?_)
  cases k with
  | true => exact q G N sc y hG hN e2
  | false => exact q G N sc z hG hN e3
theorem asgn_inv {t e : T} {s : Stmt} (hc : chk G N (.asgn t e) sc (.s s) = true) : ∃ x y p, s = .Assign [x] y p ∧ noComp y = true ∧ noStar x = true ∧ chk G N t sc (.t x) = true ∧ chk G N e sc (.e y) = true := by
  obtain ⟨ts, y, p, rfl, q⟩ := onAsgn_inv (show onAsgn s (fun ts y => on1 ts fun x => noComp y && noStar x && chk G N t sc (.t x) && chk G N e sc (.e y)) = true from hc)
  obtain ⟨x, rfl, q⟩ := on1_inv q
  obtain ⟨e1, e4⟩ := and_tt q
  obtain ⟨e1, e3⟩ := and_tt e1
  obtain ⟨e1, e2⟩ := and_tt e1
  exact ⟨x, y, p, rfl, e1, e2, e3, e4⟩
theorem JS_asgn {t e : T} (ht : ∀ G N sc x y, chk G N t sc (.t x) = true → chk G N e sc (.e y) = true → ∀ env, swappedStores [x] y env = pure none)
    (h : JE c d X e ρ σ (fun v σ₁ => JA c d X t v ρ σ₁ (fun ρ' σ' => K .next ρ' σ'))) : JS c d X (.asgn t e) ρ σ K := fun G N sc s hG hN hc => by
  obtain ⟨x, y, p, rfl, e1, e2, e3, e4⟩ := asgn_inv hc
  exact WS_assign ((h G N sc y hG hN e4).mono fun v σ₁ q => q G N sc x hG hN e3) (fun env z1 => swaps_no e1 _ _ env) (ht G N sc x y e3 e4) (fun env => by rw [asg_cons e2]; rfl)
theorem stores_var {i : Nat} {e : T} : ∀ G N sc x y, chk G N (.var i) sc (.t x) = true → chk G N e sc (.e y) = true → ∀ env, swappedStores [x] y env = pure none := fun G N sc x y h z1 env => by
  obtain ⟨x, p, rfl, _⟩ := onNm_inv h; exact stores_nm env
theorem stores_item {a b e : T} : ∀ G N sc x y, chk G N (.item a b) sc (.t x) = true → chk G N e sc (.e y) = true → ∀ env, swappedStores [x] y env = pure none := fun G N sc x y h z1 env => by
  obtain ⟨v, i, p, rfl, _⟩ := onSub_inv h; exact stores_sub env
theorem stores_tupI {ts a b : T} : ∀ G N sc x y, chk G N (.tup ts) sc (.t x) = true → chk G N (.item a b) sc (.e y) = true → ∀ env, swappedStores [x] y env = pure none := fun G N sc x y h h' env => by
  obtain ⟨es, k, p, rfl, _⟩ := onTup_inv h
  obtain ⟨v, i, p, rfl, _⟩ := onSub_inv h'; exact stores_tup env
noncomputable def JLoop (c : Cx) (d : Nat) (t body : T) (K : Fl → Rho → Led → Prop) : List V → Rho → Led → Prop
  | [], ρ, σ => K .next ρ σ
  | v :: vs, ρ, σ => JA c d NoX t v ρ σ (fun ρ₁ σ₁ => JB c d NoX body ρ₁ σ₁ (fun fl ρ₂ σ₂ => match fl with
      | .next | .cont => JLoop c d t body K vs ρ₂ σ₂
      | .brk => K .next ρ₂ σ₂
      | .ret w => K (.ret w) ρ₂ σ₂))
theorem JLoop.w {t body : T} {x : Expr} {ss : List Stmt} (hG : GlobOk c.k G) (hN : NmOk N) (h1 : chk G N t sc (.t x) = true) (h2 : chk G N body sc (.b ss) = true) : ∀ (vs : List V) (ρ : Rho) (σ : Led) (m : AEnv), Sub (Nm N ρ) m → JLoop c d t body K vs ρ σ → WLoop c d sc x ss (AfterF N K) vs m σ
  | [], ρ, σ, m, hm, h => ⟨ρ, hm, h⟩
  | v :: vs, ρ, σ, m, hm, h => by
    refine WA_sub hm ((h G N sc x hG hN h1).mono fun m₁ σ₁ ⟨ρ₁, k1, k2⟩ => WSs_sub k1 ((k2 G N sc ss hG hN h2).mono fun fl m₂ σ₂ ⟨ρ₂, q1, q2⟩ => ?_))
    cases fl with
    | next => exact JLoop.w hG hN h1 h2 vs ρ₂ σ₂ m₂ q1 q2
    | cont => exact JLoop.w hG hN h1 h2 vs ρ₂ σ₂ m₂ q1 q2
    | brk => exact ⟨ρ₂, q1, q2⟩
    | ret w => exact ⟨ρ₂, q1, q2⟩
theorem JS_for {t it body : T} (h : JE c d X it ρ σ (fun lv σ₁ => ∃ vs F, (∀ b ∈ F, b ∈ owned σ₁) ∧ IterS (c.pro F) σ₁ lv vs ∧ JLoop (c.pro F) d t body K vs ρ σ₁)) : JS c d X (.for_ t it body) ρ σ K := fun G N sc s hG hN hc => by
  obtain ⟨x, y, z, o, p, rfl, q⟩ := onFor_inv (show onFor s (fun x y z o => on0 o && noSet y && chk G N t sc (.t x) && chk G N it sc (.e y) && chk G N body sc (.b z)) = true from hc)
  obtain ⟨e1, e5⟩ := and_tt q
  obtain ⟨e1, e4⟩ := and_tt e1
  obtain ⟨e1, e3⟩ := and_tt e1
  obtain ⟨e1, e2⟩ := and_tt e1
  rw [on0_inv e1]
  exact WS_for hG.hd ((h G N sc y hG hN e4).mono fun lv σ₁ ⟨vs, F, k1, k2, k3⟩ => ⟨vs, F, k1, k2, JLoop.w (c := c.pro F) hG hN e3 e5 vs ρ σ₁ _ Sub.refl' k3⟩) (fold_no e2)
theorem JLoop_foldJ {t body : T} {α β : Type} (f : α → V) (M : β → Rho) (L : β → Led) (g : β → α → β) (J : List α → β → Prop) : ∀ (rows : List α) (s : β) (ρ : Rho), RSub (M s) ρ → J rows s →
    (∀ s a rest, J (a :: rest) s → JA c d NoX t (f a) (M s) (L s) (fun ρ₁ σ₁ => JB c d NoX body ρ₁ σ₁ (fun fl ρ₂ σ₂ => match fl with
      | .next | .cont => RSub (M (g s a)) ρ₂ ∧ σ₂ = L (g s a) ∧ J rest (g s a)
      | .brk => K .next ρ₂ σ₂
      | .ret w => K (.ret w) ρ₂ σ₂))) →
    (∀ ρ, RSub (M (rows.foldl g s)) ρ → J [] (rows.foldl g s) → K .next ρ (L (rows.foldl g s))) → JLoop c d t body K (rows.map f) ρ (L s)
  | [], s, ρ, hm, hj, _, h => h ρ hm hj
  | a :: rows, s, ρ, hm, hj, hstep, h => by
    refine JA_sub hm ((hstep s a rows hj).mono fun ρ₁ σ₁ q => q.mono fun fl ρ₂ σ₂ q => ?_)
    cases fl with
    | next => obtain ⟨q1, q2, q3⟩ := q; rw [q2]; exact JLoop_foldJ f M L g J rows _ ρ₂ q1 q3 hstep h
    | cont => obtain ⟨q1, q2, q3⟩ := q; rw [q2]; exact JLoop_foldJ f M L g J rows _ ρ₂ q1 q3 hstep h
    | brk => exact q
    | ret w => exact q
noncomputable def dictO (a : T) : O := if a.ctorIdx = 0 then .dictI [] else .dictS []
theorem JE_dict {a b : T} (h : ∀ r, r ∉ owned σ → r ∉ c.F → P (.ref r) ((r, dictO a) :: σ)) : JE c d X (.dict a b) ρ σ P := fun G N sc e hG hN hc => by
  obtain ⟨ks, vs, p, rfl, q⟩ := onDict_inv (show onDict e (fun ks vs => on0 ks && on0 vs) = true from hc)
  obtain ⟨e1, e2⟩ := and_tt q
  rw [on0_inv e1, on0_inv e2]
  by_cases z : a.ctorIdx = 0
  · rw [show dictO a = .dictI [] from if_pos z] at h
    exact WE_dict0 hG.ok DK.int h
  · rw [show dictO a = .dictS [] from if_neg z] at h
    exact WE_dict0 hG.ok DK.str h
noncomputable def JK (K : Fl → Rho → Led → Prop) (N : Rho → Led → Prop) : Fl → Rho → Led → Prop
  | .next, ρ, σ => N ρ σ
  | .cont, ρ, σ => N ρ σ
  | .brk, ρ, σ => K .next ρ σ
  | .ret w, ρ, σ => K (.ret w) ρ σ
noncomputable def JIf (c : Cx) (d : Nat) (hc : Bool) (cond : T) (ρ : Rho) (σ : Led) (P : Bool → Led → Prop) : Prop := match hc with
  | false => P true σ
  | true => JT c d NoX cond ρ σ P
noncomputable def vix (t : T) : Nat := if h : t.ctorIdx = T.ctorIdx (.var 0) then T.var.elim (motive := fun z1 => Nat) t h id else 0
noncomputable def JComp (c : Cx) (d : Nat) (t : T) (hc : Bool) (cond elt : T) (ρ : Rho) (Kf : List V → Led → Prop) : List V → List V → Led → Prop
  | [], acc, σ => Kf acc σ
  | v :: vs, acc, σ => JIf c d hc cond ((vix t, v) :: ρ) σ (fun b σ₁ => if b = true then JE c d NoX elt ((vix t, v) :: ρ) σ₁ (fun w σ₂ => JComp c d t hc cond elt ρ Kf vs (acc ++ [w]) σ₂) else JComp c d t hc cond elt ρ Kf vs acc σ₁)
theorem JIf.w {hb : Bool} {cond : T} {ifs : List Expr} {P P' : Bool → Led → Prop} (hG : GlobOk c.k G) (hN : NmOk N) (hc : lc hb ifs (fun q => chk G N cond sc (.q q)) = true) (h : JIf c d hb cond ρ σ P) (k : ∀ b σ', P b σ' → P' b σ') : WIfs c d sc ifs (Nm N ρ) σ P' := by
  cases hb with
  | false => rw [on0_inv (show on0 ifs = true from hc)]; exact k _ _ h
  | true =>
    obtain ⟨e, rfl, q⟩ := on1_inv hc
    exact WT.mono (h G N sc e hG hN q) k
theorem JComp.w {hb : Bool} {i : Nat} {cond elt : T} {Kf Kf' : List V → Led → Prop} {x : Str} {elt' : Expr} {ifs : List Expr} (hG : GlobOk c.k G) (hN : NmOk N) (h1 : N[i]? = some x) (h2 : chk G N elt sc (.e elt') = true) (h3 : lc hb ifs (fun q => chk G N cond sc (.q q)) = true) (hk : ∀ ws σ', Kf ws σ' → Kf' ws σ') :
    ∀ (vs acc : List V) (σ : Led), JComp c d (.var i) hb cond elt ρ Kf vs acc σ → WComp c d sc x ifs elt' (Nm N ρ) Kf' vs acc σ
  | [], acc, σ, h => hk _ _ h
  | v :: vs, acc, σ, h => by
    have h' : JIf c d hb cond ((i, v) :: ρ) σ _ := h
    show WIfs c d sc ifs ((x, v) :: Nm N ρ) σ _
    rw [← nm_cons h1]
    refine h'.w hG hN h3 fun b σ₁ q => ?_
    cases b with
    | true => exact (q G N sc elt' hG hN h2).mono fun w σ₂ q => JComp.w hG hN h1 h2 h3 hk vs _ σ₂ q
    | false => exact JComp.w hG hN h1 h2 h3 hk vs acc σ₁ q
inductive CompIs (N : List Str) (sc : Scope) (f : Expr → Expr → List Expr → Scope → Bool) : T → Expr → Prop
  | mk {i : Nat} {elt' it' : Expr} {ifs : List Expr} {scope : Scope} {x : Str} {px p : Pos} : compOk scope sc x = true → noSet it' = true → N[i]? = some x → f elt' it' ifs (relabelS scope sc) = true → CompIs N sc f (.var i) (.ListComp elt' [⟨.Name x px, it', ifs, 0⟩] scope p)
theorem comp_inv {f : Expr → Expr → List Expr → Scope → Bool} {t : T} {e : Expr} (hc : isComp e sc t N f = true) : CompIs N sc f t e := by
  obtain ⟨elt', gs, scope, p, rfl, q⟩ := onComp_inv hc
  clear hc
  obtain ⟨g, rfl, q⟩ := on1_inv q
  obtain ⟨e1, q⟩ := and_tt q
  obtain ⟨t', it', ifs, z⟩ := g
  have := eq_of_beq e1
  dsimp only at this
  subst this
  clear e1
  obtain ⟨x, px, rfl, q⟩ := onNmp_inv q
  obtain ⟨i, rfl, q⟩ := onVar_inv q
  obtain ⟨q, e4⟩ := and_tt q
  obtain ⟨q, e3⟩ := and_tt q
  obtain ⟨e1, e2⟩ := and_tt q
  exact .mk e2 e3 (eq_of_beq e1) e4
noncomputable def compF (G : Glob) (N : List Str) (sc : Scope) (hb : Bool) (cond elt it : T) : Expr → Expr → List Expr → Scope → Bool := fun e it' ifs sc' => chk G N it sc (.e it') && chk G N elt sc' (.e e) && lc hb ifs (fun q => chk G N cond sc' (.q q))
theorem comp_w {hb : Bool} {i : Nat} {cond elt : T} {Kf Kf' : List V → Led → Prop} {x : Str} {elt' : Expr} {ifs : List Expr} {lv : V} (hG : GlobOk c.k G) (hN : NmOk N) (h1 : N[i]? = some x) (h2 : chk G N elt sc (.e elt') = true) (h3 : lc hb ifs (fun q => chk G N cond sc (.q q)) = true) (hk : ∀ ws σ', Kf ws σ' → Kf' ws σ')
    (k : ∃ vs F, (∀ b ∈ F, b ∈ owned σ) ∧ IterS (c.pro F) σ lv vs ∧ ∀ D, JComp ((c.pro F).hide D) d (.var i) hb cond elt ρ Kf vs [] σ) : ∃ vs F, (∀ b ∈ F, b ∈ owned σ) ∧ IterS (c.pro F) σ lv vs ∧ ∀ D, WComp ((c.pro F).hide D) d sc x ifs elt' (Nm N ρ) Kf' vs [] σ :=
  k.elim fun vs k => k.elim fun F k => ⟨vs, F, k.1, k.2.1, fun D => JComp.w (c := (c.pro F).hide D) hG hN h1 h2 h3 hk vs [] σ (k.2.2 D)⟩
theorem JE_comp {loc hb : Bool} {t cond elt it : T} (h : JE c d X it ρ σ (fun lv σ₁ => ∃ vs F, (∀ b ∈ F, b ∈ owned σ₁) ∧ IterS (c.pro F) σ₁ lv vs ∧ ∀ D, JComp ((c.pro F).hide D) d t hb cond elt ρ (Made c.F loc P) vs [] σ₁)) : JE c d X (.comp loc hb elt t it cond) ρ σ P := fun G N sc e hG hN hc => by
  cases comp_inv (f := compF G N sc hb cond elt it) hc with
  | mk ok set nm q => exact WE_comp_made hG.hd (loc := loc) ok (nm_dot hN) ((h G N sc _ hG hN (and_tt (and_tt q).1).1).mono fun z1 z2 k => comp_w hG hN nm (and_tt (and_tt q).1).2 (and_tt q).2 (fun z1 z2 q => q) k) (fold_no set)
inductive AsgnCIs (sc : Scope) (x : Str) (f : Expr → Bool) : Stmt → Prop
  | mk {px p : Pos} {y : Expr} : isLoc sc x = true → (onComp y fun z1 z2 scope pos => !(sc.names.lookup x == some .local) || (px.line == pos.line && !(scope.names.any fun (n, k) => n == x && (k == .local || k == .cell)))) = true → f y = true → AsgnCIs sc x f (.Assign [.Name x px] y p)
theorem asgnC_inv {s : Stmt} {x : Str} {f : Expr → Bool} (q : isAsgnC s sc x f = true) : AsgnCIs sc x f s := by
  obtain ⟨ts, y, p, rfl, q⟩ := onAsgn_inv q
  obtain ⟨tg, rfl, q⟩ := on1_inv q
  obtain ⟨z, px, rfl, q⟩ := onNmp_inv q
  obtain ⟨e1, e8⟩ := and_tt q
  obtain ⟨e1, e3⟩ := and_tt e1
  obtain ⟨e1, e2⟩ := and_tt e1
  have := eq_of_beq e1; subst this
  exact .mk e2 e3 e8
theorem or_of {a b : Bool} (h : (!a || b) = true) (ha : a = true) : b = true := by rw [ha] at h; exact h
theorem made_after {i : Nat} {z : Str} {F : List Addr} {loc : Bool} {ws : List V} (hx : N[i]? = some z) (q : Made F loc (fun v σ' => K .next ((i, v) :: ρ) σ') ws σ) : Made F loc (fun v σ' => AfterF N K .next ((z, v) :: Nm N ρ) σ') ws σ := by
  cases loc with
  | true => exact fun a h1 h2 => ⟨_, by rw [nm_cons hx]; exact Sub.refl', q a h1 h2⟩
  | false => exact ⟨_, by rw [nm_cons hx]; exact Sub.refl', q⟩
theorem JS_asgnC {i : Nat} {loc hb : Bool} {t cond elt it : T} (h : JE c d X it ρ σ (fun lv σ₁ => ∃ vs F, (∀ b ∈ F, b ∈ owned σ₁) ∧ IterS (c.pro F) σ₁ lv vs ∧ ∀ D, JComp ((c.pro F).hide D) d t hb cond elt ρ (Made c.F loc fun v σ' => K .next ((i, v) :: ρ) σ') vs [] σ₁)) :
    JS c d X (.asgnC i loc hb elt t it cond) ρ σ K := fun G N sc s hG hN hc => by
  obtain ⟨x, hx, q⟩ := onSome_inv (show onSome N[i]? _ = true from hc)
  cases asgnC_inv q with
  | mk e2 e3 e8 => cases comp_inv (f := compF G N sc hb cond elt it) e8 with
  | mk ok set nm w =>
    have hW := (h G N sc _ hG hN (and_tt (and_tt w).1).1).mono fun z1 z2 k => comp_w hG hN nm (and_tt (and_tt w).1).2 (and_tt w).2 (fun z1 z2 q => made_after hx q) k
    cases hl : (sc.names.lookup x == some .local) with
    | true => exact WS_assign_comp_made hG.hd ok (nm_dot hN) (by rw [hl, Bool.true_and]; exact or_of e3 hl) e2 hW (fold_no set)
    | false => exact WS_assign ((WE_comp_made hG.hd ok (nm_dot hN) hW (fold_no set)).mono fun v σ₁ q => WA_name q e2) (swaps_cell hl) (fun env => stores_nm env) (fun z1 => rfl)
theorem raise_inv {s : Stmt} {f : Expr → Bool} (h : (onRaise s fun o c => c.isNone && onSome o f) = true) : ∃ e p, s = .Raise (some e) none p ∧ f e = true := by
  obtain ⟨o, cz, p, rfl, q⟩ := onRaise_inv h
  obtain ⟨e, rfl, k2⟩ := onSome_inv (and_tt q).2
  rw [Option.isNone_iff_eq_none.mp (and_tt q).1]
  exact ⟨e, p, rfl, k2⟩
theorem JS_raise {x : Str} {es : T} {C : Addr} {bm : List Value} (hx : Exc c.k x C bm) (h : JL c d X es ρ σ (fun z1 σ₁ => X (.ref C) σ₁)) : JS c d X (.raise x es) ρ σ K := fun G N sc s hG hN hc => by
  obtain ⟨e, p, rfl, k2⟩ := raise_inv (f := fun e => isCall e (fun y xs => y == x && gi sc x && decide (xs.length ≤ 1000) && chk G N es sc (.l xs))) hc
  obtain ⟨y, q, xs, p', rfl, w⟩ := isCall_inv k2
  obtain ⟨w, w3, w4⟩ := and3_tt w
  rw [eq_of_beq (and_tt w).1]
  exact WS_raise hG.ok hG.hd hx (gi_of (and_tt w).2) (of_decide_eq_true w3) (h G N sc xs hG hN w4)
noncomputable def JH (c : Cx) (d : Nat) (hs : T) (C : Addr) (σ0 σ : Led) (K : Fl → Rho → Led → Prop) (X : XP) : Prop :=
  ∀ G N sc ts, GlobOk c.k G → NmOk N → chk G N hs sc (.hl ts) = true → WH c d sc ts C σ0 σ (AfterF N K) X
noncomputable def JTry (c : Cx) (d : Nat) (X : XP) (body hs : T) (ρ : Rho) (σ : Led) (K : Fl → Rho → Led → Prop) : Prop :=
  ∃ X' : XP, JB c d X' body ρ σ K ∧ ∀ cls σ', X' cls σ' → ∃ C, cls = .ref C ∧ NoExc σ' ∧ JH c d hs C σ σ' K X
theorem JS_try {body h₀ hs : T} (h : JTry c d X body (.cons h₀ hs) ρ σ K) : JS c d X (.try_ body (.cons h₀ hs)) ρ σ K := fun G N sc s hG hN hc => by
  obtain ⟨b, ts, o, z, p, rfl, q⟩ := onTry_inv (show onTry s _ = true from hc)
  obtain ⟨q, q4⟩ := and_tt q
  obtain ⟨q, q3⟩ := and_tt q
  obtain ⟨q1, q2⟩ := and_tt q
  rw [on0_inv q1, on0_inv q2]
  obtain ⟨X', hb, hh⟩ := h
  obtain ⟨t, ts', rfl, _⟩ := onCons_inv (show onCons ts _ = true from q4)
  refine WS_try X' (hb G N sc b hG hN q3) fun cls σ' hx => ?_
  obtain ⟨C, e, hp, hw⟩ := hh cls σ' hx
  exact ⟨C, e, hp, hw G N sc _ hG hN q4⟩
end Mine
end
section
set_option genSizeOf false
set_option genInjectivity false
namespace Mine
open PySem
inductive Leaf (p : Prop) : Prop
  | mk : p → Leaf p
inductive Side (q p : Prop) : Prop
  | mk : q → p → Side q p
theorem Leaf.out {p : Prop} : Leaf p → p
  | .mk h => h
noncomputable def Br (b : Bool) (A B : Prop) : Prop := match b with
  | true => A
  | false => B
theorem br_intro {b : Bool} {A B : Prop} (h1 : b = true → A) (h2 : b = false → B) : Br b A B := by
  cases b with
  | true => exact h1 rfl
  | false => exact h2 rfl
theorem brs : (∀ (p : Prop) [Decidable p], (decide p = true) = p) ∧ (∀ (p : Prop) [Decidable p], (decide p = false) = ¬ p) ∧ (∀ {α : Type} [BEq α] [LawfulBEq α] (a b : α), ((a == b) = true) = (a = b)) ∧
    (∀ {α : Type} [BEq α] [LawfulBEq α] (a b : α), ((a == b) = false) = ¬ a = b) ∧ (∀ {α : Type} [BEq α] [LawfulBEq α] (a b : α), ((a != b) = true) = ¬ a = b) ∧
    (∀ b : Bool, ((!b) = true) = (b = false)) ∧ (∀ b : Bool, ((!b) = false) = (b = true)) ∧ (∀ {α β : Type} (l : List α) (f : α → β), (l.map f).length = l.length) :=
  ⟨fun p => decide_eq_true_eq, fun p => propext decide_eq_false_iff_not, fun a b => propext beq_iff_eq, fun a b => propext beq_eq_false_iff_ne, fun a b => propext bne_iff_ne, fun b => Bool.not_eq_true' b, fun b => Bool.not_eq_false' b, fun l f => List.length_map f⟩
theorem br_t {A B : Prop} (h : A) : Br true A B := h
theorem br_f {A B : Prop} (h : B) : Br false A B := h
section
variable (c : Cx) (d : Nat) (X : XP)
noncomputable def intC (op : CmpOp) (k : Int → Int → Prop) (a b : V) (σ : Led) (P : V → Led → Prop) : Prop := match a with
  | .int x => (match b with
    | .int y => k x y
    | b => Leaf (Op2 c d (compareOp op) a b σ P))
  | a => Leaf (Op2 c d (compareOp op) a b σ P)
noncomputable def eqC (op : CmpOp) (k₁ : Int → Int → Prop) (k₂ : Str → Str → Prop) (k₃ : Bool → Bool → Prop) (a b : V) (σ : Led) (P : V → Led → Prop) : Prop := match a with
  | .int x => (match b with
    | .int y => k₁ x y
    | b => Leaf (Op2 c d (compareOp op) a b σ P))
  | .str x => (match b with
    | .str y => k₂ x y
    | b => Leaf (Op2 c d (compareOp op) a b σ P))
  | .bool x => (match b with
    | .bool y => k₃ x y
    | b => Leaf (Op2 c d (compareOp op) a b σ P))
  | a => Leaf (Op2 c d (compareOp op) a b σ P)
noncomputable def inC (op : CmpOp) (k : Str → Str → Prop) (a b : V) (σ : Led) (P : V → Led → Prop) : Prop := match a with
  | .str y => (match b with
    | .str x => k x y
    | b => Leaf (Op2 c d (compareOp op) a b σ P))
  | a => Leaf (Op2 c d (compareOp op) a b σ P)
noncomputable def opC (op : CmpOp) (a b : V) (σ : Led) (P : V → Led → Prop) : Prop := match op with
  | .Eq => eqC c d .Eq (fun x y => P (.bool (x == y)) σ) (fun x y => P (.bool (x == y)) σ) (fun x y => P (.bool (x == y)) σ) a b σ P
  | .NotEq => eqC c d .NotEq (fun x y => P (.bool (x != y)) σ) (fun x y => P (.bool (x != y)) σ) (fun x y => P (.bool (x != y)) σ) a b σ P
  | .Lt => intC c d .Lt (fun x y => P (.bool (decide (x < y))) σ) a b σ P
  | .LtE => intC c d .LtE (fun x y => P (.bool (decide (x ≤ y))) σ) a b σ P
  | .Gt => intC c d .Gt (fun x y => P (.bool (decide (y < x))) σ) a b σ P
  | .GtE => intC c d .GtE (fun x y => P (.bool (decide (y ≤ x))) σ) a b σ P
  | .In => inC c d .In (fun x y => P (.bool (Txt.contains x y)) σ) a b σ P
  | .NotIn => inC c d .NotIn (fun x y => P (.bool (!Txt.contains x y)) σ) a b σ P
  | op => Leaf (Op2 c d (compareOp op) a b σ P)
noncomputable def intB (op : Operator) (f : Int → Int → Prop) (a b : V) (σ : Led) (P : V → Led → Prop) : Prop := match a with
  | .int x => (match b with
    | .int y => f x y
    | b => Leaf (Op2 c d (binaryOp op) a b σ P))
  | a => Leaf (Op2 c d (binaryOp op) a b σ P)
noncomputable def small (x : Int) : Bool := decide (-9223372036854775808 < x) && decide (x < 9223372036854775808)
noncomputable def opB (op : Operator) (a b : V) (σ : Led) (P : V → Led → Prop) : Prop := match op with
  | .Add => intB c d .Add (fun x y => P (.int (x + y)) σ) a b σ P
  | .Sub => intB c d .Sub (fun x y => P (.int (x - y)) σ) a b σ P
  | .Mult => intB c d .Mult (fun x y => Side (IntMulOk x y) (P (.int (x * y)) σ)) a b σ P
  | .Mod => intB c d .Mod (fun x y => Side (0 < y) (P (.int (x % y)) σ)) a b σ P
  | .FloorDiv => intB c d .FloorDiv (fun x y => Side (0 < y ∧ y < 9223372036854775808) (P (.int (x / y)) σ)) a b σ P
  | op => Leaf (Op2 c d (binaryOp op) a b σ P)
noncomputable def opBk (op : Operator) (a : V) (k : Int) (σ : Led) (P : V → Led → Prop) : Prop := match op with
  | .Mult => intB c d .Mult (fun x y => Br (small k) (P (.int (x * k)) σ) (Side (IntMulOk x k) (P (.int (x * k)) σ))) a (.int k) σ P
  | .Mod => intB c d .Mod (fun x y => Br (decide (0 < k)) (P (.int (x % k)) σ) (Side (0 < k) (P (.int (x % k)) σ))) a (.int k) σ P
  | .FloorDiv => intB c d .FloorDiv (fun x y => Br (decide (0 < k) && decide (k < 9223372036854775808)) (P (.int (x / k)) σ) (Side (0 < k ∧ k < 9223372036854775808) (P (.int (x / k)) σ))) a (.int k) σ P
  | .Pow => intB c d .Pow (fun x y => Br (k == 12 && x == 10) (P (.int 1000000000000) σ) (Leaf (Op2 c d (binaryOp .Pow) (.int x) (.int k) σ P))) a (.int k) σ P
  | op => opB c d op a (.int k) σ P
noncomputable def opU (op : UnaryOp) (a : V) (σ : Led) (P : V → Led → Prop) : Prop := match op with
  | .USub => (match a with
    | .int x => P (.int (-x)) σ
    | a => Leaf (Op1 c d (unaryOp .USub) a σ P))
  | .Not => (match a with
    | .bool b => P (.bool (!b)) σ
    | a => Leaf (Op1 c d (unaryOp .Not) a σ P))
  | op => Leaf (Op1 c d (unaryOp op) a σ P)
noncomputable def asB (v : V) (σ : Led) (P : Bool → Led → Prop) : Prop := match v with
  | .bool b => P b σ
  | v => Leaf (∃ b, v = .bool b ∧ P b σ)
noncomputable def asI (v : V) (σ : Led) (P : Option Int → Led → Prop) : Prop := match v with
  | .int i => P (some i) σ
  | v => Leaf (∃ i, v = .int i ∧ P (some i) σ)
noncomputable def kindV : V → Option Bf
  | .bool _ => some .bool
  | .int _ => some .int
  | .str _ => some .str
  | .tup _ => some .tuple
  | .lst _ => some .list
  | _ => Option.none
noncomputable def isiB : Bf → Bf → Option Bool
  | .bool, .bool => some true
  | .bool, .int => some true
  | .bool, .str => some false
  | .bool, .tuple => some false
  | .bool, .list => some false
  | .int, .int => some true
  | .int, .bool => some false
  | .int, .str => some false
  | .int, .tuple => some false
  | .int, .list => some false
  | .str, .str => some true
  | .str, .int => some false
  | .str, .bool => some false
  | .str, .tuple => some false
  | .str, .list => some false
  | .tuple, .tuple => some true
  | .tuple, .int => some false
  | .tuple, .bool => some false
  | .tuple, .str => some false
  | .tuple, .list => some false
  | .list, .list => some true
  | .list, .int => some false
  | .list, .bool => some false
  | .list, .str => some false
  | .list, .tuple => some false
  | _, _ => Option.none
noncomputable def opI (f : Bf) (v : V) (σ : Led) (P : V → Led → Prop) : Prop := match kindV v with
  | some k => (match isiB k f with
    | some b => P (.bool b) σ
    | Option.none => Leaf (CallS c d (.builtin "isinstance") [v, .raw f.val] σ P X))
  | Option.none => Leaf (CallS c d (.builtin "isinstance") [v, .raw f.val] σ P X)
noncomputable def opLen (v : V) (σ : Led) (P : V → Led → Prop) : Prop := match v with
  | .lst vs => Leaf (∃ n : Nat, vs.length = n ∧ P (.int n) σ)
  | .tup vs => P (.int vs.length) σ
  | .str x => Side (x.length ≤ 1000000) (P (.int x.length) σ)
  | v => Leaf (CallS c d (.builtin "len") [v] σ P X)
noncomputable def one (vs : List V) (f : V → Prop) (D : Prop) : Prop := match vs with
  | [v] => f v
  | _ => D
noncomputable def two (vs : List V) (f : V → V → Prop) (D : Prop) : Prop := match vs with
  | [a, b] => f a b
  | _ => D
noncomputable def anInt (a : V) (f : Int → Prop) (D : Prop) : Prop := match a with
  | .int x => f x
  | _ => D
noncomputable def aLst (a : V) (f : List V → Prop) (D : Prop) : Prop := match a with
  | .lst x => f x
  | _ => D
noncomputable def opF (f : Bf) (vs : List V) (σ : Led) (P : V → Led → Prop) : Prop := match f with
  | .len => one vs (fun v => opLen c d X v σ P) (Leaf (CallS c d f.val vs σ P X))
  | .max => two vs (fun a b => anInt a (fun x => anInt b (fun y => P (.int (max x y)) σ) (Leaf (CallS c d f.val vs σ P X))) (Leaf (CallS c d f.val vs σ P X))) (Leaf (CallS c d f.val vs σ P X))
  | .min => two vs (fun a b => anInt a (fun x => anInt b (fun y => P (.int (min x y)) σ) (Leaf (CallS c d f.val vs σ P X))) (Leaf (CallS c d f.val vs σ P X))) (Leaf (CallS c d f.val vs σ P X))
  | .range => one vs (fun a => anInt a (fun x => P (.rng 0 x) σ) (Leaf (CallS c d f.val vs σ P X)))
      (two vs (fun a b => anInt a (fun x => anInt b (fun y => P (.rng x y) σ) (Leaf (CallS c d f.val vs σ P X))) (Leaf (CallS c d f.val vs σ P X))) (Leaf (CallS c d f.val vs σ P X)))
  | .list => one vs (fun a => aLst a (fun ws => P (.lst ws) σ) (Leaf (CallS c d f.val vs σ P X))) (Leaf (CallS c d f.val vs σ P X))
  | .sum => one vs (fun a => aLst a (fun ws => Leaf (∃ ys : List Int, ws = ys.map .int ∧ P (.int ys.sum) σ)) (Leaf (CallS c d f.val vs σ P X))) (Leaf (CallS c d f.val vs σ P X))
  | .all => one vs (fun a => aLst a (fun ws => Leaf (∃ bs : List Bool, ws = bs.map .bool ∧ P (.bool (bs.all id)) σ)) (Leaf (CallS c d f.val vs σ P X))) (Leaf (CallS c d f.val vs σ P X))
  | f => Leaf (CallS c d f.val vs σ P X)
noncomputable def opK (v : V) (k : Int) (σ : Led) (P : V → Led → Prop) : Prop := match v with
  | .tup vs => Br (decide (0 ≤ k)) (match vs[k.toNat]? with
    | some w => P w σ
    | Option.none => False) (Leaf (Item c d v (.int k) σ P))
  | v => Leaf (Item c d v (.int k) σ P)
noncomputable def opS (v : V) (l u : Option Int) (σ : Led) (P : V → Led → Prop) : Prop := match v with
  | .lst vs => P (.lst (slice l u vs)) σ
  | .str x => Side (x.length ≤ sizeLine) (P (.str (strSlice l u x)) σ)
  | v => Leaf (∃ w, SliceOf σ l u v w ∧ P w σ)
end
noncomputable abbrev EX := T → Rho → Led → (V → Led → Prop) → Prop
noncomputable def exL (E : EX) (ρ : Rho) : T → Led → (List V → Led → Prop) → Prop
  | .nil, σ, P => P [] σ
  | .cons a r, σ, P => E a ρ σ (fun v σ₁ => exL E ρ r σ₁ (fun vs σ₂ => P (v :: vs) σ₂))
  | _, _, _ => False
noncomputable def onC {α : Sort _} (t : T) (f : T → T → α) (z : α) : α := if h : t.ctorIdx = 1 then T.cons.elim (motive := fun z1 => α) t h f else z
set_option tactic.hygienic true
theorem onC_inv {t : T} {f : T → T → Bool} (h : onC t f false = true) : ∃ a r, t = .cons a r ∧ f a r = true := by
  unfold onC at h
  split at h
  · rename_i q; revert h; exact T.cons.elim (motive := fun t => ∀ h : t.ctorIdx = 1, T.cons.elim (motive := fun z1 => Bool) t h f = true → ∃ a r, t = .cons a r ∧ f a r = true) t q (fun a r z1 hk => ⟨a, r, rfl, hk⟩) q
  · cases h
noncomputable def exBo (E : EX) (ρ : Rho) (op : BoolOp) : T → Led → (V → Led → Prop) → Prop
  | .cons a r, σ, P => (match r.ctorIdx with
    | 0 => E a ρ σ P
    | _ + 1 => onC r (fun z1 z2 => E a ρ σ (fun v σ₁ => asB v σ₁ (fun b σ₂ => match op with
      | .And => Br b (exBo E ρ op r σ₂ P) (P (.bool false) σ₂)
      | .Or => Br b (P (.bool true) σ₂) (exBo E ρ op r σ₂ P)))) False)
  | _, _, _ => False
noncomputable def exTs (B : T → Rho → Led → (Bool → Led → Prop) → Prop) (ρ : Rho) (op : BoolOp) : T → Led → (Bool → Led → Prop) → Prop
  | .nil, σ, P => (match op with
    | .And => P true σ
    | .Or => P false σ)
  | .cons a r, σ, P => B a ρ σ (fun b σ₁ => match op with
    | .And => Br b (exTs B ρ op r σ₁ P) (P false σ₁)
    | .Or => Br b (P true σ₁) (exTs B ρ op r σ₁ P))
  | _, _, _ => False
noncomputable def exO (E : EX) (ρ : Rho) : T → Led → (Option Int → Led → Prop) → Prop
  | .nil, σ, P => P Option.none σ
  | .int i, σ, P => P (some i) σ
  | .var i, σ, P => E (.var i) ρ σ (fun v σ₁ => asI v σ₁ P)
  | .bin o a b, σ, P => E (.bin o a b) ρ σ (fun v σ₁ => asI v σ₁ P)
  | .un o a, σ, P => E (.un o a) ρ σ (fun v σ₁ => asI v σ₁ P)
  | .call f a, σ, P => E (.call f a) ρ σ (fun v σ₁ => asI v σ₁ P)
  | .blt f a, σ, P => E (.blt f a) ρ σ (fun v σ₁ => asI v σ₁ P)
  | _, _, _ => False
structure Exs where
  E : Cx → XP → EX
  B : Cx → XP → T → Rho → Led → (Bool → Led → Prop) → Prop
  A : Cx → XP → T → V → Rho → Led → (Rho → Led → Prop) → Prop
  S : Cx → XP → T → Rho → Led → (Fl → Rho → Led → Prop) → Prop
noncomputable def stepE (d : Nat) (x : Exs) (c : Cx) (X : XP) (t : T) (ρ : Rho) (σ : Led) (P : V → Led → Prop) : Prop := match t with
  | .int i => P (.int i) σ
  | .str y => P (.str y) σ
  | .bool b => P (.bool b) σ
  | .none => P .none σ
  | .var i => (match ρ.lookup i with
    | some v => P v σ
    | Option.none => False)
  | .bin op a b => (match b with
    | .int k => x.E c X a ρ σ (fun u σ₁ => opBk c d op u k σ₁ P)
    | b => x.E c X a ρ σ (fun u σ₁ => x.E c X b ρ σ₁ (fun v σ₂ => opB c d op u v σ₂ P)))
  | .un op a => x.E c X a ρ σ (fun u σ₁ => opU c d op u σ₁ P)
  | .cmp op a b => x.E c X a ρ σ (fun u σ₁ => x.E c X b ρ σ₁ (fun v σ₂ => opC c d op u v σ₂ P))
  | .cmp2 a o₁ b o₂ b' => x.E c X a ρ σ (fun u σ₁ => x.E c X b ρ σ₁ (fun v σ₂ => opC c d o₁ u v σ₂ (fun w σ₃ => asB w σ₃ (fun t σ₄ => Br t (x.E c X b' ρ σ₄ (fun v' σ₅ => opC c d o₂ v v' σ₅ P)) (P (.bool false) σ₄)))))
  | .bo op es => exBo (x.E c X) ρ op es σ P
  | .ife t a b => x.B c X t ρ σ (fun k σ₁ => Br k (x.E c X a ρ σ₁ P) (x.E c X b ρ σ₁ P))
  | .tup es => exL (x.E c X) ρ es σ (fun vs σ₁ => P (.tup vs) σ₁)
  | .lst loc es => exL (x.E c X) ρ es σ (fun vs σ₁ => match loc with
    | false => P (.lst vs) σ₁
    | true => Leaf (∀ a, a ∉ owned σ₁ → a ∉ c.F → P (.ref a) ((a, .list vs) :: σ₁)))
  | .call f es => exL (x.E c X) ρ es σ (fun vs σ₁ => Leaf (CallN c d f vs σ₁ P X))
  | .blt f es => exL (x.E c X) ρ es σ (fun vs σ₁ => opF c d X f vs σ₁ P)
  | .isi a f => x.E c X a ρ σ (fun v σ₁ => opI c d X f v σ₁ P)
  | .meth o y es => x.E c X o ρ σ (fun ov σ₁ => Leaf (∃ T id, Meth c σ₁ ov y T id ∧ JL c d X es ρ σ₁ (fun vs σ₂ => CallS c d (.builtin id) (ov :: vs) σ₂ P X)))
  | .item a b => (match b with
    | .int k => x.E c X a ρ σ (fun u σ₁ => opK c d u k σ₁ P)
    | b => x.E c X a ρ σ (fun u σ₁ => x.E c X b ρ σ₁ (fun v σ₂ => Leaf (Item c d u v σ₂ P))))
  | .slice a lo hi => x.E c X a ρ σ (fun v σ₁ => exO (x.E c X) ρ lo σ₁ (fun l σ₂ => exO (x.E c X) ρ hi σ₂ (fun u σ₃ => opS v l u σ₃ P)))
  | .dict a _ => Leaf (∀ r, r ∉ owned σ → r ∉ c.F → P (.ref r) ((r, dictO a) :: σ))
  | .cut q => Leaf (∃ v, (∀ Q : V → Led → Prop, Q v σ → JE c d X q ρ σ Q) ∧ P v σ)
  | .comp loc hb elt t it cond => x.E c X it ρ σ (fun lv σ₁ => Leaf (∃ vs F, (∀ b ∈ F, b ∈ owned σ₁) ∧ IterS (c.pro F) σ₁ lv vs ∧ ∀ D, JComp ((c.pro F).hide D) d t hb cond elt ρ (Made c.F loc P) vs [] σ₁))
  | _ => False
noncomputable def stepB (d : Nat) (x : Exs) (c : Cx) (X : XP) (t : T) (ρ : Rho) (σ : Led) (P : Bool → Led → Prop) : Prop := match t with
  | .un .Not a => x.B c X a ρ σ (fun b σ₁ => P (!b) σ₁)
  | .bo op es => exTs (x.B c X) ρ op es σ P
  | .cmp op a b => x.E c X a ρ σ (fun u σ₁ => x.E c X b ρ σ₁ (fun v σ₂ => opC c d op u v σ₂ (fun w σ₃ => asB w σ₃ P)))
  | .cmp2 a o₁ b o₂ b' => x.E c X a ρ σ (fun u σ₁ => x.E c X b ρ σ₁ (fun v σ₂ => opC c d o₁ u v σ₂ (fun w σ₃ => asB w σ₃ (fun t σ₄ => Br t (x.E c X b' ρ σ₄ (fun v' σ₅ => opC c d o₂ v v' σ₅ (fun w σ₆ => asB w σ₆ P))) (P false σ₄)))))
  | .var i => x.E c X (.var i) ρ σ (fun v σ₁ => asB v σ₁ P)
  | .cut q => Leaf (∃ b, (∀ Q : Bool → Led → Prop, Q b σ → JT c d X q ρ σ Q) ∧ P b σ)
  | .call f a => x.E c X (.call f a) ρ σ (fun v σ₁ => asB v σ₁ P)
  | .blt f a => x.E c X (.blt f a) ρ σ (fun v σ₁ => asB v σ₁ P)
  | .isi a f => x.E c X (.isi a f) ρ σ (fun v σ₁ => asB v σ₁ P)
  | .meth o y a => x.E c X (.meth o y a) ρ σ (fun v σ₁ => asB v σ₁ P)
  | .item a b => x.E c X (.item a b) ρ σ (fun v σ₁ => asB v σ₁ P)
  | _ => False
noncomputable def tlen : List V → T → Bool
  | [], t => t.ctorIdx == 0
  | _ :: vs, t => onC t (fun z1 r => tlen vs r) false
noncomputable def exAs (A : T → V → Rho → Led → (Rho → Led → Prop) → Prop) : List V → T → Rho → Led → (Rho → Led → Prop) → Prop
  | [], _, ρ, σ, K => K ρ σ
  | v :: vs, t, ρ, σ, K => onC t (fun a r => A a v ρ σ (fun ρ₁ σ₁ => exAs A vs r ρ₁ σ₁ K)) False
noncomputable def stepA (d : Nat) (x : Exs) (c : Cx) (X : XP) (t : T) (v : V) (ρ : Rho) (σ : Led) (K : Rho → Led → Prop) : Prop := match t with
  | .var i => K ((i, v) :: ρ) σ
  | .tup ts => (match v with
    | .tup vs => Br (tlen vs ts) (exAs (x.A c X) vs ts ρ σ K) False
    | _ => False)
  | .item a b => x.E c X a ρ σ (fun ov σ₁ => x.E c X b ρ σ₁ (fun iv σ₂ => Leaf (SetIt c d ov iv v σ₂ (fun σ₃ => K ρ σ₃))))
  | _ => False
noncomputable def stepS (d : Nat) (x : Exs) (c : Cx) (X : XP) (s : T) (ρ : Rho) (σ : Led) (K : Fl → Rho → Led → Prop) : Prop := match s with
  | .ret e => x.E c X e ρ σ (fun v σ₁ => K (.ret v) ρ σ₁)
  | .ret0 => K (.ret .none) ρ σ
  | .pass => K .next ρ σ
  | .brk => K .brk ρ σ
  | .cont => K .cont ρ σ
  | .expr e => x.E c X e ρ σ (fun z1 σ₁ => K .next ρ σ₁)
  | .asgn t e => (match t with
    | .var i => x.E c X e ρ σ (fun v σ₁ => K .next ((i, v) :: ρ) σ₁)
    | .item a b => x.E c X e ρ σ (fun v σ₁ => x.A c X (.item a b) v ρ σ₁ (fun ρ' σ' => K .next ρ' σ'))
    | .tup ts => (match e with
      | .item a b => x.E c X (.item a b) ρ σ (fun v σ₁ => x.A c X (.tup ts) v ρ σ₁ (fun ρ' σ' => K .next ρ' σ'))
      | _ => False)
    | _ => False)
  | .asgnC i loc hb elt t it cond => x.E c X it ρ σ (fun lv σ₁ => Leaf (∃ vs F, (∀ b ∈ F, b ∈ owned σ₁) ∧ IterS (c.pro F) σ₁ lv vs ∧ ∀ D, JComp ((c.pro F).hide D) d t hb cond elt ρ (Made c.F loc fun v σ' => K .next ((i, v) :: ρ) σ') vs [] σ₁))
  | .ite t a b => x.B c X t ρ σ (fun k σ₁ => Br k (x.S c X a ρ σ₁ K) (x.S c X b ρ σ₁ K))
  | .for_ t it body => x.E c X it ρ σ (fun lv σ₁ => Leaf (∃ vs F, (∀ b ∈ F, b ∈ owned σ₁) ∧ IterS (c.pro F) σ₁ lv vs ∧ JLoop (c.pro F) d t body K vs ρ σ₁))
  | .raise x es => Leaf (∃ C bm, Exc c.k x C bm ∧ JL c d X es ρ σ (fun z1 σ₁ => X (.ref C) σ₁))
  | .try_ body hs => onC hs (fun h₀ r => Leaf (JTry c d X body (.cons h₀ r) ρ σ K)) False
  | _ => False
noncomputable def hasLp : T → Bool
  | .for_ _ _ _ => true
  | .try_ _ _ => true
  | .ite t a b => hasLp a || (hasLp b || t.ctorIdx == (T.cut .nil).ctorIdx)
  | .cons a r => hasLp a || hasLp r
  | _ => false
noncomputable def stepL (d : Nat) (x : Exs) (c : Cx) (X : XP) (t : T) (ρ : Rho) (σ : Led) (K : Fl → Rho → Led → Prop) : Prop := match t with
  | .nil => K .next ρ σ
  | .cons s r => (match hasLp s with
    | false => stepS d x c X s ρ σ (then_ K fun ρ₁ σ₁ => x.S c X r ρ₁ σ₁ K)
    | true => stepS d x c X s ρ σ (then_ K fun ρ₁ σ₁ => JB c d X r ρ₁ σ₁ K))
  | _ => False
noncomputable def exZ : Exs := ⟨fun z1 z2 z3 z4 z5 z6 => False, fun z1 z2 z3 z4 z5 z6 => False, fun z1 z2 z3 z4 z5 z6 z7 => False, fun z1 z2 z3 z4 z5 z6 => False⟩
noncomputable def exS (d : Nat) (x : Exs) : Exs := ⟨stepE d x, stepB d x, stepA d x, stepL d x⟩
noncomputable def ex (d : Nat) : Nat → Exs
  | 0 => exZ
  | n + 1 => exS d (ex d n)
end Mine
end
section
namespace Mine
open PySem
variable {c : Cx} {d : Nat} {σ : Led} {P P' : V → Led → Prop} {X : XP} {ρ : Rho} {K K' : Fl → Rho → Led → Prop}
theorem intC_out {op : CmpOp} {k : Int → Int → Prop} {a b : V} (hr : ∀ x y, k x y → Op2 c d (compareOp op) (.int x) (.int y) σ P) (h : intC c d op k a b σ P) : Op2 c d (compareOp op) a b σ P := by
  cases a with
  | int x => cases b with
    | int y => exact hr x y h
    | _ => exact Leaf.out h
  | _ => exact Leaf.out h
theorem eqC_out {op : CmpOp} {k₁ : Int → Int → Prop} {k₂ : Str → Str → Prop} {k₃ : Bool → Bool → Prop} {a b : V} (h1 : ∀ x y : Int, k₁ x y → Op2 c d (compareOp op) (.int x) (.int y) σ P) (h2 : ∀ x y : Str, k₂ x y → Op2 c d (compareOp op) (.str x) (.str y) σ P)
    (h3 : ∀ x y : Bool, k₃ x y → Op2 c d (compareOp op) (.bool x) (.bool y) σ P) (h : eqC c d op k₁ k₂ k₃ a b σ P) : Op2 c d (compareOp op) a b σ P := by
  cases a with
  | int x => cases b with
    | int y => exact h1 x y h
    | _ => exact Leaf.out h
  | str x => cases b with
    | str y => exact h2 x y h
    | _ => exact Leaf.out h
  | bool x => cases b with
    | bool y => exact h3 x y h
    | _ => exact Leaf.out h
  | _ => exact Leaf.out h
theorem inC_out {op : CmpOp} {k : Str → Str → Prop} {a b : V} (hr : ∀ x y : Str, k x y → Op2 c d (compareOp op) (.str y) (.str x) σ P) (h : inC c d op k a b σ P) : Op2 c d (compareOp op) a b σ P := by
  cases a with
  | str x => cases b with
    | str y => exact hr y x h
    | _ => exact Leaf.out h
  | _ => exact Leaf.out h
theorem opC_out {op : CmpOp} {a b : V} (h : opC c d op a b σ P) : Op2 c d (compareOp op) a b σ P := by
  cases op with
  | Eq => exact eqC_out (k₁ := fun x y => P (.bool (x == y)) σ) (k₂ := fun x y => P (.bool (x == y)) σ) (k₃ := fun x y => P (.bool (x == y)) σ) (fun z1 z2 h => Cmp_eq h) (fun z1 z2 h => Cmp_eq_str h) (fun z1 z2 h => Cmp_eq_bool h) h
  | NotEq => exact eqC_out (k₁ := fun x y => P (.bool (x != y)) σ) (k₂ := fun x y => P (.bool (x != y)) σ) (k₃ := fun x y => P (.bool (x != y)) σ) (fun z1 z2 h => Cmp_ne h) (fun z1 z2 h => Cmp_ne_str h) (fun z1 z2 h => Cmp_ne_bool h) h
  | Lt => exact intC_out (k := fun x y => P (.bool (decide (x < y))) σ) (fun z1 z2 h => Cmp_lt h) h
  | LtE => exact intC_out (k := fun x y => P (.bool (decide (x ≤ y))) σ) (fun z1 z2 h => Cmp_le h) h
  | Gt => exact intC_out (k := fun x y => P (.bool (decide (y < x))) σ) (fun z1 z2 h => Cmp_gt h) h
  | GtE => exact intC_out (k := fun x y => P (.bool (decide (y ≤ x))) σ) (fun z1 z2 h => Cmp_ge h) h
  | In => exact inC_out (k := fun x y => P (.bool (Txt.contains x y)) σ) (fun z1 z2 h => Cmp_in_str h) h
  | NotIn => exact inC_out (k := fun x y => P (.bool (!Txt.contains x y)) σ) (fun z1 z2 h => Cmp_notIn_str h) h
  | Is => exact Leaf.out h
  | IsNot => exact Leaf.out h
theorem intB_out {op : Operator} {f : Int → Int → Prop} {a b : V} (hr : ∀ x y, b = .int y → f x y → Op2 c d (binaryOp op) (.int x) (.int y) σ P) (h : intB c d op f a b σ P) : Op2 c d (binaryOp op) a b σ P := by
  cases a with
  | int x => cases b with
    | int y => exact hr x y rfl h
    | _ => exact Leaf.out h
  | _ => exact Leaf.out h
theorem opB_out {op : Operator} {a b : V} (h : opB c d op a b σ P) : Op2 c d (binaryOp op) a b σ P := by
  cases op with
  | Add => exact intB_out (f := fun x y => P (.int (x + y)) σ) (fun z1 z2 z3 h => Op_add h) h
  | Sub => exact intB_out (f := fun x y => P (.int (x - y)) σ) (fun z1 z2 z3 h => Op_sub h) h
  | Mult => exact intB_out (fun _ _ _ ⟨h1, h2⟩ => Op_mul h1 h2) h
  | Mod => exact intB_out (fun _ _ _ ⟨h1, h2⟩ => Op_modp h1 h2) h
  | FloorDiv => exact intB_out (fun _ _ _ ⟨h1, h2⟩ => Op_divp h1.1 h1.2 h2) h
  | _ => exact Leaf.out h
theorem opBk_out {op : Operator} {a : V} {k : Int} (h : opBk c d op a k σ P) : Op2 c d (binaryOp op) a (.int k) σ P := by
  cases op with
  | Mult =>
    refine intB_out (f := fun x y => Br (small k) (P (.int (x * k)) σ) (Side (IntMulOk x k) (P (.int (x * k)) σ))) (fun x y e h => ?_) h
    cases e
    cases q : small k with
    | true =>
      rw [q] at h
      obtain ⟨q1, q2⟩ := and_tt q
      exact Op_mul (mulOk_right (of_decide_eq_true q1) (of_decide_eq_true q2)) h
    | false => rw [q] at h; obtain ⟨h1, h2⟩ := (show Side _ _ from h); exact Op_mul h1 h2
  | Mod =>
    refine intB_out (f := fun x y => Br (decide (0 < k)) (P (.int (x % k)) σ) (Side (0 < k) (P (.int (x % k)) σ))) (fun x y e h => ?_) h
    cases e
    cases q : decide (0 < k) with
    | true => rw [q] at h; exact Op_modp (of_decide_eq_true q) h
    | false => rw [q] at h; obtain ⟨h1, h2⟩ := (show Side _ _ from h); exact Op_modp h1 h2
  | FloorDiv =>
    refine intB_out (f := fun x y => Br (decide (0 < k) && decide (k < 9223372036854775808)) (P (.int (x / k)) σ) (Side (0 < k ∧ k < 9223372036854775808) (P (.int (x / k)) σ))) (fun x y e h => ?_) h
    cases e
    cases q : (decide (0 < k) && decide (k < 9223372036854775808)) with
    | true =>
      rw [q] at h
      obtain ⟨q1, q2⟩ := and_tt q
      exact Op_divp (of_decide_eq_true q1) (of_decide_eq_true q2) h
    | false => rw [q] at h; obtain ⟨h1, h2⟩ := (show Side _ _ from h); exact Op_divp h1.1 h1.2 h2
  | Pow =>
    refine intB_out (f := fun x y => Br (k == 12 && x == 10) (P (.int 1000000000000) σ) (Leaf (Op2 c d (binaryOp .Pow) (.int x) (.int k) σ P))) (fun x y e h => ?_) h
    cases e
    cases q : (k == 12 && x == 10) with
    | true =>
      rw [q] at h
      obtain ⟨q1, q2⟩ := and_tt q
      rw [eq_of_beq q1, eq_of_beq q2]; exact Op_pow12 h
    | false => rw [q] at h; exact Leaf.out h
  | _ => exact opB_out h
theorem opU_out {op : UnaryOp} {a : V} (h : opU c d op a σ P) : Op1 c d (unaryOp op) a σ P := by
  cases op with
  | USub => cases a with
    | int x => exact Op_neg h
    | _ => exact Leaf.out h
  | Not => cases a with
    | bool x => exact Op_not h
    | _ => exact Leaf.out h
  | _ => exact Leaf.out h
theorem asB_out {v : V} {P : Bool → Led → Prop} (h : asB v σ P) : ∃ b, v = .bool b ∧ P b σ := by
  cases v with
  | bool b => exact ⟨b, rfl, h⟩
  | _ => exact Leaf.out h
theorem asI_out {v : V} {P : Option Int → Led → Prop} (h : asI v σ P) : ∃ i, v = .int i ∧ P (some i) σ := by
  cases v with
  | int b => exact ⟨b, rfl, h⟩
  | _ => exact Leaf.out h
theorem opI_out {f : Bf} {v : V} (h : opI c d X f v σ P) : CallS c d (.builtin "isinstance") [v, .raw f.val] σ P X := by
  cases v with
  | bool b => cases f with
    | bool => exact Isi_bool_bool h
    | int => exact Isi_bool_int h
    | str => exact Isi_bool_str h
    | tuple => exact Isi_bool_tuple h
    | list => exact Isi_bool_list h
    | _ => exact Leaf.out h
  | int b => cases f with
    | bool => exact Isi_int_bool h
    | int => exact Isi_int_int h
    | str => exact Isi_int_str h
    | tuple => exact Isi_int_tuple h
    | list => exact Isi_int_list h
    | _ => exact Leaf.out h
  | str b => cases f with
    | bool => exact Isi_str_bool h
    | int => exact Isi_str_int h
    | str => exact Isi_str_str h
    | tuple => exact Isi_str_tuple h
    | list => exact Isi_str_list h
    | _ => exact Leaf.out h
  | tup b => cases f with
    | bool => exact Isi_tup_bool h
    | int => exact Isi_tup_int h
    | str => exact Isi_tup_str h
    | tuple => exact Isi_tup_tuple h
    | list => exact Isi_tup_list h
    | _ => exact Leaf.out h
  | lst b => cases f with
    | bool => exact Isi_lst_bool (.lst _) h
    | int => exact Isi_lst_int (.lst _) h
    | str => exact Isi_lst_str (.lst _) h
    | tuple => exact Isi_lst_tuple (.lst _) h
    | list => exact Isi_lst_list (.lst _) h
    | _ => exact Leaf.out h
  | _ => exact Leaf.out h
theorem opLen_out {v : V} (h : opLen c d X v σ P) : CallS c d (.builtin "len") [v] σ P X := by
  cases v with
  | lst vs => obtain ⟨n, rfl, h⟩ := Leaf.out h; exact Call_len_lst (.lst _) h
  | tup vs => exact Call_len_tup h
  | str x => obtain ⟨h1, h2⟩ := (show Side _ _ from h); exact Call_len_str h1 h2
  | _ => exact Leaf.out h
theorem one_out {vs : List V} {f : V → Prop} {D : Prop} (h : one vs f D) : (∃ v, vs = [v] ∧ f v) ∨ D := by
  cases vs with
  | nil => exact .inr h
  | cons a r => cases r with
    | nil => exact .inl ⟨a, rfl, h⟩
    | cons _ _ => exact .inr h
theorem two_out {vs : List V} {f : V → V → Prop} {D : Prop} (h : two vs f D) : (∃ a b, vs = [a, b] ∧ f a b) ∨ D := by
  cases vs with
  | nil => exact .inr h
  | cons a r => cases r with
    | nil => exact .inr h
    | cons b r => cases r with
      | nil => exact .inl ⟨a, b, rfl, h⟩
      | cons _ _ => exact .inr h
theorem anInt_out {a : V} {f : Int → Prop} {D : Prop} (h : anInt a f D) : (∃ x, a = .int x ∧ f x) ∨ D := by
  cases a with
  | int x => exact .inl ⟨x, rfl, h⟩
  | _ => exact .inr h
theorem aLst_out {a : V} {f : List V → Prop} {D : Prop} (h : aLst a f D) : (∃ x, a = .lst x ∧ f x) ∨ D := by
  cases a with
  | lst x => exact .inl ⟨x, rfl, h⟩
  | _ => exact .inr h
theorem ints_out {vs : List V} {f : Int → Int → Prop} {D : Prop} (h : two vs (fun a b => anInt a (fun x => anInt b (fun y => f x y) D) D) D) : (∃ x y, vs = [.int x, .int y] ∧ f x y) ∨ D := by
  rcases two_out h with ⟨a, b, rfl, h⟩ | h
  · rcases anInt_out h with ⟨x, rfl, h⟩ | h
    · rcases anInt_out h with ⟨y, rfl, h⟩ | h
      · exact .inl ⟨x, y, rfl, h⟩
      · exact .inr h
    · exact .inr h
  · exact .inr h
theorem lst_out {vs : List V} {f : List V → Prop} {D : Prop} (h : one vs (fun a => aLst a f D) D) : (∃ x, vs = [.lst x] ∧ f x) ∨ D := by
  rcases one_out h with ⟨a, rfl, h⟩ | h
  · rcases aLst_out h with ⟨x, rfl, h⟩ | h
    · exact .inl ⟨x, rfl, h⟩
    · exact .inr h
  · exact .inr h
theorem opF_out (hh : c.k.hd = true) {f : Bf} {vs : List V} (h : opF c d X f vs σ P) : CallS c d f.val vs σ P X := by
  cases f with
  | len =>
    rcases one_out (f := fun v => opLen c d X v σ P) h with ⟨v, rfl, h⟩ | h
    · exact opLen_out h
    · exact Leaf.out h
  | max =>
    rcases ints_out (f := fun x y => P (.int (max x y)) σ) h with ⟨x, y, rfl, h⟩ | h
    · exact Call_max hh h
    · exact Leaf.out h
  | min =>
    rcases ints_out (f := fun x y => P (.int (min x y)) σ) h with ⟨x, y, rfl, h⟩ | h
    · exact Call_min hh h
    · exact Leaf.out h
  | range =>
    rcases one_out (f := fun a => anInt a (fun x => P (.rng 0 x) σ) (Leaf (CallS c d Bf.range.val vs σ P X))) h with ⟨v, rfl, h⟩ | h
    · rcases anInt_out h with ⟨x, rfl, h⟩ | h
      · exact Call_range1 h
      · exact Leaf.out h
    · rcases ints_out (f := fun x y => P (.rng x y) σ) h with ⟨x, y, rfl, h⟩ | h
      · exact Call_range2 h
      · exact Leaf.out h
  | list =>
    rcases lst_out (f := fun ws => P (.lst ws) σ) h with ⟨x, rfl, h⟩ | h
    · exact Call_list (.lst _) h
    · exact Leaf.out h
  | sum =>
    rcases lst_out (f := fun ws => Leaf (∃ ys : List Int, ws = ys.map .int ∧ P (.int ys.sum) σ)) h with ⟨x, rfl, h⟩ | h
    · obtain ⟨ys, rfl, w⟩ := Leaf.out h; exact Call_sum hh (.lst _) w
    · exact Leaf.out h
  | all =>
    rcases lst_out (f := fun ws => Leaf (∃ bs : List Bool, ws = bs.map .bool ∧ P (.bool (bs.all id)) σ)) h with ⟨x, rfl, h⟩ | h
    · obtain ⟨ys, rfl, w⟩ := Leaf.out h; exact Call_all hh (.lst _) w
    · exact Leaf.out h
  | _ => exact Leaf.out h
theorem Item_tup {vs : List V} {k : Int} {w : V} (h0 : 0 ≤ k) (hw : vs[k.toNat]? = some w) (h : P w σ) : Item c d (.tup vs) (.int k) σ P := fun v i hi => Op_titem h0 hw h (fun o x => index_no hi o x)
theorem Item_lst {lv : V} {vs : List V} {k : Int} {w : V} (hl : IsLst σ lv vs) (h0 : 0 ≤ k) (hw : vs[k.toNat]? = some w) (h : P w σ) : Item c d lv (.int k) σ P := fun v i hi => Op_item hl h0 hw h (fun o x => index_no hi o x)
theorem Item_str {x : Str} {k : Int} {n : Nat} (h0 : 0 ≤ k) (hk : x.cps[k.toNat]? = some n) (hn : k < 2 ^ 62) (h : P (.str ⟨#[n]⟩) σ) : Item c d (.str x) (.int k) σ P := fun v i hi => Op_sitem h0 hk hn h (fun o x => index_no hi o x)
theorem opK_out {v : V} {k : Int} (h : opK c d v k σ P) : Item c d v (.int k) σ P := by
  cases v with
  | tup vs =>
    unfold opK at h
    dsimp only at h
    cases q : decide (0 ≤ k) with
    | true =>
      rw [q] at h
      replace h : (match vs[k.toNat]? with
        | some w => P w σ
        | Option.none => False) := h
      split at h
      · exact Item_tup (of_decide_eq_true q) (by assumption) h
      · exact h.elim
    | false => rw [q] at h; exact Leaf.out h
  | _ => exact Leaf.out h
theorem opS_out {v : V} {l u : Option Int} (h : opS v l u σ P) : ∃ w, SliceOf σ l u v w ∧ P w σ := by
  cases v with
  | lst vs => exact ⟨_, .lst (.lst _), h⟩
  | str x => obtain ⟨h1, h2⟩ := (show Side _ _ from h); exact ⟨_, .str h1, h2⟩
  | _ => exact Leaf.out h
structure ExOk (d : Nat) (x : Exs) : Prop where
  E : ∀ {c X t ρ σ P}, x.E c X t ρ σ P → JE c d X t ρ σ P
  B : ∀ {c X t ρ σ P}, x.B c X t ρ σ P → JT c d X t ρ σ P
  A : ∀ {c X t v ρ σ K}, x.A c X t v ρ σ K → JA c d X t v ρ σ K
  S : ∀ {c X t ρ σ K}, x.S c X t ρ σ K → JB c d X t ρ σ K
theorem JL.mono {t : T} {P P' : List V → Led → Prop} (h : JL c d X t ρ σ P) (k : ∀ v σ', P v σ' → P' v σ') : JL c d X t ρ σ P' := fun G N sc e hG hN hc => (h G N sc e hG hN hc).mono k
theorem JT.mono {t : T} {P P' : Bool → Led → Prop} (h : JT c d X t ρ σ P) (k : ∀ v σ', P v σ' → P' v σ') : JT c d X t ρ σ P' := fun G N sc e hG hN hc => (h G N sc e hG hN hc).mono k
theorem JO.mono {t : T} {P P' : Option Int → Led → Prop} (h : JO c d X t ρ σ P) (k : ∀ v σ', P v σ' → P' v σ') : JO c d X t ρ σ P' := fun G N sc e hG hN hc => (h G N sc e hG hN hc).mono k
variable {x : Exs} {t : T}
theorem exL_out (ok : ExOk d x) : ∀ (t : T) {σ : Led} {P : List V → Led → Prop}, exL (x.E c X) ρ t σ P → JL c d X t ρ σ P := fun t => by
  induction t with
  | nil => exact fun h => JL_nil h
  | cons a r _ ih => exact fun h => JL_cons ((ok.E (show x.E c X a ρ _ _ from h)).mono fun v σ₁ q => ih q)
  | _ => exact fun h => h.elim
set_option tactic.hygienic true
theorem onC_out {t : T} {f : T → T → Prop} (h : onC t f False) : ∃ a r, t = .cons a r ∧ f a r := by
  unfold onC at h
  split at h
  · rename_i q; revert h; exact T.cons.elim (motive := fun t => ∀ h : t.ctorIdx = 1, T.cons.elim (motive := fun z1 => Prop) t h f → ∃ a r, t = .cons a r ∧ f a r) t q (fun a r z1 hk => ⟨a, r, rfl, hk⟩) q
  · exact h.elim
theorem exBo_out (ok : ExOk d x) {op : BoolOp} : ∀ (t : T) {σ : Led} {P : V → Led → Prop}, exBo (x.E c X) ρ op t σ P → JBo c d X op t ρ σ P := fun t => by
  induction t with
  | cons a r _ ih =>
    intro σ P h
    unfold exBo at h
    split at h
    · rename_i q
      rw [T.nil.elim (motive := fun r => r = .nil) r q rfl]
      exact JBo_one (ok.E h)
    · obtain ⟨b, r', rfl, h⟩ := onC_out h
      cases op with
      | And =>
        refine JBo_and ((ok.E h).mono fun v σ₁ q => ?_)
        obtain ⟨t, rfl, q⟩ := asB_out q
        refine ⟨t, rfl, ?_⟩
        cases t with
        | true => exact ih q
        | false => exact q
      | Or =>
        refine JBo_or ((ok.E h).mono fun v σ₁ q => ?_)
        obtain ⟨t, rfl, q⟩ := asB_out q
        refine ⟨t, rfl, ?_⟩
        cases t with
        | true => exact q
        | false => exact ih q
  | _ => exact fun h => h.elim
set_option tactic.hygienic false
theorem exTs_out (ok : ExOk d x) {op : BoolOp} : ∀ (t : T) {σ : Led} {P : Bool → Led → Prop}, exTs (x.B c X) ρ op t σ P → JTs c d X op t ρ σ P := fun t => by
  induction t with
  | nil =>
    intro σ P h
    cases op with
    | And => exact JTs_and_nil h
    | Or => exact JTs_or_nil h
  | cons a r _ ih =>
    intro σ P h
    have h' := ok.B (show x.B c X a ρ σ _ from h)
    cases op with
    | And =>
      refine JTs_and (h'.mono fun b σ₁ q => ?_)
      cases b with
      | true => exact ih q
      | false => exact q
    | Or =>
      refine JTs_or (h'.mono fun b σ₁ q => ?_)
      cases b with
      | true => exact q
      | false => exact ih q
  | _ => exact fun h => h.elim
theorem exO_out (ok : ExOk d x) {t : T} {P : Option Int → Led → Prop} (h : exO (x.E c X) ρ t σ P) : JO c d X t ρ σ P := by
  cases t with
  | nil => exact JO_nil h
  | int i => exact JO_int (JE_int ⟨i, rfl, h⟩)
  | var i => exact JO_var ((ok.E h).mono fun v σ₁ q => asI_out q)
  | bin o a b => exact JO_bin ((ok.E h).mono fun v σ₁ q => asI_out q)
  | un o a => exact JO_un ((ok.E h).mono fun v σ₁ q => asI_out q)
  | call f a => exact JO_call ((ok.E h).mono fun v σ₁ q => asI_out q)
  | blt f a => exact JO_blt ((ok.E h).mono fun v σ₁ q => asI_out q)
  | _ => exact h.elim
theorem stepE_out (ok : ExOk d x) {t : T} (h : stepE d x c X t ρ σ P) : JE c d X t ρ σ P := by
  cases t with
  | int i => exact JE_int h
  | str i => exact JE_str h
  | bool i => exact JE_bool h
  | none => exact JE_none h
  | var i =>
    unfold stepE at h
    dsimp only at h
    split at h
    · exact JE_var (by assumption) h
    · exact h.elim
  | bin op a b =>
    by_cases hb : ∃ k, b = .int k
    · obtain ⟨k, rfl⟩ := hb
      exact JE_bin ((ok.E h).mono fun u σ₁ q => JE_int (opBk_out q))
    · unfold stepE at h
      dsimp only at h
      split at h
      · exact absurd ⟨_, rfl⟩ hb
      · exact JE_bin ((ok.E h).mono fun u σ₁ q => (ok.E q).mono fun v σ₂ q => opB_out q)
  | un op a => exact JE_un ((ok.E h).mono fun u σ₁ q => opU_out q)
  | cmp op a b => exact JE_cmp ((ok.E h).mono fun u σ₁ q => (ok.E q).mono fun v σ₂ q => opC_out q)
  | cmp2 a o₁ b o₂ b' =>
    refine JE_cmp2 ((ok.E h).mono fun u σ₁ q => (ok.E q).mono fun v σ₂ q => (opC_out q).mono fun w σ₃ q => ?_)
    obtain ⟨t, rfl, q⟩ := asB_out q
    refine ⟨t, rfl, ?_⟩
    cases t with
    | true => exact (ok.E q).mono fun v' σ₅ q => opC_out q
    | false => exact q
  | bo op es => exact JE_bo (exBo_out ok es h)
  | ife t a b =>
    refine JE_ife ((ok.B h).mono fun k σ₁ q => ?_)
    cases k with
    | true => exact ok.E q
    | false => exact ok.E q
  | tup es => exact JE_tup (exL_out ok es h)
  | lst loc es =>
    cases loc with
    | false => exact JE_lst (exL_out ok es h)
    | true => exact JE_loc ((exL_out ok es h).mono fun vs σ₁ q => Leaf.out q)
  | call f es => exact JE_call ((exL_out ok es h).mono fun vs σ₁ q => Leaf.out q)
  | blt f es => exact JE_blt ((exL_out ok es h).mono fun vs σ₁ q hh => opF_out hh q)
  | isi a f => exact JE_isi ((ok.E h).mono fun u σ₁ q => opI_out q)
  | meth o y es => exact JE_meth ((ok.E h).mono fun u σ₁ q => Leaf.out q)
  | item a b =>
    by_cases hb : ∃ k, b = .int k
    · obtain ⟨k, rfl⟩ := hb
      exact JE_item ((ok.E h).mono fun u σ₁ q => JE_int (opK_out q))
    · unfold stepE at h
      dsimp only at h
      split at h
      · exact absurd ⟨_, rfl⟩ hb
      · exact JE_item ((ok.E h).mono fun u σ₁ q => (ok.E q).mono fun v σ₂ q => Leaf.out q)
  | slice a lo hi => exact JE_slice ((ok.E h).mono fun v σ₁ q => (exO_out ok q).mono fun l σ₂ q => (exO_out ok q).mono fun u σ₃ q => opS_out q)
  | dict a b => exact JE_dict (Leaf.out h)
  | cut q => obtain ⟨v, h1, h2⟩ := Leaf.out h; exact JE_cut h1 h2
  | comp loc hb elt t it cond => exact JE_comp ((ok.E h).mono fun lv σ₁ q => Leaf.out q)
  | _ => exact h.elim
theorem stepB_out (ok : ExOk d x) {t : T} {P : Bool → Led → Prop} (h : stepB d x c X t ρ σ P) : JT c d X t ρ σ P := by
  cases t with
  | un op a =>
    cases op with
    | Not => exact JT_not (ok.B h)
    | _ => exact h.elim
  | bo op es => exact JT_bo (exTs_out ok es h)
  | cmp op a b => exact JT_cmp ((ok.E h).mono fun u σ₁ q => (ok.E q).mono fun v σ₂ q => (opC_out q).mono fun w σ₃ q => asB_out q)
  | cmp2 a o₁ b o₂ b' =>
    refine JT_cmp2 ((ok.E h).mono fun u σ₁ q => (ok.E q).mono fun v σ₂ q => (opC_out q).mono fun w σ₃ q => ?_)
    obtain ⟨t, rfl, q⟩ := asB_out q
    refine ⟨t, rfl, ?_⟩
    cases t with
    | true => exact (ok.E q).mono fun v' σ₅ q => (opC_out q).mono fun w σ₆ q => asB_out q
    | false => exact q
  | cut q => obtain ⟨v, h1, h2⟩ := Leaf.out h; exact JT_cut h1 h2
  | var i => exact JT_var ((ok.E h).mono fun v σ₁ q => asB_out q)
  | call f a => exact JT_call ((ok.E h).mono fun v σ₁ q => asB_out q)
  | blt f a => exact JT_blt ((ok.E h).mono fun v σ₁ q => asB_out q)
  | isi a f => exact JT_isi ((ok.E h).mono fun v σ₁ q => asB_out q)
  | meth o y a => exact JT_meth ((ok.E h).mono fun v σ₁ q => asB_out q)
  | item a b => exact JT_item ((ok.E h).mono fun v σ₁ q => asB_out q)
  | _ => exact h.elim
theorem tlen_ok {G : Glob} {N : List Str} {sc : Scope} : ∀ (vs : List V) (t : T) (es : List Expr), tlen vs t = true → chk G N t sc (.tl es) = true → es.length = vs.length
  | [], t, es, h, hc => by
    rw [T.nil.elim (motive := fun t => t = .nil) t (eq_of_beq h) rfl] at hc
    rw [on0_inv (show on0 es = true from hc)]; rfl
  | v :: vs, t, es, h, hc => by
    obtain ⟨a, r, rfl, h⟩ := onC_inv h
    obtain ⟨e, es', rfl, q⟩ := onCons_inv (show onCons es (fun e es => noStar e && es.all noStar && chk G N a sc (.t e) && chk G N r sc (.tl es)) = true from hc)
    rw [List.length_cons, List.length_cons, tlen_ok vs r es' h (and_tt q).2]
theorem exAs_out (ok : ExOk d x) : ∀ (vs : List V) (t : T) {ρ : Rho} {σ : Led} {K : Rho → Led → Prop}, tlen vs t = true → exAs (x.A c X) vs t ρ σ K → JAs c d X t vs ρ σ K
  | [], t, ρ, σ, K, ht, h => by
    rw [T.nil.elim (motive := fun t => t = .nil) t (eq_of_beq ht) rfl]
    exact JAs_nil h
  | v :: vs, t, ρ, σ, K, ht, h => by
    obtain ⟨a, r, rfl, ht⟩ := onC_inv ht
    exact JAs_cons (fun G N sc es hc => tlen_ok vs r es ht hc) ((ok.A h).mono fun ρ₁ σ₁ q => exAs_out ok vs r ht q)
theorem stepA_out (ok : ExOk d x) {t : T} {v : V} {K : Rho → Led → Prop} (h : stepA d x c X t v ρ σ K) : JA c d X t v ρ σ K := by
  cases t with
  | var i => exact JA_var h
  | tup ts =>
    cases v with
    | tup vs =>
      cases q : tlen vs ts with
      | true => exact JA_tup (exAs_out ok vs ts q (by have h' : Br (tlen vs ts) (exAs (x.A c X) vs ts ρ σ K) False := h; rw [q] at h'; exact h'))
      | false => exact (show False by have h' : Br (tlen vs ts) (exAs (x.A c X) vs ts ρ σ K) False := h; rw [q] at h'; exact h').elim
    | _ => exact h.elim
  | item a b => exact JA_item ((ok.E h).mono fun ov σ₁ q => (ok.E q).mono fun iv σ₂ q => Leaf.out q)
  | _ => exact h.elim
theorem stepS_out (ok : ExOk d x) {s : T} (h : stepS d x c X s ρ σ K) : JS c d X s ρ σ K := by
  cases s with
  | ret e => exact JS_ret (ok.E h)
  | ret0 => exact JS_ret0 h
  | pass => exact JS_pass h
  | brk => exact JS_brk h
  | cont => exact JS_cont h
  | expr e => exact JS_expr (ok.E h)
  | asgn t e =>
    cases t with
    | var i => exact JS_asgn stores_var ((ok.E h).mono fun v σ₁ q => JA_var q)
    | item a b => exact JS_asgn stores_item ((ok.E h).mono fun v σ₁ q => ok.A q)
    | tup ts =>
      cases e with
      | item a b => exact JS_asgn stores_tupI ((ok.E h).mono fun v σ₁ q => ok.A q)
      | _ => exact h.elim
    | _ => exact h.elim
  | asgnC i loc hb elt t it cond => exact JS_asgnC ((ok.E h).mono fun lv σ₁ q => Leaf.out q)
  | ite t a b =>
    refine JS_ite ((ok.B h).mono fun k σ₁ q => ?_)
    cases k with
    | true => exact ok.S q
    | false => exact ok.S q
  | for_ t it body => exact JS_for ((ok.E h).mono fun lv σ₁ q => Leaf.out q)
  | raise x es => obtain ⟨C, bm, h1, h2⟩ := Leaf.out h; exact JS_raise h1 h2
  | try_ body hs =>
    obtain ⟨h₀, r, rfl, h⟩ := onC_out (show onC hs (fun h₀ r => Leaf (JTry c d X body (.cons h₀ r) ρ σ K)) False from h)
    exact JS_try (Leaf.out h)
  | _ => exact h.elim
theorem JS.mono {t : T} (h : JS c d X t ρ σ K) (k : ∀ f ρ' σ', K f ρ' σ' → K' f ρ' σ') : JS c d X t ρ σ K' := fun G N sc e hG hN hc => (h G N sc e hG hN hc).mono fun f m' σ' ⟨ρ', q1, q2⟩ => ⟨ρ', q1, k _ _ _ q2⟩
theorem stepL_out (ok : ExOk d x) {t : T} (h : stepL d x c X t ρ σ K) : JB c d X t ρ σ K := by
  cases t with
  | nil => exact JB_nil h
  | cons s r =>
    cases hb : hasLp s with
    | false =>
      replace h : stepS d x c X s ρ σ (then_ K fun ρ₁ σ₁ => x.S c X r ρ₁ σ₁ K) := by
        have h' : (match hasLp s with
          | false => stepS d x c X s ρ σ (then_ K fun ρ₁ σ₁ => x.S c X r ρ₁ σ₁ K)
          | true => stepS d x c X s ρ σ (then_ K fun ρ₁ σ₁ => JB c d X r ρ₁ σ₁ K)) := h
        rw [hb] at h'; exact h'
      refine JB_cons ((stepS_out ok h).mono fun f ρ₁ σ₁ q => ?_)
      cases f with
      | next => exact ok.S q
      | brk => exact q
      | cont => exact q
      | ret v => exact q
    | true =>
      refine JB_cons (stepS_out ok ?_)
      have h' : (match hasLp s with
        | false => stepS d x c X s ρ σ (then_ K fun ρ₁ σ₁ => x.S c X r ρ₁ σ₁ K)
        | true => stepS d x c X s ρ σ (then_ K fun ρ₁ σ₁ => JB c d X r ρ₁ σ₁ K)) := h
      rw [hb] at h'; exact h'
  | _ => exact h.elim
theorem ex_ok (d : Nat) : ∀ n, ExOk d (ex d n)
  | 0 => ⟨fun h => h.elim, fun h => h.elim, fun h => h.elim, fun h => h.elim⟩
  | n + 1 => ⟨fun h => stepE_out (ex_ok d n) h, fun h => stepB_out (ex_ok d n) h, fun h => stepA_out (ex_ok d n) h, fun h => stepL_out (ex_ok d n) h⟩
theorem JB_go (h : (ex d 100).S c X t ρ σ K) : JB c d X t ρ σ K := (ex_ok d 100).S h
theorem JE_go (h : (ex d 100).E c X t ρ σ P) : JE c d X t ρ σ P := (ex_ok d 100).E h
theorem JT_go {P : Bool → Led → Prop} (h : (ex d 100).B c X t ρ σ P) : JT c d X t ρ σ P := (ex_ok d 100).B h
theorem JAB_go {X' : XP} {v : V} {t' : T} (h : (ex d 100).A c X t v ρ σ (fun ρ₁ σ₁ => (ex d 100).S c X' t' ρ₁ σ₁ K)) : JA c d X t v ρ σ (fun ρ₁ σ₁ => JB c d X' t' ρ₁ σ₁ K) := ((ex_ok d 100).A h).mono fun z1 z2 q => (ex_ok d 100).S q
theorem JL_go {P : List V → Led → Prop} (h : exL ((ex d 100).E c X) ρ t σ P) : JL c d X t ρ σ P := exL_out (ex_ok d 100) t h
end Mine
end
section
namespace Mine
open PySem
noncomputable def t_is_whole : T := (.cons (.ret (.bo .And (.cons (.isi (.var 0) .int) (.cons (.un .Not (.isi (.var 0) .bool)) .nil)))) .nil)
noncomputable def n_is_whole : List Str := ["thing"]
noncomputable def t_is_ware_e1 : T := (.cmp .In (.var 1) (.str "abcdefghijklmnopqrstuvwxyz"))
noncomputable def t_is_ware : T := (.cons (.ite (.bo .Or (.cons (.un .Not (.isi (.var 0) .str)) (.cons (.un .Not (.cmp2 (.int 1) .LtE (.blt .len (.cons (.var 0) .nil)) .LtE (.int 12))) .nil))) (.cons (.ret (.bool false)) .nil) .nil) (.cons (.ret (.blt .all (.cons (.comp false false t_is_ware_e1 (.var 1) (.var 0) .nil) .nil))) .nil))
noncomputable def n_is_ware : List Str := ["thing", "sign"]
noncomputable def t_is_day : T := (.cons (.ret (.bo .And (.cons (.call "is_whole" (.cons (.var 0) .nil)) (.cons (.cmp2 (.int 0) .LtE (.var 0) .LtE (.int 1000000000000)) .nil)))) .nil)
noncomputable def n_is_day : List Str := ["thing"]
noncomputable def t_is_count : T := (.cons (.ret (.bo .And (.cons (.call "is_whole" (.cons (.var 0) .nil)) (.cons (.cmp2 (.int 1) .LtE (.var 0) .LtE (.int 1000000000000)) .nil)))) .nil)
noncomputable def n_is_count : List Str := ["thing"]
noncomputable def t_is_lot : T := (.cons (.ite (.bo .Or (.cons (.un .Not (.isi (.var 0) .tuple)) (.cons (.cmp .NotEq (.blt .len (.cons (.var 0) .nil)) (.int 3)) .nil))) (.cons (.ret (.bool false)) .nil) .nil) (.cons (.ret (.bo .And (.cons (.call "is_ware" (.cons (.item (.var 0) (.int 0)) .nil)) (.cons (.call "is_day" (.cons (.item (.var 0) (.int 1)) .nil)) (.cons (.call "is_count" (.cons (.item (.var 0) (.int 2)) .nil)) .nil))))) .nil))
noncomputable def n_is_lot : List Str := ["thing"]
noncomputable def t_is_line : T := (.cons (.ite (.bo .Or (.cons (.un .Not (.isi (.var 0) .tuple)) (.cons (.cmp .NotEq (.blt .len (.cons (.var 0) .nil)) (.int 4)) .nil))) (.cons (.ret (.bool false)) .nil) .nil) (.cons (.ret (.bo .And (.cons (.call "is_ware" (.cons (.item (.var 0) (.int 0)) .nil)) (.cons (.call "is_day" (.cons (.item (.var 0) (.int 1)) .nil)) (.cons (.call "is_day" (.cons (.item (.var 0) (.int 2)) .nil)) (.cons (.call "is_count" (.cons (.item (.var 0) (.int 3)) .nil)) .nil)))))) .nil))
noncomputable def n_is_line : List Str := ["thing"]
noncomputable def t_need : T := (.cons (.ret (.bin .Add (.item (.var 0) (.int 1)) (.item (.var 0) (.int 2)))) .nil)
noncomputable def n_need : List Str := ["line"]
noncomputable def t_good : T := (.cons (.ret (.bo .And (.cons (.cmp .Eq (.item (.var 0) (.int 0)) (.item (.var 1) (.int 0))) (.cons (.cmp .GtE (.item (.var 0) (.int 1)) (.call "need" (.cons (.var 1) .nil))) .nil)))) .nil)
noncomputable def n_good : List Str := ["lot", "line"]
noncomputable def t_need_rows_e1 : T := (.call "is_lot" (.cons (.var 2) .nil))
noncomputable def t_need_rows_e2 : T := (.call "is_line" (.cons (.var 3) .nil))
noncomputable def t_need_rows : T := (.cons (.ite (.bo .Or (.cons (.un .Not (.isi (.var 0) .list)) (.cons (.cmp .Gt (.blt .len (.cons (.var 0) .nil)) (.int 100)) (.cons (.un .Not (.blt .all (.cons (.comp false false t_need_rows_e1 (.var 2) (.var 0) .nil) .nil))) .nil)))) (.cons (.raise "BadLot" (.cons (.str "no list of lots") .nil)) .nil) .nil) (.cons (.ite (.bo .Or (.cons (.un .Not (.isi (.var 1) .list)) (.cons (.cmp .Gt (.blt .len (.cons (.var 1) .nil)) (.int 100)) (.cons (.un .Not (.blt .all (.cons (.comp false false t_need_rows_e2 (.var 3) (.var 1) .nil) .nil))) .nil)))) (.cons (.raise "BadLine" (.cons (.str "no list of lines") .nil)) .nil) .nil) .nil))
noncomputable def n_need_rows : List Str := ["lots", "lines", "lot", "line"]
noncomputable def t_is_triple_e1 : T := (.call "is_whole" (.cons (.var 3) .nil))
noncomputable def t_is_triple : T := (.cons (.ite (.bo .Or (.cons (.un .Not (.isi (.var 0) .tuple)) (.cons (.cmp .NotEq (.blt .len (.cons (.var 0) .nil)) (.int 3)) (.cons (.un .Not (.blt .all (.cons (.comp false false t_is_triple_e1 (.var 3) (.var 0) .nil) .nil))) .nil)))) (.cons (.ret (.bool false)) .nil) .nil) (.cons (.ret (.bo .And (.cons (.cmp2 (.int 0) .LtE (.item (.var 0) (.int 0)) .Lt (.blt .len (.cons (.var 2) .nil))) (.cons (.cmp2 (.int 0) .LtE (.item (.var 0) (.int 1)) .Lt (.blt .len (.cons (.var 1) .nil))) (.cons (.cmp .GtE (.item (.var 0) (.int 2)) (.int 1)) .nil))))) .nil))
noncomputable def n_is_triple : List Str := ["thing", "lots", "lines", "part"]
noncomputable def t_keeps_e1 : T := (.call "is_triple" (.cons (.var 3) (.cons (.var 0) (.cons (.var 1) .nil))))
noncomputable def t_keeps_e2 : T := (.item (.var 4) (.int 3))
noncomputable def t_keeps_e3 : T := (.item (.var 6) (.int 2))
noncomputable def t_keeps_q1 : T := (.bo .Or (.cons (.bo .And (.cons (.cmp .IsNot (.var 8) .none) (.cons (.cmp .LtE (.tup (.cons (.var 4) (.cons (.var 6) .nil))) (.var 8)) .nil))) (.cons (.un .Not (.call "good" (.cons (.item (.var 0) (.var 6)) (.cons (.item (.var 1) (.var 4)) .nil)))) .nil)))
noncomputable def t_keeps_b1 : T := (.cons (.ite (.cut t_keeps_q1) (.cons (.ret (.bool false)) .nil) .nil) (.cons (.asgn (.var 8) (.tup (.cons (.var 4) (.cons (.var 6) .nil)))) (.cons (.asgn (.item (.var 5) (.var 4)) (.bin .Sub (.item (.var 5) (.var 4)) (.var 9))) (.cons (.asgn (.item (.var 7) (.var 6)) (.bin .Sub (.item (.var 7) (.var 6)) (.var 9))) .nil))))
noncomputable def t_keeps_e4 : T := (.cmp .GtE (.var 3) (.int 0))
noncomputable def t_keeps_e5 : T := (.cmp .GtE (.var 3) (.int 0))
noncomputable def t_keeps : T := (.cons (.ite (.bo .Or (.cons (.un .Not (.isi (.var 2) .list)) (.cons (.un .Not (.blt .all (.cons (.comp false false t_keeps_e1 (.var 3) (.var 2) .nil) .nil))) .nil))) (.cons (.ret (.bool false)) .nil) .nil) (.cons (.asgnC 5 true false t_keeps_e2 (.var 4) (.var 1) .nil) (.cons (.asgnC 7 true false t_keeps_e3 (.var 6) (.var 0) .nil) (.cons (.asgn (.var 8) .none) (.cons (.for_ (.tup (.cons (.var 4) (.cons (.var 6) (.cons (.var 9) .nil)))) (.var 2) t_keeps_b1) (.cons (.ret (.bo .And (.cons (.blt .all (.cons (.comp false false t_keeps_e4 (.var 3) (.var 5) .nil) .nil)) (.cons (.blt .all (.cons (.comp false false t_keeps_e5 (.var 3) (.var 7) .nil) .nil)) .nil)))) .nil))))))
noncomputable def n_keeps : List Str := ["lots", "lines", "dealing", "one", "line", "wanted", "lot", "rest", "ahead", "count"]
noncomputable def t_holds : T := (.cons (.expr (.call "need_rows" (.cons (.var 0) (.cons (.var 1) .nil)))) (.cons (.ret (.call "keeps" (.cons (.var 0) (.cons (.var 1) (.cons (.var 2) .nil))))) .nil))
noncomputable def n_holds : List Str := ["lots", "lines", "dealing"]
noncomputable def t_short_e1 : T := (.item (.var 3) (.int 3))
noncomputable def t_short_b1 : T := (.cons (.asgn (.item (.var 4) (.var 3)) (.bin .Sub (.item (.var 4) (.var 3)) (.var 6))) .nil)
noncomputable def t_short : T := (.cons (.expr (.call "need_rows" (.cons (.var 0) (.cons (.var 1) .nil)))) (.cons (.ite (.un .Not (.call "keeps" (.cons (.var 0) (.cons (.var 1) (.cons (.var 2) .nil))))) (.cons (.raise "BadDealing" (.cons (.str "the dealing does not hold") .nil)) .nil) .nil) (.cons (.asgnC 4 true false t_short_e1 (.var 3) (.var 1) .nil) (.cons (.for_ (.tup (.cons (.var 3) (.cons (.var 5) (.cons (.var 6) .nil)))) (.var 2) t_short_b1) (.cons (.ret (.var 4)) .nil)))))
noncomputable def n_short : List Str := ["lots", "lines", "dealing", "line", "found", "lot", "count"]
noncomputable def t_left_e1 : T := (.item (.var 3) (.int 2))
noncomputable def t_left_b1 : T := (.cons (.asgn (.item (.var 4) (.var 3)) (.bin .Sub (.item (.var 4) (.var 3)) (.var 6))) .nil)
noncomputable def t_left : T := (.cons (.expr (.call "need_rows" (.cons (.var 0) (.cons (.var 1) .nil)))) (.cons (.ite (.un .Not (.call "keeps" (.cons (.var 0) (.cons (.var 1) (.cons (.var 2) .nil))))) (.cons (.raise "BadDealing" (.cons (.str "the dealing does not hold") .nil)) .nil) .nil) (.cons (.asgnC 4 true false t_left_e1 (.var 3) (.var 0) .nil) (.cons (.for_ (.tup (.cons (.var 5) (.cons (.var 3) (.cons (.var 6) .nil)))) (.var 2) t_left_b1) (.cons (.ret (.var 4)) .nil)))))
noncomputable def n_left : List Str := ["lots", "lines", "dealing", "lot", "found", "line", "count"]
noncomputable def t_limit_of_e1 : T := (.item (.var 4) (.int 3))
noncomputable def t_limit_of_c1 : T := (.bo .And (.cons (.cmp .Eq (.item (.var 4) (.int 0)) (.var 2)) (.cons (.cmp .Lt (.call "need" (.cons (.var 4) .nil)) (.var 3)) .nil)))
noncomputable def t_limit_of_e2 : T := (.item (.var 6) (.int 2))
noncomputable def t_limit_of_c2 : T := (.bo .And (.cons (.cmp .Eq (.item (.var 6) (.int 0)) (.var 2)) (.cons (.cmp .GtE (.item (.var 6) (.int 1)) (.var 3)) .nil)))
noncomputable def t_limit_of : T := (.cons (.asgn (.var 5) (.blt .sum (.cons (.comp false true t_limit_of_e1 (.var 4) (.var 1) t_limit_of_c1) .nil))) (.cons (.ret (.bin .Add (.var 5) (.blt .sum (.cons (.comp false true t_limit_of_e2 (.var 6) (.var 0) t_limit_of_c2) .nil)))) .nil))
noncomputable def n_limit_of : List Str := ["lots", "lines", "ware", "day", "line", "early", "lot"]
noncomputable def t_limit : T := (.cons (.expr (.call "need_rows" (.cons (.var 0) (.cons (.var 1) .nil)))) (.cons (.ret (.call "limit_of" (.cons (.var 0) (.cons (.var 1) (.cons (.var 2) (.cons (.var 3) .nil)))))) .nil))
noncomputable def n_limit : List Str := ["lots", "lines", "ware", "day"]
noncomputable def t_bar_of_e1 : T := (.bin .Add (.item (.var 5) (.int 1)) (.int 1))
noncomputable def t_bar_of_c1 : T := (.cmp .Eq (.item (.var 5) (.int 0)) (.var 2))
noncomputable def t_bar_of_b1 : T := (.cons (.asgn (.var 7) (.call "limit_of" (.cons (.var 0) (.cons (.var 1) (.cons (.var 2) (.cons (.var 6) .nil)))))) (.cons (.ite (.cmp .Lt (.var 7) (.var 4)) (.cons (.asgn (.var 3) (.var 6)) (.cons (.asgn (.var 4) (.var 7)) .nil)) .nil) .nil))
noncomputable def t_bar_of : T := (.cons (.asgn (.var 3) (.int 0)) (.cons (.asgn (.var 4) (.call "limit_of" (.cons (.var 0) (.cons (.var 1) (.cons (.var 2) (.cons (.int 0) .nil)))))) (.cons (.for_ (.var 6) (.blt .sorted (.cons (.comp false true t_bar_of_e1 (.var 5) (.var 0) t_bar_of_c1) .nil)) t_bar_of_b1) (.cons (.ret (.var 3)) .nil))))
noncomputable def n_bar_of : List Str := ["lots", "lines", "ware", "bar", "least", "lot", "day", "here"]
noncomputable def t_bars_b1 : T := (.cons (.asgn (.item (.var 2) (.item (.var 3) (.int 0))) (.bool true)) .nil)
noncomputable def t_bars_e1 : T := (.tup (.cons (.var 4) (.cons (.call "bar_of" (.cons (.var 0) (.cons (.var 1) (.cons (.var 4) .nil)))) .nil)))
noncomputable def t_bars : T := (.cons (.expr (.call "need_rows" (.cons (.var 0) (.cons (.var 1) .nil)))) (.cons (.asgn (.var 2) (.dict .none .nil)) (.cons (.for_ (.var 3) (.bin .Add (.var 0) (.var 1)) t_bars_b1) (.cons (.ret (.comp false false t_bars_e1 (.var 4) (.blt .sorted (.cons (.var 2) .nil)) .nil)) .nil))))
noncomputable def n_bars : List Str := ["lots", "lines", "wares", "row", "ware"]
noncomputable def t_best_e1 : T := (.item (.var 2) (.int 2))
noncomputable def t_best_e2 : T := (.tup (.cons (.item (.item (.var 0) (.var 4)) (.int 1)) (.cons (.var 4) .nil)))
noncomputable def t_best_e3 : T := (.tup (.cons (.un .USub (.call "need" (.cons (.item (.var 1) (.var 4)) .nil))) (.cons (.var 4) .nil)))
noncomputable def t_best_b1 : T := (.cons (.asgn (.var 11) (.blt .min (.cons (.var 9) (.cons (.item (.var 3) (.var 2)) .nil)))) (.cons (.ite (.bo .And (.cons (.cmp .Gt (.var 11) (.int 0)) (.cons (.call "good" (.cons (.item (.var 0) (.var 2)) (.cons (.item (.var 1) (.var 8)) .nil))) .nil))) (.cons (.expr (.meth (.var 6) "append" (.cons (.tup (.cons (.var 8) (.cons (.var 2) (.cons (.var 11) .nil)))) .nil))) (.cons (.asgn (.var 9) (.bin .Sub (.var 9) (.var 11))) (.cons (.asgn (.item (.var 3) (.var 2)) (.bin .Sub (.item (.var 3) (.var 2)) (.var 11))) .nil))) .nil) .nil))
noncomputable def t_best_b2 : T := (.cons (.asgn (.var 9) (.item (.item (.var 1) (.var 8)) (.int 3))) (.cons (.for_ (.tup (.cons (.var 10) (.cons (.var 2) .nil))) (.var 5) t_best_b1) .nil))
noncomputable def t_best : T := (.cons (.expr (.call "need_rows" (.cons (.var 0) (.cons (.var 1) .nil)))) (.cons (.asgnC 3 true false t_best_e1 (.var 2) (.var 0) .nil) (.cons (.asgn (.var 5) (.blt .sorted (.cons (.comp false false t_best_e2 (.var 4) (.blt .range (.cons (.blt .len (.cons (.var 0) .nil)) .nil)) .nil) .nil))) (.cons (.asgn (.var 6) (.lst true .nil)) (.cons (.for_ (.tup (.cons (.var 7) (.cons (.var 8) .nil))) (.blt .sorted (.cons (.comp false false t_best_e3 (.var 4) (.blt .range (.cons (.blt .len (.cons (.var 1) .nil)) .nil)) .nil) .nil)) t_best_b2) (.cons (.ret (.blt .sorted (.cons (.var 6) .nil))) .nil))))))
noncomputable def n_best : List Str := ["lots", "lines", "lot", "rest", "place", "rows", "found", "turned", "line", "wanted", "last", "count"]
noncomputable def t_law_at : T := (.cons (.ite (.cmp .Lt (.var 1) (.blt .len (.cons (.var 0) .nil))) (.cons (.ret (.item (.var 0) (.var 1))) .nil) .nil) (.cons (.ret (.int 0)) .nil))
noncomputable def n_law_at : List Str := ["_law_script", "_law_k"]
end Mine
end
section
namespace Mine
open PySem
variable {c : Cx} {d : Nat} {σ : Led} {P P' : V → Led → Prop} {X : XP} {ρ : Rho} {K K' : Fl → Rho → Led → Prop} {N : List Str}
noncomputable def args : Nat → List V → Rho
  | _, [] => []
  | i, v :: vs => (i, v) :: args (i + 1) vs
theorem nm_args : ∀ (vs : List V) (i : Nat), i + vs.length ≤ N.length → Nm N (args i vs) = ((N.drop i).take vs.length).zip vs
  | [], i, _ => by simp [args, Nm]
  | v :: vs, i, h => by
    rw [List.length_cons] at h
    have hi : i < N.length := by lia
    have hx : N[i]? = some N[i] := List.getElem?_eq_getElem hi
    show Nm N ((i, v) :: args (i + 1) vs) = _
    rw [nm_cons hx, nm_args vs (i + 1) (by lia), List.drop_eq_getElem_cons hi, List.length_cons, List.take_succ_cons, List.zip_cons_cons]
structure FnT (k : Base) (x : Str) (np : Nat) (t : T) : Prop where
  ex : ∃ st G N, Fn k x st ∧ GlobOk k G ∧ NmOk N ∧ namesS st = N.take np ∧ np ≤ N.length ∧ scOk (scS st) (namesS st) = true ∧ chk G N t (scS st) (.b (bodyS st)) = true
noncomputable def RetT (P : V → Led → Prop) : Fl → Rho → Led → Prop := fun f z1 σ => Ret P f [] σ
theorem Ret_env {f : Fl} {m m' : AEnv} (h : Ret P f m σ) : Ret P f m' σ := by
  cases f <;> exact h
theorem CallN_J {x : Str} {vs : List V} {t : T} (hf : FnT c.k x vs.length t) (h : JB c d X t (args 0 vs) σ (RetT P)) : CallN c (d + 1) x vs σ P X := by
  obtain ⟨st, G, N, h1, h2, h3, h4, h5, h6, h7⟩ := hf.ex
  refine CallN_def (m₀ := (namesS st).zip vs) h2.ok h1 ?_ h6 (by rw [h4, List.length_take]; lia) rfl
  have := h G N (scS st) (bodyS st) h2 h3 h7
  rw [nm_args vs 0 (by lia), List.drop_zero, ← h4] at this
  exact this.mono fun f m' σ' ⟨ρ', _, q⟩ => Ret_env q
theorem call_go {x : Str} {vs : List V} {t : T} (hf : FnT c.k x vs.length t) (h : (ex d 100).S c X t (args 0 vs) σ (RetT P)) : CallN c (d + 1) x vs σ P X := CallN_J hf (JB_go h)
theorem made_f {F : List Addr} {ws : List V} (h : P (.lst ws) σ) : Made F false P ws σ := h
theorem made_t {F : List Addr} {ws : List V} (h : ∀ a, a ∉ owned σ → a ∉ F → P (.ref a) ((a, .list ws) :: σ)) : Made F true P ws σ := h
theorem ret_keep {v : V} (h : P v σ) : Ret P (.ret v) [] σ := ⟨v, σ, .keep (.refl _), h⟩
theorem ret_next (h : P .none σ) : Ret P .next [] σ := ⟨σ, .refl _, h⟩
theorem ret_drop {v : V} {σ' : Led} (k : σ.Sublist σ') (h : P v σ) : Ret P (.ret v) [] σ' := ⟨v, σ, .keep k, h⟩
theorem jcomp_map {t elt : T} {Kf : List V → Led → Prop} {α : Type} (e f : α → V) : ∀ (rows : List α) (acc : List V), (∀ a ∈ rows, ∃ ρ₁, some ((vix t, e a) :: ρ) = some ρ₁ ∧ JE c d NoX elt ρ₁ σ (fun w σ' => w = f a ∧ σ' = σ)) → Kf (acc ++ rows.map f) σ → JComp c d t false .nil elt ρ Kf (rows.map e) acc σ
  | [], acc, _, h => by
    show Kf acc σ
    simpa using h
  | a :: rows, acc, hs, h => by
    obtain ⟨ρ₁, h1, h2⟩ := hs a (.head _)
    cases h1
    refine JE.mono h2 fun w σ' q => ?_
    rw [q.1, q.2]
    exact jcomp_map e f rows _ (fun b hb => hs b (.tail _ hb)) (by simpa using h)
theorem jcomp_fm {t cond elt : T} {Kf : List V → Led → Prop} {α : Type} (e f : α → V) (p : α → Bool) : ∀ (rows : List α) (acc : List V), (∀ a ∈ rows, ∃ ρ₁, some ((vix t, e a) :: ρ) = some ρ₁ ∧ JT c d NoX cond ρ₁ σ (fun b σ' => b = p a ∧ σ' = σ) ∧ (p a = true → JE c d NoX elt ρ₁ σ (fun w σ' => w = f a ∧ σ' = σ))) →
    Kf (acc ++ (rows.filter p).map f) σ → JComp c d t true cond elt ρ Kf (rows.map e) acc σ
  | [], acc, _, h => by
    show Kf acc σ
    simpa using h
  | a :: rows, acc, hs, h => by
    obtain ⟨ρ₁, h1, h2, h3⟩ := hs a (.head _)
    cases h1
    refine JT.mono h2 fun b σ' q => ?_
    rw [q.1, q.2]
    cases hp : p a with
    | true =>
      refine (h3 hp).mono fun w σ' q => ?_
      rw [q.1, q.2]
      refine jcomp_fm e f p rows _ (fun b hb => hs b (.tail _ hb)) ?_
      rw [List.filter_cons_of_pos (by simpa using hp)] at h
      simpa using h
    | false =>
      refine jcomp_fm e f p rows _ (fun b hb => hs b (.tail _ hb)) ?_
      rw [List.filter_cons_of_neg (by simp [hp])] at h
      exact h
theorem RSub.nil : RSub [] ρ := fun z1 z2 h => by cases h
theorem RSub.cons {ρ' : Rho} {i : Nat} {v : V} (h : ρ.lookup i = some v) (r : RSub ρ' ρ) : RSub ((i, v) :: ρ') ρ := fun j w e => by
  rw [List.lookup_cons] at e
  cases hj : j == i with
  | true => rw [hj] at e; cases e; rw [eq_of_beq hj]; exact h
  | false => rw [hj] at e; exact r j w e
theorem RSub.trans {ρ₁ ρ₂ ρ₃ : Rho} (h : RSub ρ₁ ρ₂) (k : RSub ρ₂ ρ₃) : RSub ρ₁ ρ₃ := fun i v e => k i v (h i v e)
end Mine
end
section
namespace Mine
open PySem
noncomputable def fnB (G : Glob) (N : List Str) (t : T) (st : Stmt) (np : Nat) : Bool :=
  nodupB N && !N.contains (".0" : Str) && namesS st == N.take np && decide (np ≤ N.length) && scOk (scS st) (namesS st) && chk G N t (scS st) (.b (bodyS st))
theorem FnT.of {k : Base} {x : Str} {st : Stmt} {np : Nat} {t : T} {G : Glob} {N : List Str} (h : Fn k x st) (hG : GlobOk k G) (hb : fnB G N t st np = true) : FnT k x np t := by
  obtain ⟨h1, h6⟩ := and_tt hb
  obtain ⟨h1, h5⟩ := and_tt h1
  obtain ⟨h1, h4⟩ := and_tt h1
  obtain ⟨h1, h3⟩ := and_tt h1
  obtain ⟨h1, h2⟩ := and_tt h1
  exact ⟨st, G, N, h, hG, ⟨nodup_of h1, by simpa using h2⟩, eq_of_beq h3, of_decide_eq_true h4, h5, h6⟩
theorem all_nil {α : Type} {p : α → Prop} : ∀ a ∈ ([] : List α), p a := fun z1 h => by cases h
theorem all_cons {α : Type} {p : α → Prop} {a : α} {l : List α} (h : p a) (r : ∀ b ∈ l, p b) : ∀ b ∈ a :: l, p b := fun b hb => by
  rcases List.mem_cons.mp hb with e | e
  · rw [e]; exact h
  · exact r b e
theorem GlobOk.of {k : Base} {G : Glob} (ok : k.OK) (h1 : ∀ p ∈ G.gInts, Const k p.1 (.int p.2)) (h2 : ∀ p ∈ G.gStrs, Const k p.1 (.str p.2)) (h3 : ∀ x ∈ G.gDefs, Def k x) (h4 : ∀ f : Bf, Blt k f.name f.val) (hd : k.hd = true) : GlobOk k G :=
  ⟨ok, fun x i e => h1 _ (mem_of_lookup e), fun x y e => h2 _ (mem_of_lookup e), fun x e => h3 x (by simpa using e), h4, hd⟩
end Mine
end
section
namespace Mine
open PySem
variable {c : Cx} {d : Nat} {σ : Led} {P P' : V → Led → Prop} {X : XP} {ρ : Rho} {K K' : Fl → Rho → Led → Prop}
noncomputable def HE (c : Cx) (d : Nat) (t : T) (ρ : Rho) (σ : Led) (P : V → Led → Prop) : Prop := ∀ G N sc e, GlobOk c.k G → NmOk N → chk G N t sc (.e e) = true → WE c.un d sc e (Nm N ρ) σ P NoX
noncomputable def HBo (c : Cx) (d : Nat) (op : BoolOp) (t : T) (ρ : Rho) (σ : Led) (P : V → Led → Prop) : Prop := ∀ G N sc es, GlobOk c.k G → NmOk N → chk G N t sc (.l es) = true → WEb c.un d sc op es (Nm N ρ) σ P NoX
noncomputable def HB (c : Cx) (d : Nat) (t : T) (ρ : Rho) (σ : Led) (K : Fl → Rho → Led → Prop) : Prop := ∀ G N sc ss, GlobOk c.k G → NmOk N → chk G N t sc (.b ss) = true → WSs c.un d sc ss (Nm N ρ) σ (AfterF N K) NoX
theorem HE_var {i : Nat} {v : V} (hv : ρ.lookup i = some v) (h : P v σ) : HE c d (.var i) ρ σ P := fun G N sc e hG hN hc => by
  obtain ⟨x, p, rfl, e⟩ := onNm_inv (show onNm e (fun x => isVar sc x && N[i]? == some x) = true from hc)
  obtain ⟨e1, e2⟩ := and_tt e
  exact WE_name ((nm_lookup hN (eq_of_beq e2) ρ).trans hv) h e1
theorem HE_not {a : T} (h : HE c d a ρ σ (fun v σ₁ => ∃ b, v = .bool b ∧ P (.bool (!b)) σ₁)) : HE c d (.un .Not a) ρ σ P := fun G N sc e hG hN hc => by
  obtain ⟨o, l, p, rfl, e⟩ := onUn_inv (show onUn e (fun o l => o == .Not && chk G N a sc (.e l)) = true from hc)
  obtain ⟨e1, e2⟩ := and_tt e
  rw [eq_of_beq e1]
  refine WE_unary ((h G N sc l hG hN e2).mono fun v σ₁ k => ?_)
  obtain ⟨b, rfl, k⟩ := k
  exact Op_not k
theorem HE_bo {op : BoolOp} {es : T} (h : HBo c d op es ρ σ P) : HE c d (.bo op es) ρ σ P := fun G N sc e hG hN hc => by
  obtain ⟨o, l, p, rfl, e⟩ := onBo_inv (show onBo e (fun o xs => o == op && chk G N es sc (.l xs)) = true from hc)
  obtain ⟨e1, e2⟩ := and_tt e
  rw [eq_of_beq e1]
  exact WE_boolop (h G N sc l hG hN e2)
theorem HBo_one {op : BoolOp} {a : T} (h : HE c d a ρ σ P) : HBo c d op (.cons a .nil) ρ σ P := fun G N sc es hG hN hc => by
  obtain ⟨e, es', rfl, _, _, e1, e2⟩ := cons_inv hc
  rw [on0_inv (show on0 es' = true from e2)]
  exact WEb_one (h G N sc e hG hN e1)
theorem HBo_and {a b r : T} (h : HE c d a ρ σ (fun v σ₁ => ∃ t, v = .bool t ∧ if t = true then HBo c d .And (.cons b r) ρ σ₁ P else P (.bool false) σ₁)) : HBo c d .And (.cons a (.cons b r)) ρ σ P := fun G N sc es hG hN hc => by
  obtain ⟨e, es', rfl, _, _, e1, e2⟩ := cons_inv hc
  obtain ⟨e', es'', rfl, _⟩ := cons_inv e2
  refine WEb_and ((h G N sc e hG hN e1).mono fun v σ₁ k => ?_)
  obtain ⟨t, q1, q2⟩ := k
  refine ⟨t, q1, ?_⟩
  cases t with
  | true => exact q2 G N sc _ hG hN e2
  | false => exact q2
noncomputable def ClsV (k : Base) (x : Str) (cv : Value) : Prop := (∃ C bm, Exc k x C bm ∧ cv = .ref C) ∨ (Blt k x (.type "ValueError") ∧ cv = .type "ValueError")
theorem ClsV.is {k : Base} {x : Str} {cv : Value} (h : ClsV k x cv) : IsCls k.h0 cv := by
  rcases h with ⟨C, bm, h, rfl⟩ | ⟨_, rfl⟩
  · exact .own h.own
  · exact .ve
theorem ok_un (h : c.k.OK) : c.un.k.OK := ⟨h.g, h.b, h.nolimit⟩
section
variable {sc : Scope} {m : AEnv}
theorem WE_clsv (hc : c.k.OK) {x : Str} {cv : Value} {p : Pos} (h : ClsV c.k x cv) (hk : sc.names.lookup x = some .globalImplicit) (hP : P (.raw cv) σ) : WE c.un d sc (.Name x p) m σ P NoX := by
  rcases h with ⟨C, bm, h, rfl⟩ | ⟨h, rfl⟩
  · exact WE_cls (c := c.un) (ok_un hc) (bm := bm) ⟨h.mg, h.own⟩ hk hP
  · exact WE_blt (c := c.un) (ok_un hc) h hP hk
theorem nms_star : ∀ {xs : List Str} {es : List Expr}, nmsAre sc xs es = true → es.all noStar = true
  | [], es, h => by rw [on0_inv (show on0 es = true from h)]; rfl
  | x :: xs, es, h => by
    obtain ⟨e, r, rfl, q⟩ := onCons_inv (show onCons es _ = true from h)
    obtain ⟨q1, q2⟩ := and_tt q
    obtain ⟨y, p, rfl, _⟩ := onNm_inv q1
    rw [List.all_cons, nms_star q2]; rfl
theorem WEs_clsv (hc : c.k.OK) {cv : Str → Value} : ∀ {xs : List Str} {es : List Expr} {P : List V → Led → Prop}, nmsAre sc xs es = true → (∀ x ∈ xs, ClsV c.k x (cv x)) → P ((xs.map cv).map .raw) σ → WEs c.un d sc es m σ P NoX
  | [], es, P, h, _, hP => by rw [on0_inv (show on0 es = true from h)]; exact WEs_nil hP
  | x :: xs, es, P, h, hx, hP => by
    obtain ⟨e, r, rfl, q⟩ := onCons_inv (show onCons es _ = true from h)
    obtain ⟨q1, q2⟩ := and_tt q
    obtain ⟨y, p, rfl, k⟩ := onNm_inv q1
    obtain ⟨k1, k2⟩ := and_tt k
    rw [eq_of_beq k1]
    exact WEs_cons (WE_clsv hc (hx x (.head _)) (gi_of k2) (WEs_clsv hc (P := fun vs σ' => P (.raw (cv x) :: vs) σ') q2 (fun y hy => hx y (.tail _ hy)) hP)) (star_cons rfl _) (star_all (nms_star q2))
end
theorem isx_inv {G : Glob} {N : List Str} {sc : Scope} {a : T} {tp : Bool} {xs : List Str} {e : Expr} (hc : chk G N (.isx a tp xs) sc (.e e) = true) :
    ∃ y z q p, e = .Call (.Name Bf.isinstance.name q) [y, z] [] p ∧ gi sc Bf.isinstance.name = true ∧ noStar y = true ∧ noStar z = true ∧ clsIs sc tp xs z = true ∧ chk G N a sc (.e y) = true := by
  obtain ⟨q, ys, p, rfl, e2, e3⟩ := name_inv (h := fun ys => on2 ys fun y z => noStar y && noStar z && clsIs sc tp xs z && chk G N a sc (.e y)) hc
  obtain ⟨y, z, rfl, r⟩ := on2_inv e3
  obtain ⟨r, r3, r4⟩ := and3_tt r
  exact ⟨y, z, q, p, rfl, e2, (and_tt r).1, (and_tt r).2, r3, r4⟩
theorem HE_isx {a : T} {x : Str} {cv : Value} (hx : ClsV c.k x cv) (h : HE c d a ρ σ (fun v σ₁ => CallS c.un d (.builtin "isinstance") [v, .raw cv] σ₁ P NoX)) : HE c d (.isx a false [x]) ρ σ P := fun G N sc e hG hN hc => by
  obtain ⟨y, z, q, p, rfl, e1, r1, r2, r3, r4⟩ := isx_inv hc
  obtain ⟨w, l, k0, k⟩ := onCons_inv (show onCons [z] (fun e r => onNm e (fun y => y == x && gi sc x) && nmsAre sc [] r) = true from r3)
  cases k0
  obtain ⟨k1, _⟩ := and_tt k
  obtain ⟨u, p', rfl, k5⟩ := onNm_inv k1
  obtain ⟨k3, k4⟩ := and_tt k5
  rw [eq_of_beq k3]
  exact WE_callB (c := c.un) (ok_un hG.ok) (hG.hBlts .isinstance) (WEs_cons ((h G N sc y hG hN r4).mono fun v σ₁ k => WEs_cons (WE_clsv hG.ok hx (gi_of k4) (WEs_nil k)) (star_cons rfl _) (star_all rfl)) (star_cons r1 _) (star_all rfl)) .b (gi_of e1)
theorem HE_isxT {a : T} {xs : List Str} (cv : Str → Value) (hx : ∀ x ∈ xs, ClsV c.k x (cv x)) (h : HE c d a ρ σ (fun v σ₁ => CallS c.un d (.builtin "isinstance") [v, .tup ((xs.map cv).map .raw)] σ₁ P NoX)) : HE c d (.isx a true xs) ρ σ P := fun G N sc e hG hN hc => by
  obtain ⟨y, z, q, p, rfl, e1, r1, r2, r3, r4⟩ := isx_inv hc
  obtain ⟨es, k, p', rfl, u⟩ := onTup_inv (show onTup z _ = true from r3)
  obtain ⟨u1, u2⟩ := and_tt u
  exact WE_callB (c := c.un) (ok_un hG.ok) (hG.hBlts .isinstance) (WEs_cons ((h G N sc y hG hN r4).mono fun v σ₁ k => WEs_cons (WE_tuple (WEs_clsv hG.ok (P := fun vs σ' => WEs c.un d sc [] _ σ' (fun ws σ₂ => CallS c.un d (.builtin "isinstance") (v :: .tup vs :: ws) σ₂ P NoX) NoX) u2 hx (WEs_nil k)) (of_decide_eq_true u1)) (star_cons rfl _) (star_all rfl)) (star_cons r1 _) (star_all (by rw [List.all_cons, r2]; rfl))) .b (gi_of e1)
theorem HB_ret {e : T} (h : HE c d e ρ σ (fun v σ₁ => K (.ret v) ρ σ₁)) : HB c d (.cons (.ret e) .nil) ρ σ K := fun G N sc ss hG hN hc => by
  obtain ⟨s, ss', rfl, q⟩ := onCons_inv (show onCons ss (fun s ss => chk G N (.ret e) sc (.s s) && chk G N .nil sc (.b ss)) = true from hc)
  obtain ⟨e1, e2⟩ := and_tt q
  obtain ⟨o, p, rfl, u⟩ := onRet_inv (show onRet s (fun o => onSome o fun x => chk G N e sc (.e x)) = true from e1)
  obtain ⟨x, rfl, u2⟩ := onSome_inv u
  exact WSs_cons (WS_return ((h G N sc x hG hN u2).mono fun v σ₁ k => ⟨ρ, Sub.refl', k⟩))
section
variable {x : Str} {C D : Addr} {bm bm' : List Value} {b r : T} {σ0 : Led} (own : OwnE c.k.h0 C bm) (hx : Exc c.k x D bm')
include own hx
omit own hx in
theorem hd_inv {G : Glob} {N : List Str} {sc : Scope} {v : Option Nat} {ts : List ExceptHandler} (hc : chk G N (.cons (.handler x v b) r) sc (.hl ts) = true) :
    ∃ p nm bs pos ts', ts = .ExceptHandler (some (.Name x p)) nm bs pos :: ts' ∧ gi sc x = true ∧ nmIs N sc v nm = true ∧ chk G N b sc (.b bs) = true ∧ chk G N r sc (.hl ts') = true := by
  obtain ⟨t, ts', rfl, q⟩ := onCons_inv (show onCons ts (fun h hs => chk G N (.handler x v b) sc (.hd h) && chk G N r sc (.hl hs)) = true from hc)
  obtain ⟨q1, q2⟩ := and_tt q
  obtain ⟨t, n, bs, p, rfl, k⟩ := onHd_inv (show onHd t _ = true from q1)
  obtain ⟨k, k3⟩ := and_tt k
  obtain ⟨k1, k2⟩ := and_tt k
  obtain ⟨e, rfl, k1⟩ := onSome_inv k1
  obtain ⟨y, p', rfl, k1⟩ := onNm_inv k1
  obtain ⟨k4, k5⟩ := and_tt k1
  rw [eq_of_beq k4]
  exact ⟨p', n, bs, p, ts', rfl, k5, k2, k3, q2⟩
theorem JH_miss {v : Option Nat} (hno : (Value.ref C :: bm).contains (.ref D) = false) (h : JH c d r C σ0 σ K X) : JH c d (.cons (.handler x v b) r) C σ0 σ K X := fun G N sc ts hG hN hc => by
  obtain ⟨p, nm, bs, pos, ts', rfl, k1, k2, k3, k4⟩ := hd_inv hc
  exact WH_miss hG.ok hx (gi_of k1) own hno (h G N sc ts' hG hN k4)
theorem JH_hit {b₀ b₁ : T} (hyes : (Value.ref C :: bm).contains (.ref D) = true) (h : HB c d (.cons b₀ b₁) [] σ K) : JH c d (.cons (.handler x none (.cons b₀ b₁)) r) C σ0 σ K X := fun G N sc ts hG hN hc => by
  obtain ⟨p, nm, bs, pos, ts', rfl, k1, k2, k3, k4⟩ := hd_inv hc
  rw [Option.isNone_iff_eq_none.mp (show nm.isNone = true from k2)]
  have hb := h G N sc bs hG hN k3
  obtain ⟨s, ss', rfl, _⟩ := onCons_inv (show onCons bs _ = true from k3)
  exact WH_hit hG.ok hx (gi_of k1) own hyes hb
theorem JH_as {i : Nat} {b₀ b₁ : T} (hyes : (Value.ref C :: bm).contains (.ref D) = true) (h : ∀ e, HB c d (.cons b₀ b₁) [(i, .ref e)] ((e, .exc C) :: σ) (fun fl z1 σ' => K fl [] σ')) : JH c d (.cons (.handler x (some i) (.cons b₀ b₁)) r) C σ0 σ K X := fun G N sc ts hG hN hc => by
  obtain ⟨p, nm, bs, pos, ts', rfl, k1, k2, k3, k4⟩ := hd_inv hc
  obtain ⟨n, rfl, w⟩ := onSome_inv (show onSome nm _ = true from k2)
  obtain ⟨w1, w2⟩ := and_tt w
  have hb := fun e => h e G N sc bs hG hN k3
  obtain ⟨s, ss', rfl, _⟩ := onCons_inv (show onCons bs _ = true from k3)
  refine WH_as hG.ok hx (gi_of k1) own hyes (eq_of_beq w2) fun e => ?_
  have := hb e
  rw [nm_cons (eq_of_beq w1)] at this
  exact this.mono fun f m' σ' k => by
    obtain ⟨ρ', _, k⟩ := k
    exact ⟨[], Sub.refl', k⟩
end
end Mine
end
section
namespace Mine
open PySem
variable {c : Cx} {d : Nat} {σ : Led} {P P' : V → Led → Prop} {X : XP} {ρ : Rho} {K K' : Fl → Rho → Led → Prop}
theorem HE_cmp {op : CmpOp} {a b : T} (h : HE c d a ρ σ (fun x σ₁ => HE c d b ρ σ₁ (fun y σ₂ => Op2 c.un d (compareOp op) x y σ₂ P))) : HE c d (.cmp op a b) ρ σ P := fun G N sc e hG hN hc => by
  obtain ⟨l, r, p, rfl, e1, e2, e3⟩ := cmp_inv hc
  exact WE_cmp ((h G N sc l hG hN e2).mono fun x σ₁ q => q G N sc r hG hN e3) e1
theorem HE_str {y : Str} (h : P (.str y) σ) : HE c d (.str y) ρ σ P := fun G N sc e hG hN hc => by
  rcases (Bool.or_eq_true _ _).mp (show (isCst e (.str y) || onNm e (fun x => gi sc x && G.gStrs.lookup x == some y)) = true from hc) with q | q
  · obtain ⟨k, n, p, rfl, e⟩ := onCst_inv q
    rw [eq_of_beq e]; exact WE_str h
  · obtain ⟨x, p, rfl, e⟩ := onNm_inv q
    obtain ⟨e1, e2⟩ := and_tt e
    exact WE_const (c := c.un) (ok_un hG.ok) (hG.hStrs x y (eq_of_beq e2)) h (gi_of e1)
theorem HB_asgn {i : Nat} {e r : T} (h : HE c d e ρ σ (fun v σ₁ => HB c d r ((i, v) :: ρ) σ₁ K)) : HB c d (.cons (.asgn (.var i) e) r) ρ σ K := fun G N sc ss hG hN hc => by
  obtain ⟨s, ss', rfl, q⟩ := onCons_inv (show onCons ss (fun s ss => chk G N (.asgn (.var i) e) sc (.s s) && chk G N r sc (.b ss)) = true from hc)
  obtain ⟨e1, e2⟩ := and_tt q
  obtain ⟨x, y, p, rfl, k1, k2, k3, k4⟩ := asgn_inv e1
  refine WSs_cons (WS_assign ((h G N sc y hG hN k4).mono fun v σ₁ hq => ?_) (fun env z1 => swaps_no k1 _ _ env) (stores_var G N sc x y k3 k4) (fun env => by rw [asg_cons k2]; rfl))
  obtain ⟨z, pz, rfl, w⟩ := onNm_inv (show onNm x (fun x => isLoc sc x && N[i]? == some x) = true from k3)
  obtain ⟨w1, w2⟩ := and_tt w
  refine WA_name ?_ w1
  have := hq G N sc ss' hG hN e2
  rw [nm_cons (eq_of_beq w2)] at this
  exact this
end Mine
end
section
set_option maxRecDepth 100000
set_option maxHeartbeats 1000000
set_option compiler.extract_closed false
namespace Mine
open PySem
variable {c : Cx} {d : Nat} {σ : Led} {P P' : V → Led → Prop} {X : XP} {ρ : Rho} {K K' : Fl → Rho → Led → Prop}
set_option tactic.hygienic true
local macro_rules | `(tactic| walk_at "spec") => `(tactic| fail)
local macro_rules | `(tactic| walk_at "side") => `(tactic| first | lia | exact mulOk_left (by lia) (by lia) | exact mulOk_right (by lia) (by lia))
local macro_rules | `(tactic| walk_at "sub") => `(tactic| repeat (first | exact RSub.nil | apply RSub.cons rfl))
local macro_rules | `(tactic| walk_at "x") => `(tactic| first
  | (with_reducible show CallN _ _ _ _ _ _ _; walk_at "spec")
  | with_reducible first | apply JE_go | apply JT_go | apply JAB_go | apply JA_go | apply JB_go | apply JL_go | apply br_t | apply br_f
  | apply ret_keep
  | refine Leaf.mk ⟨_, List.length_map _, ?_⟩
  | apply Leaf.mk
  | (apply br_intro <;> (intro hif; try simp only [brs] at hif))
  | (apply Side.mk; focus walk_at "side"))
structure Things (k : Base) : Prop where
  f_is_whole : FnT k "is_whole" 1 t_is_whole
  f_is_ware : FnT k "is_ware" 1 t_is_ware
  f_is_day : FnT k "is_day" 1 t_is_day
  f_is_count : FnT k "is_count" 1 t_is_count
  f_is_lot : FnT k "is_lot" 1 t_is_lot
  f_is_line : FnT k "is_line" 1 t_is_line
  f_need : FnT k "need" 1 t_need
  f_good : FnT k "good" 2 t_good
  f_need_rows : FnT k "need_rows" 2 t_need_rows
theorem S_need (hp : Things c.k) {x : V} {a b : Int} {vs : List V} (h : P (.int (a + b)) σ) : CallN c (d + 1) "need" [.tup (x :: .int a :: .int b :: vs)] σ P X := by
  refine call_go hp.f_need ?_
  repeat' walk_at "x"
  exact h
theorem S_good (hp : Things c.k) {x y : Str} {last a b : Int} {us vs : List V} (h : P (.bool (x == y && decide (a + b ≤ last))) σ) : CallN c (d + 2) "good" [.tup (.str x :: .int last :: us), .tup (.str y :: .int a :: .int b :: vs)] σ P X := by
  refine call_go hp.f_good ?_
  repeat' (first | walk_at "x" | (with_reducible refine S_need ?_ ?_; assumption))
  · rename_i q
    rw [q, beq_self_eq_true, Bool.true_and] at h; exact h
  · rename_i q
    rw [beq_eq_false_iff_ne.mpr q, Bool.false_and] at h; exact h
theorem S_is_whole (hp : Things c.k) {i : Int} (h : P (.bool true) σ) : CallN c (d + 1) "is_whole" [.int i] σ P X := by
  refine call_go hp.f_is_whole ?_
  repeat' walk_at "x"
  exact h
local macro_rules | `(tactic| walk_at "spec") => `(tactic| first | (with_reducible apply S_need; assumption) | (with_reducible apply S_good; assumption) | (with_reducible apply S_is_whole; assumption))
noncomputable abbrev LETTERS : Str := Str.ofString "abcdefghijklmnopqrstuvwxyz"
noncomputable def wareB (x : Str) : Bool := decide (1 ≤ (x.length : Int)) && decide ((x.length : Int) ≤ 12) && x.cps.toList.all (fun k => Txt.contains LETTERS ⟨#[k]⟩)
structure WareOk (x : Str) : Prop where
  hi : x.length ≤ 12
  b : wareB x = true
  ok : PyData.strOk x = true
theorem S_is_ware (hp : Things c.k) {x : Str} (hx : x.length ≤ 1000000) (h : P (.bool (wareB x)) σ) : CallN c (d + 1) "is_ware" [.str x] σ P X := by
  refine call_go hp.f_is_ware ?_
  have hs : sizeLine = 16777216 := by rw [sizeLine_eq]
  unfold wareB at h
  repeat' walk_at "x"
  · rename_i q1 q2
    rw [decide_eq_false q2, Bool.and_false, Bool.false_and] at h
    exact h
  · rename_i q1 q2
    rw [decide_eq_true q1, decide_eq_true q2, Bool.true_and, Bool.true_and] at h
    refine ⟨_, [], by simp, Iter_str (by (exact Ar.lin 0 2 (.le (.v 0) (.v 1)) [(.le (.v 0) (.k 1000000)), (.eq (.v 1) (.k 16777216))] (by kernel_rfl) [] [_, _] rfl rfl hx hs)), fun D => ?_⟩
    refine jcomp_map (fun k => .str ⟨#[k]⟩) (fun k => .bool (Txt.contains LETTERS ⟨#[k]⟩)) x.cps.toList [] (fun k hk => ⟨_, rfl, ?_⟩) ?_
    · repeat' walk_at "x"
      exact ⟨rfl, rfl⟩
    · rw [List.nil_append, show x.cps.toList.map (fun k => V.bool (Txt.contains LETTERS ⟨#[k]⟩)) = (x.cps.toList.map fun k => Txt.contains LETTERS ⟨#[k]⟩).map V.bool by rw [List.map_map]; rfl]
      refine made_f ?_
      refine Leaf.mk ⟨_, rfl, ?_⟩
      refine ret_keep ?_
      rw [List.all_map]; exact h
  · rename_i q1
    rw [decide_eq_false q1, Bool.false_and, Bool.false_and] at h
    exact h
noncomputable def dayB (i : Int) : Bool := decide (0 ≤ i) && decide (i ≤ 1000000000000)
noncomputable def countB (i : Int) : Bool := decide (1 ≤ i) && decide (i ≤ 1000000000000)
theorem S_is_day (hp : Things c.k) {i : Int} (h : P (.bool (dayB i)) σ) : CallN c (d + 2) "is_day" [.int i] σ P X := by
  refine call_go hp.f_is_day ?_
  unfold dayB at h
  repeat' walk_at "x"
  · rename_i q
    rw [decide_eq_true q, Bool.true_and] at h; exact h
  · rename_i q
    rw [decide_eq_false q, Bool.false_and] at h; exact h
theorem S_is_count (hp : Things c.k) {i : Int} (h : P (.bool (countB i)) σ) : CallN c (d + 2) "is_count" [.int i] σ P X := by
  refine call_go hp.f_is_count ?_
  unfold countB at h
  repeat' walk_at "x"
  · rename_i q
    rw [decide_eq_true q, Bool.true_and] at h; exact h
  · rename_i q
    rw [decide_eq_false q, Bool.false_and] at h; exact h
structure Lot where
  w : Str
  last : Int
  n : Int
noncomputable def Lot.v (l : Lot) : V := .tup [.str l.w, .int l.last, .int l.n]
structure Lot.ok (l : Lot) : Prop where
  w : WareOk l.w
  a0 : 0 ≤ l.last
  a1 : l.last ≤ 1000000000000
  n0 : 1 ≤ l.n
  n1 : l.n ≤ 1000000000000
structure Line where
  w : Str
  day : Int
  left : Int
  n : Int
noncomputable def Line.v (l : Line) : V := .tup [.str l.w, .int l.day, .int l.left, .int l.n]
structure Line.ok (l : Line) : Prop where
  w : WareOk l.w
  a0 : 0 ≤ l.day
  a1 : l.day ≤ 1000000000000
  b0 : 0 ≤ l.left
  b1 : l.left ≤ 1000000000000
  n0 : 1 ≤ l.n
  n1 : l.n ≤ 1000000000000
noncomputable def Line.need (l : Line) : Int := l.day + l.left
noncomputable def Lot.b (l : Lot) : Bool := wareB l.w && (dayB l.last && countB l.n)
noncomputable def Line.b (l : Line) : Bool := wareB l.w && (dayB l.day && (dayB l.left && countB l.n))
theorem Lot.ok.b {l : Lot} (o : l.ok) : l.b = true := by
  have h1 := o.a0
  have h2 := o.a1
  have h3 := o.n0
  have h4 := o.n1
  simp [Lot.b, o.w.b, dayB, countB, h1, h2, h3, h4]
theorem Line.ok.b {l : Line} (o : l.ok) : l.b = true := by
  have h1 := o.a0
  have h2 := o.a1
  have h3 := o.n0
  have h4 := o.n1
  have h5 := o.b0
  have h6 := o.b1
  simp [Line.b, o.w.b, dayB, countB, h1, h2, h3, h4, h5, h6]
theorem S_is_lot (hp : Things c.k) {l : Lot} (hx : l.w.length ≤ 1000000) (h : P (.bool l.b) σ) : CallN c (d + 3) "is_lot" [l.v] σ P X := by
  refine call_go hp.f_is_lot ?_
  unfold Lot.b at h
  repeat' (first | walk_at "x" | (with_reducible refine S_is_ware ?_ ?_ ?_; assumption; (first | assumption | lia)) | (with_reducible refine S_is_day ?_ ?_; assumption) | (with_reducible refine S_is_count ?_ ?_; assumption))
  · rename_i q1 q2; rw [q1, q2, Bool.true_and, Bool.true_and] at h; exact h
  · rename_i q1 q2; rw [q1, q2, Bool.true_and, Bool.false_and] at h; exact h
  · rename_i q1; rw [q1, Bool.false_and] at h; exact h
theorem S_is_line (hp : Things c.k) {l : Line} (hx : l.w.length ≤ 1000000) (h : P (.bool l.b) σ) : CallN c (d + 3) "is_line" [l.v] σ P X := by
  refine call_go hp.f_is_line ?_
  unfold Line.b at h
  repeat' (first | walk_at "x" | (with_reducible refine S_is_ware ?_ ?_ ?_; assumption; (first | assumption | lia)) | (with_reducible refine S_is_day ?_ ?_; assumption) | (with_reducible refine S_is_count ?_ ?_; assumption))
  · rename_i q1 q2 q3; rw [q1, q2, q3, Bool.true_and, Bool.true_and, Bool.true_and] at h; exact h
  · rename_i q1 q2 q3; rw [q1, q2, q3, Bool.true_and, Bool.true_and, Bool.false_and] at h; exact h
  · rename_i q1 q2; rw [q1, q2, Bool.true_and, Bool.false_and] at h; exact h
  · rename_i q1; rw [q1, Bool.false_and] at h; exact h
theorem S_good_ (hp : Things c.k) {l : Lot} {m : Line} (h : P (.bool (l.w == m.w && decide (m.day + m.left ≤ l.last))) σ) : CallN c (d + 2) "good" [l.v, m.v] σ P X := S_good hp h
theorem S_need_ (hp : Things c.k) {m : Line} (h : P (.int (m.day + m.left)) σ) : CallN c (d + 1) "need" [m.v] σ P X := S_need hp h
local macro_rules | `(tactic| walk_at "spec") => `(tactic| first | (with_reducible apply S_good_; assumption) | (with_reducible apply S_need_; assumption))
theorem map_bool {α : Type} (f : α → Bool) (l : List α) : l.map (fun a => V.bool (f a)) = (l.map f).map V.bool := by rw [List.map_map]; rfl
theorem S_need_rows (hp : Things c.k) {lots : List Lot} {lines : List Line} (h1 : ∀ l ∈ lots, l.ok) (h2 : ∀ l ∈ lines, l.ok) (hl1 : lots.length ≤ 100) (hl2 : lines.length ≤ 100) (h : P .none σ) :
    CallN c (d + 4) "need_rows" [.lst (lots.map Lot.v), .lst (lines.map Line.v)] σ P X := by
  refine call_go hp.f_need_rows ?_
  repeat' (first | walk_at "x" | (with_reducible refine S_is_lot ?_ ?_ ?_; assumption; (first | assumption | lia)) | (with_reducible refine S_is_line ?_ ?_ ?_; assumption; (first | assumption | lia)))
  · exfalso; lia
  refine ⟨_, [], by simp, Iter_lst, fun D => ?_⟩
  have hp' : Things ((c.pro []).hide D).k := hp
  refine jcomp_map Lot.v (fun l => .bool l.b) lots [] (fun l hl => ⟨_, rfl, ?_⟩) ?_
  · have hw := (h1 l hl).w.hi
    repeat' (first | walk_at "x" | (with_reducible refine S_is_lot ?_ ?_ ?_; assumption; (first | assumption | lia)) | (with_reducible refine S_is_line ?_ ?_ ?_; assumption; (first | assumption | lia)))
    exact ⟨rfl, rfl⟩
  refine made_f ?_
  rw [List.nil_append, map_bool]
  refine Leaf.mk ⟨_, rfl, ?_⟩
  rw [show ((lots.map Lot.b).all id) = true by rw [List.all_map, List.all_eq_true]; exact fun l hl => (h1 l hl).b]
  repeat' (first | walk_at "x" | (with_reducible refine S_is_lot ?_ ?_ ?_; assumption; (first | assumption | lia)) | (with_reducible refine S_is_line ?_ ?_ ?_; assumption; (first | assumption | lia)))
  · exfalso; lia
  refine ⟨_, [], by simp, Iter_lst, fun D => ?_⟩
  have hp' : Things ((c.pro []).hide D).k := hp
  refine jcomp_map Line.v (fun l => .bool l.b) lines [] (fun l hl => ⟨_, rfl, ?_⟩) ?_
  · have hw := (h2 l hl).w.hi
    repeat' (first | walk_at "x" | (with_reducible refine S_is_lot ?_ ?_ ?_; assumption; (first | assumption | lia)) | (with_reducible refine S_is_line ?_ ?_ ?_; assumption; (first | assumption | lia)))
    exact ⟨rfl, rfl⟩
  refine made_f ?_
  rw [List.nil_append, map_bool]
  refine Leaf.mk ⟨_, rfl, ?_⟩
  rw [show ((lines.map Line.b).all id) = true by rw [List.all_map, List.all_eq_true]; exact fun l hl => (h2 l hl).b]
  refine ret_next ?_
  exact h
noncomputable def at_ (xs : List Int) (k : Int) : Int := xs.getD k.toNat 0
local macro_rules | `(tactic| walk_at "spec") => `(tactic| (with_reducible apply S_at; assumption; lia))
theorem slice_mem {α : Type} {lo hi : Option Int} {xs : List α} {a : α} (h : a ∈ slice lo hi xs) : a ∈ xs := by
  unfold slice at h
  exact List.mem_of_mem_drop (List.mem_of_mem_take h)
open Deal in
noncomputable def rowV (x : Row) : V := .tup [.int x.1, .int x.2.1, .int x.2.2]
noncomputable def Lot.z : Lot := ⟨⟨#[]⟩, 0, 0⟩
noncomputable def Line.z : Line := ⟨⟨#[]⟩, 0, 0, 0⟩
noncomputable def pairV (x : Int × Nat) : V := .tup [.int x.1, .int x.2]
theorem getD_get? {α : Type} (l : List α) (i : Nat) (z : α) (h : i < l.length) : l[i]? = some (l.getD i z) := by simp [h]
theorem item_of {α : Type} (f : α → V) (l : List α) (i : Nat) (z : α) (h : i < l.length) : (l.map f)[(i : Int).toNat]? = some (f (l.getD i z)) := by
  simp [h]
theorem Iter_rangeN {n : Nat} (hn : n ≤ 1000) : IterS c σ (.rng 0 (n : Int)) ((List.range n).map fun i : Nat => V.int i) := by
  have h := Iter_rng (c := c) (σ := σ) (lo := 0) (hi := (n : Int)) (by (exact Ar.lin 0 0 (.ile (.g (.k 1000000000000000)) (.k 0)) [] (by kernel_rfl) [] [] rfl rfl )) (by (exact Ar.lin 0 0 (.ile (.k 0) (.k 1000000000000000)) [] (by kernel_rfl) [] [] rfl rfl )) (by (exact Ar.lin 0 1 (.ile (.g (.k 1000000000000000)) (.c (.v 0))) [] (by kernel_rfl) [] [_] rfl rfl )) (by (exact Ar.lin 0 1 (.ile (.c (.v 0)) (.k 1000000000000000)) [(.le (.v 0) (.k 1000))] (by kernel_rfl) [] [_] rfl rfl hn)) (by (exact Ar.lin 0 1 (.ile (.s (.c (.v 0)) (.k 0)) (.k 16777216)) [(.le (.v 0) (.k 1000))] (by kernel_rfl) [] [_] rfl rfl hn))
  have e : (rangeL 0 (n : Int)).map V.int = (List.range n).map fun i : Nat => V.int i := by simp [rangeL]
  rw [e] at h; exact h
noncomputable def keyP (x : Int × Nat) : List Int := [x.1, x.2]
noncomputable def keyR (x : Deal.Row) : List Int := [x.1, x.2.1, x.2.2]
theorem Item_of {α : Type} {f : α → V} {l : List α} {i : Nat} (z : α) (h : i < l.length) (k : P (f (l.getD i z)) σ) : Item c d (.lst (l.map f)) (.int i) σ P := Item_lst (.lst _) (by (exact Ar.lin 0 1 (.ile (.k 0) (.c (.v 0))) [] (by kernel_rfl) [] [_] rfl rfl )) (item_of f l i z h) k
theorem Item_ofR {α : Type} {f : α → V} {l : List α} {i : Nat} {a : Addr} (hl : σ.lookup a = some (.list (l.map f))) (z : α) (h : i < l.length) (k : P (f (l.getD i z)) σ) : Item c d (.ref a) (.int i) σ P := Item_lst (.ref hl) (by (exact Ar.lin 0 1 (.ile (.k 0) (.c (.v 0))) [] (by kernel_rfl) [] [_] rfl rfl )) (item_of f l i z h) k
theorem fresh2 {a b : Addr} {o : O} (h : b ∉ owned ((a, o) :: σ)) : b ≠ a ∧ a ≠ b := by
  have : b ≠ a := fun q => h (by rw [q]; cases o <;> simp [owned, O.addrs])
  exact ⟨this, this.symm⟩
structure Dealt (k : Base) : Prop extends Things k where
  f_is_triple : FnT k "is_triple" 3 t_is_triple
  f_keeps : FnT k "keeps" 3 t_keeps
theorem alls_all {α : Type} (l : List α) : (l.map fun z1 => true).all id = true := by simp
noncomputable def limitOf (lots : List Lot) (lines : List Line) (w : Str) (day : Int) : Int := ((lines.filter fun l => l.w == w && decide (l.day + l.left < day)).map Line.n).sum + ((lots.filter fun l => l.w == w && decide (day ≤ l.last)).map Lot.n).sum
theorem map_int {α : Type} (f : α → Int) (l : List α) : l.map (fun a => V.int (f a)) = (l.map f).map V.int := by rw [List.map_map]; rfl
theorem S_limit_of (hp : Things c.k) (hf : FnT c.k "limit_of" 4 t_limit_of) {lots : List Lot} {lines : List Line} {w : Str} {day : Int} (h : P (.int (limitOf lots lines w day)) σ) : CallN c (d + 2) "limit_of" [.lst (lots.map Lot.v), .lst (lines.map Line.v), .str w, .int day] σ P X := by
  refine call_go hf ?_
  repeat' walk_at "x"
  refine ⟨_, [], by simp, Iter_lst, fun D => ?_⟩
  have hp' : Things ((c.pro []).hide D).k := hp
  refine jcomp_fm Line.v (fun l => .int l.n) (fun l => l.w == w && decide (l.day + l.left < day)) lines [] (fun l hl => ⟨_, rfl, ?_, fun z1 => ?_⟩) ?_
  · repeat' walk_at "x"
    · rename_i q1 q2; exact ⟨by rw [q1, beq_self_eq_true, decide_eq_true q2]; rfl, rfl⟩
    · rename_i q1 q2; exact ⟨by rw [q1, beq_self_eq_true, decide_eq_false q2]; rfl, rfl⟩
    · rename_i q1; exact ⟨by rw [beq_eq_false_iff_ne.mpr q1]; rfl, rfl⟩
  · repeat' walk_at "x"
    exact ⟨rfl, rfl⟩
  refine made_f ?_
  rw [List.nil_append, map_int]
  refine Leaf.mk ⟨_, rfl, ?_⟩
  repeat' walk_at "x"
  refine ⟨_, [], by simp, Iter_lst, fun D => ?_⟩
  refine jcomp_fm Lot.v (fun l => .int l.n) (fun l => l.w == w && decide (day ≤ l.last)) lots [] (fun l hl => ⟨_, rfl, ?_, fun z1 => ?_⟩) ?_
  · repeat' walk_at "x"
    · rename_i q1 q2; exact ⟨by rw [q1, beq_self_eq_true, decide_eq_true q2]; rfl, rfl⟩
    · rename_i q1 q2; exact ⟨by rw [q1, beq_self_eq_true, decide_eq_false q2]; rfl, rfl⟩
    · rename_i q1; exact ⟨by rw [beq_eq_false_iff_ne.mpr q1]; rfl, rfl⟩
  · repeat' walk_at "x"
    exact ⟨rfl, rfl⟩
  refine made_f ?_
  rw [List.nil_append, map_int]
  refine Leaf.mk ⟨_, rfl, ?_⟩
  refine ret_keep ?_
  exact h
theorem S_limit (hp : Things c.k) (hf : FnT c.k "limit_of" 4 t_limit_of) (hg : FnT c.k "limit" 4 t_limit) {lots : List Lot} {lines : List Line} {w : Str} {day : Int} (h1 : ∀ l ∈ lots, l.ok) (h2 : ∀ l ∈ lines, l.ok) (hl1 : lots.length ≤ 100) (hl2 : lines.length ≤ 100)
    (h : P (.int (limitOf lots lines w day)) σ) : CallN c (d + 5) "limit" [.lst (lots.map Lot.v), .lst (lines.map Line.v), .str w, .int day] σ P X := by
  refine call_go hg ?_
  repeat' walk_at "x"
  refine S_need_rows hp h1 h2 hl1 hl2 ?_
  repeat' walk_at "x"
  refine S_limit_of hp hf ?_
  refine ret_keep ?_
  exact h
theorem ret_freeze {a : Addr} {vs : List V} (hn : a ∉ owned σ) (h : P (.lst vs) σ) : Ret P (.ret (.ref a)) [] ((a, .list vs) :: σ) := by
  refine ⟨.lst vs, σ, .freeze led_here ?_, h⟩
  rw [List.filter_cons_of_neg (by simp), List.filter_eq_self.mpr fun p hp => ?_]
  · exact .refl _
  · have : p.1 ≠ a := fun e => hn (mem_owned.mpr ⟨p.1, p.2, hp, by rw [e]; cases p.2 <;> simp [O.addrs]⟩)
    simpa using this
theorem depth_toDs {n : Nat} : ∀ {vs : List V}, (∀ v ∈ vs, (toD v).depth ≤ n) → PyData.depthAll (toDs vs) ≤ n
  | [], _ => by simp [toDs, PyData.depthAll]
  | v :: vs, h => by
    have h1 := h v (.head _)
    have h2 := depth_toDs fun w hw => h w (.tail _ hw)
    simp only [toDs, PyData.depthAll]; lia
noncomputable def subs : List Str := ["BadLot", "BadLine", "BadDealing", "BadDay", "Late", "Full", "NoNumber"]
structure Errs (k : Base) (ad : Str → Addr) : Prop where
  lot : Exc k "LotError" (ad "LotError") VE
  sub : ∀ x ∈ subs, Exc k x (ad x) (.ref (ad "LotError") :: VE)
  apart : ∀ x ∈ subs, ad x ≠ ad "LotError" ∧ ∀ y ∈ subs, ad x = ad y → x = y
  ve : Blt k "ValueError" (.type "ValueError")
theorem FnT.hd {k : Base} {x : Str} {n : Nat} {t : T} (hf : FnT k x n t) : k.hd = true := by
  obtain ⟨_, _, _, _, h, _⟩ := hf.ex
  exact h.hd
theorem put_len (kvs : List (Str × V)) (k : Str) (v : V) : (putV kvs k v).length ≤ kvs.length + 1 := by
  unfold putV
  split
  · rw [List.length_map]; exact Nat.le_succ _
  · rw [List.length_append]; exact Nat.le_refl _
noncomputable def SVal : Lot ⊕ Line → V
  | .inl l => l.v
  | .inr l => l.v
noncomputable def SWare : Lot ⊕ Line → Str
  | .inl l => l.w
  | .inr l => l.w
noncomputable def both (lots : List Lot) (lines : List Line) : List (Lot ⊕ Line) := lots.map .inl ++ lines.map .inr
theorem both_val (lots : List Lot) (lines : List Line) : lots.map Lot.v ++ lines.map Line.v = (both lots lines).map SVal := by
  unfold both; rw [List.map_append, List.map_map, List.map_map]; rfl
inductive OPart : V → Prop
  | str {x : Str} : x.length ≤ 1000 → PyData.strOk x = true → OPart (.str x)
  | int {i : Int} : OPart (.int i)
  | bool {b : Bool} : OPart (.bool b)
  | none : OPart .none
  | lst {vs : List V} : isD (.lst vs) = true → (toD (.lst vs)).depth ≤ 2 → OPart (.lst vs)
  | tup {vs : List V} : isD (.tup vs) = true → (toD (.tup vs)).depth ≤ 2 → OPart (.tup vs)
inductive OddRow : V → Prop
  | tup {vs : List V} : (∀ v ∈ vs, OPart v) → OddRow (.tup vs)
  | lst {vs : List V} : (∀ v ∈ vs, OPart v) → OddRow (.lst vs)
  | none : OddRow .none
  | str {x : Str} : PyData.strOk x = true → OddRow (.str x)
noncomputable def wareV : V → Bool
  | .str x => wareB x
  | _ => false
noncomputable def dayV : V → Bool
  | .int i => dayB i
  | _ => false
noncomputable def countV : V → Bool
  | .int i => countB i
  | _ => false
noncomputable def lotV : V → Bool
  | .tup [a, b, c] => wareV a && (dayV b && countV c)
  | _ => false
noncomputable def lineV : V → Bool
  | .tup [a, b, c, e] => wareV a && (dayV b && (dayV c && countV e))
  | _ => false
theorem Isi_none_str (h : P (.bool false) σ) : CallS c d (.builtin "isinstance") [.none, .raw (.type "str")] σ P X := isi_none (fun q => IsiPair.NoneType_str (q _)) h
theorem Call_int_bool {b : Bool} (h : P (.int (if b then 1 else 0)) σ) : CallS c d (.type "int") [.bool b] σ P X := by
  intro A s E cs hA st rs _
  obtain ⟨x, rfl, r⟩ := rs.un1
  simp only [VRel] at r; subst r
  exact call_int_bool ⟨_, σ, h, .toks, st, by simp only [VRel]; exact ⟨_, rfl⟩⟩
theorem S_wareO (hp : Things c.k) {v : V} (hv : OPart v) (h : P (.bool (wareV v)) σ) : CallN c (d + 1) "is_ware" [v] σ P X := by
  cases hv with
  | str hx _ => exact S_is_ware hp (Nat.le_trans hx (by decide)) h
  | _ =>
    refine call_go hp.f_is_ware ?_
    repeat' first | walk_at "x" | refine Isi_none_str ?_
    exact h
theorem S_wholeO (hp : Things c.k) {v : V} (hv : OPart v) (h : P (.bool (match v with | .int _ => true | _ => false)) σ) : CallN c (d + 1) "is_whole" [v] σ P X := by
  cases hv <;>
  · refine call_go hp.f_is_whole ?_
    repeat' first | walk_at "x" | refine Isi_none_int ?_
    exact h
theorem S_dayO (hp : Things c.k) {v : V} (hv : OPart v) (h : P (.bool (dayV v)) σ) : CallN c (d + 2) "is_day" [v] σ P X := by
  cases hv with
  | int => exact S_is_day hp h
  | _ =>
    refine call_go hp.f_is_day ?_
    repeat' walk_at "x"
    refine S_wholeO hp (by constructor <;> assumption) ?_
    repeat' walk_at "x"
    exact h
theorem S_countO (hp : Things c.k) {v : V} (hv : OPart v) (h : P (.bool (countV v)) σ) : CallN c (d + 2) "is_count" [v] σ P X := by
  cases hv with
  | int => exact S_is_count hp h
  | _ =>
    refine call_go hp.f_is_count ?_
    repeat' walk_at "x"
    refine S_wholeO hp (by constructor <;> assumption) ?_
    repeat' walk_at "x"
    exact h
theorem S_lotO (hp : Things c.k) {v : V} (hv : OddRow v) (h : P (.bool (lotV v)) σ) : CallN c (d + 3) "is_lot" [v] σ P X := by
  refine call_go hp.f_is_lot ?_
  cases hv with
  | none =>
    repeat' first | walk_at "x" | refine Isi_none_tuple ?_
    exact h
  | str =>
    repeat' walk_at "x"
    exact h
  | lst =>
    repeat' walk_at "x"
    exact h
  | @tup vs hvs =>
    rcases vs with _ | ⟨a, _ | ⟨b, _ | ⟨e, _ | ⟨f, r⟩⟩⟩⟩
    · repeat' walk_at "x"
      exact h
    · repeat' walk_at "x"
      exact h
    · repeat' walk_at "x"
      exact h
    · repeat' walk_at "x"
      refine S_wareO hp (hvs _ (by simp)) ?_
      rw [show lotV (.tup [a, b, e]) = (wareV a && (dayV b && countV e)) from rfl] at h
      repeat' walk_at "x"
      · rename_i q1
        refine S_dayO hp (hvs _ (by simp)) ?_
        rw [q1, Bool.true_and] at h
        repeat' walk_at "x"
        · rename_i q2
          refine S_countO hp (hvs _ (by simp)) ?_
          rw [q2, Bool.true_and] at h
          repeat' walk_at "x"
          exact h
        · rename_i q2
          rw [q2, Bool.false_and] at h
          exact h
      · rename_i q1
        rw [q1, Bool.false_and] at h
        exact h
    · repeat' walk_at "x"
      exact h
theorem S_lineO (hp : Things c.k) {v : V} (hv : OddRow v) (h : P (.bool (lineV v)) σ) : CallN c (d + 3) "is_line" [v] σ P X := by
  refine call_go hp.f_is_line ?_
  cases hv with
  | none =>
    repeat' first | walk_at "x" | refine Isi_none_tuple ?_
    exact h
  | str =>
    repeat' walk_at "x"
    exact h
  | lst =>
    repeat' walk_at "x"
    exact h
  | @tup vs hvs =>
    rcases vs with _ | ⟨a, _ | ⟨b, _ | ⟨e, _ | ⟨f, _ | ⟨g, r⟩⟩⟩⟩⟩
    · repeat' walk_at "x"
      exact h
    · repeat' walk_at "x"
      exact h
    · repeat' walk_at "x"
      exact h
    · repeat' walk_at "x"
      exact h
    · repeat' walk_at "x"
      refine S_wareO hp (hvs _ (by simp)) ?_
      rw [show lineV (.tup [a, b, e, f]) = (wareV a && (dayV b && (dayV e && countV f))) from rfl] at h
      repeat' walk_at "x"
      · rename_i q1
        refine S_dayO hp (hvs _ (by simp)) ?_
        rw [q1, Bool.true_and] at h
        repeat' walk_at "x"
        · rename_i q2
          refine S_dayO hp (hvs _ (by simp)) ?_
          rw [q2, Bool.true_and] at h
          repeat' walk_at "x"
          · rename_i q3
            refine S_countO hp (hvs _ (by simp)) ?_
            rw [q3, Bool.true_and] at h
            repeat' walk_at "x"
            exact h
          · rename_i q3
            rw [q3, Bool.false_and] at h
            exact h
        · rename_i q2
          rw [q2, Bool.false_and] at h
          exact h
      · rename_i q1
        rw [q1, Bool.false_and] at h
        exact h
    · repeat' walk_at "x"
      exact h
noncomputable def t_law_part_02 : T := (.cons (.ite (.bo .And (.cons (.cmp .Eq (.var 1) (.int 0)) (.cons (.cmp .Lt (.bin .Mod (.var 0) (.int 8)) (.int 5)) .nil))) (.cons (.asgn (.var 2) (.str " !\"#$&'()*+,-./0123456789:;<=>?@ABCDEFGHIJKLMNOPQRSTUVWXYZ[\\]^_")) (.cons (.asgn (.var 2) (.bin .Add (.var 2) (.str "\n\tabcdefghijklmnopqrstuvwxyz{|}~"))) (.cons (.asgn (.var 3) (.bin .Mod (.bin .FloorDiv (.var 0) (.int 8)) (.int 6))) (.cons (.ret (.bin .Add (.bin .Add (.slice (.str "apple") .nil (.var 3)) (.item (.var 2) (.bin .Mod (.bin .FloorDiv (.var 0) (.int 48)) (.blt .len (.cons (.var 2) .nil))))) (.slice (.str "apple") (.var 3) .nil))) .nil)))) .nil) (.cons (.ite (.cmp .Eq (.var 1) (.int 0)) (.cons (.ret (.item (.lst false (.cons (.str "") (.cons (.str "abcdefghijklm") (.cons (.str "abcdefghijkl") (.cons (.int 5) (.cons .none (.cons (.lst false (.cons (.str "a") .nil)) (.cons (.tup (.cons (.str "a") (.cons (.str "b") .nil))) .nil)))))))) (.bin .Mod (.bin .FloorDiv (.var 0) (.int 8)) (.int 7)))) .nil) .nil) (.cons (.asgn (.var 4) (.bin .Add (.bin .Add (.bin .Pow (.int 10) (.int 12)) (.int 1)) (.bin .Mod (.bin .FloorDiv (.var 0) (.int 8)) (.bin .Pow (.int 10) (.int 20))))) (.cons (.ret (.item (.lst false (.cons (.bin .Add (.bin .Pow (.int 10) (.int 12)) (.int 1)) (.cons (.var 4) (.cons (.un .USub (.int 1)) (.cons (.bin .Sub (.int 0) (.var 4)) (.cons (.bool true) (.cons .none (.cons (.str "3") (.cons (.bin .Pow (.int 10) (.int 12)) .nil))))))))) (.bin .Mod (.var 0) (.int 8)))) .nil))))
noncomputable def n_law_part_02 : List Str := ["_law_cell", "_law_kind", "_law_signs", "_law_at_here", "_law_far"]
noncomputable def t_law_row_02 : T := (.cons (.asgn (.var 3) (.bin .Add (.slice (.lst false (.cons (.str "apple") (.cons (.bin .Mod (.var 1) (.int 9)) (.cons (.int 3) (.cons (.int 4) .nil))))) .nil (.bin .Sub (.var 2) (.int 1))) (.lst false (.cons (.bin .Add (.int 1) (.bin .Mod (.var 0) (.int 5))) .nil)))) (.cons (.asgn (.var 4) (.bin .Mod (.bin .FloorDiv (.var 0) (.int 5)) (.int 8))) (.cons (.ite (.cmp .Eq (.var 4) (.int 0)) (.cons (.ret (.blt .tuple (.cons (.slice (.var 3) .nil (.un .USub (.int 1))) .nil))) .nil) .nil) (.cons (.ite (.cmp .Eq (.var 4) (.int 1)) (.cons (.ret (.blt .tuple (.cons (.bin .Add (.var 3) (.lst false (.cons (.int 1) .nil))) .nil))) .nil) .nil) (.cons (.ite (.cmp .Eq (.var 4) (.int 2)) (.cons (.ret (.item (.lst false (.cons (.var 3) (.cons .none (.cons (.str "apple") (.cons (.tup .nil) .nil))))) (.bin .Mod (.bin .FloorDiv (.var 0) (.int 40)) (.int 4)))) .nil) .nil) (.cons (.ite (.cmp .Eq (.var 4) (.int 3)) (.cons (.asgn (.item (.var 3) (.bin .Sub (.var 2) (.int 1))) (.item (.lst false (.cons (.int 0) (.cons (.int 1) (.cons (.bin .Sub (.int 0) (.int 1)) (.cons (.bin .Pow (.int 10) (.int 12)) .nil))))) (.bin .Mod (.bin .FloorDiv (.var 0) (.int 40)) (.int 4)))) .nil) .nil) (.cons (.ite (.cmp .Gt (.var 4) (.int 3)) (.cons (.asgn (.var 5) (.bin .Mod (.var 1) (.var 2))) (.cons (.asgn (.item (.var 3) (.var 5)) (.call "_law_part" (.cons (.bin .FloorDiv (.var 0) (.int 40)) (.cons (.var 5) .nil)))) .nil)) .nil) (.cons (.ret (.blt .tuple (.cons (.var 3) .nil))) .nil))))))))
noncomputable def n_law_row_02 : List Str := ["_law_cell", "_law_place", "_law_size", "_law_row_here", "_law_way", "_law_at_here"]
noncomputable def t_law_good_02_e1 : T := (.var 2)
noncomputable def t_law_good_02_c1 : T := (.cmp .NotIn (.var 2) (.str "abcdefghijklmnopqrstuvwxyz"))
noncomputable def t_law_good_02_b1 : T := (.cons (.ite (.bo .Or (.cons (.isi (.item (.var 0) (.var 3)) .bool) (.cons (.un .Not (.isi (.item (.var 0) (.var 3)) .int)) .nil))) (.cons (.ret (.bool false)) .nil) .nil) (.cons (.ite (.un .Not (.cmp2 (.blt .int (.cons (.cmp .Eq (.var 3) (.bin .Sub (.var 1) (.int 1))) .nil)) .LtE (.item (.var 0) (.var 3)) .LtE (.bin .Pow (.int 10) (.int 12)))) (.cons (.ret (.bool false)) .nil) .nil) .nil))
noncomputable def t_law_good_02 : T := (.cons (.ite (.bo .Or (.cons (.un .Not (.isi (.var 0) .tuple)) (.cons (.cmp .NotEq (.blt .len (.cons (.var 0) .nil)) (.var 1)) (.cons (.un .Not (.isi (.item (.var 0) (.int 0)) .str)) (.cons (.un .Not (.cmp2 (.int 1) .LtE (.blt .len (.cons (.item (.var 0) (.int 0)) .nil)) .LtE (.int 12))) .nil))))) (.cons (.ret (.bool false)) .nil) .nil) (.cons (.ite (.cmp .Gt (.blt .len (.cons (.comp false true t_law_good_02_e1 (.var 2) (.item (.var 0) (.int 0)) t_law_good_02_c1) .nil)) (.int 0)) (.cons (.ret (.bool false)) .nil) .nil) (.cons (.for_ (.var 3) (.blt .range (.cons (.int 1) (.cons (.var 1) .nil))) t_law_good_02_b1) (.cons (.ret (.bool true)) .nil))))
noncomputable def n_law_good_02 : List Str := ["_law_row_here", "_law_size", "_law_sign", "_law_k"]
noncomputable def t_law_list_02_e1 : T := (.bin .Add (.slice (.tup (.cons (.str "apple") (.cons (.bin .Mod (.var 4) (.int 9)) (.cons (.int 3) (.cons (.int 4) .nil))))) .nil (.bin .Sub (.var 2) (.int 1))) (.tup (.cons (.bin .Add (.int 1) (.bin .Mod (.var 4) (.int 3))) .nil)))
noncomputable def t_law_list_02 : T := (.cons (.asgn (.var 3) (.item (.lst false (.cons (.bin .Mod (.bin .FloorDiv (.var 0) (.int 4)) (.int 5)) (.cons (.bin .Mod (.bin .FloorDiv (.var 0) (.int 4)) (.int 5)) (.cons (.int 100) (.cons (.int 101) .nil))))) (.bin .Mod (.var 0) (.int 4)))) (.cons (.asgnC 5 true false t_law_list_02_e1 (.var 4) (.blt .range (.cons (.var 3) .nil)) .nil) (.cons (.ite (.bo .And (.cons (.cmp .Gt (.var 3) (.int 0)) (.cons (.cmp .Eq (.bin .Mod (.bin .FloorDiv (.var 0) (.int 20)) (.int 2)) (.int 1)) .nil))) (.cons (.asgn (.item (.var 5) (.bin .Mod (.var 1) (.var 3))) (.call "_law_row" (.cons (.bin .FloorDiv (.var 0) (.int 40)) (.cons (.var 1) (.cons (.var 2) .nil))))) .nil) .nil) (.cons (.ite (.cmp .Eq (.bin .Mod (.bin .FloorDiv (.var 0) (.int 40)) (.int 13)) (.int 5)) (.cons (.ret (.item (.lst false (.cons (.blt .tuple (.cons (.var 5) .nil)) (.cons .none (.cons (.str "lots") (.cons (.dict .nil .nil) .nil))))) (.bin .Mod (.var 1) (.int 4)))) .nil) .nil) (.cons (.ret (.var 5)) .nil)))))
noncomputable def n_law_list_02 : List Str := ["_law_cell", "_law_place", "_law_size", "_law_many", "_law_k", "_law_rows"]
noncomputable def t_law_right_02_e1 : T := (.var 2)
noncomputable def t_law_right_02_c1 : T := (.un .Not (.call "_law_good" (.cons (.var 2) (.cons (.var 1) .nil))))
noncomputable def t_law_right_02 : T := (.cons (.ite (.bo .Or (.cons (.un .Not (.isi (.var 0) .list)) (.cons (.cmp .Gt (.blt .len (.cons (.var 0) .nil)) (.int 100)) .nil))) (.cons (.ret (.bool false)) .nil) .nil) (.cons (.ret (.cmp .Eq (.blt .len (.cons (.comp false true t_law_right_02_e1 (.var 2) (.var 0) t_law_right_02_c1) .nil)) (.int 0))) .nil))
noncomputable def n_law_right_02 : List Str := ["_law_rows", "_law_size", "_law_row_here"]
noncomputable def t_law_act_02 : T := (.cons (.ite (.cmp .Eq (.var 0) (.int 0)) (.cons (.expr (.call "best" (.cons (.var 1) (.cons (.var 2) .nil)))) .nil) (.cons (.ite (.cmp .Eq (.var 0) (.int 1)) (.cons (.expr (.call "limit" (.cons (.var 1) (.cons (.var 2) (.cons (.str "apple") (.cons (.int 3) .nil)))))) .nil) (.cons (.ite (.cmp .Eq (.var 0) (.int 2)) (.cons (.expr (.call "bars" (.cons (.var 1) (.cons (.var 2) .nil)))) .nil) (.cons (.ite (.cmp .Eq (.var 0) (.int 3)) (.cons (.expr (.call "holds" (.cons (.var 1) (.cons (.var 2) (.cons (.lst false .nil) .nil))))) .nil) (.cons (.ite (.cmp .Eq (.var 0) (.int 4)) (.cons (.expr (.call "short" (.cons (.var 1) (.cons (.var 2) (.cons (.lst false .nil) .nil))))) .nil) (.cons (.expr (.call "left" (.cons (.var 1) (.cons (.var 2) (.cons (.lst false .nil) .nil))))) .nil)) .nil)) .nil)) .nil)) .nil)) .nil)
noncomputable def n_law_act_02 : List Str := ["_law_kind", "_law_lots", "_law_lines"]
noncomputable def t_law_said_02_h1 : T := (.cons (.ret (.str "lot")) .nil)
noncomputable def t_law_said_02_h2 : T := (.cons (.ret (.str "line")) .nil)
noncomputable def t_law_said_02_t1 : T := (.cons (.expr (.call "_law_act" (.cons (.var 0) (.cons (.var 1) (.cons (.var 2) .nil))))) .nil)
noncomputable def t_law_said_02 : T := (.cons (.try_ t_law_said_02_t1 (.cons (.handler "BadLot" none t_law_said_02_h1) (.cons (.handler "BadLine" none t_law_said_02_h2) .nil))) (.cons (.ret (.str "")) .nil))
noncomputable def n_law_said_02 : List Str := ["_law_kind", "_law_lots", "_law_lines"]
noncomputable def t_law_any_02_h1 : T := (.cons (.asgn (.var 4) (.cmp .NotEq (.isx (.var 3) false ["BadLot"]) (.isx (.var 3) false ["BadLine"]))) (.cons (.ret (.bo .And (.cons (.var 4) (.cons (.isx (.var 3) false ["ValueError"]) (.cons (.un .Not (.isx (.var 3) true ["BadDay", "BadDealing", "Full", "Late", "NoNumber"])) .nil))))) .nil))
noncomputable def t_law_any_02_t1 : T := (.cons (.expr (.call "_law_act" (.cons (.var 0) (.cons (.var 1) (.cons (.var 2) .nil))))) .nil)
noncomputable def t_law_any_02 : T := (.cons (.try_ t_law_any_02_t1 (.cons (.handler "LotError" (some 3) t_law_any_02_h1) .nil)) (.cons (.ret (.bool false)) .nil))
noncomputable def n_law_any_02 : List Str := ["_law_kind", "_law_lots", "_law_lines", "e", "_law_one"]
noncomputable def t_law_02_q1 : T := (.bo .Or (.cons (.cmp .NotEq (.int 1000000000000) (.bin .Pow (.int 10) (.int 12))) (.cons (.cmp .NotEq (.int 100) (.int 100)) .nil)))
noncomputable def t_law_02_q2 : T := (.bo .Or (.cons (.un .Not (.isi (.var 5) .bool)) (.cons (.cmp .NotEq (.var 5) (.call "_law_good" (.cons (.var 4) (.cons (.var 3) .nil)))) .nil)))
noncomputable def t_law_02_b1 : T := (.cons (.asgn (.var 4) (.call "_law_row" (.cons (.call "_law_at" (.cons (.var 0) (.cons (.int 4) .nil))) (.cons (.call "_law_at" (.cons (.var 0) (.cons (.int 5) .nil))) (.cons (.var 3) .nil))))) (.cons (.asgn (.var 5) (.item (.lst false (.cons (.call "is_lot" (.cons (.var 4) .nil)) (.cons (.call "is_line" (.cons (.var 4) .nil)) .nil))) (.bin .Sub (.var 3) (.int 3)))) (.cons (.ite (.cut t_law_02_q2) (.cons (.ret (.bool false)) .nil) .nil) .nil)))
noncomputable def t_law_02_q3 : T := (.cmp .NotEq (.var 5) (.lst false (.cons (.call "_law_good" (.cons (.tup (.cons (.var 7) (.cons (.int 1) (.cons (.int 1) .nil)))) (.cons (.int 3) .nil))) (.cons (.call "_law_good" (.cons (.tup (.cons (.var 7) (.cons (.int 1) (.cons (.int 1) (.cons (.int 1) .nil))))) (.cons (.int 4) .nil))) .nil))))
noncomputable def t_law_02_b2 : T := (.cons (.asgn (.var 7) (.call "_law_part" (.cons (.bin .Add (.bin .Mult (.bin .FloorDiv (.call "_law_at" (.cons (.var 0) (.cons (.int 6) .nil))) (.int 6)) (.int 8)) (.var 6)) (.cons (.int 0) .nil)))) (.cons (.asgn (.var 5) (.lst false (.cons (.call "is_lot" (.cons (.tup (.cons (.var 7) (.cons (.int 1) (.cons (.int 1) .nil)))) .nil)) (.cons (.call "is_line" (.cons (.tup (.cons (.var 7) (.cons (.int 1) (.cons (.int 1) (.cons (.int 1) .nil))))) .nil)) .nil)))) (.cons (.ite (.cut t_law_02_q3) (.cons (.ret (.bool false)) .nil) .nil) .nil)))
noncomputable def t_law_02_q4 : T := (.un .Not (.call "_law_right" (.cons (.var 2) (.cons (.int 4) .nil))))
noncomputable def t_law_02_q5 : T := (.un .Not (.call "_law_right" (.cons (.var 1) (.cons (.int 3) .nil))))
noncomputable def t_law_02_e1 : T := (.ife (.isi (.var 11) .list) (.blt .list (.cons (.var 11) .nil)) (.var 11))
noncomputable def t_law_02 : T := (.cons (.asgn (.var 1) (.call "_law_list" (.cons (.call "_law_at" (.cons (.var 0) (.cons (.int 0) .nil))) (.cons (.call "_law_at" (.cons (.var 0) (.cons (.int 1) .nil))) (.cons (.int 3) .nil))))) (.cons (.asgn (.var 2) (.call "_law_list" (.cons (.call "_law_at" (.cons (.var 0) (.cons (.int 2) .nil))) (.cons (.call "_law_at" (.cons (.var 0) (.cons (.int 3) .nil))) (.cons (.int 4) .nil))))) (.cons (.ite (.cut t_law_02_q1) (.cons (.ret (.bool false)) .nil) .nil) (.cons (.for_ (.var 3) (.tup (.cons (.int 3) (.cons (.int 4) .nil))) t_law_02_b1) (.cons (.for_ (.var 6) (.tup (.cons (.int 0) (.cons (.int 5) .nil))) t_law_02_b2) (.cons (.asgn (.var 8) (.str "")) (.cons (.ite (.cut t_law_02_q4) (.cons (.asgn (.var 8) (.str "line")) .nil) .nil) (.cons (.ite (.cut t_law_02_q5) (.cons (.asgn (.var 8) (.str "lot")) .nil) .nil) (.cons (.asgn (.var 9) (.bin .Mod (.call "_law_at" (.cons (.var 0) (.cons (.int 6) .nil))) (.int 6))) (.cons (.asgn (.var 10) (.lst false (.cons (.var 1) (.cons (.var 2) .nil)))) (.cons (.asgnC 12 false false t_law_02_e1 (.var 11) (.var 10) .nil) (.cons (.ite (.bo .Or (.cons (.cmp .NotEq (.call "_law_said" (.cons (.var 9) (.cons (.item (.var 12) (.int 0)) (.cons (.item (.var 12) (.int 1)) .nil)))) (.var 8)) (.cons (.cmp .NotEq (.var 12) (.var 10)) .nil))) (.cons (.ret (.bool false)) .nil) .nil) (.cons (.ret (.bo .Or (.cons (.cmp .Eq (.var 8) (.str "")) (.cons (.call "_law_any" (.cons (.var 9) (.cons (.item (.var 12) (.int 0)) (.cons (.item (.var 12) (.int 1)) .nil)))) .nil)))) .nil)))))))))))))
noncomputable def n_law_02 : List Str := ["_law_script", "_law_lots", "_law_lines", "_law_size", "_law_row_here", "_law_found", "_law_way", "_law_ware", "_law_due", "_law_kind", "_law_given", "_law_rows", "_law_handed"]
structure L02 (k : Base) : Prop extends Dealt k where
  f_best : FnT k "best" 2 t_best
  f_limit_of : FnT k "limit_of" 4 t_limit_of
  f_limit : FnT k "limit" 4 t_limit
  f_bar_of : FnT k "bar_of" 3 t_bar_of
  f_bars : FnT k "bars" 2 t_bars
  f_holds : FnT k "holds" 3 t_holds
  f_short : FnT k "short" 3 t_short
  f_left : FnT k "left" 3 t_left
  f_law_at : FnT k "_law_at" 2 t_law_at
  f_law_part : FnT k "_law_part" 2 t_law_part_02
  f_law_row : FnT k "_law_row" 3 t_law_row_02
  f_law_good : FnT k "_law_good" 2 t_law_good_02
  f_law_list : FnT k "_law_list" 3 t_law_list_02
  f_law_right : FnT k "_law_right" 2 t_law_right_02
  f_law_act : FnT k "_law_act" 3 t_law_act_02
  f_law_said : FnT k "_law_said" 3 t_law_said_02
  f_law_any : FnT k "_law_any" 3 t_law_any_02
  f_law : FnT k "law" 1 t_law_02
  errs : ∃ ad, Errs k ad
noncomputable def numV (last : Bool) (p : V) : Bool := if last then countV p else dayV p
noncomputable def goodV (n : Nat) (vs : List V) : Bool := wareV (vs.getD 0 .none) && ((List.range' 1 (n - 1)).all fun k => numV (k + 1 == n) (vs.getD k .none))
theorem lot_good (vs : List V) (h : vs.length = 3) : lotV (.tup vs) = goodV 3 vs := by
  match vs, h with
  | [a, b, e], _ =>
    show (wareV a && (dayV b && countV e)) = _
    simp [goodV, numV, List.range']
theorem line_good (vs : List V) (h : vs.length = 4) : lineV (.tup vs) = goodV 4 vs := by
  match vs, h with
  | [a, b, e, f], _ =>
    show (wareV a && (dayV b && (dayV e && countV f))) = _
    simp [goodV, numV, List.range']
theorem filt_len (x : Str) : (decide ((0 : Int) < ((x.cps.toList.filter fun k => !Txt.contains LETTERS ⟨#[k]⟩).length : Int))) = !(x.cps.toList.all fun k => Txt.contains LETTERS ⟨#[k]⟩) := by
  cases e : x.cps.toList.all fun k => Txt.contains LETTERS ⟨#[k]⟩ with
  | true =>
    rw [List.all_eq_true] at e
    rw [List.filter_eq_nil_iff.mpr (fun k hk => by rw [e k hk]; decide)]
    rfl
  | false =>
    rw [List.all_eq_false] at e
    obtain ⟨k, hk, q⟩ := e
    have : 0 < (x.cps.toList.filter fun k => !Txt.contains LETTERS ⟨#[k]⟩).length := List.length_pos_iff_exists_mem.mpr ⟨k, List.mem_filter.mpr ⟨hk, by simpa using q⟩⟩
    rw [Bool.not_false, decide_eq_true_eq]; (exact Ar.lin 0 1 (.ilt (.k 0) (.c (.v 0))) [(.lt (.k 0) (.v 0))] (by kernel_rfl) [] [_] rfl rfl this)
theorem range_iter {n : Nat} (hn : n = 3 ∨ n = 4) : (rangeL 1 (n : Int)).map V.int = (List.range' 1 (n - 1)).map fun k : Nat => V.int k := by
  rcases hn with rfl | rfl <;> rfl
theorem S_goodT (hf : FnT c.k "_law_good" 2 t_law_good_02) {n : Nat} (hn : n = 3 ∨ n = 4) {vs : List V} (hl : vs.length = n) (hvs : ∀ v ∈ vs, OPart v) (h : P (.bool (goodV n vs)) σ) : CallN c (d + 1) "_law_good" [.tup vs, .int n] σ P X := by
  refine call_go hf ?_
  obtain ⟨a, r, rfl⟩ : ∃ a r, vs = a :: r := by
    cases vs with
    | nil => simp at hl; lia
    | cons a r => exact ⟨a, r, rfl⟩
  have ha := hvs a (.head _)
  repeat' walk_at "x"
  · rename_i q; exfalso
    simp only [List.length_cons] at hl q
    simp at q; (exact Ar.fls 0 2 [(.eq (.a (.v 0) (.k 1)) (.v 1)), (.no (.ieq (.a (.c (.v 0)) (.k 1)) (.c (.v 1))))] (by kernel_rfl) [] [_, _] rfl rfl hl q)
  rename_i q0
  clear q0
  have hz : wareV a = false → P (.bool false) σ := fun e => by
    unfold goodV at h
    rw [show (a :: r).getD 0 .none = a from rfl, e, Bool.false_and] at h; exact h
  cases ha with
  | int => repeat' walk_at "x"; exact hz rfl
  | bool => repeat' walk_at "x"; exact hz rfl
  | none =>
    repeat' first | walk_at "x" | refine Isi_none_str ?_
    exact hz rfl
  | lst => repeat' walk_at "x"; exact hz rfl
  | tup => repeat' walk_at "x"; exact hz rfl
  | @str x hx _ =>
    have hs : sizeLine = 16777216 := by rw [sizeLine_eq]
    replace hz : wareB x = false → P (.bool false) σ := hz
    unfold wareB at hz
    repeat' walk_at "x"
    · rename_i q1 q2
      exact hz (by rw [decide_eq_false q2, Bool.and_false, Bool.false_and])
    · rename_i q1 q2
      refine ⟨_, [], by simp, Iter_str (by (exact Ar.lin 0 2 (.le (.v 0) (.v 1)) [(.le (.v 0) (.k 1000)), (.eq (.v 1) (.k 16777216))] (by kernel_rfl) [] [_, _] rfl rfl hx hs)), fun D => ?_⟩
      refine jcomp_fm (fun k => .str ⟨#[k]⟩) (fun k => .str ⟨#[k]⟩) (fun k => !Txt.contains LETTERS ⟨#[k]⟩) x.cps.toList [] (fun k hk => ⟨_, rfl, ?_, fun z1 => ?_⟩) ?_
      · repeat' walk_at "x"
        exact ⟨rfl, rfl⟩
      · repeat' walk_at "x"
        exact ⟨rfl, rfl⟩
      refine made_f ?_
      rw [List.nil_append]
      refine Leaf.mk ⟨_, List.length_map _, ?_⟩
      rw [decide_eq_true q1, decide_eq_true q2, Bool.true_and, Bool.true_and] at hz
      have hw : wareV (.str x) = (x.cps.toList.all fun k => Txt.contains LETTERS ⟨#[k]⟩) := by
        show wareB x = _
        unfold wareB
        rw [decide_eq_true q1, decide_eq_true q2, Bool.true_and, Bool.true_and]
      have e := filt_len x
      generalize ((x.cps.toList.filter fun k => !Txt.contains LETTERS ⟨#[k]⟩).length : Int) = m at e ⊢
      repeat' walk_at "x"
      · rename_i q
        rw [decide_eq_true q] at e
        exact hz (by simpa using e)
      · rename_i q
        rw [decide_eq_false q] at e
        have hw1 : wareV (.str x) = true := by rw [hw]; simpa using e
        unfold goodV at h
        rw [show (V.str x :: r).getD 0 .none = .str x from rfl, hw1, Bool.true_and] at h
        refine ⟨_, [], by simp, Iter_rng (by (exact Ar.lin 0 0 (.ile (.g (.k 1000000000000000)) (.k 1)) [] (by kernel_rfl) [] [] rfl rfl )) (by (exact Ar.lin 0 0 (.ile (.k 1) (.k 1000000000000000)) [] (by kernel_rfl) [] [] rfl rfl )) (by (exact Ar.lin 0 1 (.ile (.g (.k 1000000000000000)) (.c (.v 0))) [] (by kernel_rfl) [] [_] rfl rfl )) (by lia) (by lia), ?_⟩
        rw [range_iter hn]
        refine JLoop_foldJ (fun k : Nat => V.int k) (fun z1 => [(0, .tup (.str x :: r)), (1, .int n)]) (fun z1 => σ) (fun (u : Unit) _ => u) (fun rest z1 => (∀ k ∈ rest, k < n) ∧ P (.bool (rest.all fun k => numV (k + 1 == n) ((V.str x :: r).getD k .none))) σ) (List.range' 1 (n - 1)) () _ ?_ ⟨fun k hk => by simp at hk; (exact Ar.lin 0 2 (.lt (.v 0) (.v 1)) [(.an (.le (.k 1) (.v 0)) (.lt (.v 0) (.a (.k 1) (.s (.v 1) (.k 1)))))] (by kernel_rfl) [] [_, _] rfl rfl hk), h⟩ (fun s k rest hj => ?_) fun m hm hj => ?_
        · walk_at "sub"
        · obtain ⟨j1, j2⟩ := hj
          have hk := j1 k (.head _)
          have hnext : ∀ k ∈ rest, k < n := fun i hi => j1 i (.tail _ hi)
          rw [List.all_cons] at j2
          have hpk : (V.str x :: r)[(k : Int).toNat]? = some ((V.str x :: r).getD k .none) := by rw [Int.toNat_natCast]; exact getD_get? _ _ _ (by rw [hl]; exact hk)
          have hpp : OPart ((V.str x :: r).getD k .none) := hvs _ (List.mem_of_getElem? (getD_get? _ _ _ (by rw [hl]; exact hk)))
          generalize (V.str x :: r).getD k .none = p at j2 hpk hpp
          repeat' walk_at "x"
          refine Item_tup (by (exact Ar.lin 0 1 (.ile (.k 0) (.c (.v 0))) [] (by kernel_rfl) [] [_] rfl rfl )) hpk ?_
          have hno : dayV p = false → countV p = false → P (.bool false) σ := fun e1 e2 => by
            rw [show numV (k + 1 == n) p = false by unfold numV; split <;> assumption, Bool.false_and] at j2; exact j2
          cases hpp with
          | bool => repeat' walk_at "x"; exact hno rfl rfl
          | none =>
            repeat' first | walk_at "x" | refine Isi_none_bool ?_ | refine Isi_none_int ?_ | refine Item_tup (by (exact Ar.lin 0 1 (.ile (.k 0) (.c (.v 0))) [] (by kernel_rfl) [] [_] rfl rfl )) hpk ?_
            exact hno rfl rfl
          | lst =>
            repeat' first | walk_at "x" | refine Item_tup (by (exact Ar.lin 0 1 (.ile (.k 0) (.c (.v 0))) [] (by kernel_rfl) [] [_] rfl rfl )) hpk ?_
            exact hno rfl rfl
          | tup =>
            repeat' first | walk_at "x" | refine Item_tup (by (exact Ar.lin 0 1 (.ile (.k 0) (.c (.v 0))) [] (by kernel_rfl) [] [_] rfl rfl )) hpk ?_
            exact hno rfl rfl
          | str =>
            repeat' first | walk_at "x" | refine Item_tup (by (exact Ar.lin 0 1 (.ile (.k 0) (.c (.v 0))) [] (by kernel_rfl) [] [_] rfl rfl )) hpk ?_
            exact hno rfl rfl
          | @int i =>
            repeat' first | walk_at "x" | refine Item_tup (by (exact Ar.lin 0 1 (.ile (.k 0) (.c (.v 0))) [] (by kernel_rfl) [] [_] rfl rfl )) hpk ?_
            refine Call_int_bool ?_
            rw [show ((k : Int) == (n : Int) - 1) = (k + 1 == n) by rw [Bool.eq_iff_iff, beq_iff_eq, beq_iff_eq]; lia]
            have hnum : numV (k + 1 == n) (.int i) = (decide ((if (k + 1 == n) = true then (1 : Int) else 0) ≤ i) && decide (i ≤ 1000000000000)) := by unfold numV; split <;> rfl
            rw [hnum] at j2
            generalize (if (k + 1 == n) = true then (1 : Int) else 0) = lo at j2 ⊢
            repeat' first | walk_at "x" | refine Item_tup (by (exact Ar.lin 0 1 (.ile (.k 0) (.c (.v 0))) [] (by kernel_rfl) [] [_] rfl rfl )) hpk ?_
            · rename_i q1 q2
              rw [decide_eq_false q2, Bool.and_false, Bool.false_and] at j2; exact j2
            · rename_i q1 q2
              rw [decide_eq_true q1, decide_eq_true q2, Bool.true_and, Bool.true_and] at j2
              exact ⟨by walk_at "sub", rfl, hnext, j2⟩
            · rename_i q1
              rw [decide_eq_false q1, Bool.false_and, Bool.false_and] at j2; exact j2
        · refine JB_sub hm ?_
          repeat' walk_at "x"
          exact hj.2
    · rename_i q1
      exact hz (by rw [decide_eq_false q1, Bool.false_and, Bool.false_and])
theorem S_good3 (hf : FnT c.k "_law_good" 2 t_law_good_02) {v : V} (hv : OddRow v) (h : P (.bool (lotV v)) σ) : CallN c (d + 1) "_law_good" [v, .int 3] σ P X := by
  cases hv with
  | none =>
    refine call_go hf ?_
    repeat' first | walk_at "x" | refine Isi_none_tuple ?_
    exact h
  | str =>
    refine call_go hf ?_
    repeat' walk_at "x"
    exact h
  | lst =>
    refine call_go hf ?_
    repeat' walk_at "x"
    exact h
  | @tup vs hvs =>
    by_cases hl : vs.length = 3
    · rw [lot_good vs hl] at h
      exact S_goodT hf (.inl rfl) hl hvs h
    · refine call_go hf ?_
      have e : lotV (.tup vs) = false := by
        rcases vs with _ | ⟨a, _ | ⟨b, _ | ⟨e, _ | ⟨f, r⟩⟩⟩⟩ <;> first | rfl | exact absurd rfl hl
      rw [e] at h
      repeat' walk_at "x"
      · exact h
      · rename_i q; exfalso; simp at q; (exact Ar.fls 0 1 [(.no (.eq (.v 0) (.k 3))), (.ieq (.c (.v 0)) (.k 3))] (by kernel_rfl) [] [_] rfl rfl hl q)
theorem S_good4 (hf : FnT c.k "_law_good" 2 t_law_good_02) {v : V} (hv : OddRow v) (h : P (.bool (lineV v)) σ) : CallN c (d + 1) "_law_good" [v, .int 4] σ P X := by
  cases hv with
  | none =>
    refine call_go hf ?_
    repeat' first | walk_at "x" | refine Isi_none_tuple ?_
    exact h
  | str =>
    refine call_go hf ?_
    repeat' walk_at "x"
    exact h
  | lst =>
    refine call_go hf ?_
    repeat' walk_at "x"
    exact h
  | @tup vs hvs =>
    by_cases hl : vs.length = 4
    · rw [line_good vs hl] at h
      exact S_goodT hf (.inr rfl) hl hvs h
    · refine call_go hf ?_
      have e : lineV (.tup vs) = false := by
        rcases vs with _ | ⟨a, _ | ⟨b, _ | ⟨e, _ | ⟨f, _ | ⟨g, r⟩⟩⟩⟩⟩ <;> first | rfl | exact absurd rfl hl
      rw [e] at h
      repeat' walk_at "x"
      · exact h
      · rename_i q; exfalso; simp at q; (exact Ar.fls 0 1 [(.no (.eq (.v 0) (.k 4))), (.ieq (.c (.v 0)) (.k 4))] (by kernel_rfl) [] [_] rfl rfl hl q)
theorem pick_of {vs : List V} {Q : V → Prop} (hall : ∀ v ∈ vs, Q v) {i : Int} (h0 : 0 ≤ i) (h1 : i < vs.length) : ∃ w, vs[i.toNat]? = some w ∧ Q w := by
  have hlt : i.toNat < vs.length := by lia
  exact ⟨_, List.getElem?_eq_getElem hlt, hall _ (List.getElem_mem hlt)⟩
theorem app_len (x y : Str) : (x ++ y).length = x.length + y.length := by rw [str_length, strAppend_list, List.length_append, ← str_length, ← str_length]
theorem slice_short (lo hi : Option Int) (x : Str) : (strSlice lo hi x).length ≤ x.length := by
  rw [str_length, str_length]; unfold strSlice; exact slice_length_le _ _ _
noncomputable def signs1 : Str := Str.ofString " !\"#$&'()*+,-./0123456789:;<=>?@ABCDEFGHIJKLMNOPQRSTUVWXYZ[\\]^_"
noncomputable def signs2 : Str := Str.ofString "\n\tabcdefghijklmnopqrstuvwxyz{|}~"
theorem signs_len : (signs1 ++ signs2).length = 95 := by decide +kernel
theorem apple_len : (Str.ofString "apple").length = 5 := by decide +kernel
theorem ok_mem {x : Str} : PyData.strOk x = true ↔ ∀ k ∈ x.cps.toList, k < 1114112 := by
  unfold PyData.strOk
  rw [← Array.all_toList, List.all_eq_true]
  simp
theorem ok_app {x y : Str} (hx : PyData.strOk x = true) (hy : PyData.strOk y = true) : PyData.strOk (x ++ y) = true := by
  rw [ok_mem] at *
  intro k hk
  rw [strAppend_list] at hk
  exact (List.mem_append.mp hk).elim (hx k) (hy k)
theorem ok_slice {x : Str} {lo hi : Option Int} (hx : PyData.strOk x = true) : PyData.strOk (strSlice lo hi x) = true := by
  rw [ok_mem] at *
  intro k hk
  unfold strSlice at hk
  exact hx k (slice_mem (by simpa using hk))
theorem ok_one {x : Str} {i m : Nat} (hx : PyData.strOk x = true) (h : x.cps[i]? = some m) : PyData.strOk (⟨#[m]⟩ : Str) = true := by
  rw [ok_mem] at *
  intro k hk
  rw [show k = m by simpa using hk]
  exact hx m (List.mem_of_getElem? (i := i) (by rw [Array.getElem?_toList]; exact h))
theorem apple_ok : PyData.strOk (Str.ofString "apple") = true := by decide +kernel
theorem signs_ok : PyData.strOk (signs1 ++ signs2) = true := by decide +kernel
theorem S_part (hf : FnT c.k "_law_part" 2 t_law_part_02) {cell k : Int} (h : ∀ v, OPart v → P v σ) : CallN c (d + 1) "_law_part" [.int cell, .int k] σ P X := by
  have hs2 : sizeLine = 16777216 := by rw [sizeLine_eq]
  have ha := apple_len
  refine call_go hf ?_
  repeat' walk_at "x"
  · refine Op_add_str (by rw [hs2]; decide +kernel) ?_
    show then_ _ _ _ ((2, .str (signs1 ++ signs2)) :: _) _
    have hl := signs_len
    have hS := signs_ok
    generalize signs1 ++ signs2 = S at hl hS ⊢
    repeat' walk_at "x"
    have n0 := Int.emod_nonneg (cell / 48) (b := 95) (by decide)
    have n1 := Int.emod_lt_of_pos (cell / 48) (b := 95) (by decide)
    obtain ⟨m, hm⟩ : ∃ m, S.cps[(cell / 48 % 95).toNat]? = some m := ⟨_, getElem?_pos _ _ (by have : S.cps.size = 95 := hl; lia)⟩
    rw [hl]
    refine Item_str n0 hm (by lia) ?_
    have s1 := slice_short none (some (cell / 8 % 6)) (Str.ofString "apple")
    have s2 := slice_short (some (cell / 8 % 6)) none (Str.ofString "apple")
    rw [ha] at s1 s2
    have s3 : (⟨#[m]⟩ : Str).length = 1 := rfl
    repeat' walk_at "x"
    refine Op_add_str (by rw [hs2, s3]; (exact Ar.lin 0 1 (.le (.a (.v 0) (.k 1)) (.k 16777216)) [(.le (.v 0) (.k 5))] (by kernel_rfl) [] [_] rfl rfl s1)) ?_
    repeat' walk_at "x"
    refine Op_add_str (by rw [hs2, app_len, s3]; (exact Ar.lin 0 2 (.le (.a (.a (.v 0) (.k 1)) (.v 1)) (.k 16777216)) [(.le (.v 0) (.k 5)), (.le (.v 1) (.k 5))] (by kernel_rfl) [] [_, _] rfl rfl s1 s2)) ?_
    repeat' walk_at "x"
    exact h _ (.str (by rw [app_len, app_len, s3]; (exact Ar.lin 0 2 (.le (.a (.a (.v 0) (.k 1)) (.v 1)) (.k 1000)) [(.le (.v 0) (.k 5)), (.le (.v 1) (.k 5))] (by kernel_rfl) [] [_, _] rfl rfl s1 s2)) (ok_app (ok_app (ok_slice apple_ok) (ok_one hS hm)) (ok_slice apple_ok)))
  · have n0 := Int.emod_nonneg (cell / 8) (b := 7) (by decide)
    have n1 := Int.emod_lt_of_pos (cell / 8) (b := 7) (by decide)
    obtain ⟨w, hw, hq⟩ := pick_of (Q := OPart) (vs := [.str (Str.ofString ""), .str (Str.ofString "abcdefghijklm"), .str (Str.ofString "abcdefghijkl"), .int 5, .none, .lst [.str (Str.ofString "a")], .tup [.str (Str.ofString "a"), .str (Str.ofString "b")]]) (by
      intro v hv
      simp only [List.mem_cons, List.not_mem_nil, or_false] at hv
      rcases hv with rfl | rfl | rfl | rfl | rfl | rfl | rfl
      · exact .str (by decide +kernel) (by decide +kernel)
      · exact .str (by decide +kernel) (by decide +kernel)
      · exact .str (by decide +kernel) (by decide +kernel)
      · exact .int
      · exact .none
      · exact .lst (by decide +kernel) (by decide +kernel)
      · exact .tup (by decide +kernel) (by decide +kernel)) n0 n1
    refine Item_lst (.lst _) n0 hw ?_
    repeat' walk_at "x"
    exact h _ hq
  · rename_i q1 q2 q3; exact absurd q1 q3
  · rename_i q1 q2; exact absurd q2 q1
  · refine Op_pow (x := 10) (n := 20) (by decide) (by decide +kernel) ?_
    show opB c d .Mod (.int (cell / 8)) (.int 100000000000000000000) σ _
    repeat' walk_at "x"
    have n0 := Int.emod_nonneg cell (b := 8) (by decide)
    have n1 := Int.emod_lt_of_pos cell (b := 8) (by decide)
    generalize 1000000000000 + 1 + cell / 8 % 100000000000000000000 = far
    obtain ⟨w, hw, hq⟩ := pick_of (Q := OPart) (vs := [.int (1000000000000 + 1), .int far, .int (-1), .int (0 - far), .bool true, .none, .str (Str.ofString "3"), .int 1000000000000]) (by
      intro v hv
      simp only [List.mem_cons, List.not_mem_nil, or_false] at hv
      rcases hv with rfl | rfl | rfl | rfl | rfl | rfl | rfl | rfl
      · exact .int
      · exact .int
      · exact .int
      · exact .int
      · exact .bool
      · exact .none
      · exact .str (by decide +kernel) (by decide +kernel)
      · exact .int) n0 n1
    refine Item_lst (.lst _) n0 hw ?_
    repeat' walk_at "x"
    exact h _ hq
theorem Op_addL {va vb : V} {as bs : List V} (ha : IsLst σ va as) (hb : IsLst σ vb bs) (hsz : as.length + bs.length ≤ 1000000) (h : ∀ a, a ∉ owned σ → a ∉ c.F → P (.ref a) ((a, .list (as ++ bs)) :: σ)) : Op2 c d (binaryOp .Add) va vb σ P := by
  intro A s E ca cb _ st ra rb
  obtain ⟨a, cs, rfl, ⟨n, e⟩, _, rs⟩ := ha.plain st ra
  obtain ⟨b, ds, rfl, ⟨n', e'⟩, _, rs'⟩ := hb.plain st rb
  have h1 := rs.length
  have h2 := rs'.length
  have hs' : sizeLine = 16777216 := by rw [sizeLine_eq]
  refine PySem.P.add_list (hsz := by simp only [List.size_toArray]; (exact Ar.lin 0 5 (.le (.a (.v 0) (.v 1)) (.v 2)) [(.le (.a (.v 3) (.v 4)) (.k 1000000)), (.eq (.v 0) (.v 3)), (.eq (.v 1) (.v 4)), (.eq (.v 2) (.k 16777216))] (by kernel_rfl) [] [_, _, _, _, _] rfl rfl hsz h1 h2 hs')) e e' ?_
  have e3 : cs.toArray ++ ds.toArray = (cs ++ ds).toArray := by simp
  rw [e3]
  exact Post.newLoc (n := 0) st (by rw [List.length_append]; (exact Ar.lin 0 5 (.le (.a (.v 0) (.v 1)) (.v 2)) [(.le (.a (.v 3) (.v 4)) (.k 1000000)), (.eq (.v 0) (.v 3)), (.eq (.v 1) (.v 4)), (.eq (.v 2) (.k 16777216))] (by kernel_rfl) [] [_, _, _, _, _] rfl rfl hsz h1 h2 hs')) (rs.append rs') h
theorem row_base (n : Nat) (hn : n = 3 ∨ n = 4) (p q : Int) : (slice none (some ((n : Int) - 1)) [V.str (Str.ofString "apple"), .int p, .int 3, .int 4] ++ [V.int q]).length = n ∧ ∀ v ∈ slice none (some ((n : Int) - 1)) [V.str (Str.ofString "apple"), .int p, .int 3, .int 4] ++ [V.int q], OPart v := by
  have key : ∀ v ∈ [V.str (Str.ofString "apple"), .int p, .int 3, .int 4] ++ [V.int q], OPart v := by
    intro v hv
    simp only [List.cons_append, List.nil_append, List.mem_cons, List.not_mem_nil, or_false] at hv
    rcases hv with rfl | rfl | rfl | rfl | rfl
    · exact .str (by decide +kernel) (by decide +kernel)
    · exact .int
    · exact .int
    · exact .int
    · exact .int
  refine ⟨by rcases hn with rfl | rfl <;> rfl, fun v hv => key v ?_⟩
  rcases List.mem_append.mp hv with q | q
  · exact List.mem_append_left _ (slice_mem q)
  · exact List.mem_append_right _ q
theorem S_row (hp : L02 c.k) {cell place : Int} {n : Nat} (hn : n = 3 ∨ n = 4) (h : ∀ v, OddRow v → P v σ) : CallN c (d + 2) "_law_row" [.int cell, .int place, .int n] σ P X := by
  refine call_go hp.f_law_row ?_
  have hn3 : 3 ≤ (n : Int) ∧ (n : Int) ≤ 4 := by lia
  repeat' walk_at "x"
  have hb := row_base n hn (place % 9) (1 + cell % 5)
  refine Op_addL (.lst _) (.lst _) (by have := hb.1; rw [List.length_append] at this; (exact Ar.lin 0 3 (.le (.a (.v 0) (.v 1)) (.k 1000000)) [(.an (.ile (.k 3) (.c (.v 2))) (.ile (.c (.v 2)) (.k 4))), (.eq (.a (.v 0) (.v 1)) (.v 2))] (by kernel_rfl) [] [_, _, _] rfl rfl hn3 this)) fun a hao haF => ?_
  generalize slice none (some ((n : Int) - 1)) [V.str (Str.ofString "apple"), .int (place % 9), .int 3, .int 4] ++ [.int (1 + cell % 5)] = bs at hb
  obtain ⟨hb1, hb2⟩ := hb
  repeat' walk_at "x"
  · refine ⟨_, .lst (.ref led_here), ?_⟩
    repeat' walk_at "x"
    refine Call_tuple (.lst _) ?_
    exact ret_drop (.cons _ (.refl _)) (h _ (.tup fun v hv => hb2 v (slice_mem hv)))
  · refine Op_addl (.ref led_here) (.lst _) (by simp only [List.length_cons, List.length_nil]; (exact Ar.lin 0 2 (.le (.a (.v 0) (.a (.k 0) (.k 1))) (.k 1000000)) [(.an (.ile (.k 3) (.c (.v 1))) (.ile (.c (.v 1)) (.k 4))), (.eq (.v 0) (.v 1))] (by kernel_rfl) [] [_, _] rfl rfl hn3 hb1)) ?_
    repeat' walk_at "x"
    refine Call_tuple (.lst _) ?_
    refine ret_drop (.cons _ (.refl _)) (h _ (.tup fun v hv => ?_))
    rcases List.mem_append.mp hv with q | q
    · exact hb2 v q
    · rw [List.mem_singleton.mp q]; exact .int
  · have n0 := Int.emod_nonneg (cell / 40) (b := 4) (by decide)
    have n1 := Int.emod_lt_of_pos (cell / 40) (b := 4) (by decide)
    obtain ⟨w, hw, hq⟩ := pick_of (Q := fun w => w = .ref a ∨ w = .none ∨ w = .str (Str.ofString "apple") ∨ w = .tup []) (vs := [.ref a, .none, .str (Str.ofString "apple"), .tup []]) (by
      intro v hv
      simpa only [List.mem_cons, List.not_mem_nil, or_false] using hv) n0 n1
    refine Item_lst (.lst _) n0 hw ?_
    rcases hq with rfl | rfl | rfl | rfl
    · exact ret_freeze hao (h _ (.lst hb2))
    · exact ret_drop (.cons _ (.refl _)) (h _ .none)
    · exact ret_drop (.cons _ (.refl _)) (h _ (.str (by decide +kernel)))
    · exact ret_drop (.cons _ (.refl _)) (h _ (.tup fun v hv => by cases hv))
  · have n0 := Int.emod_nonneg (cell / 40) (b := 4) (by decide)
    have n1 := Int.emod_lt_of_pos (cell / 40) (b := 4) (by decide)
    obtain ⟨w, hw, hq⟩ := pick_of (Q := OPart) (vs := [.int 0, .int 1, .int (0 - 1), .int 1000000000000]) (by
      intro v hv
      simp only [List.mem_cons, List.not_mem_nil, or_false] at hv
      rcases hv with rfl | rfl | rfl | rfl <;> exact .int) n0 n1
    refine Item_lst (.lst _) n0 hw ?_
    repeat' walk_at "x"
    refine Set_list led_here haF (by (exact Ar.lin 0 1 (.ile (.k 0) (.s (.c (.v 0)) (.k 1))) [(.an (.ile (.k 3) (.c (.v 0))) (.ile (.c (.v 0)) (.k 4)))] (by kernel_rfl) [] [_] rfl rfl hn3)) (by rw [hb1]; lia) ?_
    rw [upd_here]
    have hb3 : ∀ v ∈ bs.set ((n : Int) - 1).toNat w, OPart v := fun v hv => (List.mem_or_eq_of_mem_set hv).elim (hb2 v) fun e => e ▸ hq
    repeat' walk_at "x"
    · rename_i q1 q2; exfalso; (exact Ar.fls 1 0 [(.ieq (.v 0) (.k 3)), (.ilt (.k 3) (.v 0))] (by kernel_rfl) [_] [] rfl rfl q1 q2)
    refine Call_tuple (.ref led_here) ?_
    exact ret_drop (.cons _ (.refl _)) (h _ (.tup hb3))
  · have n0 := Int.emod_nonneg place (b := n) (by (exact Ar.lin 0 1 (.no (.ieq (.c (.v 0)) (.k 0))) [(.an (.ile (.k 3) (.c (.v 0))) (.ile (.c (.v 0)) (.k 4)))] (by kernel_rfl) [] [_] rfl rfl hn3))
    have n1 := Int.emod_lt_of_pos place (b := n) (by (exact Ar.lin 0 1 (.ilt (.k 0) (.c (.v 0))) [(.an (.ile (.k 3) (.c (.v 0))) (.ile (.c (.v 0)) (.k 4)))] (by kernel_rfl) [] [_] rfl rfl hn3))
    refine S_part hp.f_law_part fun w hq => ?_
    repeat' walk_at "x"
    refine Set_list led_here haF n0 (by rw [hb1]; lia) ?_
    rw [upd_here]
    have hb3 : ∀ v ∈ bs.set (place % n).toNat w, OPart v := fun v hv => (List.mem_or_eq_of_mem_set hv).elim (hb2 v) fun e => e ▸ hq
    repeat' walk_at "x"
    refine Call_tuple (.ref led_here) ?_
    exact ret_drop (.cons _ (.refl _)) (h _ (.tup hb3))
  · refine Call_tuple (.ref led_here) ?_
    exact ret_drop (.cons _ (.refl _)) (h _ (.tup hb2))
inductive LotsV (σ : Led) : V → Prop
  | lst {vs : List V} : (∀ v ∈ vs, OddRow v) → vs.length ≤ 101 → LotsV σ (.lst vs)
  | tup {vs : List V} : (∀ v ∈ vs, OddRow v) → LotsV σ (.tup vs)
  | none : LotsV σ .none
  | str {x : Str} : PyData.strOk x = true → LotsV σ (.str x)
  | dict {r : Addr} : σ.lookup r = some (.dictI []) → LotsV σ (.ref r)
noncomputable def baseRow (n : Nat) (i : Nat) : V := .tup ((if (n : Int) - 1 = 2 then [.str (Str.ofString "apple"), .int ((i : Int) % 9)] else [.str (Str.ofString "apple"), .int ((i : Int) % 9), .int 3]) ++ [.int (1 + (i : Int) % 3)])
theorem base_odd (n i : Nat) : OddRow (baseRow n i) := by
  refine .tup fun v hv => ?_
  have key : v = .str (Str.ofString "apple") ∨ ∃ k, v = .int k := by
    rcases List.mem_append.mp hv with q | q
    · split at q <;> simp only [List.mem_cons, List.not_mem_nil, or_false] at q
      · rcases q with rfl | rfl
        · exact .inl rfl
        · exact .inr ⟨_, rfl⟩
      · rcases q with rfl | rfl | rfl
        · exact .inl rfl
        · exact .inr ⟨_, rfl⟩
        · exact .inr ⟨_, rfl⟩
    · exact .inr ⟨_, List.mem_singleton.mp q⟩
  rcases key with rfl | ⟨k, rfl⟩
  · exact .str (by decide +kernel) apple_ok
  · exact .int
theorem list_pick {rows : List V} {a r : Addr} {place : Int} {K : V → Led → Prop} (hr : ∀ v ∈ rows, OddRow v) (h1 : ∀ v, LotsV [] v → P v σ) (h2 : ∀ r, r ∉ owned σ → r ∉ c.F → P (.ref r) ((r, .dictI []) :: σ)) (hro : r ∉ owned ((a, .list rows) :: σ)) (hrF : r ∉ c.F)
    (hK : ∀ v σ', Ret P (.ret v) [] σ' → K v σ') : Item c d (.lst [.tup rows, .none, .str (Str.ofString "lots"), .ref r]) (.int (place % 4)) ((r, .dictI []) :: (a, .list rows) :: σ) K := by
  have n0 := Int.emod_nonneg place (b := 4) (by decide)
  have n1 := Int.emod_lt_of_pos place (b := 4) (by decide)
  obtain ⟨w, hw, hq⟩ := pick_of (Q := fun w => w = .tup rows ∨ w = .none ∨ w = .str (Str.ofString "lots") ∨ w = .ref r) (vs := [.tup rows, .none, .str (Str.ofString "lots"), .ref r]) (by
    intro v hv
    simpa only [List.mem_cons, List.not_mem_nil, or_false] using hv) n0 n1
  refine Item_lst (.lst _) n0 hw (hK _ _ ?_)
  rcases hq with rfl | rfl | rfl | rfl
  · exact ret_drop (.cons _ (.cons _ (.refl _))) (h1 _ (.tup hr))
  · exact ret_drop (.cons _ (.cons _ (.refl _))) (h1 _ .none)
  · exact ret_drop (.cons _ (.cons _ (.refl _))) (h1 _ (.str (by decide +kernel)))
  · exact ⟨.ref r, (r, .dictI []) :: σ, .keep ((List.Sublist.cons _ (.refl _)).cons_cons _), h2 r (fun q => hro (List.mem_append_right _ q)) hrF⟩
theorem S_list (hp : L02 c.k) {cell place : Int} {n : Nat} (hn : n = 3 ∨ n = 4) (h1 : ∀ v, LotsV [] v → P v σ) (h2 : ∀ r, r ∉ owned σ → r ∉ c.F → P (.ref r) ((r, .dictI []) :: σ)) : CallN c (d + 3) "_law_list" [.int cell, .int place, .int n] σ P X := by
  refine call_go hp.f_law_list ?_
  have hn3 : 3 ≤ (n : Int) ∧ (n : Int) ≤ 4 := by lia
  repeat' walk_at "x"
  have n0 := Int.emod_nonneg cell (b := 4) (by decide)
  have n1 := Int.emod_lt_of_pos cell (b := 4) (by decide)
  have m0 := Int.emod_nonneg (cell / 4) (b := 5) (by decide)
  have m1 := Int.emod_lt_of_pos (cell / 4) (b := 5) (by decide)
  obtain ⟨w, hw, m, rfl, hm⟩ := pick_of (Q := fun w => ∃ m : Nat, w = .int m ∧ m ≤ 101) (vs := [.int (cell / 4 % 5), .int (cell / 4 % 5), .int 100, .int 101]) (by
    have e : cell / 4 % 5 = ((cell / 4 % 5).toNat : Int) := by lia
    intro v hv
    simp only [List.mem_cons, List.not_mem_nil, or_false] at hv
    rcases hv with rfl | rfl | rfl | rfl
    · exact ⟨(cell / 4 % 5).toNat, by rw [← e], by (exact Ar.lin 1 1 (.le (.v 0) (.k 101)) [(.ilt (.v 0) (.k 5)), (.ieq (.v 0) (.c (.v 0)))] (by kernel_rfl) [_] [_] rfl rfl m1 e)⟩
    · exact ⟨(cell / 4 % 5).toNat, by rw [← e], by (exact Ar.lin 1 1 (.le (.v 0) (.k 101)) [(.ilt (.v 0) (.k 5)), (.ieq (.v 0) (.c (.v 0)))] (by kernel_rfl) [_] [_] rfl rfl m1 e)⟩
    · exact ⟨100, rfl, by decide⟩
    · exact ⟨101, rfl, by decide⟩) n0 n1
  refine Item_lst (.lst _) n0 hw ?_
  repeat' walk_at "x"
  refine ⟨_, [], by simp, Iter_rangeN (n := m) (by (exact Ar.lin 0 1 (.le (.v 0) (.k 1000)) [(.le (.v 0) (.k 101))] (by kernel_rfl) [] [_] rfl rfl hm)), fun D => ?_⟩
  refine jcomp_map (fun i : Nat => V.int i) (baseRow n) (List.range m) [] (fun i hi => ⟨_, rfl, ?_⟩) ?_
  · repeat' walk_at "x"
    refine ⟨_, .tup4 rfl rfl (by lia), ?_⟩
    repeat' walk_at "x"
    refine Op_addt (by split <;> simp) (by simp) (by split <;> simp) ?_
    exact ⟨rfl, rfl⟩
  refine made_t fun a hao haF => ?_
  rw [List.nil_append]
  have hr : ((List.range m).map (baseRow n)).length = m ∧ ∀ v ∈ (List.range m).map (baseRow n), OddRow v := ⟨by rw [List.length_map, List.length_range], fun v hv => by obtain ⟨i, _, rfl⟩ := List.mem_map.mp hv; exact base_odd n i⟩
  generalize (List.range m).map (baseRow n) = rows at hr
  obtain ⟨hr1, hr2⟩ := hr
  repeat' first | exact ret_freeze hao (h1 _ (.lst hr2 (by (exact Ar.lin 0 2 (.le (.v 0) (.k 101)) [(.le (.v 1) (.k 101)), (.eq (.v 0) (.v 1))] (by kernel_rfl) [] [_, _] rfl rfl hm hr1)))) | walk_at "x"
  · refine S_row hp hn fun v hv => ?_
    have p0 := Int.emod_nonneg place (b := m) (by lia)
    have p1 := Int.emod_lt_of_pos place (b := m) (by lia)
    repeat' walk_at "x"
    refine Set_list led_here haF p0 (by rw [hr1]; lia) ?_
    rw [upd_here]
    have hr3 : ∀ u ∈ rows.set (place % m).toNat v, OddRow u := fun u hu => (List.mem_or_eq_of_mem_set hu).elim (hr2 u) fun e => e ▸ hv
    have hr4 : (rows.set (place % m).toNat v).length ≤ 101 := by rw [List.length_set]; (exact Ar.lin 0 2 (.le (.v 0) (.k 101)) [(.le (.v 1) (.k 101)), (.eq (.v 0) (.v 1))] (by kernel_rfl) [] [_, _] rfl rfl hm hr1)
    generalize rows.set (place % m).toNat v = rows' at hr3 hr4
    repeat' first | exact ret_freeze hao (h1 _ (.lst hr3 hr4)) | walk_at "x"
    refine Call_tuple (.ref led_here) ?_
    repeat' walk_at "x"
    intro r hro hrF
    repeat' walk_at "x"
    exact list_pick hr3 h1 h2 hro hrF fun v σ' q => q
  · refine Call_tuple (.ref led_here) ?_
    repeat' walk_at "x"
    intro r hro hrF
    repeat' walk_at "x"
    exact list_pick hr2 h1 h2 hro hrF fun v σ' q => q
  · refine Call_tuple (.ref led_here) ?_
    repeat' walk_at "x"
    intro r hro hrF
    repeat' walk_at "x"
    exact list_pick hr2 h1 h2 hro hrF fun v σ' q => q
noncomputable def allB (f : V → Bool) : V → Bool
  | .lst vs => decide (vs.length ≤ 100) && vs.all f
  | _ => false
theorem filt_zero (f : V → Bool) (vs : List V) : (((vs.filter fun v => !f v).length : Int) == 0) = vs.all f := by
  rw [Bool.eq_iff_iff, beq_iff_eq, List.all_eq_true]
  constructor
  · intro e v hv
    have : (vs.filter fun v => !f v) = [] := List.eq_nil_of_length_eq_zero (by (exact Ar.lin 0 1 (.eq (.v 0) (.k 0)) [(.ieq (.c (.v 0)) (.k 0))] (by kernel_rfl) [] [_] rfl rfl e))
    have := List.filter_eq_nil_iff.mp this v hv
    simpa using this
  · intro e
    rw [List.filter_eq_nil_iff.mpr fun v hv => by rw [e v hv]; decide]; rfl
theorem S_right (hf : FnT c.k "_law_right" 2 t_law_right_02) {f : V → Bool} {n : Int} (hg : ∀ (E : Addr) (P : V → Led → Prop) v, OddRow v → P (.bool (f v)) σ → CallN ((c.pro []).hide E) (d + 1) "_law_good" [v, .int n] σ P NoX) {v : V} (hv : LotsV σ v) (h : P (.bool (allB f v)) σ) :
    CallN c (d + 2) "_law_right" [v, .int n] σ P X := by
  refine call_go hf ?_
  cases hv with
  | none =>
    repeat' first | walk_at "x" | refine Isi_none_list ?_
    exact h
  | str =>
    repeat' walk_at "x"
    exact h
  | tup =>
    repeat' walk_at "x"
    exact h
  | dict hl =>
    repeat' first | walk_at "x" | refine Isi_dict_list hl ?_
    exact h
  | @lst vs hvs hl =>
    rw [show allB f (.lst vs) = (decide (vs.length ≤ 100) && vs.all f) from rfl] at h
    repeat' walk_at "x"
    refine ⟨_, rfl, ?_⟩
    repeat' walk_at "x"
    · rename_i q
      rw [decide_eq_false (by (exact Ar.lin 0 1 (.no (.le (.v 0) (.k 100))) [(.ilt (.k 100) (.c (.v 0)))] (by kernel_rfl) [] [_] rfl rfl q)), Bool.false_and] at h
      exact h
    · rename_i q
      rw [decide_eq_true (by (exact Ar.lin 0 1 (.le (.v 0) (.k 100)) [(.no (.ilt (.k 100) (.c (.v 0))))] (by kernel_rfl) [] [_] rfl rfl q)), Bool.true_and] at h
      refine ⟨_, [], by simp, Iter_lst, fun E => ?_⟩
      rw [show vs = vs.map (fun v => v) from (List.map_id' vs).symm]
      refine jcomp_fm (fun v => v) (fun v => v) (fun v => !f v) vs [] (fun v hv => ⟨_, rfl, ?_, fun z1 => ?_⟩) ?_
      · repeat' walk_at "x"
        refine hg E _ v (hvs v hv) ?_
        repeat' walk_at "x"
        exact ⟨rfl, rfl⟩
      · repeat' walk_at "x"
        exact ⟨rfl, rfl⟩
      refine made_f ?_
      rw [List.nil_append]
      refine Leaf.mk ⟨_, List.length_map _, ?_⟩
      rw [← filt_zero f vs] at h
      repeat' walk_at "x"
      exact h
section
variable {ad : Str → Addr} (hE : Errs c.k ad)
include hE
theorem S_needO (hp : Things c.k) {lots lines : V} (h1 : LotsV σ lots) (h2 : LotsV σ lines) (hg : allB lotV lots = true → allB lineV lines = true → P .none σ) (hb1 : allB lotV lots = false → X (.ref (ad "BadLot")) σ) (hb2 : allB lotV lots = true → allB lineV lines = false → X (.ref (ad "BadLine")) σ) :
    CallN c (d + 4) "need_rows" [lots, lines] σ P X := by
  refine call_go hp.f_need_rows ?_
  cases h1 with
  | none =>
    repeat' first | walk_at "x" | refine Isi_none_list ?_
    refine ⟨_, _, hE.sub "BadLot" (by decide), ?_⟩
    repeat' walk_at "x"
    exact hb1 rfl
  | str =>
    repeat' walk_at "x"
    refine ⟨_, _, hE.sub "BadLot" (by decide), ?_⟩
    repeat' walk_at "x"
    exact hb1 rfl
  | tup =>
    repeat' walk_at "x"
    refine ⟨_, _, hE.sub "BadLot" (by decide), ?_⟩
    repeat' walk_at "x"
    exact hb1 rfl
  | dict hl =>
    repeat' first | walk_at "x" | refine Isi_dict_list hl ?_
    refine ⟨_, _, hE.sub "BadLot" (by decide), ?_⟩
    repeat' walk_at "x"
    exact hb1 rfl
  | @lst vs hvs hl =>
    have e1 : allB lotV (.lst vs) = (decide (vs.length ≤ 100) && vs.all lotV) := rfl
    repeat' walk_at "x"
    refine ⟨_, rfl, ?_⟩
    repeat' walk_at "x"
    · rename_i q
      refine ⟨_, _, hE.sub "BadLot" (by decide), ?_⟩
      repeat' walk_at "x"
      exact hb1 (by rw [e1, decide_eq_false (by (exact Ar.lin 0 1 (.no (.le (.v 0) (.k 100))) [(.ilt (.k 100) (.c (.v 0)))] (by kernel_rfl) [] [_] rfl rfl q)), Bool.false_and])
    rename_i q
    rw [decide_eq_true (by (exact Ar.lin 0 1 (.le (.v 0) (.k 100)) [(.no (.ilt (.k 100) (.c (.v 0))))] (by kernel_rfl) [] [_] rfl rfl q)), Bool.true_and] at e1
    refine ⟨_, [], by simp, Iter_lst, fun E => ?_⟩
    have hp' : Things ((c.pro []).hide E).k := hp
    conv => arg 9; rw [show vs = vs.map (fun v => v) from (List.map_id' vs).symm]
    refine jcomp_map (fun v => v) (fun v => .bool (lotV v)) vs [] (fun v hv => ⟨_, rfl, ?_⟩) ?_
    · repeat' walk_at "x"
      refine S_lotO hp' (hvs v hv) ?_
      exact ⟨rfl, rfl⟩
    clear hp' E
    refine made_f ?_
    rw [List.nil_append, map_bool]
    refine Leaf.mk ⟨_, rfl, ?_⟩
    rw [List.all_map, show (vs.all (id ∘ lotV)) = vs.all lotV from rfl, ← e1]
    cases ha : allB lotV (.lst vs) with
    | false =>
      repeat' walk_at "x"
      refine ⟨_, _, hE.sub "BadLot" (by decide), ?_⟩
      repeat' walk_at "x"
      exact hb1 ha
    | true =>
      replace hg := hg ha
      replace hb2 := hb2 ha
      clear hb1 ha e1 q hvs hl
      repeat' walk_at "x"
      cases h2 with
      | none =>
        repeat' first | walk_at "x" | refine Isi_none_list ?_
        refine ⟨_, _, hE.sub "BadLine" (by decide), ?_⟩
        repeat' walk_at "x"
        exact hb2 rfl
      | str =>
        repeat' walk_at "x"
        refine ⟨_, _, hE.sub "BadLine" (by decide), ?_⟩
        repeat' walk_at "x"
        exact hb2 rfl
      | tup =>
        repeat' walk_at "x"
        refine ⟨_, _, hE.sub "BadLine" (by decide), ?_⟩
        repeat' walk_at "x"
        exact hb2 rfl
      | dict hl =>
        repeat' first | walk_at "x" | refine Isi_dict_list hl ?_
        refine ⟨_, _, hE.sub "BadLine" (by decide), ?_⟩
        repeat' walk_at "x"
        exact hb2 rfl
      | @lst us hus hl =>
        have e2 : allB lineV (.lst us) = (decide (us.length ≤ 100) && us.all lineV) := rfl
        repeat' walk_at "x"
        refine ⟨_, rfl, ?_⟩
        repeat' walk_at "x"
        · rename_i q
          refine ⟨_, _, hE.sub "BadLine" (by decide), ?_⟩
          repeat' walk_at "x"
          exact hb2 (by rw [e2, decide_eq_false (by (exact Ar.lin 0 1 (.no (.le (.v 0) (.k 100))) [(.ilt (.k 100) (.c (.v 0)))] (by kernel_rfl) [] [_] rfl rfl q)), Bool.false_and])
        rename_i q
        rw [decide_eq_true (by (exact Ar.lin 0 1 (.le (.v 0) (.k 100)) [(.no (.ilt (.k 100) (.c (.v 0))))] (by kernel_rfl) [] [_] rfl rfl q)), Bool.true_and] at e2
        refine ⟨_, [], by simp, Iter_lst, fun E => ?_⟩
        have hp' : Things ((c.pro []).hide E).k := hp
        conv => arg 9; rw [show us = us.map (fun v => v) from (List.map_id' us).symm]
        refine jcomp_map (fun v => v) (fun v => .bool (lineV v)) us [] (fun v hv => ⟨_, rfl, ?_⟩) ?_
        · repeat' walk_at "x"
          refine S_lineO hp' (hus v hv) ?_
          exact ⟨rfl, rfl⟩
        clear hp' E
        refine made_f ?_
        rw [List.nil_append, map_bool]
        refine Leaf.mk ⟨_, rfl, ?_⟩
        rw [List.all_map, show (us.all (id ∘ lineV)) = us.all lineV from rfl, ← e2]
        cases hb : allB lineV (.lst us) with
        | false =>
          repeat' walk_at "x"
          refine ⟨_, _, hE.sub "BadLine" (by decide), ?_⟩
          repeat' walk_at "x"
          exact hb2 hb
        | true =>
          refine ret_next ?_
          exact hg hb
end
theorem JLoop_none {t body : T} {K : Fl → Rho → Led → Prop} {ρ : Rho} (M : Rho) (hm : RSub M ρ) (h : ∀ ρ, RSub M ρ → K .next ρ σ) : JLoop c d t body K [] ρ σ := h ρ hm
theorem S_keeps0 (hp : Dealt c.k) {lots : List Lot} {lines : List Line} (h1 : ∀ l ∈ lots, l.ok) (h2 : ∀ l ∈ lines, l.ok) (h : P (.bool true) σ) :
    CallN c (d + 3) "keeps" [.lst (lots.map Lot.v), .lst (lines.map Line.v), .lst []] σ P X := by
  refine call_go hp.f_keeps ?_
  repeat' walk_at "x"
  refine ⟨_, [], by simp, Iter_lst, fun E => ?_⟩
  refine jcomp_map (α := Unit) (fun z1 => .none) (fun z1 => .bool true) [] [] (fun x hx => nomatch hx) ?_
  clear E
  refine made_f ?_
  refine Leaf.mk ⟨[], rfl, ?_⟩
  rw [show ([] : List Bool).all id = true from rfl]
  repeat' walk_at "x"
  refine ⟨_, [], by simp, Iter_lst, fun E => ?_⟩
  refine jcomp_map Line.v (fun l => .int l.n) lines [] (fun l hl => ⟨_, rfl, ?_⟩) ?_
  · repeat' walk_at "x"
    exact ⟨rfl, rfl⟩
  refine made_t fun a hao haF => ?_
  rw [List.nil_append]
  repeat' walk_at "x"
  refine ⟨_, [], by simp, Iter_lst, fun E => ?_⟩
  refine jcomp_map Lot.v (fun l => .int l.n) lots [] (fun l hl => ⟨_, rfl, ?_⟩) ?_
  · repeat' walk_at "x"
    exact ⟨rfl, rfl⟩
  refine made_t fun b hbo hbF => ?_
  rw [List.nil_append]
  obtain ⟨hab, hao'⟩ := fresh2 hbo
  repeat' walk_at "x"
  refine ⟨_, [], by simp, Iter_lst, JLoop_none [(7, .ref b), (5, .ref a)] ?_ fun m hm => ?_⟩
  · walk_at "sub"
  refine JB_sub hm ?_
  clear hm
  repeat' walk_at "x"
  obtain ⟨G, hG, hI⟩ := (IsLst.ref (led_there hao' led_here) : IsLst ((b, .list (lots.map fun l => .int l.n)) :: (a, .list (lines.map fun l => .int l.n)) :: σ) (.ref a) (lines.map fun l => .int l.n)).iter (c := c)
  refine ⟨_, G, hG, hI, fun E => ?_⟩
  refine jcomp_map (fun l : Line => .int l.n) (fun z1 => .bool true) lines [] (fun l hl => ⟨_, rfl, ?_⟩) ?_
  · repeat' walk_at "x"
    exact ⟨by rw [decide_eq_true (Int.le_trans (by decide) (h2 l hl).n0)], rfl⟩
  clear hI hG G E
  refine made_f ?_
  rw [List.nil_append, map_bool]
  refine Leaf.mk ⟨_, rfl, ?_⟩
  rw [alls_all]
  repeat' walk_at "x"
  obtain ⟨G, hG, hI⟩ := (IsLst.ref led_here : IsLst ((b, .list (lots.map fun l => .int l.n)) :: (a, .list (lines.map fun l => .int l.n)) :: σ) (.ref b) (lots.map fun l => .int l.n)).iter (c := c)
  refine ⟨_, G, hG, hI, fun E => ?_⟩
  refine jcomp_map (fun l : Lot => .int l.n) (fun z1 => .bool true) lots [] (fun l hl => ⟨_, rfl, ?_⟩) ?_
  · repeat' walk_at "x"
    exact ⟨by rw [decide_eq_true (Int.le_trans (by decide) (h1 l hl).n0)], rfl⟩
  clear hI hG G E
  refine made_f ?_
  rw [List.nil_append, map_bool]
  refine Leaf.mk ⟨_, rfl, ?_⟩
  rw [alls_all]
  exact ret_drop (.cons _ (.cons _ (.refl _))) h
section
variable (hp : Dealt c.k) {lots : List Lot} {lines : List Line} (h1 : ∀ l ∈ lots, l.ok) (h2 : ∀ l ∈ lines, l.ok) (hl1 : lots.length ≤ 100) (hl2 : lines.length ≤ 100)
include hp h1 h2 hl1 hl2
theorem S_holds0 (hf : FnT c.k "holds" 3 t_holds) (h : P (.bool true) σ) : CallN c (d + 5) "holds" [.lst (lots.map Lot.v), .lst (lines.map Line.v), .lst []] σ P X := by
  refine call_go hf ?_
  repeat' walk_at "x"
  refine S_need_rows hp.toThings h1 h2 hl1 hl2 ?_
  repeat' walk_at "x"
  refine S_keeps0 hp h1 h2 ?_
  exact ret_keep h
theorem S_short0 (hf : FnT c.k "short" 3 t_short) (h : ∀ vs, P (.lst vs) σ) : CallN c (d + 5) "short" [.lst (lots.map Lot.v), .lst (lines.map Line.v), .lst []] σ P X := by
  refine call_go hf ?_
  repeat' walk_at "x"
  refine S_need_rows hp.toThings h1 h2 hl1 hl2 ?_
  repeat' walk_at "x"
  refine S_keeps0 hp h1 h2 ?_
  repeat' walk_at "x"
  refine ⟨_, [], by simp, Iter_lst, fun E => ?_⟩
  refine jcomp_map Line.v (fun l => .int l.n) lines [] (fun l hl => ⟨_, rfl, ?_⟩) ?_
  · repeat' walk_at "x"
    exact ⟨rfl, rfl⟩
  refine made_t fun a hao haF => ?_
  repeat' walk_at "x"
  refine ⟨_, [], by simp, Iter_lst, JLoop_none [(4, .ref a)] ?_ fun m hm => ?_⟩
  · walk_at "sub"
  refine JB_sub hm ?_
  refine JB_go ?_
  exact ret_freeze hao (h _)
theorem S_left0 (hf : FnT c.k "left" 3 t_left) (h : ∀ vs, P (.lst vs) σ) : CallN c (d + 5) "left" [.lst (lots.map Lot.v), .lst (lines.map Line.v), .lst []] σ P X := by
  refine call_go hf ?_
  repeat' walk_at "x"
  refine S_need_rows hp.toThings h1 h2 hl1 hl2 ?_
  repeat' walk_at "x"
  refine S_keeps0 hp h1 h2 ?_
  repeat' walk_at "x"
  refine ⟨_, [], by simp, Iter_lst, fun E => ?_⟩
  refine jcomp_map Lot.v (fun l => .int l.n) lots [] (fun l hl => ⟨_, rfl, ?_⟩) ?_
  · repeat' walk_at "x"
    exact ⟨rfl, rfl⟩
  refine made_t fun a hao haF => ?_
  repeat' walk_at "x"
  refine ⟨_, [], by simp, Iter_lst, JLoop_none [(4, .ref a)] ?_ fun m hm => ?_⟩
  · walk_at "sub"
  refine JB_sub hm ?_
  refine JB_go ?_
  exact ret_freeze hao (h _)
end
theorem JLoop_inv {t body : T} {K : Fl → Rho → Led → Prop} {α β : Type} (f : α → V) (M : β → Rho) (L : β → Led) (J : List α → β → Prop) : ∀ (rows : List α) (s : β) (ρ : Rho), RSub (M s) ρ → J rows s →
    (∀ s a rest, J (a :: rest) s → JA c d NoX t (f a) (M s) (L s) (fun ρ₁ σ₁ => JB c d NoX body ρ₁ σ₁ (fun fl ρ₂ σ₂ => fl = .next ∧ ∃ s', RSub (M s') ρ₂ ∧ σ₂ = L s' ∧ J rest s'))) →
    (∀ s ρ, RSub (M s) ρ → J [] s → K .next ρ (L s)) → JLoop c d t body K (rows.map f) ρ (L s)
  | [], s, ρ, hm, hj, _, h => h s ρ hm hj
  | a :: rows, s, ρ, hm, hj, hstep, h => JA_sub hm ((hstep s a rows hj).mono fun ρ₁ σ₁ q => q.mono fun fl ρ₂ σ₂ ⟨q0, s', q1, q2, q3⟩ => by rw [q0, q2]; exact JLoop_inv f M L J rows s' ρ₂ q1 q3 hstep h)
theorem mem_pairs {S : Nat → Int} {n : Nat} {ys : List (Int × Nat)} (h : ys.Perm ((List.range n).map fun i => (S i, i))) : ys.length = n ∧ ∀ y ∈ ys, y.2 < n :=
  ⟨by simpa using h.length_eq, fun y hy => by obtain ⟨i, hi, rfl⟩ := List.mem_map.mp (h.mem_iff.mp hy); exact List.mem_range.mp hi⟩
structure BS where
  want : Int
  rest : List Int
  found : List Deal.Row
section
variable (hp : Things c.k) {lots : List Lot} {lines : List Line} (h1 : ∀ l ∈ lots, l.ok) (h2 : ∀ l ∈ lines, l.ok) (hl1 : lots.length ≤ 100) (hl2 : lines.length ≤ 100)
include hp h1 h2 hl1 hl2
theorem S_best0 (hf : FnT c.k "best" 2 t_best) (h : ∀ vs, P (.lst vs) σ) : CallN c (d + 5) "best" [.lst (lots.map Lot.v), .lst (lines.map Line.v)] σ P X := by
  refine call_go hf ?_
  repeat' walk_at "x"
  refine S_need_rows hp h1 h2 hl1 hl2 ?_
  repeat' walk_at "x"
  refine ⟨_, [], by simp, Iter_lst, fun D => ?_⟩
  refine jcomp_map Lot.v (fun l => .int l.n) lots [] (fun l hl => ⟨_, rfl, ?_⟩) ?_
  · repeat' walk_at "x"
    exact ⟨rfl, rfl⟩
  refine made_t fun a hao haF => ?_
  rw [List.nil_append, show (lots.map fun l => V.int l.n) = (lots.map Lot.n).map .int by rw [List.map_map]; rfl]
  repeat' walk_at "x"
  refine ⟨_, [], by simp, Iter_rangeN (Nat.le_trans hl1 (by decide)), fun D => ?_⟩
  refine jcomp_map (fun i : Nat => V.int i) (fun i => pairV ((lots.getD i Lot.z).last, i)) (List.range lots.length) [] (fun i hi => ⟨_, rfl, ?_⟩) ?_
  · repeat' walk_at "x"
    refine Item_of Lot.z (by simpa using hi) ?_
    repeat' walk_at "x"
    exact ⟨rfl, rfl⟩
  refine made_f ?_
  rw [List.nil_append, show (List.range lots.length).map (fun i => pairV ((lots.getD i Lot.z).last, i)) = ((List.range lots.length).map fun i => ((lots.getD i Lot.z).last, i)).map pairV by rw [List.map_map]; rfl]
  repeat' walk_at "x"
  refine Call_sorted_tup pairV keyP (fun z1 => rfl) (by intro x; simp [keyP]) (.lst _) fun ts hy z1 => ?_
  have hts := mem_pairs hy
  clear hy
  repeat' walk_at "x"
  intro b hbo hbF
  obtain ⟨hab, hao'⟩ := fresh2 hbo
  repeat' walk_at "x"
  refine ⟨_, [], by simp, Iter_rangeN (Nat.le_trans hl2 (by decide)), fun D => ?_⟩
  have hp' : Things ((c.pro []).hide D).k := hp
  refine jcomp_map (fun i : Nat => V.int i) (fun i => pairV (-(lines.getD i Line.z).need, i)) (List.range lines.length) [] (fun i hi => ⟨_, rfl, ?_⟩) ?_
  · repeat' walk_at "x"
    refine Item_of Line.z (by simpa using hi) ?_
    repeat' walk_at "x"
    exact ⟨rfl, rfl⟩
  clear hp' D
  refine made_f ?_
  rw [List.nil_append, show (List.range lines.length).map (fun i => pairV (-(lines.getD i Line.z).need, i)) = ((List.range lines.length).map fun i => (-(lines.getD i Line.z).need, i)).map pairV by rw [List.map_map]; rfl]
  repeat' walk_at "x"
  refine Call_sorted_tup pairV keyP (fun z1 => rfl) (by intro x; simp [keyP]) (.lst _) fun ls hy z1 => ?_
  have hls := mem_pairs (S := fun i => -(lines.getD i Line.z).need) hy
  clear hy
  repeat' walk_at "x"
  refine ⟨_, [], by simp, Iter_lst, ?_⟩
  refine JLoop_inv pairV (fun z1 => [(6, .ref b), (5, .lst (ts.map pairV)), (3, .ref a), (0, .lst (lots.map Lot.v)), (1, .lst (lines.map Line.v))])
    (fun s : BS => (b, .list (s.found.map rowV)) :: (a, .list (s.rest.map .int)) :: σ) (fun left s => s.rest.length = lots.length ∧ s.found.length + 100 * left.length ≤ 10000 ∧ ∀ x ∈ left, x.2 < lines.length) ls ⟨0, lots.map Lot.n, []⟩ _ ?_ ?_ (fun s x left hj => ?_) fun s m hm hj => ?_
  · walk_at "sub"
  · exact ⟨by simp, by show 0 + 100 * ls.length ≤ 10000; rw [hls.1]; (exact Ar.lin 0 1 (.le (.a (.k 0) (.m 100 (.v 0))) (.k 10000)) [(.le (.v 0) (.k 100))] (by kernel_rfl) [] [_] rfl rfl hl2), hls.2⟩
  · have hp' : Things (c.pro []).k := hp
    obtain ⟨j1, j2, j3⟩ := hj
    have hl : x.2 < lines.length := j3 x (.head _)
    rw [List.length_cons] at j2
    show JA _ _ _ _ (.tup [.int x.1, .int x.2]) _ _ _
    repeat' walk_at "x"
    refine Item_of Line.z hl ?_
    repeat' walk_at "x"
    refine ⟨_, [], by simp, Iter_lst, ?_⟩
    refine JLoop_inv pairV (fun s : BS => [(9, .int s.want), (8, .int x.2), (6, .ref b), (5, .lst (ts.map pairV)), (3, .ref a), (0, .lst (lots.map Lot.v)), (1, .lst (lines.map Line.v))])
      (fun s => (b, .list (s.found.map rowV)) :: (a, .list (s.rest.map .int)) :: σ) (fun left u => u.rest.length = lots.length ∧ u.found.length + left.length ≤ s.found.length + 100 ∧ ∀ t ∈ left, t.2 < lots.length) ts ⟨(lines.getD x.2 Line.z).n, s.rest, s.found⟩ _ ?_ ?_ (fun u t rest hk => ?_) fun u m hm hk => ?_
    · walk_at "sub"
    · exact ⟨j1, by show s.found.length + ts.length ≤ _; rw [hts.1]; exact Nat.add_le_add_left hl1 _, hts.2⟩
    · have hp'' : Things ((c.pro []).pro []).k := hp
      obtain ⟨k1, k2, k3⟩ := hk
      have ht : t.2 < lots.length := k3 t (.head _)
      rw [List.length_cons] at k2
      have hkl : u.rest.length = lots.length ∧ u.found.length + rest.length ≤ s.found.length + 100 ∧ ∀ t ∈ rest, t.2 < lots.length := ⟨k1, Nat.le_trans (Nat.add_le_add_left (Nat.le_succ _) _) k2, fun q hq => k3 q (.tail _ hq)⟩
      show JA _ _ _ _ (.tup [.int t.1, .int t.2]) _ _ _
      repeat' walk_at "x"
      refine Item_ofR (led_there hao' led_here) 0 (by rw [k1]; exact ht) ?_
      repeat' walk_at "x"
      · refine Item_of Lot.z ht ?_
        repeat' walk_at "x"
        refine Item_of Line.z hl ?_
        repeat' walk_at "x"
        · refine ⟨_, _, Meth_append led_here, ?_⟩
          repeat' walk_at "x"
          refine Call_append led_here (by simpa [Cx.pro] using hbF) (by rw [List.length_map]; (exact Ar.lin 0 4 (.lt (.v 0) (.k 16777216)) [(.le (.a (.v 1) (.m 100 (.a (.v 2) (.k 1)))) (.k 10000)), (.le (.a (.v 0) (.a (.v 3) (.k 1))) (.a (.v 1) (.k 100)))] (by kernel_rfl) [] [_, _, _, _] rfl rfl j2 k2)) ?_
          rw [upd_here]
          repeat' walk_at "x"
          refine Item_ofR (led_there hao' led_here) 0 (by rw [k1]; exact ht) ?_
          repeat' walk_at "x"
          refine Set_list (led_there hao' led_here) (by simpa [Cx.pro] using haF) (Int.natCast_nonneg _) (by rw [List.length_map, k1]; simpa using ht) ?_
          rw [upd_there hab, upd_here]
          refine ⟨rfl, ⟨u.want - min u.want (u.rest.getD t.2 0), u.rest.set t.2 (u.rest.getD t.2 0 - min u.want (u.rest.getD t.2 0)), u.found ++ [(x.2, t.2, min u.want (u.rest.getD t.2 0))]⟩, by walk_at "sub", ?_, (List.length_set ..).trans k1, ?_, hkl.2.2⟩
          · rw [List.map_append, List.map_set]; rfl
          · show (u.found ++ [_]).length + _ ≤ _
            rw [List.length_append]; show u.found.length + 1 + rest.length ≤ _; rw [Nat.add_right_comm]; exact k2
        · exact ⟨rfl, u, by walk_at "sub", rfl, hkl⟩
      · exact ⟨rfl, u, by walk_at "sub", rfl, hkl⟩
    · refine JB_nil ⟨rfl, u, RSub.trans (by walk_at "sub") hm, rfl, hk.1, ?_, fun q hq => j3 q (.tail _ hq)⟩
      have := hk.2.1
      rw [List.length_nil] at this
      (exact Ar.lin 0 3 (.le (.a (.v 0) (.m 100 (.v 1))) (.k 10000)) [(.le (.a (.v 2) (.m 100 (.a (.v 1) (.k 1)))) (.k 10000)), (.le (.a (.v 0) (.k 0)) (.a (.v 2) (.k 100)))] (by kernel_rfl) [] [_, _, _] rfl rfl j2 this)
  refine JB_sub hm ?_
  clear hm
  repeat' walk_at "x"
  refine Call_sorted_tup rowV keyR (fun z1 => rfl) (by intro x; simp [keyR]) (.ref led_here) fun D z1 z2 => ?_
  exact ret_drop (.cons _ (.cons _ (.refl _))) (h _)
end
theorem jcomp_any {t elt : T} {ρ : Rho} {Kf : List V → Led → Prop} (h : ∀ ws, Kf ws σ) : ∀ (vs acc : List V), (∀ v ∈ vs, JE c d NoX elt ((vix t, v) :: ρ) σ (fun z1 σ' => σ' = σ)) → JComp c d t false .nil elt ρ Kf vs acc σ
  | [], acc, _ => h acc
  | v :: vs, acc, hs => JE.mono (hs v (.head _)) fun w σ' q => by rw [q]; exact jcomp_any h vs _ fun b hb => hs b (.tail _ hb)
theorem S_bar0 (hp : Things c.k) (hf : FnT c.k "limit_of" 4 t_limit_of) (hg : FnT c.k "bar_of" 3 t_bar_of) {lots : List Lot} {lines : List Line} {w : Str}
    (h : ∀ b, P (.int b) σ) : CallN c (d + 3) "bar_of" [.lst (lots.map Lot.v), .lst (lines.map Line.v), .str w] σ P X := by
  refine call_go hg ?_
  repeat' walk_at "x"
  refine S_limit_of hp hf ?_
  repeat' walk_at "x"
  refine ⟨_, [], by simp, Iter_lst, fun D => ?_⟩
  refine jcomp_fm Lot.v (fun l => .int (l.last + 1)) (fun l => l.w == w) lots [] (fun l hl => ⟨_, rfl, ?_, fun z1 => ?_⟩) ?_
  · repeat' walk_at "x"
    exact ⟨rfl, rfl⟩
  · repeat' walk_at "x"
    exact ⟨rfl, rfl⟩
  refine made_f ?_
  rw [List.nil_append, map_int (fun l : Lot => l.last + 1)]
  repeat' walk_at "x"
  refine Call_sorted_int (.lst _) fun ys z1 z2 => ?_
  repeat' walk_at "x"
  refine ⟨_, [], by simp, Iter_lst, ?_⟩
  refine JLoop_inv V.int (fun s : Int × Int => [(3, .int s.1), (4, .int s.2), (0, .lst (lots.map Lot.v)), (1, .lst (lines.map Line.v)), (2, .str w)]) (fun z1 => σ) (fun z1 z2 => True) ys (0, limitOf lots lines w 0) _ ?_ trivial (fun s day rest z1 => ?_) fun s m hm z1 => ?_
  · walk_at "sub"
  · have hp' : Things (c.pro []).k := hp
    have hf' : FnT (c.pro []).k "limit_of" 4 t_limit_of := hf
    repeat' walk_at "x"
    refine S_limit_of hp' hf' ?_
    repeat' walk_at "x"
    · exact ⟨rfl, (day, limitOf lots lines w day), by walk_at "sub", rfl, trivial⟩
    · exact ⟨rfl, s, by walk_at "sub", rfl, trivial⟩
  refine JB_sub hm ?_
  repeat' walk_at "x"
  exact h _
theorem S_bars0 (hp : Things c.k) {lots : List Lot} {lines : List Line} (h1 : ∀ l ∈ lots, l.ok) (h2 : ∀ l ∈ lines, l.ok) (hl1 : lots.length ≤ 100) (hl2 : lines.length ≤ 100) (hf : FnT c.k "limit_of" 4 t_limit_of) (hg : FnT c.k "bar_of" 3 t_bar_of) (hb : FnT c.k "bars" 2 t_bars)
    (h : ∀ vs, P (.lst vs) σ) : CallN c (d + 5) "bars" [.lst (lots.map Lot.v), .lst (lines.map Line.v)] σ P X := by
  have hd := hb.hd
  refine call_go hb ?_
  repeat' walk_at "x"
  refine S_need_rows hp h1 h2 hl1 hl2 ?_
  repeat' walk_at "x"
  intro a hao haF
  repeat' walk_at "x"
  refine Op_addl (.lst _) (.lst _) (by rw [List.length_map, List.length_map]; (exact Ar.lin 0 2 (.le (.a (.v 0) (.v 1)) (.k 1000000)) [(.le (.v 0) (.k 100)), (.le (.v 1) (.k 100))] (by kernel_rfl) [] [_, _] rfl rfl hl1 hl2)) ?_
  rw [both_val]
  repeat' walk_at "x"
  refine ⟨_, [], by simp, Iter_lst, ?_⟩
  refine JLoop_inv SVal (fun z1 => [(2, .ref a), (0, .lst (lots.map Lot.v)), (1, .lst (lines.map Line.v))]) (fun s => (a, .dictS s) :: σ) (fun rest s => s.length + rest.length ≤ 200) (both lots lines) [] _ ?_ ?_ (fun s r rest hj => ?_) fun s m hm hj => ?_
  · walk_at "sub"
  · show 0 + _ ≤ _
    unfold both; rw [List.length_append, List.length_map, List.length_map]; (exact Ar.lin 0 2 (.le (.a (.k 0) (.a (.v 0) (.v 1))) (.k 200)) [(.le (.v 0) (.k 100)), (.le (.v 1) (.k 100))] (by kernel_rfl) [] [_, _] rfl rfl hl1 hl2)
  · rw [List.length_cons] at hj
    have hj2 : (putV s (SWare r) (.bool true)).length + rest.length ≤ 200 := by have := put_len s (SWare r) (.bool true); (exact Ar.lin 0 3 (.le (.a (.v 0) (.v 1)) (.k 200)) [(.le (.a (.v 2) (.a (.v 1) (.k 1))) (.k 200)), (.le (.v 0) (.a (.v 2) (.k 1)))] (by kernel_rfl) [] [_, _, _] rfl rfl hj this)
    have fin : ∀ K : Led → Prop, K ((a, .dictS (putV s (SWare r) (.bool true))) :: σ) → SetIt (c.pro []) (d + 4) (.ref a) (.str (SWare r)) (.bool true) ((a, .dictS s) :: σ) K := fun K hK => Set_dict DK.str led_here (by simpa [Cx.pro] using haF) (by (exact Ar.lin 0 2 (.le (.v 0) (.k 1000)) [(.le (.a (.v 0) (.a (.v 1) (.k 1))) (.k 200))] (by kernel_rfl) [] [_, _] rfl rfl hj)) (by rw [upd_here]; exact hK)
    cases r with
    | inl l =>
      show JA _ _ _ _ (.tup [.str l.w, .int l.last, .int l.n]) _ _ _
      repeat' walk_at "x"
      refine fin _ ?_
      exact ⟨rfl, _, by walk_at "sub", rfl, hj2⟩
    | inr l =>
      show JA _ _ _ _ (.tup [.str l.w, .int l.day, .int l.left, .int l.n]) _ _ _
      repeat' walk_at "x"
      refine fin _ ?_
      exact ⟨rfl, _, by walk_at "sub", rfl, hj2⟩
  refine JB_sub hm ?_
  have hj' : s.length ≤ 200 := hj
  repeat' walk_at "x"
  refine Call_sorted_dict hd led_here (Nat.le_trans hj' (by decide)) fun ws z1 z2 => ?_
  repeat' walk_at "x"
  refine ⟨_, [], by simp, Iter_lst, fun E => ?_⟩
  have hp' : Things ((c.pro []).hide E).k := hp
  have hf' : FnT ((c.pro []).hide E).k "limit_of" 4 t_limit_of := hf
  have hg' : FnT ((c.pro []).hide E).k "bar_of" 3 t_bar_of := hg
  refine jcomp_any (fun vs => made_f (ret_drop (.cons _ (.refl _)) (h vs))) _ [] fun v hv => ?_
  obtain ⟨w, _, rfl⟩ := List.mem_map.mp hv
  repeat' walk_at "x"
  exact S_bar0 hp' hf' hg' fun z1 => rfl
theorem ware_of {v : V} (h : wareV v = true) : ∃ x, v = .str x ∧ wareB x = true := by
  cases v with
  | str x => exact ⟨x, rfl, h⟩
  | _ => cases h
theorem day_of {v : V} (h : dayV v = true) : ∃ i, v = .int i ∧ 0 ≤ i ∧ i ≤ 1000000000000 := by
  cases v with
  | int i =>
    replace h : dayB i = true := h
    unfold dayB at h
    simp only [Bool.and_eq_true, decide_eq_true_eq] at h
    exact ⟨i, rfl, h⟩
  | _ => cases h
theorem count_of {v : V} (h : countV v = true) : ∃ i, v = .int i ∧ 1 ≤ i ∧ i ≤ 1000000000000 := by
  cases v with
  | int i =>
    replace h : countB i = true := h
    unfold countB at h
    simp only [Bool.and_eq_true, decide_eq_true_eq] at h
    exact ⟨i, rfl, h⟩
  | _ => cases h
theorem wok_of {x : Str} (ho : OPart (.str x)) (h : wareB x = true) : WareOk x := by
  cases ho with
  | str hx hok =>
    have hw := h
    unfold wareB at hw
    simp only [Bool.and_eq_true, decide_eq_true_eq] at hw
    exact ⟨by lia, h, hok⟩
theorem lot_of {v : V} (hv : OddRow v) (h : lotV v = true) : ∃ l : Lot, v = l.v ∧ l.ok := by
  cases hv with
  | @tup vs hvs =>
    rcases vs with _ | ⟨a, _ | ⟨b, _ | ⟨e, _ | ⟨f, r⟩⟩⟩⟩
    · cases h
    · cases h
    · cases h
    · replace h : (wareV a && (dayV b && countV e)) = true := h
      rw [Bool.and_eq_true, Bool.and_eq_true] at h
      have ho := hvs a (by simp)
      obtain ⟨x, rfl, h1⟩ := ware_of h.1
      obtain ⟨i, rfl, h2⟩ := day_of h.2.1
      obtain ⟨j, rfl, h3⟩ := count_of h.2.2
      exact ⟨⟨x, i, j⟩, rfl, ⟨wok_of ho h1, h2.1, h2.2, h3.1, h3.2⟩⟩
    · cases h
  | _ => cases h
theorem line_of {v : V} (hv : OddRow v) (h : lineV v = true) : ∃ l : Line, v = l.v ∧ l.ok := by
  cases hv with
  | @tup vs hvs =>
    rcases vs with _ | ⟨a, _ | ⟨b, _ | ⟨e, _ | ⟨f, _ | ⟨g, r⟩⟩⟩⟩⟩
    · cases h
    · cases h
    · cases h
    · cases h
    · replace h : (wareV a && (dayV b && (dayV e && countV f))) = true := h
      rw [Bool.and_eq_true, Bool.and_eq_true, Bool.and_eq_true] at h
      have ho := hvs a (by simp)
      obtain ⟨x, rfl, h1⟩ := ware_of h.1
      obtain ⟨i, rfl, h2⟩ := day_of h.2.1
      obtain ⟨j, rfl, h3⟩ := day_of h.2.2.1
      obtain ⟨k, rfl, h4⟩ := count_of h.2.2.2
      exact ⟨⟨x, i, j, k⟩, rfl, ⟨wok_of ho h1, h2.1, h2.2, h3.1, h3.2, h4.1, h4.2⟩⟩
    · cases h
  | _ => cases h
theorem all_of {α : Type} {vs : List V} {e : α → V} {ok : α → Prop} (h : ∀ v ∈ vs, ∃ l, v = e l ∧ ok l) : ∃ ls : List α, vs = ls.map e ∧ ∀ l ∈ ls, ok l := by
  induction vs with
  | nil => exact ⟨[], rfl, by simp⟩
  | cons v vs ih =>
    obtain ⟨l, rfl, hl⟩ := h v (.head _)
    obtain ⟨ls, rfl, hls⟩ := ih fun u hu => h u (.tail _ hu)
    exact ⟨l :: ls, rfl, fun x hx => (List.mem_cons.mp hx).elim (fun q => q ▸ hl) (hls x)⟩
theorem good_lots {v : V} (hv : LotsV σ v) (h : allB lotV v = true) : ∃ ls : List Lot, v = .lst (ls.map Lot.v) ∧ (∀ l ∈ ls, l.ok) ∧ ls.length ≤ 100 := by
  cases hv with
  | @lst vs hvs hl =>
    rw [show allB lotV (.lst vs) = (decide (vs.length ≤ 100) && vs.all lotV) from rfl, Bool.and_eq_true, decide_eq_true_eq, List.all_eq_true] at h
    obtain ⟨ls, rfl, hls⟩ := all_of fun v hv => lot_of (hvs v hv) (h.2 v hv)
    exact ⟨ls, rfl, hls, by simpa using h.1⟩
  | _ => cases h
theorem good_lines {v : V} (hv : LotsV σ v) (h : allB lineV v = true) : ∃ ls : List Line, v = .lst (ls.map Line.v) ∧ (∀ l ∈ ls, l.ok) ∧ ls.length ≤ 100 := by
  cases hv with
  | @lst vs hvs hl =>
    rw [show allB lineV (.lst vs) = (decide (vs.length ≤ 100) && vs.all lineV) from rfl, Bool.and_eq_true, decide_eq_true_eq, List.all_eq_true] at h
    obtain ⟨ls, rfl, hls⟩ := all_of fun v hv => line_of (hvs v hv) (h.2 v hv)
    exact ⟨ls, rfl, hls, by simpa using h.1⟩
  | _ => cases h
section
variable {ad : Str → Addr} (hE : Errs c.k ad) (hp : L02 c.k) {lots lines : V} (h1 : LotsV σ lots) (h2 : LotsV σ lines)
include hE hp h1 h2
theorem S_act {kind : Int} (hg : allB lotV lots = true → allB lineV lines = true → P .none σ) (hb1 : allB lotV lots = false → X (.ref (ad "BadLot")) σ) (hb2 : allB lotV lots = true → allB lineV lines = false → X (.ref (ad "BadLine")) σ) :
    CallN c (d + 6) "_law_act" [.int kind, lots, lines] σ P X := by
  have ht := hp.toThings
  refine call_go hp.f_law_act ?_
  by_cases hgood : allB lotV lots = true ∧ allB lineV lines = true
  · replace hg := hg hgood.1 hgood.2
    obtain ⟨ls, rfl, o1, l1⟩ := good_lots h1 hgood.1
    obtain ⟨ns, rfl, o2, l2⟩ := good_lines h2 hgood.2
    repeat' walk_at "x"
    · refine S_best0 ht o1 o2 l1 l2 hp.f_best fun z1 => ?_
      exact ret_next hg
    · refine S_limit ht hp.f_limit_of hp.f_limit o1 o2 l1 l2 ?_
      exact ret_next hg
    · refine S_bars0 ht o1 o2 l1 l2 hp.f_limit_of hp.f_bar_of hp.f_bars fun z1 => ?_
      exact ret_next hg
    · refine S_holds0 hp.toDealt o1 o2 l1 l2 hp.f_holds ?_
      exact ret_next hg
    · refine S_short0 hp.toDealt o1 o2 l1 l2 hp.f_short fun z1 => ?_
      exact ret_next hg
    · refine S_left0 hp.toDealt o1 o2 l1 l2 hp.f_left fun z1 => ?_
      exact ret_next hg
  · have bad : ∀ {P : V → Led → Prop}, CallN c (d + 4) "need_rows" [lots, lines] σ P X := fun {P} => S_needO hE ht h1 h2 (fun a b => absurd ⟨a, b⟩ hgood) hb1 hb2
    clear hg hb1 hb2
    repeat' walk_at "x"
    · refine call_go hp.f_best ?_
      repeat' walk_at "x"
      exact bad
    · refine call_go hp.f_limit ?_
      repeat' walk_at "x"
      exact bad
    · refine call_go hp.f_bars ?_
      repeat' walk_at "x"
      exact bad
    · refine call_go hp.f_holds ?_
      repeat' walk_at "x"
      exact bad
    · refine call_go hp.f_short ?_
      repeat' walk_at "x"
      exact bad
    · refine call_go hp.f_left ?_
      repeat' walk_at "x"
      exact bad
end
theorem no_cls2 {ad : Str → Addr} (hE : Errs c.k ad) {x y : Str} (hx : x ∈ subs) (hy : y ∈ subs) (hne : y ≠ x) : (Value.ref (ad x) :: .ref (ad "LotError") :: VE).contains (.ref (ad y)) = false := by
  have h1 := (hE.apart y hy).1
  have h2 : ad y ≠ ad x := fun q => hne ((hE.apart y hy).2 _ hx q)
  rw [List.contains_eq_mem, decide_eq_false_iff_not]
  intro hm
  rcases List.mem_cons.mp hm with q | hm
  · exact h2 (Value.ref.inj q)
  rcases List.mem_cons.mp hm with q | hm
  · exact h1 (Value.ref.inj q)
  · simp [VE] at hm
noncomputable def dueS (lots lines : V) : Str := if allB lotV lots = true then (if allB lineV lines = true then Str.ofString "" else Str.ofString "line") else Str.ofString "lot"
section
variable (hp : L02 c.k) {lots lines : V} (h1 : LotsV σ lots) (h2 : LotsV σ lines) (hσ : NoExc σ)
include hp h1 h2 hσ
theorem S_said {kind : Int} (h : P (.str (dueS lots lines)) σ) : CallN c (d + 7) "_law_said" [.int kind, lots, lines] σ P X := by
  obtain ⟨ad, hE⟩ := hp.errs
  refine call_go hp.f_law_said ?_
  repeat' walk_at "x"
  refine ⟨fun cls σ' => ((cls = .ref (ad "BadLot") ∧ allB lotV lots = false) ∨ (cls = .ref (ad "BadLine") ∧ allB lotV lots = true ∧ allB lineV lines = false)) ∧ σ' = σ, ?_, fun cls σ' hx => ?_⟩
  · repeat' walk_at "x"
    refine S_act hE hp h1 h2 (fun a b => ?_) (fun a => ⟨.inl ⟨rfl, a⟩, rfl⟩) (fun a b => ⟨.inr ⟨rfl, a, b⟩, rfl⟩)
    unfold dueS at h
    rw [if_pos a, if_pos b] at h
    refine (show JB c (d + 6) X ((T.str (Str.ofString "")).ret.cons T.nil) _ _ (RetT P) from JB_go ?_)
    repeat' walk_at "x"
    exact h
  · obtain ⟨hx, rfl⟩ := hx
    have hB := hE.sub "BadLot" (by decide)
    have hN := hE.sub "BadLine" (by decide)
    rcases hx with ⟨rfl, a⟩ | ⟨rfl, a, b⟩
    · refine ⟨_, rfl, hσ, JH_hit hB.own hB (by simp) (HB_ret (HE_str ?_))⟩
      unfold dueS at h
      rw [if_neg (by rw [a]; decide)] at h
      exact ret_keep h
    · refine ⟨_, rfl, hσ, JH_miss hN.own hB (no_cls2 hE (by decide) (by decide) (by decide)) (JH_hit hN.own hN (by simp) (HB_ret (HE_str ?_)))⟩
      unfold dueS at h
      rw [if_pos a, if_neg (by rw [b]; decide)] at h
      exact ret_keep h
end
section
variable (hp : L02 c.k) {lots lines : V} (h1 : LotsV σ lots) (h2 : LotsV σ lines) (hσ : NoExc σ)
include hp h1 h2 hσ
theorem S_any {kind : Int} (hbad : ¬ (allB lotV lots = true ∧ allB lineV lines = true)) (h : P (.bool true) σ) : CallN c (d + 7) "_law_any" [.int kind, lots, lines] σ P X := by
  obtain ⟨ad, hE⟩ := hp.errs
  refine call_go hp.f_law_any ?_
  repeat' walk_at "x"
  refine ⟨fun cls σ' => (∃ b : Bool, cls = .ref (ad (if b = true then "BadLot" else "BadLine"))) ∧ σ' = σ, ?_, fun cls σ' hx => ?_⟩
  · repeat' walk_at "x"
    exact S_act hE hp h1 h2 (fun a b => absurd ⟨a, b⟩ hbad) (fun z1 => ⟨⟨true, rfl⟩, rfl⟩) (fun z1 z2 => ⟨⟨false, rfl⟩, rfl⟩)
  · obtain ⟨⟨b, rfl⟩, rfl⟩ := hx
    have hx : (if b = true then "BadLot" else "BadLine" : Str) ∈ subs := by cases b <;> decide
    have hne : ∀ y ∈ (["BadDay", "BadDealing", "Full", "Late", "NoNumber"] : List Str), y ∈ subs ∧ y ≠ (if b = true then "BadLot" else "BadLine" : Str) := by cases b <;> decide
    have hB := hE.sub _ hx
    have hL := hE.sub "BadLot" (by decide)
    have hN := hE.sub "BadLine" (by decide)
    have cl : (Value.ref (ad (if b = true then "BadLot" else "BadLine")) :: .ref (ad "LotError") :: VE).contains (.ref (ad "BadLot")) = b := by
      cases b with
      | true => simp
      | false => exact no_cls2 hE (by decide) (by decide) (by decide)
    have cn : (Value.ref (ad (if b = true then "BadLot" else "BadLine")) :: .ref (ad "LotError") :: VE).contains (.ref (ad "BadLine")) = !b := by
      cases b with
      | true => exact no_cls2 hE (by decide) (by decide) (by decide)
      | false => simp
    refine ⟨_, rfl, hσ, JH_as hB.own hE.lot (by simp) fun e => HB_asgn (HE_cmp (HE_isx (.inl ⟨_, _, hL, rfl⟩) (HE_var rfl (Isi_exc (c := c.un) led_here hB.own (.own hL.own) ?_))))⟩
    rw [cl]
    refine HE_isx (.inl ⟨_, _, hN, rfl⟩) (HE_var rfl (Isi_exc (c := c.un) led_here hB.own (.own hN.own) ?_))
    rw [cn]
    refine Cmp_ne_bool ?_
    rw [show (b != !b) = true by cases b <;> rfl]
    refine HB_ret (HE_bo (HBo_and (HE_var rfl ⟨true, rfl, ?_⟩)))
    rw [if_pos rfl]
    refine HBo_and (HE_isx (.inr ⟨hE.ve, rfl⟩) (HE_var rfl (Isi_exc (c := c.un) led_here hB.own .ve ⟨true, ?_, ?_⟩)))
    · rw [List.contains_cons, hB.own.tl.has (by decide), Bool.or_true]
    rw [if_pos rfl]
    have hv : ∀ x ∈ (["BadDay", "BadDealing", "Full", "Late", "NoNumber"] : List Str), ClsV c.k x (.ref (ad x)) := fun x hx => .inl ⟨_, _, hE.sub x (hne x hx).1, rfl⟩
    refine HBo_one (HE_not (HE_isxT (fun x => .ref (ad x)) hv (HE_var rfl (Isi_tup (c := c.un) led_here hB.own (fun cv hm => ?_) ⟨false, ?_, ?_⟩))))
    · obtain ⟨x, hx, rfl⟩ := List.mem_map.mp hm
      exact (hv x hx).is
    · congr 1
      rw [List.map_map, List.any_eq_false]
      intro q hq
      obtain ⟨x, hx', rfl⟩ := List.mem_map.mp hq
      have := no_cls2 hE hx (hne x hx').1 (hne x hx').2
      simp only [Function.comp, id, this]; decide
    · exact ret_drop (.cons _ (.refl _)) h
end
theorem OPart.dat {v : V} (h : OPart v) : isD v = true ∧ (toD v).depth ≤ 2 := by
  cases h with
  | str _ h => exact ⟨by simpa [isD] using h, by simp [toD, PyData.depth]⟩
  | int => exact ⟨by simp [isD], by simp [toD, PyData.depth]⟩
  | bool => exact ⟨by simp [isD], by simp [toD, PyData.depth]⟩
  | none => exact ⟨by simp [isD], by simp [toD, PyData.depth]⟩
  | lst a b => exact ⟨a, b⟩
  | tup a b => exact ⟨a, b⟩
theorem OddRow.dat {v : V} (h : OddRow v) : isD v = true ∧ (toD v).depth ≤ 3 := by
  cases h with
  | str h => exact ⟨by simpa [isD] using h, by simp [toD, PyData.depth]⟩
  | none => exact ⟨by simp [isD], by simp [toD, PyData.depth]⟩
  | @tup vs hv =>
    have := depth_toDs (n := 2) (vs := vs) fun v q => (hv v q).dat.2
    refine ⟨?_, ?_⟩
    · rw [isD, isDs_all]; exact fun v q => (hv v q).dat.1
    · simp only [toD, PyData.depth]; (exact Ar.lin 0 1 (.le (.a (.v 0) (.k 1)) (.k 3)) [(.le (.v 0) (.k 2))] (by kernel_rfl) [] [_] rfl rfl this)
  | @lst vs hv =>
    have := depth_toDs (n := 2) (vs := vs) fun v q => (hv v q).dat.2
    refine ⟨?_, ?_⟩
    · rw [isD, isDs_all]; exact fun v q => (hv v q).dat.1
    · simp only [toD, PyData.depth]; (exact Ar.lin 0 1 (.le (.a (.v 0) (.k 1)) (.k 3)) [(.le (.v 0) (.k 2))] (by kernel_rfl) [] [_] rfl rfl this)
theorem LotsV.same {v : V} (h : LotsV σ v) : SameV v := by
  cases h with
  | str h => exact .dat (by simpa [isD] using h) (by simp [toD, PyData.depth])
  | none => exact .dat (by simp [isD]) (by simp [toD, PyData.depth])
  | dict _ => exact .ref
  | @tup vs hv =>
    have := depth_toDs (n := 3) (vs := vs) fun v q => (hv v q).dat.2
    refine .dat ?_ ?_
    · rw [isD, isDs_all]; exact fun v q => (hv v q).dat.1
    · simp only [toD, PyData.depth]; (exact Ar.lin 0 1 (.le (.a (.v 0) (.k 1)) (.k 20)) [(.le (.v 0) (.k 3))] (by kernel_rfl) [] [_] rfl rfl this)
  | @lst vs hv _ =>
    have := depth_toDs (n := 3) (vs := vs) fun v q => (hv v q).dat.2
    refine .dat ?_ ?_
    · rw [isD, isDs_all]; exact fun v q => (hv v q).dat.1
    · simp only [toD, PyData.depth]; (exact Ar.lin 0 1 (.le (.a (.v 0) (.k 1)) (.k 20)) [(.le (.v 0) (.k 3))] (by kernel_rfl) [] [_] rfl rfl this)
structure Grown (σ σ' : Led) : Prop where
  look : ∀ a o, σ.lookup a = some o → σ'.lookup a = some o
  exc : NoExc σ → NoExc σ'
theorem LotsV.grow {σ σ' : Led} {v : V} (g : Grown σ σ') (h : LotsV σ v) : LotsV σ' v := by
  cases h with
  | lst a b => exact .lst a b
  | tup a => exact .tup a
  | none => exact .none
  | str a => exact .str a
  | dict a => exact .dict (g.look _ _ a)
theorem LotsV.any {v : V} (h : LotsV [] v) : LotsV σ v := by
  cases h with
  | lst a b => exact .lst a b
  | tup a => exact .tup a
  | none => exact .none
  | str a => exact .str a
  | dict a => cases a
theorem S_listG (hp : L02 c.k) {cell place : Int} {n : Nat} (hn : n = 3 ∨ n = 4) (h : ∀ v σ', Grown σ σ' → LotsV σ' v → P v σ') : CallN c (d + 3) "_law_list" [.int cell, .int place, .int n] σ P X := by
  refine S_list hp hn (fun v hv => h v σ ⟨fun z1 z2 q => q, fun q => q⟩ hv.any) fun r hr z1 => h _ _ ⟨fun a o q => ?_, fun k a o q C => ?_⟩ (.dict led_here)
  · have : r ≠ a := fun e => hr (e ▸ mem_own_lookup q)
    rw [List.lookup_cons, beq_eq_false_iff_ne.mpr (Ne.symm this)]; exact q
  · rcases List.mem_cons.mp q with q | q
    · cases q; intro z; cases z
    · exact k a o q C
theorem S_at2 (hf : FnT c.k "_law_at" 2 t_law_at) {xs : List Int} {k : Int} (hk : 0 ≤ k) (h : P (.int (at_ xs k)) σ) : CallN c (d + 1) "_law_at" [.lst (xs.map .int), .int k] σ P X := by
  refine call_go hf ?_
  repeat' walk_at "x"
  · have hx : k.toNat < xs.length := by lia
    refine Item_lst (.lst _) hk (w := .int (xs[k.toNat])) (by simp [hx]) ?_
    refine ret_keep ?_
    have : at_ xs k = xs[k.toNat] := by unfold at_; simp [hx]
    rw [this] at h; exact h
  · have : at_ xs k = 0 := by unfold at_; rw [List.getD_eq_getElem?_getD, List.getElem?_eq_none (by lia)]; rfl
    rw [this] at h; exact h
noncomputable def tailT : Nat → T → T
  | 0, t => t
  | n + 1, t => onC t (fun z1 r => tailT n r) t
theorem due_bad {lots lines : V} (h : dueS lots lines ≠ Str.ofString "") : ¬ (allB lotV lots = true ∧ allB lineV lines = true) := fun q => h (by unfold dueS; rw [if_pos q.1, if_pos q.2])
theorem tail8 (hp : L02 c.k) {xs : List Int} {lots lines : V} (h1 : LotsV σ lots) (h2 : LotsV σ lines) (hσ : NoExc σ) : JB c (d + 9) X (tailT 8 t_law_02) [(8, .str (dueS lots lines)), (1, lots), (2, lines), (0, .lst (xs.map .int))] σ (RetT fun v z1 => v = .bool true) := by
  have ha := hp.f_law_at
  refine JB_go ?_
  repeat' first | walk_at "x" | (with_reducible refine S_at2 ha (by decide) ?_)
  refine ⟨_, [], by simp, Iter_lst, fun E => ?_⟩
  refine jcomp_map (fun v => v) (fun v => v) [lots, lines] [] (fun v hv => ⟨_, rfl, ?_⟩) ?_
  · have hv' : LotsV σ v := by
      simp only [List.mem_cons, List.not_mem_nil, or_false] at hv
      rcases hv with rfl | rfl <;> assumption
    cases hv' with
    | none =>
      repeat' first | walk_at "x" | refine Isi_none_list ?_
      exact ⟨rfl, rfl⟩
    | str =>
      repeat' walk_at "x"
      exact ⟨rfl, rfl⟩
    | tup =>
      repeat' walk_at "x"
      exact ⟨rfl, rfl⟩
    | dict hl =>
      repeat' first | walk_at "x" | refine Isi_dict_list hl ?_
      exact ⟨rfl, rfl⟩
    | lst =>
      repeat' walk_at "x"
      exact ⟨rfl, rfl⟩
  refine made_f ?_
  rw [List.nil_append, show [lots, lines].map (fun v => v) = [lots, lines] from rfl]
  repeat' walk_at "x"
  refine Item_lst (.lst _) (by decide) rfl ?_
  repeat' walk_at "x"
  refine Item_lst (.lst _) (by decide) rfl ?_
  repeat' walk_at "x"
  refine S_said hp h1 h2 hσ ?_
  repeat' walk_at "x"
  · rename_i q; exact absurd trivial q
  refine Cmp_ne_two h1.same h2.same ?_
  repeat' walk_at "x"
  · rfl
  rename_i q1 q2
  refine Item_lst (.lst _) (by decide) rfl ?_
  repeat' walk_at "x"
  refine Item_lst (.lst _) (by decide) rfl ?_
  repeat' walk_at "x"
  refine S_any hp h1 h2 hσ (due_bad q2) ?_
  repeat' walk_at "x"
  rfl
theorem tail5 (hp : L02 c.k) {xs : List Int} {lots lines : V} (h1 : LotsV σ lots) (h2 : LotsV σ lines) (hσ : NoExc σ) : JB c (d + 9) X (tailT 5 t_law_02) [(1, lots), (2, lines), (0, .lst (xs.map .int))] σ (RetT fun v z1 => v = .bool true) := by
  have good3 : ∀ (E : Addr) (P : V → Led → Prop) v, OddRow v → P (.bool (lotV v)) σ → CallN ((c.pro []).hide E) (d + 8) "_law_good" [v, .int 3] σ P NoX := fun E P v hv h => S_good3 (c := (c.pro []).hide E) hp.f_law_good hv h
  have good4 : ∀ (E : Addr) (P : V → Led → Prop) v, OddRow v → P (.bool (lineV v)) σ → CallN ((c.pro []).hide E) (d + 8) "_law_good" [v, .int 4] σ P NoX := fun E P v hv h => S_good4 (c := (c.pro []).hide E) hp.f_law_good hv h
  refine JB_go ?_
  repeat' walk_at "x"
  refine ⟨!allB lineV lines, fun Q hQ => ?_, ?_⟩
  · repeat' walk_at "x"
    refine S_right hp.f_law_right good4 h2 ?_
    repeat' walk_at "x"
    exact hQ
  have key : ∀ x : Str, (allB lotV lots = true → x = dueS lots lines) → JB c (d + 9) X (tailT 7 t_law_02) [(8, .str x), (1, lots), (2, lines), (0, .lst (xs.map .int))] σ (RetT fun v z1 => v = .bool true) := by
    intro x hx
    refine JB_go ?_
    repeat' walk_at "x"
    refine ⟨!allB lotV lots, fun Q hQ => ?_, ?_⟩
    · repeat' walk_at "x"
      refine S_right hp.f_law_right good3 h1 ?_
      repeat' walk_at "x"
      exact hQ
    have last := tail8 (c := c) (d := d) (X := X) (xs := xs) hp h1 h2 hσ
    refine br_intro (fun e => ?_) fun e => ?_
    · have e' : allB lotV lots = false := by simpa using e
      rw [show dueS lots lines = Str.ofString "lot" by unfold dueS; rw [e']; rfl] at last
      exact JB_sub (by walk_at "sub") last
    · have e' : allB lotV lots = true := by simpa using e
      rw [← hx e'] at last
      exact last
  refine br_intro (fun e => ?_) fun e => ?_
  · have e' : allB lineV lines = false := by simpa using e
    exact JB_sub (by walk_at "sub") (key (Str.ofString "line") fun a => by unfold dueS; rw [if_pos a, if_neg (by rw [e']; decide)])
  · have e' : allB lineV lines = true := by simpa using e
    exact JB_sub (by walk_at "sub") (key (Str.ofString "") fun a => by unfold dueS; rw [if_pos a, if_pos e'])
theorem tail4 (hp : L02 c.k) {xs : List Int} (hb : ∀ x ∈ xs, Builtin.Int.intBits x ≤ 1048576) {lots lines : V} (h1 : LotsV σ lots) (h2 : LotsV σ lines) (hσ : NoExc σ) : JB c (d + 9) X (tailT 4 t_law_02) [(1, lots), (2, lines), (0, .lst (xs.map .int))] σ (RetT fun v z1 => v = .bool true) := by
  refine JB_go ?_
  repeat' walk_at "x"
  refine ⟨_, [], by simp, Iter_tup, ?_⟩
  refine JLoop_foldJ (fun n : Nat => V.int n) (fun z1 => [(1, lots), (2, lines), (0, .lst (xs.map .int))]) (fun z1 => σ) (fun (u : Unit) _ => u) (fun z1 z2 => True) [0, 5] () _ ?_ trivial (fun s n rest z1 => ?_) fun m hm z1 => ?_
  · walk_at "sub"
  · have hp' : L02 (c.pro []).k := hp
    have ha' := hp'.f_law_at
    repeat' first | walk_at "x" | (with_reducible refine S_at2 ha' (by decide) ?_)
    refine S_part hp'.f_law_part fun w hw => ?_
    have o3 : OddRow (.tup [w, .int 1, .int 1]) := .tup fun v hv => by
      simp only [List.mem_cons, List.not_mem_nil, or_false] at hv
      rcases hv with rfl | rfl | rfl
      · exact hw
      · exact .int
      · exact .int
    have o4 : OddRow (.tup [w, .int 1, .int 1, .int 1]) := .tup fun v hv => by
      simp only [List.mem_cons, List.not_mem_nil, or_false] at hv
      rcases hv with rfl | rfl | rfl | rfl
      · exact hw
      · exact .int
      · exact .int
      · exact .int
    repeat' walk_at "x"
    refine S_lotO hp'.toThings o3 ?_
    repeat' walk_at "x"
    refine S_lineO hp'.toThings o4 ?_
    repeat' walk_at "x"
    refine ⟨false, fun Q hQ => ?_, ?_⟩
    · repeat' walk_at "x"
      refine S_good3 hp'.f_law_good o3 ?_
      repeat' walk_at "x"
      refine S_good4 hp'.f_law_good o4 ?_
      generalize lotV (.tup [w, .int 1, .int 1]) = b1
      generalize lineV (.tup [w, .int 1, .int 1, .int 1]) = b2
      repeat' walk_at "x"
      have hd : isD (.lst [.bool b1, .bool b2]) = true := rfl
      refine Cmp_ne_d (.val hd) (.val hd) (by simp [toD, toDs, PyData.depth, PyData.depthAll]) (by simp [toD, toDs, PyData.depth, PyData.depthAll]) ?_
      rw [eqv_self hd]
      repeat' walk_at "x"
      exact hQ
    refine br_f ?_
    exact JB_nil ⟨by walk_at "sub", rfl, trivial⟩
  exact JB_sub hm (tail5 hp h1 h2 hσ)
noncomputable def goodN (n : Nat) (v : V) : Bool := if n = 3 then lotV v else lineV v
theorem S_goodN (hf : FnT c.k "_law_good" 2 t_law_good_02) {n : Nat} (hn : n = 3 ∨ n = 4) {v : V} (hv : OddRow v) (h : P (.bool (goodN n v)) σ) : CallN c (d + 1) "_law_good" [v, .int n] σ P X := by
  rcases hn with rfl | rfl
  · exact S_good3 hf hv h
  · exact S_good4 hf hv h
theorem tail3 (hp : L02 c.k) {xs : List Int} (hb : ∀ x ∈ xs, Builtin.Int.intBits x ≤ 1048576) {lots lines : V} (h1 : LotsV σ lots) (h2 : LotsV σ lines) (hσ : NoExc σ) : JB c (d + 9) X (tailT 3 t_law_02) [(1, lots), (2, lines), (0, .lst (xs.map .int))] σ (RetT fun v z1 => v = .bool true) := by
  refine JB_go ?_
  repeat' walk_at "x"
  refine ⟨_, [], by simp, Iter_tup, ?_⟩
  refine JLoop_foldJ (fun n : Nat => V.int n) (fun z1 => [(1, lots), (2, lines), (0, .lst (xs.map .int))]) (fun z1 => σ) (fun (u : Unit) _ => u) (fun rest z1 => ∀ n ∈ rest, n = 3 ∨ n = 4) [3, 4] () _ ?_ (by simp) (fun s n rest hj => ?_) fun m hm z1 => ?_
  · walk_at "sub"
  · have hp' : L02 (c.pro []).k := hp
    have ha' := hp'.f_law_at
    have hn := hj n (.head _)
    have hnext : ∀ n ∈ rest, n = 3 ∨ n = 4 := fun i hi => hj i (.tail _ hi)
    repeat' first | walk_at "x" | (with_reducible refine S_at2 ha' (by decide) ?_)
    refine S_row hp' hn fun v hv => ?_
    repeat' walk_at "x"
    refine S_lotO hp'.toThings hv ?_
    repeat' walk_at "x"
    refine S_lineO hp'.toThings hv ?_
    repeat' walk_at "x"
    have hi0 : 0 ≤ (n : Int) - 3 := by lia
    have hi : [V.bool (lotV v), .bool (lineV v)][((n : Int) - 3).toNat]? = some (.bool (goodN n v)) := by rcases hn with rfl | rfl <;> rfl
    refine Item_lst (.lst _) hi0 hi ?_
    repeat' walk_at "x"
    generalize hgb : goodN n v = b
    refine ⟨false, fun Q hQ => ?_, ?_⟩
    · repeat' walk_at "x"
      refine S_goodN hp'.f_law_good hn hv ?_
      rw [hgb]
      repeat' walk_at "x"
      · rename_i q; exact absurd trivial q
      · exact hQ
    refine br_f ?_
    exact JB_nil ⟨by walk_at "sub", rfl, hnext⟩
  exact JB_sub hm (tail4 hp hb h1 h2 hσ)
theorem S_law (hp : L02 c.k) {xs : List Int} (hlen : xs.length ≤ 63) (hb : ∀ x ∈ xs, Builtin.Int.intBits x ≤ 1048576) : CallN c (d + 10) "law" [.lst (xs.map .int)] [] (fun v z1 => v = .bool true) X := by
  have ha := hp.f_law_at
  refine call_go hp.f_law ?_
  repeat' first | walk_at "x" | (with_reducible refine S_at2 ha (by decide) ?_)
  refine S_listG hp (.inl rfl) fun lots σ1 g1 hl1 => ?_
  repeat' first | walk_at "x" | (with_reducible refine S_at2 ha (by decide) ?_)
  refine S_listG hp (.inr rfl) fun lines σ g2 hl2 => ?_
  replace hl1 := hl1.grow g2
  have hσ : NoExc σ := g2.exc (g1.exc fun z1 z2 q => by cases q)
  clear g1 g2
  repeat' walk_at "x"
  refine ⟨false, fun Q hQ => ?_, ?_⟩
  · repeat' walk_at "x"
    exact hQ
  refine br_f ?_
  exact JB_sub (by walk_at "sub") (tail3 hp hb hl1 hl2 hσ)
noncomputable def hushOk (h : Heap) (name : Str) : Bool :=
  match h.clsAt mainGlobals name with
  | some (_, _, cd) => hush.all fun n => (h.nsMap cd.ns n).isNone
  | none => false
noncomputable def adOf (h : Heap) (x : Str) : Addr := match h.nsMap mainGlobals x with
  | some (.ref a) => a
  | _ => 0
noncomputable def apartB : List Nat → Bool
  | [] => true
  | a :: r => r.all (fun b => b != a) && apartB r
noncomputable def errChk (h : Heap) : Bool := h.isNs mainGlobals && (h.ownExcOk "LotError" [] VE VN && hushOk h "LotError") && subs.all (fun x => h.ownExcOk x ["LotError"] VE VN && hushOk h x) && apartB ((("LotError" : Str) :: subs).map (adOf h))
theorem ownE_of {h : Heap} {name : Str} {chain : List Str} (x : h.ownExcOk name chain VE VN = true) (y : hushOk h name = true) (T : OwnTl h ((chain.map fun n => (h.nsMap mainGlobals n).getD .none) ++ VE)) :
    h.nsMap mainGlobals name = some (.ref (adOf h name)) ∧ OwnE h (adOf h name) ((chain.map fun n => (h.nsMap mainGlobals n).getD .none) ++ VE) := by
  obtain ⟨C, N, nm, q, bs, hdct, sn, sub, ab, col, dd, k0, k1, k2, k3, k5, hb, hC, hN, _⟩ := Heap.ownExc_of_ok x
  have ea : adOf h name = C := by unfold adOf; rw [hb]
  rw [ea]
  refine ⟨hb, ⟨nm, q, N, bs, hdct, sn, sub, ab, col, dd, k0, k1, k2, k3, k5, _, hC, hN, fun n hn => ?_⟩, T⟩
  unfold hushOk at y
  cases hf : h.clsAt mainGlobals name with
  | none => rw [hf] at y; cases y
  | some z =>
    obtain ⟨C', o', cd'⟩ := z
    rw [hf] at y
    obtain ⟨hn', ho', hd'⟩ := Heap.clsAt_spec hf
    rw [hb] at hn'
    obtain rfl : C = C' := by injection hn' with q1; injection q1
    rw [hC] at ho'
    obtain rfl := Option.some.inj ho'
    obtain rfl : _ = cd' := by injection hd'
    exact Option.isNone_iff_eq_none.mp (List.all_eq_true.mp y n hn)
theorem apart_of : ∀ {l : List Nat}, apartB l = true → l.Pairwise fun a b => b ≠ a
  | [], _ => .nil
  | a :: r, h => by
    obtain ⟨h1, h2⟩ := and_tt (show (r.all (fun b => b != a) && apartB r) = true from h)
    refine .cons (fun b hb => ?_) (apart_of h2)
    have := List.all_eq_true.mp h1 b hb
    simpa using this
theorem pw_inj {f : Str → Nat} : ∀ {l : List Str}, (l.map f).Pairwise (fun a b => b ≠ a) → ∀ x ∈ l, ∀ y ∈ l, f x = f y → x = y
  | [], _, _, h, _, _, _ => by cases h
  | a :: r, hp, x, hx, y, hy, e => by
    rw [List.map_cons, List.pairwise_cons] at hp
    rcases List.mem_cons.mp hx with q | hx'
    · rcases List.mem_cons.mp hy with r | hy'
      · rw [q, r]
      · rw [q] at e; exact absurd e.symm (hp.1 _ (List.mem_map.mpr ⟨y, hy', rfl⟩))
    · rcases List.mem_cons.mp hy with r | hy'
      · rw [r] at e; exact absurd e (hp.1 _ (List.mem_map.mpr ⟨x, hx', rfl⟩))
      · exact pw_inj hp.2 x hx' y hy' e
theorem errs_of {k : Base} {h0 : Heap} (hc : errChk h0 = true) (hk : ∀ b o, h0.get? b = some o → k.h0.get? b = some o) (hg : k.h0.Ns mainGlobals k.mg) (hv : Blt k "ValueError" (.type "ValueError")) : ∃ ad, Errs k ad := by
  obtain ⟨hc, c4⟩ := and_tt hc
  obtain ⟨hc, c3⟩ := and_tt hc
  obtain ⟨c1, c2⟩ := and_tt hc
  obtain ⟨c2, c5⟩ := and_tt c2
  have em : k.mg = h0.nsMap mainGlobals := by
    have h1 : k.h0.Ns mainGlobals (h0.nsMap mainGlobals) := (Heap.Ns.of_isNs c1).keeps hk
    rw [hg.eq_nsMap, h1.eq_nsMap]
  obtain ⟨l1, l2⟩ := ownE_of (chain := []) c2 c5 .base
  have hl : OwnTl h0 (((["LotError"] : List Str).map fun n => (h0.nsMap mainGlobals n).getD .none) ++ VE) := by
    obtain ⟨nm, q, N, bs, hdct, sn, sub, ab, col, dd, k0, k1, k2, k3, k5, mN, h1, h2, h3⟩ := l2.at_
    show OwnTl h0 ((h0.nsMap mainGlobals "LotError").getD .none :: VE)
    rw [l1]
    exact .own h1 h2 h3 .base
  have hpw := pw_inj (apart_of c4)
  refine ⟨adOf h0, ⟨by rw [em]; exact l1, l2.keeps hk⟩, fun x hx => ?_, fun x hx => ⟨fun e => ?_, fun y hy e => hpw x (.tail _ hx) y (.tail _ hy) e⟩, hv⟩
  · obtain ⟨d1, d2⟩ := and_tt (List.all_eq_true.mp c3 x hx)
    obtain ⟨s1, s2⟩ := ownE_of d1 d2 hl
    rw [show (((["LotError"] : List Str).map fun n => (h0.nsMap mainGlobals n).getD .none) ++ VE) = .ref (adOf h0 "LotError") :: VE by show (h0.nsMap mainGlobals "LotError").getD .none :: VE = _; rw [l1]; rfl] at s2
    exact ⟨by rw [em]; exact s1, s2.keeps hk⟩
  · have := hpw x (.tail _ hx) "LotError" (.head _) e
    subst this
    exact absurd hx (by decide)
noncomputable def errHook : PySem.W.Hook := ⟨Bool, fun s => errChk s.heap, fun z1 => true, fun z1 h => ∃ h0, errChk h0 = true ∧ ∀ b o, h0.get? b = some o → h.get? b = some o, fun w s e => ⟨s.heap, e, fun z1 z2 q => q⟩, fun w h h' x k => x.elim fun h0 q => ⟨h0, q.1, fun b o r => k b o (q.2 b o r)⟩⟩
end Mine
end
section
open PySem PySem.W PyProof.Rows
set_option maxRecDepth 100000
set_option maxHeartbeats 8000000
namespace Mine
noncomputable abbrev pw := Challenge.pw_uf040031_02
noncomputable def vw : Program := { pw with main := { pw.main with body := [stAt pw 1, stAt pw 2, stAt pw 3, stAt pw 4, stAt pw 5, stAt pw 6, stAt pw 7, stAt pw 8, stAt pw 10, stAt pw 11, stAt pw 12, stAt pw 13, stAt pw 14, stAt pw 15, stAt pw 16, stAt pw 17, stAt pw 18, stAt pw 19, stAt pw 20, stAt pw 21, stAt pw 22, stAt pw 24, stAt pw 25, stAt pw 26, stAt pw 27, stAt pw 28, stAt pw 30, stAt pw 31, stAt pw 32, stAt pw 33, stAt pw 35, stAt pw 37, stAt pw 38, stAt pw 39, stAt pw 40, stAt pw 41, stAt pw 42, stAt pw 43, stAt pw 44, stAt pw 45, stAt pw 46] } }
noncomputable def gl : Glob := ⟨[("MOST", 1000000000000), ("MOST_ROWS", 100), ("MOST_SIGNS", 12)], [("LETTERS", "abcdefghijklmnopqrstuvwxyz")], ["is_whole", "is_ware", "is_day", "is_count", "is_lot", "is_line", "need", "good", "need_rows", "is_triple", "keeps", "holds", "short", "left", "limit_of", "limit", "bar_of", "bars", "best", "_law_at", "_law_part", "_law_row", "_law_good", "_law_list", "_law_right", "_law_act", "_law_said", "_law_any", "law"]⟩
theorem fn_is_whole {k : Base} (hp : TopAt k vw (looseW vw [])) : Fn k "is_whole" (stAt pw 14) := hp.def_ (i := 12) rfl rfl (by kernel_rfl) rfl rfl rfl rfl rfl rfl rfl
theorem fn_is_ware {k : Base} (hp : TopAt k vw (looseW vw [])) : Fn k "is_ware" (stAt pw 15) := hp.def_ (i := 13) rfl rfl (by kernel_rfl) rfl rfl rfl rfl rfl rfl rfl
theorem fn_is_day {k : Base} (hp : TopAt k vw (looseW vw [])) : Fn k "is_day" (stAt pw 16) := hp.def_ (i := 14) rfl rfl (by kernel_rfl) rfl rfl rfl rfl rfl rfl rfl
theorem fn_is_count {k : Base} (hp : TopAt k vw (looseW vw [])) : Fn k "is_count" (stAt pw 17) := hp.def_ (i := 15) rfl rfl (by kernel_rfl) rfl rfl rfl rfl rfl rfl rfl
theorem fn_is_lot {k : Base} (hp : TopAt k vw (looseW vw [])) : Fn k "is_lot" (stAt pw 18) := hp.def_ (i := 16) rfl rfl (by kernel_rfl) rfl rfl rfl rfl rfl rfl rfl
theorem fn_is_line {k : Base} (hp : TopAt k vw (looseW vw [])) : Fn k "is_line" (stAt pw 19) := hp.def_ (i := 17) rfl rfl (by kernel_rfl) rfl rfl rfl rfl rfl rfl rfl
theorem fn_need {k : Base} (hp : TopAt k vw (looseW vw [])) : Fn k "need" (stAt pw 20) := hp.def_ (i := 18) rfl rfl (by kernel_rfl) rfl rfl rfl rfl rfl rfl rfl
theorem fn_good {k : Base} (hp : TopAt k vw (looseW vw [])) : Fn k "good" (stAt pw 21) := hp.def_ (i := 19) rfl rfl (by kernel_rfl) rfl rfl rfl rfl rfl rfl rfl
theorem fn_need_rows {k : Base} (hp : TopAt k vw (looseW vw [])) : Fn k "need_rows" (stAt pw 22) := hp.def_ (i := 20) rfl rfl (by kernel_rfl) rfl rfl rfl rfl rfl rfl rfl
theorem fn_is_triple {k : Base} (hp : TopAt k vw (looseW vw [])) : Fn k "is_triple" (stAt pw 24) := hp.def_ (i := 21) rfl rfl (by kernel_rfl) rfl rfl rfl rfl rfl rfl rfl
theorem fn_keeps {k : Base} (hp : TopAt k vw (looseW vw [])) : Fn k "keeps" (stAt pw 25) := hp.def_ (i := 22) rfl rfl (by kernel_rfl) rfl rfl rfl rfl rfl rfl rfl
theorem fn_holds {k : Base} (hp : TopAt k vw (looseW vw [])) : Fn k "holds" (stAt pw 26) := hp.def_ (i := 23) rfl rfl (by kernel_rfl) rfl rfl rfl rfl rfl rfl rfl
theorem fn_short {k : Base} (hp : TopAt k vw (looseW vw [])) : Fn k "short" (stAt pw 27) := hp.def_ (i := 24) rfl rfl (by kernel_rfl) rfl rfl rfl rfl rfl rfl rfl
theorem fn_left {k : Base} (hp : TopAt k vw (looseW vw [])) : Fn k "left" (stAt pw 28) := hp.def_ (i := 25) rfl rfl (by kernel_rfl) rfl rfl rfl rfl rfl rfl rfl
theorem fn_limit_of {k : Base} (hp : TopAt k vw (looseW vw [])) : Fn k "limit_of" (stAt pw 30) := hp.def_ (i := 26) rfl rfl (by kernel_rfl) rfl rfl rfl rfl rfl rfl rfl
theorem fn_limit {k : Base} (hp : TopAt k vw (looseW vw [])) : Fn k "limit" (stAt pw 31) := hp.def_ (i := 27) rfl rfl (by kernel_rfl) rfl rfl rfl rfl rfl rfl rfl
theorem fn_bar_of {k : Base} (hp : TopAt k vw (looseW vw [])) : Fn k "bar_of" (stAt pw 32) := hp.def_ (i := 28) rfl rfl (by kernel_rfl) rfl rfl rfl rfl rfl rfl rfl
theorem fn_bars {k : Base} (hp : TopAt k vw (looseW vw [])) : Fn k "bars" (stAt pw 33) := hp.def_ (i := 29) rfl rfl (by kernel_rfl) rfl rfl rfl rfl rfl rfl rfl
theorem fn_best {k : Base} (hp : TopAt k vw (looseW vw [])) : Fn k "best" (stAt pw 35) := hp.def_ (i := 30) rfl rfl (by kernel_rfl) rfl rfl rfl rfl rfl rfl rfl
theorem fn_law_at {k : Base} (hp : TopAt k vw (looseW vw [])) : Fn k "_law_at" (stAt pw 37) := hp.def_ (i := 31) rfl rfl (by kernel_rfl) rfl rfl rfl rfl rfl rfl rfl
theorem fn_law_part {k : Base} (hp : TopAt k vw (looseW vw [])) : Fn k "_law_part" (stAt pw 38) := hp.def_ (i := 32) rfl rfl (by kernel_rfl) rfl rfl rfl rfl rfl rfl rfl
theorem fn_law_row {k : Base} (hp : TopAt k vw (looseW vw [])) : Fn k "_law_row" (stAt pw 39) := hp.def_ (i := 33) rfl rfl (by kernel_rfl) rfl rfl rfl rfl rfl rfl rfl
theorem fn_law_good {k : Base} (hp : TopAt k vw (looseW vw [])) : Fn k "_law_good" (stAt pw 40) := hp.def_ (i := 34) rfl rfl (by kernel_rfl) rfl rfl rfl rfl rfl rfl rfl
theorem fn_law_list {k : Base} (hp : TopAt k vw (looseW vw [])) : Fn k "_law_list" (stAt pw 41) := hp.def_ (i := 35) rfl rfl (by kernel_rfl) rfl rfl rfl rfl rfl rfl rfl
theorem fn_law_right {k : Base} (hp : TopAt k vw (looseW vw [])) : Fn k "_law_right" (stAt pw 42) := hp.def_ (i := 36) rfl rfl (by kernel_rfl) rfl rfl rfl rfl rfl rfl rfl
theorem fn_law_act {k : Base} (hp : TopAt k vw (looseW vw [])) : Fn k "_law_act" (stAt pw 43) := hp.def_ (i := 37) rfl rfl (by kernel_rfl) rfl rfl rfl rfl rfl rfl rfl
theorem fn_law_said {k : Base} (hp : TopAt k vw (looseW vw [])) : Fn k "_law_said" (stAt pw 44) := hp.def_ (i := 38) rfl rfl (by kernel_rfl) rfl rfl rfl rfl rfl rfl rfl
theorem fn_law_any {k : Base} (hp : TopAt k vw (looseW vw [])) : Fn k "_law_any" (stAt pw 45) := hp.def_ (i := 39) rfl rfl (by kernel_rfl) rfl rfl rfl rfl rfl rfl rfl
theorem fn_law {k : Base} (hp : TopAt k vw (looseW vw [])) : Fn k "law" (stAt pw 46) := hp.def_ (i := 40) rfl rfl (by kernel_rfl) rfl rfl rfl rfl rfl rfl rfl
theorem gl_ok {k : Base} (hd : k.hd = true) (hp : TopAt k vw (looseW vw [])) : GlobOk k gl := by
  refine .of hp.ok (all_cons (hp.constI (by kernel_rfl)) (all_cons (hp.constI (by kernel_rfl)) (all_cons (hp.constI (by kernel_rfl)) all_nil))) (all_cons (hp.constS (by kernel_rfl)) all_nil) (all_cons (fn_is_whole hp).def (all_cons (fn_is_ware hp).def (all_cons (fn_is_day hp).def (all_cons (fn_is_count hp).def (all_cons (fn_is_lot hp).def (all_cons (fn_is_line hp).def (all_cons (fn_need hp).def (all_cons (fn_good hp).def (all_cons (fn_need_rows hp).def (all_cons (fn_is_triple hp).def (all_cons (fn_keeps hp).def (all_cons (fn_holds hp).def (all_cons (fn_short hp).def (all_cons (fn_left hp).def (all_cons (fn_limit_of hp).def (all_cons (fn_limit hp).def (all_cons (fn_bar_of hp).def (all_cons (fn_bars hp).def (all_cons (fn_best hp).def (all_cons (fn_law_at hp).def (all_cons (fn_law_part hp).def (all_cons (fn_law_row hp).def (all_cons (fn_law_good hp).def (all_cons (fn_law_list hp).def (all_cons (fn_law_right hp).def (all_cons (fn_law_act hp).def (all_cons (fn_law_said hp).def (all_cons (fn_law_any hp).def (all_cons (fn_law hp).def all_nil))))))))))))))))))))))))))))) (fun f => ?_) hd
  cases f <;> exact hp.blt (by decide +kernel) (by decide) (by rfl)
theorem pg_of {k : Base} (hd : k.hd = true) (hp : TopAt k vw (looseW vw [])) (errs : ∃ ad, Errs k ad) : L02 k := by
  have hG := gl_ok hd hp
  have f_is_whole : FnT k "is_whole" 1 t_is_whole := .of (N := n_is_whole) (fn_is_whole hp) hG (by kernel_rfl)
  have f_is_ware : FnT k "is_ware" 1 t_is_ware := .of (N := n_is_ware) (fn_is_ware hp) hG (by kernel_rfl)
  have f_is_day : FnT k "is_day" 1 t_is_day := .of (N := n_is_day) (fn_is_day hp) hG (by kernel_rfl)
  have f_is_count : FnT k "is_count" 1 t_is_count := .of (N := n_is_count) (fn_is_count hp) hG (by kernel_rfl)
  have f_is_lot : FnT k "is_lot" 1 t_is_lot := .of (N := n_is_lot) (fn_is_lot hp) hG (by kernel_rfl)
  have f_is_line : FnT k "is_line" 1 t_is_line := .of (N := n_is_line) (fn_is_line hp) hG (by kernel_rfl)
  have f_need : FnT k "need" 1 t_need := .of (N := n_need) (fn_need hp) hG (by kernel_rfl)
  have f_good : FnT k "good" 2 t_good := .of (N := n_good) (fn_good hp) hG (by kernel_rfl)
  have f_need_rows : FnT k "need_rows" 2 t_need_rows := .of (N := n_need_rows) (fn_need_rows hp) hG (by kernel_rfl)
  have f_is_triple : FnT k "is_triple" 3 t_is_triple := .of (N := n_is_triple) (fn_is_triple hp) hG (by kernel_rfl)
  have f_keeps : FnT k "keeps" 3 t_keeps := .of (N := n_keeps) (fn_keeps hp) hG (by kernel_rfl)
  have f_best : FnT k "best" 2 t_best := .of (N := n_best) (fn_best hp) hG (by kernel_rfl)
  have f_limit_of : FnT k "limit_of" 4 t_limit_of := .of (N := n_limit_of) (fn_limit_of hp) hG (by kernel_rfl)
  have f_limit : FnT k "limit" 4 t_limit := .of (N := n_limit) (fn_limit hp) hG (by kernel_rfl)
  have f_bar_of : FnT k "bar_of" 3 t_bar_of := .of (N := n_bar_of) (fn_bar_of hp) hG (by kernel_rfl)
  have f_bars : FnT k "bars" 2 t_bars := .of (N := n_bars) (fn_bars hp) hG (by kernel_rfl)
  have f_holds : FnT k "holds" 3 t_holds := .of (N := n_holds) (fn_holds hp) hG (by kernel_rfl)
  have f_short : FnT k "short" 3 t_short := .of (N := n_short) (fn_short hp) hG (by kernel_rfl)
  have f_left : FnT k "left" 3 t_left := .of (N := n_left) (fn_left hp) hG (by kernel_rfl)
  have f_law_at : FnT k "_law_at" 2 t_law_at := .of (N := n_law_at) (fn_law_at hp) hG (by kernel_rfl)
  have f_law_part : FnT k "_law_part" 2 t_law_part_02 := .of (N := n_law_part_02) (fn_law_part hp) hG (by kernel_rfl)
  have f_law_row : FnT k "_law_row" 3 t_law_row_02 := .of (N := n_law_row_02) (fn_law_row hp) hG (by kernel_rfl)
  have f_law_good : FnT k "_law_good" 2 t_law_good_02 := .of (N := n_law_good_02) (fn_law_good hp) hG (by kernel_rfl)
  have f_law_list : FnT k "_law_list" 3 t_law_list_02 := .of (N := n_law_list_02) (fn_law_list hp) hG (by kernel_rfl)
  have f_law_right : FnT k "_law_right" 2 t_law_right_02 := .of (N := n_law_right_02) (fn_law_right hp) hG (by kernel_rfl)
  have f_law_act : FnT k "_law_act" 3 t_law_act_02 := .of (N := n_law_act_02) (fn_law_act hp) hG (by kernel_rfl)
  have f_law_said : FnT k "_law_said" 3 t_law_said_02 := .of (N := n_law_said_02) (fn_law_said hp) hG (by kernel_rfl)
  have f_law_any : FnT k "_law_any" 3 t_law_any_02 := .of (N := n_law_any_02) (fn_law_any hp) hG (by kernel_rfl)
  have f_law : FnT k "law" 1 t_law_02 := .of (N := n_law_02) (fn_law hp) hG (by kernel_rfl)
  constructor <;> (repeat (first | assumption | constructor))
theorem said : Challenge.rw_uf040031_02.wellSaid = true := by
  unfold OpenLaw.wellSaid
  repeat' with_reducible first | refine look_both ?_ ?_ | unfold OpenRow.wellSaid | unfold OpenRow.partSaid | unfold looksOpen
  all_goals decide +kernel
end Mine
theorem PySem.Challenge.cw_uf040031_02_holds : PySem.Challenge.rw_uf040031_02.Holds := by
  w_on
  refine holds_law Mine.said fun said => ?_
  o_head Mine.errHook
  (case hw => w_witness2)
  intro w s₀ s₁ mg mb G Y fa o pm cd doc dV kV ho hd hcd hD hmg hg args vals as hpre hlay hrd hwl hlo
  refine Ground.open G ?_
  intro T B D TE TW
  try (refine guard_noD D (by decide +kernel) ?_; clear D)
  have hmg' : mg (Str.ofString "law") = some (.ref fa) := hmg
  clear hd hcd hD hmg ho
  wrow_args hpre hlay hrd hwl hlo
  rename Well _ _ _ _ => hW
  rename Heap.IsList _ _ _ => hL
  rename IntsAre _ _ => hI
  rename (¬ (_ : Int) < _) => hlen
  rename (PyData.list _).layable0 = true => hbits
  have hk : (Mine.Base.mk Challenge.rw_uf040031_02.row.prog w s₁.heap mg mb true).OK := ⟨T.g, T.b, T.nolimit⟩
  have htop : Mine.TopAt (Mine.Base.mk Challenge.rw_uf040031_02.row.prog w s₁.heap mg mb true) Mine.vw (looseW Mine.vw []) := ⟨hk, T.fn, T.const, T.free, T.builtins⟩
  obtain ⟨h0, hY1, hY2⟩ := (show ∃ h0, Mine.errChk h0 = true ∧ ∀ b o, h0.get? b = some o → s₁.heap.get? b = some o from Y)
  have he := Mine.errs_of (k := Mine.Base.mk Challenge.rw_uf040031_02.row.prog w s₁.heap mg mb true) hY1 hY2 T.g (htop.blt (by decide +kernel) (by decide) (by rfl))
  have hpg : Mine.L02 (Mine.Base.mk Challenge.rw_uf040031_02.row.prog w s₁.heap mg mb true) := Mine.pg_of rfl htop he
  refine Mine.law_head hk hW hL hI (by omega) hg ?_
  obtain ⟨f, hf, hcall⟩ := Mine.S_law (c := ⟨Mine.Base.mk Challenge.rw_uf040031_02.row.prog w s₁.heap mg mb true, [], []⟩) (d := 80) (X := Mine.NoX) hpg (by omega) (Mine.bits_of_layable hbits)
  have hf' : mg (Str.ofString "law") = some f := hf
  rw [hmg'] at hf'; cases hf'
  exact hcall
end
