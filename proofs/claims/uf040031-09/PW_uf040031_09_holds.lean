import PyProof.Rows.All
import Wide.All
import Open.Line
import Wide.FinOn
import PyProof.TableCode
import PyProof.CompFree
import PyProof.RaisesMany
import PyProof.Calls
import PyProof.Cells
import PyProof.DictList
import PyProof.DictKinds
import PyProof.AutoIntOps
import PyProof.PureInt
import PyProof.StrBlock
import PyProof.TupleOps
import PyProof.SliceStr2
import PyProof.SliceList
import PyProof.IsRules
import PyProof.NoPylong
import PyProof.AutoIntOpsIf
import PyProof.Rows.TupSub
import PyProof.Rows.StrTemp
import PyProof.Rows.Nodes
import PyProof.TupleIter
import PyProof.Rows.SeqMore
import PyProof.ListIndexNeg
import PyProof.Rows.TupMore
import PyProof.RulesAssignMore
import PyProof.ForAny
import PyProof.WalksPairs
import PyProof.WalksMore
import PyProof.CompMap
import PyProof.CompUse
import PyProof.StrWalks
import PyProof.RangeFor
import PyProof.CallRoads
import PyProof.Methods
import PyProof.WalkInts
import PyProof.IsiPairs
import PyProof.IsiHeapPairs
import PyProof.Rows.StrJoin2
import PyProof.DefCall
import PyProof.Rows.Top
import Open.Row
import Wide.BridgeG
import PyProof.Rows.RuleC_bool
import Wide.Well
import Wide.Ends
import PyProof.ConsumeWalk
import PyProof.SumWalkG
import PyProof.ListOps
import PyProof.ListCopy
import PyProof.TupleOfSeq
import PyProof.TupleCall
import PyProof.EqLayable
import PyProof.P3In
import PyProof.PlainList
import PyProof.FactsAll.list_0
import PyProof.FactsAll.list_3
import PyProof.ListIndex
import PyProof.Dict
import PyProof.RulesDelMore
import PyProof.DictRoads
import PyProof.DictStraight
import PyProof.IsiNone
import PyProof.FactsAll.list_4
import PyProof.AutoListH
import PyProof.FactsAll.dict_2
import PyProof.FactsAll.subtypes_5
import PyProof.Rows.SortRuns
import PyProof.Rows.SortShell
import PyProof.Rows.SortWalk
import PyProof.Rows.SortKeyStr
import PyProof.Rows.SortStr
import PyProof.SetKind
import PyProof.Rows.SetFrom
import PyProof.SetNew
import PyProof.FactsAll.set
import PyProof.DictIter
import PyProof.WalksS
import PyProof.MakeMany
import PyProof.Walks
import PyProof.CollectWalk
import PyProof.DictWalks
import PyProof.FactsAll.tuple_2
import PyProof.TupleKey
import PySem.Challenge.RW_uf040031_09
set_option tactic.hygienic false
section
set_option Elab.async false
set_option linter.unusedVariables false
set_option genSizeOf false
set_option genInjectivity false
namespace Mine.Ar

noncomputable abbrev Lin := List Int × Int
noncomputable def dot : List Int → List Int → Int
  | [], _ => 0
  | _ :: _, [] => 0
  | a :: as, x :: xs => a * x + dot as xs
noncomputable def addl : List Int → List Int → List Int
  | [], b => b
  | a :: as, [] => a :: as
  | a :: as, b :: bs => (a + b) :: addl as bs
noncomputable def ev (ρ : List Int) (f : Lin) : Int := dot f.1 ρ + f.2
noncomputable def add (f g : Lin) : Lin := (addl f.1 g.1, f.2 + g.2)
noncomputable def smul (k : Int) (f : Lin) : Lin := (f.1.map (k * ·), k * f.2)
theorem dot_add : ∀ (a b ρ : List Int), dot (addl a b) ρ = dot a ρ + dot b ρ
  | [], b, ρ => by simp [addl, dot]
  | a :: as, [], ρ => by simp [addl, dot]
  | a :: as, b :: bs, [] => by simp [addl, dot]
  | a :: as, b :: bs, x :: ρ => by simp only [addl, dot, dot_add as bs ρ, Int.add_mul]; omega
theorem dot_smul (k : Int) : ∀ (a ρ : List Int), dot (a.map (k * ·)) ρ = k * dot a ρ
  | [], ρ => by simp [dot]
  | a :: as, [] => by simp [dot]
  | a :: as, x :: ρ => by simp only [List.map_cons, dot, dot_smul k as ρ, Int.mul_add, Int.mul_assoc]
theorem ev_add (ρ : List Int) (f g : Lin) : ev ρ (add f g) = ev ρ f + ev ρ g := by simp only [ev, add, dot_add]; omega
theorem ev_smul (ρ : List Int) (k : Int) (f : Lin) : ev ρ (smul k f) = k * ev ρ f := by simp only [ev, smul, dot_smul, Int.mul_add]
noncomputable def sub (f g : Lin) : Lin := add f (smul (-1) g)
theorem ev_sub (ρ : List Int) (f g : Lin) : ev ρ (sub f g) = ev ρ f - ev ρ g := by rw [sub, ev_add, ev_smul]; omega

noncomputable def hd (f : Lin) : Int := f.1.headD 0
noncomputable def tl (f : Lin) : Lin := (f.1.tail, f.2)
theorem ev_cons (x : Int) (ρ : List Int) (f : Lin) : ev (x :: ρ) f = hd f * x + ev ρ (tl f) := by
  obtain ⟨cs, k⟩ := f
  cases cs with
  | nil => simp [ev, hd, tl, dot]
  | cons a as => simp only [ev, hd, tl, dot, List.headD, List.tail]; omega
noncomputable def elim (cs : List Lin) : List Lin :=
  ((cs.filter fun f => hd f == 0).map tl) ++ (cs.filter fun f => decide (0 < hd f)).flatMap fun p => (cs.filter fun f => decide (hd f < 0)).map fun q => add (smul (-hd q) (tl p)) (smul (hd p) (tl q))
noncomputable def fm : Nat → List Lin → Bool
  | 0, cs => cs.any fun f => decide (f.2 < 0)
  | n + 1, cs => fm n (elim cs)
noncomputable def Sat (ρ : List Int) (cs : List Lin) : Prop := ∀ f ∈ cs, 0 ≤ ev ρ f
theorem elim_sat {x : Int} {ρ : List Int} {cs : List Lin} (h : Sat (x :: ρ) cs) : Sat ρ (elim cs) := fun f hf => by
  rcases List.mem_append.mp hf with hf | hf
  · obtain ⟨g, hg, rfl⟩ := List.mem_map.mp hf
    obtain ⟨h1, h2⟩ := List.mem_filter.mp hg
    have := h g h1
    rw [ev_cons, eq_of_beq h2, Int.zero_mul, Int.zero_add] at this
    exact this
  · obtain ⟨p, hp, hf⟩ := List.mem_flatMap.mp hf
    obtain ⟨q, hq, rfl⟩ := List.mem_map.mp hf
    obtain ⟨p1, p2⟩ := List.mem_filter.mp hp
    obtain ⟨q1, q2⟩ := List.mem_filter.mp hq
    have p2 := of_decide_eq_true p2
    have q2 := of_decide_eq_true q2
    have e1 := h p p1
    have e2 := h q q1
    rw [ev_cons] at e1 e2
    have e1 := Int.mul_nonneg (show 0 ≤ -hd q by omega) e1
    have e2 := Int.mul_nonneg (show 0 ≤ hd p by omega) e2
    rw [ev_add, ev_smul, ev_smul]
    rw [Int.mul_add, ← Int.mul_assoc] at e1 e2
    have : -hd q * hd p * x = -(hd p * hd q * x) := by rw [Int.neg_mul, Int.neg_mul, Int.mul_comm (hd q)]
    rw [this] at e1
    omega
theorem fm_sound : ∀ (n : Nat) (cs : List Lin) (ρ : List Int), ρ.length = n → fm n cs = true → ¬ Sat ρ cs
  | 0, cs, ρ, hl, h, hs => by
    obtain ⟨f, hf, h2⟩ := List.any_eq_true.mp h
    have := hs f hf
    rw [List.eq_nil_of_length_eq_zero hl] at this
    have e : dot f.1 [] = 0 := by cases f.1 <;> rfl
    have := of_decide_eq_true h2
    unfold ev at *
    omega
  | n + 1, cs, x :: ρ, hl, h, hs => fm_sound n (elim cs) ρ (Nat.succ.inj hl) h (elim_sat hs)

-- terms over Nat
inductive NT where
  | v (i : Nat) | k (n : Nat) | a (x y : NT) | s (x y : NT) | m (n : Nat) (x : NT)
noncomputable def nth : List Nat → Nat → Nat
  | [], _ => 0
  | x :: _, 0 => x
  | _ :: r, i + 1 => nth r i
noncomputable def NT.den (ρ : List Nat) : NT → Nat
  | .v i => nth ρ i
  | .k n => n
  | .a x y => x.den ρ + y.den ρ
  | .s x y => x.den ρ - y.den ρ
  | .m n x => n * x.den ρ
noncomputable def unit (i : Nat) : List Int := List.replicate i 0 ++ [1]
noncomputable def NT.lin (o : Nat) : NT → List (List Lin × Lin)
  | .v i => [([], (unit (o + i), 0))]
  | .k n => [([], ([], n))]
  | .a x y => (x.lin o).flatMap fun p => (y.lin o).map fun q => (p.1 ++ q.1, add p.2 q.2)
  | .s x y => (x.lin o).flatMap fun p => (y.lin o).flatMap fun q => [(sub p.2 q.2 :: (p.1 ++ q.1), sub p.2 q.2), (sub q.2 p.2 :: (p.1 ++ q.1), ([], 0))]
  | .m n x => (x.lin o).map fun p => (p.1, smul n p.2)
-- terms over Int
inductive IT where
  | v (i : Nat) | c (x : NT) | k (n : Nat) | g (x : IT) | a (x y : IT) | s (x y : IT) | m (n : Nat) (x : IT)
noncomputable def inth : List Int → Nat → Int
  | [], _ => 0
  | x :: _, 0 => x
  | _ :: r, i + 1 => inth r i
noncomputable def IT.den (τ : List Int) (ρ : List Nat) : IT → Int
  | .v i => inth τ i
  | .c x => (x.den ρ : Nat)
  | .k n => (OfNat.ofNat n : Int)
  | .g x => -x.den τ ρ
  | .a x y => x.den τ ρ + y.den τ ρ
  | .s x y => x.den τ ρ - y.den τ ρ
  | .m n x => (OfNat.ofNat n : Int) * x.den τ ρ
noncomputable def IT.lin (o : Nat) : IT → List (List Lin × Lin)
  | .v i => [([], (unit i, 0))]
  | .c x => x.lin o
  | .k n => [([], ([], n))]
  | .g x => (x.lin o).map fun p => (p.1, smul (-1) p.2)
  | .a x y => (x.lin o).flatMap fun p => (y.lin o).map fun q => (p.1 ++ q.1, add p.2 q.2)
  | .s x y => (x.lin o).flatMap fun p => (y.lin o).map fun q => (p.1 ++ q.1, sub p.2 q.2)
  | .m n x => (x.lin o).map fun p => (p.1, smul n p.2)
noncomputable def nints (ρ : List Nat) : List Int := ρ.map fun (n : Nat) => (n : Int)
theorem dot_unit : ∀ (i : Nat) (ρ : List Int), dot (unit i) ρ = inth ρ i
  | 0, [] => rfl
  | _ + 1, [] => rfl
  | 0, x :: ρ => by simp [unit, dot, inth]
  | i + 1, x :: ρ => by
    have := dot_unit i ρ
    simp only [unit, List.replicate_succ, List.cons_append, dot, inth, Int.zero_mul, Int.zero_add] at this ⊢
    exact this
noncomputable def env (τ : List Int) (ρ : List Nat) : List Int := τ ++ nints ρ
theorem inth_nints : ∀ (ρ : List Nat) (i : Nat), inth (nints ρ) i = (nth ρ i : Nat)
  | [], _ => rfl
  | _ :: _, 0 => rfl
  | _ :: r, i + 1 => inth_nints r i
theorem inth_right (ρ : List Int) (i : Nat) : ∀ τ : List Int, inth (τ ++ ρ) (τ.length + i) = inth ρ i
  | [] => by simp
  | x :: τ => by
    have := inth_right ρ i τ
    rw [List.length_cons, Nat.succ_add]; exact this
theorem inth_left (ρ : List Int) : ∀ (τ : List Int) (i : Nat), i < τ.length → inth (τ ++ ρ) i = inth τ i
  | x :: τ, 0, _ => rfl
  | x :: τ, i + 1, h => inth_left ρ τ i (Nat.lt_of_succ_lt_succ h)
theorem lin_ok (τ : List Int) (ρ : List Nat) : ∀ t : NT, ∃ p ∈ t.lin τ.length, Sat (env τ ρ) p.1 ∧ ev (env τ ρ) p.2 = (t.den ρ : Nat)
  | .v i => ⟨_, .head _, (fun z1 h => by cases h), (by simp only [ev, NT.den, dot_unit, env, inth_right, inth_nints]; omega)⟩
  | .k n => ⟨_, .head _, (fun z1 h => by cases h), (by simp [ev, NT.den, dot])⟩
  | .a x y => by
    obtain ⟨p, hp, p1, p2⟩ := lin_ok τ ρ x
    obtain ⟨q, hq, q1, q2⟩ := lin_ok τ ρ y
    refine ⟨_, List.mem_flatMap.mpr ⟨p, hp, List.mem_map.mpr ⟨q, hq, rfl⟩⟩, fun f hf => ?_, ?_⟩
    · rcases List.mem_append.mp hf with h | h
      · exact p1 f h
      · exact q1 f h
    · show ev _ (add p.2 q.2) = _
      rw [ev_add, p2, q2]; simp [NT.den]
  | .s x y => by
    obtain ⟨p, hp, p1, p2⟩ := lin_ok τ ρ x
    obtain ⟨q, hq, q1, q2⟩ := lin_ok τ ρ y
    have hs : ∀ f ∈ p.1 ++ q.1, 0 ≤ ev (env τ ρ) f := fun f hf => by
      rcases List.mem_append.mp hf with h | h
      · exact p1 f h
      · exact q1 f h
    by_cases h : y.den ρ ≤ x.den ρ
    · refine ⟨_, List.mem_flatMap.mpr ⟨p, hp, List.mem_flatMap.mpr ⟨q, hq, .head _⟩⟩, fun f hf => ?_, ?_⟩
      · rcases List.mem_cons.mp hf with rfl | hf
        · rw [ev_sub, p2, q2]; omega
        · exact hs f hf
      · show ev _ (sub p.2 q.2) = _
        rw [ev_sub, p2, q2]; simp only [NT.den]; omega
    · refine ⟨_, List.mem_flatMap.mpr ⟨p, hp, List.mem_flatMap.mpr ⟨q, hq, .tail _ (.head _)⟩⟩, fun f hf => ?_, ?_⟩
      · rcases List.mem_cons.mp hf with rfl | hf
        · rw [ev_sub, p2, q2]; omega
        · exact hs f hf
      · simp only [ev, dot, NT.den]; omega
  | .m n x => by
    obtain ⟨p, hp, p1, p2⟩ := lin_ok τ ρ x
    refine ⟨_, List.mem_map.mpr ⟨p, hp, rfl⟩, p1, ?_⟩
    show ev _ (smul n p.2) = _
    rw [ev_smul, p2]; simp [NT.den]
noncomputable def IT.in (o : Nat) : IT → Bool
  | .v i => decide (i < o)
  | .c _ => true
  | .k _ => true
  | .g x => x.in o
  | .a x y => x.in o && y.in o
  | .s x y => x.in o && y.in o
  | .m _ x => x.in o
theorem and_tt {a b : Bool} (h : (a && b) = true) : a = true ∧ b = true := Bool.and_eq_true_iff.mp h
theorem ilin_ok (τ : List Int) (ρ : List Nat) : ∀ t : IT, t.in τ.length = true → ∃ p ∈ t.lin τ.length, Sat (env τ ρ) p.1 ∧ ev (env τ ρ) p.2 = t.den τ ρ
  | .v i, h => ⟨_, .head _, (fun z1 h => by cases h), (by simp only [ev, IT.den, dot_unit, env, inth_left _ τ i (of_decide_eq_true h), Int.add_zero])⟩
  | .c x, _ => lin_ok τ ρ x
  | .k n, _ => ⟨_, .head _, (fun z1 h => by cases h), (by simp only [ev, IT.den, dot, Int.zero_add]; rfl)⟩
  | .g x, h => by
    obtain ⟨p, hp, p1, p2⟩ := ilin_ok τ ρ x h
    refine ⟨_, List.mem_map.mpr ⟨p, hp, rfl⟩, p1, ?_⟩
    show ev _ (smul (-1) p.2) = _
    rw [ev_smul, p2]; simp only [IT.den]; omega
  | .a x y, h => by
    obtain ⟨p, hp, p1, p2⟩ := ilin_ok τ ρ x (and_tt h).1
    obtain ⟨q, hq, q1, q2⟩ := ilin_ok τ ρ y (and_tt h).2
    refine ⟨_, List.mem_flatMap.mpr ⟨p, hp, List.mem_map.mpr ⟨q, hq, rfl⟩⟩, fun f hf => ?_, ?_⟩
    · rcases List.mem_append.mp hf with h | h
      · exact p1 f h
      · exact q1 f h
    · show ev _ (add p.2 q.2) = _
      rw [ev_add, p2, q2]; rfl
  | .s x y, h => by
    obtain ⟨p, hp, p1, p2⟩ := ilin_ok τ ρ x (and_tt h).1
    obtain ⟨q, hq, q1, q2⟩ := ilin_ok τ ρ y (and_tt h).2
    refine ⟨_, List.mem_flatMap.mpr ⟨p, hp, List.mem_map.mpr ⟨q, hq, rfl⟩⟩, fun f hf => ?_, ?_⟩
    · rcases List.mem_append.mp hf with h | h
      · exact p1 f h
      · exact q1 f h
    · show ev _ (sub p.2 q.2) = _
      rw [ev_sub, p2, q2]; rfl
  | .m n x, h => by
    obtain ⟨p, hp, p1, p2⟩ := ilin_ok τ ρ x h
    refine ⟨_, List.mem_map.mpr ⟨p, hp, rfl⟩, p1, ?_⟩
    show ev _ (smul n p.2) = _
    rw [ev_smul, p2]; rfl
-- formulas
inductive NF where
  | le (x y : NT) | lt (x y : NT) | eq (x y : NT) | ile (x y : IT) | ilt (x y : IT) | ieq (x y : IT) | no (f : NF) | an (f g : NF)
noncomputable def NF.den (τ : List Int) (ρ : List Nat) : NF → Prop
  | .le x y => x.den ρ ≤ y.den ρ
  | .lt x y => x.den ρ < y.den ρ
  | .eq x y => x.den ρ = y.den ρ
  | .ile x y => x.den τ ρ ≤ y.den τ ρ
  | .ilt x y => x.den τ ρ < y.den τ ρ
  | .ieq x y => x.den τ ρ = y.den τ ρ
  | .no f => ¬ f.den τ ρ
  | .an f g => f.den τ ρ ∧ g.den τ ρ
noncomputable def NF.in (o : Nat) : NF → Bool
  | .ile x y => x.in o && y.in o
  | .ilt x y => x.in o && y.in o
  | .ieq x y => x.in o && y.in o
  | .no f => f.in o
  | .an f g => f.in o && g.in o
  | _ => true
noncomputable def two (x y : List (List Lin × Lin)) (g : Lin → Lin → List (List Lin)) : List (List Lin) := x.flatMap fun p => y.flatMap fun q => (g p.2 q.2).map fun c => c ++ (p.1 ++ q.1)
noncomputable def one : Lin := ([], 1)
noncomputable def cle (p q : Lin) : List (List Lin) := [[sub q p]]
noncomputable def clt (p q : Lin) : List (List Lin) := [[sub (sub q p) one]]
noncomputable def ceq (p q : Lin) : List (List Lin) := [[sub q p, sub p q]]
noncomputable def cne (p q : Lin) : List (List Lin) := [[sub (sub q p) one], [sub (sub p q) one]]
noncomputable def NF.cs (o : Nat) : NF → Bool → List (List Lin)
  | .le x y, b => if b then two (x.lin o) (y.lin o) cle else two (y.lin o) (x.lin o) clt
  | .lt x y, b => if b then two (x.lin o) (y.lin o) clt else two (y.lin o) (x.lin o) cle
  | .eq x y, b => if b then two (x.lin o) (y.lin o) ceq else two (x.lin o) (y.lin o) cne
  | .ile x y, b => if b then two (x.lin o) (y.lin o) cle else two (y.lin o) (x.lin o) clt
  | .ilt x y, b => if b then two (x.lin o) (y.lin o) clt else two (y.lin o) (x.lin o) cle
  | .ieq x y, b => if b then two (x.lin o) (y.lin o) ceq else two (x.lin o) (y.lin o) cne
  | .no f, b => f.cs o (!b)
  | .an f g, b => if b then (f.cs o true).flatMap fun c => (g.cs o true).map fun e => c ++ e else f.cs o false ++ g.cs o false
noncomputable def Fits (E : List Int) (l : List (List Lin × Lin)) (v : Int) : Prop := ∃ p ∈ l, Sat E p.1 ∧ ev E p.2 = v
theorem two_ok {E : List Int} {x y : List (List Lin × Lin)} {a b : Int} (hx : Fits E x a) (hy : Fits E y b) {g : Lin → Lin → List (List Lin)} (h : ∀ p q : Lin, ev E p = a → ev E q = b → ∃ c ∈ g p q, Sat E c) : ∃ c ∈ two x y g, Sat E c := by
  obtain ⟨p, hp, p1, p2⟩ := hx
  obtain ⟨q, hq, q1, q2⟩ := hy
  obtain ⟨c, hc, h⟩ := h _ _ p2 q2
  refine ⟨_, List.mem_flatMap.mpr ⟨p, hp, List.mem_flatMap.mpr ⟨q, hq, List.mem_map.mpr ⟨c, hc, rfl⟩⟩⟩, fun f hf => ?_⟩
  rcases List.mem_append.mp hf with k | k
  · exact h f k
  · rcases List.mem_append.mp k with k | k
    · exact p1 f k
    · exact q1 f k
theorem sat_one {ρ : List Int} {f : Lin} (h : 0 ≤ ev ρ f) : Sat ρ [f] := fun g hg => by rw [List.mem_singleton.mp hg]; exact h
theorem ev_one (ρ : List Int) : ev ρ one = 1 := by simp [ev, one, dot]
section
variable {E : List Int} {x y : List (List Lin × Lin)} {a b : Int} (hx : Fits E x a) (hy : Fits E y b)
include hx hy
theorem c_le (h : a ≤ b) : ∃ c ∈ two x y cle, Sat E c := two_ok hx hy fun p q e1 e2 => ⟨_, .head _, sat_one (by rw [ev_sub, e1, e2]; omega)⟩
theorem c_lt (h : a < b) : ∃ c ∈ two x y clt, Sat E c := two_ok hx hy fun p q e1 e2 => ⟨_, .head _, sat_one (by rw [ev_sub, ev_sub, e1, e2, ev_one]; omega)⟩
theorem c_eq (h : a = b) : ∃ c ∈ two x y ceq, Sat E c := two_ok hx hy fun p q e1 e2 => ⟨_, .head _, fun f hf => by
  rcases List.mem_cons.mp hf with rfl | hf
  · rw [ev_sub, e1, e2]; omega
  · rw [List.mem_singleton.mp hf, ev_sub, e1, e2]; omega⟩
theorem c_ne (h : ¬ a = b) : ∃ c ∈ two x y cne, Sat E c := two_ok hx hy fun p q e1 e2 => by
  rcases Int.lt_or_gt_of_ne h with k | k
  · exact ⟨_, .head _, sat_one (by rw [ev_sub, ev_sub, e1, e2, ev_one]; omega)⟩
  · exact ⟨_, .tail _ (.head _), sat_one (by rw [ev_sub, ev_sub, e1, e2, ev_one]; omega)⟩
end
theorem cs_ok (τ : List Int) (ρ : List Nat) : ∀ (f : NF) (b : Bool), f.in τ.length = true → (if b = true then f.den τ ρ else ¬ f.den τ ρ) → ∃ c ∈ f.cs τ.length b, Sat (env τ ρ) c
  | .le x y, true, _, h => c_le (lin_ok τ ρ x) (lin_ok τ ρ y) (Int.ofNat_le.mpr h)
  | .le x y, false, _, h => c_lt (lin_ok τ ρ y) (lin_ok τ ρ x) (Int.ofNat_lt.mpr (Nat.lt_of_not_le h))
  | .lt x y, true, _, h => c_lt (lin_ok τ ρ x) (lin_ok τ ρ y) (Int.ofNat_lt.mpr h)
  | .lt x y, false, _, h => c_le (lin_ok τ ρ y) (lin_ok τ ρ x) (Int.ofNat_le.mpr (Nat.le_of_not_lt h))
  | .eq x y, true, _, h => c_eq (lin_ok τ ρ x) (lin_ok τ ρ y) (congrArg _ h)
  | .eq x y, false, _, h => c_ne (lin_ok τ ρ x) (lin_ok τ ρ y) (fun q => h (Int.ofNat.inj q))
  | .ile x y, true, i, h => c_le (ilin_ok τ ρ x (and_tt i).1) (ilin_ok τ ρ y (and_tt i).2) h
  | .ile x y, false, i, h => c_lt (ilin_ok τ ρ y (and_tt i).2) (ilin_ok τ ρ x (and_tt i).1) (Int.lt_of_not_ge h)
  | .ilt x y, true, i, h => c_lt (ilin_ok τ ρ x (and_tt i).1) (ilin_ok τ ρ y (and_tt i).2) h
  | .ilt x y, false, i, h => c_le (ilin_ok τ ρ y (and_tt i).2) (ilin_ok τ ρ x (and_tt i).1) (Int.not_lt.mp h)
  | .ieq x y, true, i, h => c_eq (ilin_ok τ ρ x (and_tt i).1) (ilin_ok τ ρ y (and_tt i).2) h
  | .ieq x y, false, i, h => c_ne (ilin_ok τ ρ x (and_tt i).1) (ilin_ok τ ρ y (and_tt i).2) h
  | .no f, true, i, h => cs_ok τ ρ f false i h
  | .no f, false, i, h => cs_ok τ ρ f true i (Classical.not_not.mp h)
  | .an f g, true, i, h => by
    obtain ⟨c, hc, h1⟩ := cs_ok τ ρ f true (and_tt i).1 (show f.den τ ρ ∧ g.den τ ρ from h).1
    obtain ⟨e, he, h2⟩ := cs_ok τ ρ g true (and_tt i).2 (show f.den τ ρ ∧ g.den τ ρ from h).2
    refine ⟨_, List.mem_flatMap.mpr ⟨c, hc, List.mem_map.mpr ⟨e, he, rfl⟩⟩, fun f hf => ?_⟩
    rcases List.mem_append.mp hf with k | k
    · exact h1 f k
    · exact h2 f k
  | .an f g, false, i, h => by
    by_cases k : f.den τ ρ
    · obtain ⟨e, he, h2⟩ := cs_ok τ ρ g false (and_tt i).2 (fun q => (show ¬ (f.den τ ρ ∧ g.den τ ρ) from h) ⟨k, q⟩)
      exact ⟨e, List.mem_append_right _ he, h2⟩
    · obtain ⟨e, he, h2⟩ := cs_ok τ ρ f false (and_tt i).1 k
      exact ⟨e, List.mem_append_left _ he, h2⟩
noncomputable def go (o n : Nat) : List NF → List Lin → Bool
  | [], acc => fm (o + n) acc
  | f :: fs, acc => f.in o && (f.cs o true).all fun c => go o n fs (c ++ acc)
noncomputable def imp (τ : List Int) (ρ : List Nat) : List NF → Prop → Prop
  | [], g => g
  | f :: fs, g => f.den τ ρ → imp τ ρ fs g
noncomputable def units (o : Nat) : Nat → List Lin
  | 0 => []
  | n + 1 => (unit (o + n), 0) :: units o n
theorem units_ok (τ : List Int) (ρ : List Nat) : ∀ n, Sat (env τ ρ) (units τ.length n)
  | 0 => fun z1 h => by cases h
  | n + 1 => fun f h => by
    rcases List.mem_cons.mp h with rfl | h
    · simp only [ev, dot_unit, env, inth_right, inth_nints]; omega
    · exact units_ok τ ρ n f h
theorem go_ok (τ : List Int) (ρ : List Nat) (g : Prop) : ∀ (fs : List NF) (acc : List Lin), go τ.length ρ.length fs acc = true → Sat (env τ ρ) acc → imp τ ρ fs g
  | [], acc, h, hs => absurd hs (fm_sound _ acc _ (by simp [env, nints]) h)
  | f :: fs, acc, h, hs => fun hf => by
    obtain ⟨c, hc, h1⟩ := cs_ok τ ρ f true (and_tt h).1 hf
    refine go_ok τ ρ g fs (c ++ acc) (List.all_eq_true.mp (and_tt h).2 c hc) fun f hf => ?_
    rcases List.mem_append.mp hf with k | k
    · exact h1 f k
    · exact hs f k
theorem fls (o n : Nat) (fs : List NF) (h : go o n fs (units o n) = true) (τ : List Int) (ρ : List Nat) (ho : τ.length = o) (hl : ρ.length = n) : imp τ ρ fs False := by
  subst hl ho
  exact go_ok τ ρ False fs _ h (units_ok τ ρ _)
theorem imp_dn {τ : List Int} {ρ : List Nat} {g : Prop} : ∀ (fs : List NF), (¬ g → imp τ ρ fs False) → imp τ ρ fs g
  | [], h => Classical.byContradiction h
  | _ :: fs, h => fun q => imp_dn fs fun k => h k q
theorem lin (o n : Nat) (g : NF) (fs : List NF) (h : go o n (.no g :: fs) (units o n) = true) (τ : List Int) (ρ : List Nat) (ho : τ.length = o) (hl : ρ.length = n) : imp τ ρ fs (g.den τ ρ) :=
  imp_dn fs (fls o n (.no g :: fs) h τ ρ ho hl)
end Mine.Ar
end

section
set_option Elab.async false
set_option linter.unusedVariables false
set_option linter.unusedSimpArgs false
namespace Mine
open PySem

inductive V where
  | none
  | bool (b : Bool)
  | int (i : Int)
  | str (s : Str)
  | tup (vs : List V)
  | lst (vs : List V)
  | set (led : Bool) (vs : List V)
  | rng (lo hi : Int)
  | ref (a : Addr)
  | raw (v : Value)
  deriving Inhabited

inductive O where
  | list (vs : List V)
  | dictI (kvs : List (Int × V))
  | dictS (kvs : List (Str × V))
  | inst (C d : Addr) (fs : List (Str × V))
  | exc (C : Addr)
  deriving Inhabited

noncomputable abbrev Led := List (Addr × O)
noncomputable abbrev AEnv := List (Str × V)

noncomputable def O.addrs (a : Addr) : O → List Addr
  | .inst _ d _ => [a, d]
  | _ => [a]
noncomputable def owned : Led → List Addr
  | [] => []
  | (a, o) :: r => o.addrs a ++ owned r


noncomputable def PlainSeq (h : Heap) (T : String) (a : Addr) (cs : List Value) : Prop := ∃ n, h.get? a = some { cls := .type T, data := .seq cs.toArray n }

mutual
noncomputable def VRel (h : Heap) (own : List Addr) : V → Value → Prop
  | .none, c => c = .none
  | .bool b, c => c = .bool b
  | .int i, c => ∃ t, c = .int i t
  | .str x, c => ∃ t, c = .str x t
  | .tup vs, c => ∃ a cs, c = .ref a ∧ a ∉ own ∧ PlainSeq h "tuple" a cs ∧ cs.length ≤ sizeLine ∧ VRels h own vs cs
  | .lst vs, c => ∃ a cs, c = .ref a ∧ a ∉ own ∧ PlainSeq h "list" a cs ∧ cs.length ≤ sizeLine ∧ VRels h own vs cs
  | .set led vs, c => ∃ a es ep t, c = .ref a ∧ a ∉ own ∧ h.get? a = some { cls := .type "set", data := .set es ep t } ∧ (t.fits es.size = true ∧ es.size ≤ sizeLine ∧ t.led = led ∧ (t.plain = false ∨ t.place.toList.Pairwise (· < ·))) ∧ VRels h own vs (es.toList.map (·.2))
  | .rng lo hi, c => ∃ a t u v, c = .ref a ∧ a ∉ own ∧ h.get? a = some { cls := .type "range", data := .fields #[.int lo t, .int hi u, .int 1 v] }
  | .ref a, c => c = .ref a
  | .raw v, c => c = v
noncomputable def VRels (h : Heap) (own : List Addr) : List V → List Value → Prop
  | [], cs => cs = []
  | v :: vs, cs => ∃ c cs', cs = c :: cs' ∧ VRel h own v c ∧ VRels h own vs cs'
end

noncomputable def Obj.isDict (o : Obj) : Prop := ∃ es ep, o.data = .dict es ep

noncomputable def Kept (own : List Addr) (h h' : Heap) : Prop :=
  ∀ b o, h.get? b = some o → b ∉ own → ∃ sl, h'.get? b = some { o with slots := sl } ∧ (¬ Obj.isDict o → sl = o.slots)

theorem Kept.refl {own : List Addr} {h : Heap} : Kept own h h := fun z1 o e z2 => ⟨o.slots, e, fun z1 => rfl⟩
theorem Kept.exact {own : List Addr} {h h' : Heap} (k : Kept own h h') {b : Addr} {o : Obj} (e : h.get? b = some o) (hb : b ∉ own) (hd : ¬ Obj.isDict o) : h'.get? b = some o := by
  obtain ⟨sl, e', hs⟩ := k b o e hb
  rw [e', hs hd]
theorem Kept.of {own : List Addr} {h h' : Heap} (k : ∀ b o, h.get? b = some o → b ∉ own → h'.get? b = some o) : Kept own h h' :=
  fun b o e hb => ⟨o.slots, k b o e hb, fun z1 => rfl⟩

theorem PlainSeq.notDict {T : String} {cs : List Value} {n : Nat} : ¬ Obj.isDict ({ cls := .type T, data := .seq cs.toArray n } : Obj) := by
  rintro ⟨es, ep, e⟩; cases e

noncomputable def Grow (own own' : List Addr) (h : Heap) : Prop := ∀ b ∈ own', b ∈ own ∨ h.get? b = none

noncomputable def Frozen (o : Obj) : Prop := (∃ xs n, o.data = .seq xs n) ∨ ((∃ xs, o.data = .fields xs) ∧ o.cls = .type "range") ∨ ∃ es ep t, o.data = .set es ep t
theorem Frozen.notDict {o : Obj} (f : Frozen o) : ¬ Obj.isDict o := by
  rintro ⟨es, ep, e⟩
  rcases f with ⟨xs, n, q⟩ | ⟨⟨xs, q⟩, _⟩ | ⟨_, _, _, q⟩ <;> rw [e] at q <;> cases q
noncomputable def Carries (own own' : List Addr) (h h' : Heap) : Prop := ∀ a o, h.get? a = some o → a ∉ own → Frozen o → h'.get? a = some o ∧ a ∉ own'

mutual
theorem VRel.carry {own own' : List Addr} {h h' : Heap} (k : Carries own own' h h') : ∀ (v : V) (c : Value), VRel h own v c → VRel h' own' v c
  | .none, _, x => x
  | .bool _, _, x => x
  | .int _, _, x => x
  | .str _, _, x => x
  | .tup vs, c, x => by
    simp only [VRel] at x ⊢
    obtain ⟨a, cs, e, ha, ⟨n, hp⟩, hl, r⟩ := x
    obtain ⟨hp', ha'⟩ := k a _ hp ha (.inl ⟨_, _, rfl⟩)
    exact ⟨a, cs, e, ha', ⟨n, hp'⟩, hl, VRels.carry k vs cs r⟩
  | .lst vs, c, x => by
    simp only [VRel] at x ⊢
    obtain ⟨a, cs, e, ha, ⟨n, hp⟩, hl, r⟩ := x
    obtain ⟨hp', ha'⟩ := k a _ hp ha (.inl ⟨_, _, rfl⟩)
    exact ⟨a, cs, e, ha', ⟨n, hp'⟩, hl, VRels.carry k vs cs r⟩
  | .set _ vs, c, x => by
    simp only [VRel] at x ⊢
    obtain ⟨a, es, ep, t, e, ha, hp, q, r⟩ := x
    obtain ⟨hp', ha'⟩ := k a _ hp ha (.inr (.inr ⟨_, _, _, rfl⟩))
    exact ⟨a, es, ep, t, e, ha', hp', q, VRels.carry k vs _ r⟩
  | .rng _ _, _, x => by
    simp only [VRel] at x ⊢
    obtain ⟨a, t, u, v, e, ha, hp⟩ := x
    obtain ⟨hp', ha'⟩ := k a _ hp ha (.inr (.inl ⟨⟨_, rfl⟩, rfl⟩))
    exact ⟨a, t, u, v, e, ha', hp'⟩
  | .ref _, _, x => x
  | .raw _, _, x => x
theorem VRels.carry {own own' : List Addr} {h h' : Heap} (k : Carries own own' h h') : ∀ (vs : List V) (cs : List Value), VRels h own vs cs → VRels h' own' vs cs
  | [], _, x => x
  | v :: vs, cs, x => by
    simp only [VRels] at x ⊢
    obtain ⟨c, cs', e, r, rs⟩ := x
    exact ⟨c, cs', e, VRel.carry k v c r, VRels.carry k vs cs' rs⟩
end

theorem Kept.carries {own own' : List Addr} {h h' : Heap} (k : Kept own h h') (g : Grow own own' h) : Carries own own' h h' := fun a o e ha f => ⟨k.exact e ha f.notDict, fun hm => by
  rcases g a hm with q | q
  · exact ha q
  · rw [e] at q; cases q⟩
theorem VRel.mono {own own' : List Addr} {h h' : Heap} (k : Kept own h h') (g : Grow own own' h) (v : V) (c : Value) (r : VRel h own v c) : VRel h' own' v c := r.carry (k.carries g)
theorem VRels.mono {own own' : List Addr} {h h' : Heap} (k : Kept own h h') (g : Grow own own' h) (vs : List V) (cs : List Value) (r : VRels h own vs cs) : VRels h' own' vs cs := r.carry (k.carries g)

structure Base where
  prog : Program
  w : World
  h0 : Heap
  mg : Str → Option Value
  mb : Str → Option Value
  hd : Bool

noncomputable def DictR (k : Base) {K : Type} [DecidableEq K] (knd : KeyKind k.prog k.w K) (h : Heap) (own : List Addr) (a : Addr) (kvs : List (K × V)) : Prop :=
  ∃ cs : List (K × Value), (a == sysModules) = false ∧ h.DictOf knd a cs ∧ cs.map (·.1) = kvs.map (·.1) ∧ VRels h own (kvs.map (·.2)) (cs.map (·.2))
theorem DictR.carry {k : Base} {K : Type} [DecidableEq K] {knd : KeyKind k.prog k.w K} {h h' : Heap} {own own' : List Addr} {a : Addr} {kvs : List (K × V)} (r : DictR k knd h own a kvs) (hk : ∀ o, h.get? a = some o → h'.get? a = some o) (hc : Carries own own' h h') : DictR k knd h' own' a kvs := by
  obtain ⟨cs, hs, ⟨o, es, ep, ho, q⟩, e, rs⟩ := r
  exact ⟨cs, hs, ⟨o, es, ep, hk o ho, q⟩, e, rs.carry hc⟩
theorem DictR.there {k : Base} {K : Type} [DecidableEq K] {knd : KeyKind k.prog k.w K} {h : Heap} {own : List Addr} {a : Addr} {kvs : List (K × V)} (r : DictR k knd h own a kvs) : ∃ o, h.get? a = some o := by
  obtain ⟨_, _, ⟨o, _, _, ho, _⟩, _⟩ := r
  exact ⟨o, ho⟩
noncomputable def ORel (k : Base) (h : Heap) (own : List Addr) (a : Addr) : O → Prop
  | .list vs => ∃ cs, PlainSeq h "list" a cs ∧ cs.length ≤ sizeLine ∧ VRels h own vs cs
  | .dictI kvs => DictR k (intKind k.prog k.w) h own a kvs
  | .dictS kvs => DictR k (strKind k.prog k.w) h own a kvs
  | .inst _ _ _ => False
  | .exc C => ∃ o vs, h.get? a = some o ∧ o.cls = .ref C ∧ o.data = .fields vs

structure Base.OK (k : Base) : Prop where
  g : k.h0.Ns mainGlobals k.mg
  b : k.h0.Ns builtinsNs k.mb
  nolimit : k.h0.NoLimit

structure Cx where
  k : Base
  F : List Addr := []
  H : List Addr := []

noncomputable abbrev ownS (c : Cx) (σ : Led) : List Addr := c.H ++ owned σ

structure St (c : Cx) (A : Around) (σ : Led) (h : Heap) : Prop where
  keep : ∀ b o, c.k.h0.get? b = some o → h.get? b = some o
  nodup : (owned σ).Nodup
  fresh : ∀ a ∈ owned σ, c.k.h0.get? a = none
  objs : ∀ a o, (a, o) ∈ σ → ORel c.k h (ownS c σ) a o
  frames : ∃ l, A.frames = some l ∧ h.FunFrames c.k.h0 l ∧ ∀ L ∈ l.filterMap (·.frame), L ∉ owned σ ∧ L ∉ c.F ∧ ∀ o, h.get? L = some o → Obj.isDict o
  prot : ∀ b ∈ c.F, ∃ o, h.get? b = some o
  hid : ∀ b ∈ c.H, b ∉ owned σ ∧ ∃ o, h.get? b = some o

structure Step (F own own' : List Addr) (s s' : Shared) : Prop where
  kept : Kept own s.heap s'.heap
  there : ∀ b o, s.heap.get? b = some o → ∃ o', s'.heap.get? b = some o'
  prot : ∀ b ∈ F, ∀ o, s.heap.get? b = some o → s'.heap.get? b = some o
  grow : Grow own own' s.heap
  os : s'.os = s.os
  gens : s'.gens = s.gens

theorem Step.refl {F own : List Addr} {s : Shared} : Step F own own s s := ⟨.refl, fun z1 o e => ⟨o, e⟩, fun z1 z2 z3 e => e, fun z1 h => .inl h, rfl, rfl⟩
theorem Step.toks {F own : List Addr} {s : Shared} {t : Nat} : Step F own own s { s with toks := t } := ⟨.refl, fun z1 o e => ⟨o, e⟩, fun z1 z2 z3 e => e, fun z1 h => .inl h, rfl, rfl⟩

theorem Obj.isDict_slots {o : Obj} {sl : Array (Option Value)} : Obj.isDict { o with slots := sl } ↔ Obj.isDict o := Iff.rfl

theorem Kept.trans {own own' : List Addr} {h h' h'' : Heap} (x : Kept own h h') (g : Grow own own' h) (y : Kept own' h' h'') : Kept own h h'' := by
  intro b o e hb
  obtain ⟨sl, e1, s1⟩ := x b o e hb
  have hb' : b ∉ own' := fun hm => by
    rcases g b hm with q | q
    · exact hb q
    · rw [e] at q; cases q
  obtain ⟨sl2, e2, s2⟩ := y b _ e1 hb'
  exact ⟨sl2, e2, fun hd => (s2 hd).trans (s1 hd)⟩

theorem Grow.trans {own own' own'' : List Addr} {h h' : Heap} (k : Kept own h h') (x : Grow own own' h) (y : Grow own' own'' h') : Grow own own'' h := by
  intro b hb
  rcases y b hb with q | q
  · exact x b q
  · by_cases ho : b ∈ own
    · exact .inl ho
    · cases e : h.get? b with
      | none => exact .inr rfl
      | some o => obtain ⟨sl, e1, _⟩ := k b o e ho; rw [e1] at q; cases q

theorem Step.trans {F own own' own'' : List Addr} {s s' s'' : Shared} (x : Step F own own' s s') (y : Step F own' own'' s' s'') : Step F own own'' s s'' :=
  ⟨x.kept.trans x.grow y.kept, fun b o e => (x.there b o e).elim fun o' e' => y.there b o' e', fun b hb o e => y.prot b hb o (x.prot b hb o e), x.grow.trans x.kept y.grow, y.os.trans x.os, y.gens.trans x.gens⟩

theorem Kept.wider {own W : List Addr} {h h' : Heap} (x : Kept own h h') : Kept (W ++ own) h h' := fun b o e hb => x b o e fun hm => hb (List.mem_append_right _ hm)
theorem Grow.wider {own own' W : List Addr} {h : Heap} (x : Grow own own' h) : Grow (W ++ own) (W ++ own') h := fun b hb => by
  rcases List.mem_append.mp hb with q | q
  · exact .inl (List.mem_append_left _ q)
  · exact (x b q).imp (List.mem_append_right _) id
theorem Step.v {F own own' H : List Addr} {s s' : Shared} (x : Step F own own' s s') {v : V} {c : Value} (r : VRel s.heap (H ++ own) v c) : VRel s'.heap (H ++ own') v c := VRel.mono x.kept.wider x.grow.wider v c r
theorem Step.vs {F own own' H : List Addr} {s s' : Shared} (x : Step F own own' s s') {vs : List V} {cs : List Value} (r : VRels s.heap (H ++ own) vs cs) : VRels s'.heap (H ++ own') vs cs := VRels.mono x.kept.wider x.grow.wider vs cs r

structure EnvOk (env : Env) : Prop where
  kind : env.scope.kind = .function
  nodebug : env.kindOf "__debug__" = none
  noclassdict : env.kindOf "__classdict__" ≠ some .free
  globals : env.globals = mainGlobals
  builtins : env.builtins = builtinsNs
  cell : ∀ x, env.kindOf x = some .cell ∨ env.kindOf x = some .free → ∃ a, env.cells.lookup x = some a

structure EnvRel (c : Cx) (own : List Addr) (env : Env) (m : AEnv) (h : Heap) : Prop where
  ns : ∃ mc, h.Ns env.locals mc ∧ ∀ x v, m.lookup x = some v → env.kindOf x = some .local → ∃ cv, mc x = some cv ∧ VRel h own v cv
  cell : ∀ x v, m.lookup x = some v → (env.kindOf x = some .cell ∨ env.kindOf x = some .free) → ∃ a cv, env.cells.lookup x = some a ∧ h.IsCell a (some cv) ∧ VRel h own v cv
  lnot : env.locals ∉ own ∧ c.k.h0.get? env.locals = none ∧ env.locals ∉ c.F
  cnot : ∀ x a, (x, a) ∈ env.cells → a ∉ own ∧ a ≠ env.locals ∧ c.k.h0.get? a = none ∧ a ∉ c.F ∧ ∃ v, h.IsCell a v
  apart : env.cells.Pairwise (fun x y => x.2 ≠ y.2)

theorem Kept.ns {own : List Addr} {h h' : Heap} {a : Addr} {m : Str → Option Value} (k : Kept own h h') (ha : a ∉ own) (x : h.Ns a m) : h'.Ns a m := by
  obtain ⟨o, es, ep, ho, hd, hk, hm⟩ := x
  obtain ⟨sl, e, _⟩ := k a o ho ha
  exact ⟨_, es, ep, e, hd, hk, hm⟩
theorem Kept.isCell {own : List Addr} {h h' : Heap} {a : Addr} {v : Option Value} (k : Kept own h h') (ha : a ∉ own) (x : h.IsCell a v) : h'.IsCell a v := by
  obtain ⟨o, ho, hd⟩ := x
  obtain ⟨sl, e, _⟩ := k a o ho ha
  exact ⟨_, e, hd⟩

theorem Grow.notin {own own' : List Addr} {h : Heap} {a : Addr} {o : Obj} (g : Grow own own' h) (ha : a ∉ own) (e : h.get? a = some o) : a ∉ own' := fun hm => by
  rcases g a hm with q | q
  · exact ha q
  · rw [e] at q; cases q

theorem EnvRel.mono {c : Cx} {own own' : List Addr} {env : Env} {m : AEnv} {h h' : Heap} (k : Kept own h h') (g : Grow own own' h) (x : EnvRel c own env m h) : EnvRel c own' env m h' := by
  obtain ⟨mc, hn, hm⟩ := x.ns
  have hL : env.locals ∉ own' := by
    obtain ⟨o, _, _, e, _⟩ := id hn
    exact g.notin x.lnot.1 e
  refine ⟨⟨mc, k.ns x.lnot.1 hn, fun y v hy hk => ?_⟩, fun y v hy hk => ?_, ⟨hL, x.lnot.2⟩, fun y a ha => ?_, x.apart⟩
  · obtain ⟨cv, e, r⟩ := hm y v hy hk
    exact ⟨cv, e, r.mono k g v cv⟩
  · obtain ⟨a, cv, e, hc, r⟩ := x.cell y v hy hk
    exact ⟨a, cv, e, k.isCell (x.cnot y a (mem_of_lookup e)).1 hc, r.mono k g v cv⟩
  · obtain ⟨h1, h2, h3, hf, v, h4⟩ := x.cnot y a ha
    obtain ⟨o, e, _⟩ := id h4
    exact ⟨g.notin h1 e, h2, h3, hf, v, k.isCell h1 h4⟩

structure AOk (k : Base) (d : Nat) (A : Around) : Prop where
  handled : k.hd = true → A.handled = none
  depth : A.depth + d < 900
  units : A.units + 20 * d < 9000
  le : d ≤ 100

structure ExcAt (e : Addr) (cls : Value) (base h : Heap) : Prop where
  new : base.get? e = none
  own : ∃ C, cls = .ref C
  obj : ∃ oe vs, h.get? e = some oe ∧ oe.cls = cls ∧ oe.data = .fields vs ∧
    (vs[1]? = some .none ∨ ∃ T oT ts, vs[1]? = some (.ref T) ∧ base.get? T = none ∧ T ≠ e ∧ h.get? T = some oT ∧ oT.cls = .type "traceback" ∧ oT.data = .fields ts ∧ ts[3]? = some .none)
theorem ExcAt.sooner {e : Addr} {cls : Value} {base base' h : Heap} (k : ∀ b o, base.get? b = some o → ∃ o', base'.get? b = some o') (x : ExcAt e cls base' h) : ExcAt e cls base h := by
  have no : ∀ b, base'.get? b = none → base.get? b = none := fun b q => by
    cases r : base.get? b with
    | none => rfl
    | some o => obtain ⟨o', e'⟩ := k b o r; rw [q] at e'; cases e'
  obtain ⟨h1, hC, oe, vs, h2, h3, h4, h5⟩ := x
  refine ⟨no e h1, hC, oe, vs, h2, h3, h4, h5.imp id fun q => ?_⟩
  obtain ⟨T, oT, ts, q1, q2, q3⟩ := q
  exact ⟨T, oT, ts, q1, no T q2, q3⟩

noncomputable abbrev XP := Value → Led → Prop

noncomputable def EOk (c : Cx) (A : Around) (X : XP) (own : List Addr) (s : Shared) (E : Value → Shared → Prop) : Prop :=
  ∀ e cls σ' s', X cls σ' → Step c.F own (owned σ') s s' → St c A σ' s'.heap → ExcAt e cls s.heap s'.heap → E (.ref e) s'

theorem EOk.step {c : Cx} {A : Around} {X : XP} {own own' : List Addr} {s s' : Shared} {E : Value → Shared → Prop} (x : EOk c A X own s E) (st : Step c.F own own' s s') : EOk c A X own' s' E :=
  fun e cls σ' s'' hx st' h he => x e cls σ' s'' hx (st.trans st') h (he.sooner st.there)

noncomputable def Post (c : Cx) (A : Around) (σ : Led) (s : Shared) (P : V → Led → Prop) (cv : Value) (s' : Shared) : Prop :=
  ∃ v σ', P v σ' ∧ Step c.F (owned σ) (owned σ') s s' ∧ St c A σ' s'.heap ∧ VRel s'.heap (ownS c σ') v cv

theorem Post.step {c : Cx} {A : Around} {σ σ₁ : Led} {s s₁ s' : Shared} {P : V → Led → Prop} {cv : Value} (st : Step c.F (owned σ) (owned σ₁) s s₁) (x : Post c A σ₁ s₁ P cv s') : Post c A σ s P cv s' := by
  obtain ⟨v, σ', hp, st', h, r⟩ := x
  exact ⟨v, σ', hp, st.trans st', h, r⟩

noncomputable abbrev Cx.M (c : Cx) : Model := model c.k.prog c.k.w

noncomputable def isVar (sc : Scope) (x : Str) : Bool := match sc.names.lookup x with
  | some .local | some .cell | some .free => true
  | _ => false
theorem isVar_kind {sc : Scope} {x : Str} (h : isVar sc x = true) : sc.names.lookup x = some .local ∨ sc.names.lookup x = some .cell ∨ sc.names.lookup x = some .free := by
  unfold isVar at h
  split at h <;> simp_all

structure RE (c : Cx) (d : Nat) (sc : Scope) (m : AEnv) (σ : Led) (X : XP) (env : Env) (A : Around) (s : Shared) (E : Value → Shared → Prop) : Prop where
  sc : env.scope = sc
  ok : EnvOk env
  a : AOk c.k d A
  st : St c A σ s.heap
  er : EnvRel c (ownS c σ) env m s.heap
  e : EOk c A X (owned σ) s E

theorem RE.step {c : Cx} {d : Nat} {sc : Scope} {m : AEnv} {σ σ₁ : Led} {X : XP} {env : Env} {A : Around} {s s₁ : Shared} {E : Value → Shared → Prop} (x : RE c d sc m σ X env A s E)
    (t : Step c.F (owned σ) (owned σ₁) s s₁) (h : St c A σ₁ s₁.heap) : RE c d sc m σ₁ X env A s₁ E := ⟨x.sc, x.ok, x.a, h, x.er.mono t.kept.wider t.grow.wider, x.e.step t⟩

noncomputable def WE (c : Cx) (d : Nat) (sc : Scope) (e : Expr) (m : AEnv) (σ : Led) (P : V → Led → Prop) (X : XP) : Prop :=
  ∀ (env : Env) (A : Around) (s : Shared) (E : Value → Shared → Prop), RE c d sc m σ X env A s E → wpAny c.M A (eval e env) (Post c A σ s P) E s

noncomputable def PostL (c : Cx) (A : Around) (σ : Led) (s : Shared) (P : List V → Led → Prop) (cvs : List Value) (s' : Shared) : Prop :=
  ∃ vs σ', P vs σ' ∧ Step c.F (owned σ) (owned σ') s s' ∧ St c A σ' s'.heap ∧ VRels s'.heap (ownS c σ') vs cvs
noncomputable def WEs (c : Cx) (d : Nat) (sc : Scope) (es : List Expr) (m : AEnv) (σ : Led) (P : List V → Led → Prop) (X : XP) : Prop :=
  ∀ (env : Env) (A : Around) (s : Shared) (E : Value → Shared → Prop) (pos : Pos), RE c d sc m σ X env A s E →
    (starEach es env).any (·.1) = false ∧ wpAny c.M A (spliced (backTo pos (starEach es env))) (PostL c A σ s (fun vs σ' => vs.length = es.length ∧ P vs σ')) E s

noncomputable def PostB (c : Cx) (A : Around) (σ : Led) (s : Shared) (P : Bool → Led → Prop) (b : Bool) (s' : Shared) : Prop :=
  ∃ σ', P b σ' ∧ Step c.F (owned σ) (owned σ') s s' ∧ St c A σ' s'.heap
theorem PostB.step {c : Cx} {A : Around} {σ σ₁ : Led} {s s₁ s' : Shared} {P : Bool → Led → Prop} {b : Bool} (st : Step c.F (owned σ) (owned σ₁) s s₁) (x : PostB c A σ₁ s₁ P b s') : PostB c A σ s P b s' := by
  obtain ⟨σ', hp, st', h⟩ := x
  exact ⟨σ', hp, st.trans st', h⟩
noncomputable def WT (c : Cx) (d : Nat) (sc : Scope) (e : Expr) (m : AEnv) (σ : Led) (P : Bool → Led → Prop) (X : XP) : Prop :=
  ∀ (env : Env) (A : Around) (s : Shared) (E : Value → Shared → Prop), RE c d sc m σ X env A s E → wpAny c.M A (isTrue e env (eval e env)) (PostB c A σ s P) E s
noncomputable def WTs (c : Cx) (d : Nat) (sc : Scope) (op : BoolOp) (es : List Expr) (m : AEnv) (σ : Led) (P : Bool → Led → Prop) (X : XP) : Prop :=
  ∀ (env : Env) (A : Around) (s : Shared) (E : Value → Shared → Prop), RE c d sc m σ X env A s E → wpAny c.M A (allTrue op es env) (PostB c A σ s P) E s
noncomputable def WEb (c : Cx) (d : Nat) (sc : Scope) (op : BoolOp) (es : List Expr) (m : AEnv) (σ : Led) (P : V → Led → Prop) (X : XP) : Prop :=
  ∀ (env : Env) (A : Around) (s : Shared) (E : Value → Shared → Prop) (pos : Pos), RE c d sc m σ X env A s E → wpAny c.M A (boolOp pos op (evalEach es env)) (Post c A σ s P) E s

noncomputable def Op1 (c : Cx) (d : Nat) (t : Value → Sem Value) (a : V) (σ : Led) (P : V → Led → Prop) : Prop :=
  ∀ (A : Around) (s : Shared) (E : Value → Shared → Prop) (ca : Value), AOk c.k d A → St c A σ s.heap → VRel s.heap (ownS c σ) a ca → wpAny c.M A (t ca) (Post c A σ s P) E s
noncomputable def Op2 (c : Cx) (d : Nat) (t : Value → Value → Sem Value) (a b : V) (σ : Led) (P : V → Led → Prop) : Prop :=
  ∀ (A : Around) (s : Shared) (E : Value → Shared → Prop) (ca cb : Value), AOk c.k d A → St c A σ s.heap → VRel s.heap (ownS c σ) a ca → VRel s.heap (ownS c σ) b cb → wpAny c.M A (t ca cb) (Post c A σ s P) E s

noncomputable def CallS (c : Cx) (d : Nat) (f : Value) (vs : List V) (σ : Led) (P : V → Led → Prop) (X : XP) : Prop :=
  ∀ (A : Around) (s : Shared) (E : Value → Shared → Prop) (cs : List Value), AOk c.k d A → St c A σ s.heap → VRels s.heap (ownS c σ) vs cs → EOk c A X (owned σ) s E →
    wpAny c.M A (call f cs) (Post c A σ s P) E s

inductive Fl where
  | next | brk | cont
  | ret (v : V)

noncomputable def FlRel (h : Heap) (own : List Addr) : Fl → Flow → Prop
  | .next, f => f = .next
  | .brk, f => f = .brk
  | .cont, f => f = .cont
  | .ret v, f => ∃ cv, f = .ret cv ∧ VRel h own v cv

noncomputable def places (env : Env) : List Addr := env.locals :: env.cells.map (·.2)

noncomputable def PostS (c : Cx) (A : Around) (env : Env) (σ : Led) (s : Shared) (K : Fl → AEnv → Led → Prop) (f : Flow) (s' : Shared) : Prop :=
  ∃ fl m' σ', K fl m' σ' ∧ Step c.F (places env ++ owned σ) (places env ++ owned σ') s s' ∧ St c A σ' s'.heap ∧ EnvRel c (ownS c σ') env m' s'.heap ∧ FlRel s'.heap (ownS c σ') fl f
theorem PostS.step {c : Cx} {A : Around} {env : Env} {σ σ₁ : Led} {s s₁ s' : Shared} {K : Fl → AEnv → Led → Prop} {f : Flow} (st : Step c.F (places env ++ owned σ) (places env ++ owned σ₁) s s₁) (x : PostS c A env σ₁ s₁ K f s') :
    PostS c A env σ s K f s' := by
  obtain ⟨v, m', σ', hp, st', h, r⟩ := x
  exact ⟨v, m', σ', hp, st.trans st', h, r⟩

noncomputable def EOkS (c : Cx) (A : Around) (X : XP) (env : Env) (σ : Led) (s : Shared) (E : Value → Shared → Prop) : Prop :=
  ∀ e cls σ' s', X cls σ' → Step c.F (places env ++ owned σ) (places env ++ owned σ') s s' → St c A σ' s'.heap → EnvRel c (ownS c σ') env [] s'.heap → ExcAt e cls s.heap s'.heap → E (.ref e) s'
theorem EOkS.step {c : Cx} {A : Around} {X : XP} {env : Env} {σ σ₁ : Led} {s s' : Shared} {E : Value → Shared → Prop} (x : EOkS c A X env σ s E) (st : Step c.F (places env ++ owned σ) (places env ++ owned σ₁) s s') : EOkS c A X env σ₁ s' E :=
  fun e cls σ' s'' hx st' h er he => x e cls σ' s'' hx (st.trans st') h er (he.sooner st.there)

structure RS (c : Cx) (d : Nat) (sc : Scope) (m : AEnv) (σ : Led) (X : XP) (env : Env) (A : Around) (s : Shared) (E : Value → Shared → Prop) : Prop where
  sc : env.scope = sc
  ok : EnvOk env
  fr : ∃ outer, A.frames = some (env :: outer)
  a : AOk c.k d A
  st : St c A σ s.heap
  er : EnvRel c (ownS c σ) env m s.heap
  e : EOkS c A X env σ s E

theorem Step.wider {F own own' W : List Addr} {s s' : Shared} (x : Step F own own' s s') : Step F (W ++ own) (W ++ own') s s' := ⟨x.kept.wider, x.there, x.prot, x.grow.wider, x.os, x.gens⟩
theorem EnvRel.nil {c : Cx} {own : List Addr} {env : Env} {m : AEnv} {h : Heap} (x : EnvRel c own env m h) : EnvRel c own env [] h :=
  ⟨x.ns.imp fun mc q => ⟨q.1, fun z1 z2 q => by cases q⟩, (fun z1 z2 q => by cases q), x.lnot, x.cnot, x.apart⟩
theorem RS.re {c : Cx} {d : Nat} {sc : Scope} {m : AEnv} {σ : Led} {X : XP} {env : Env} {A : Around} {s : Shared} {E : Value → Shared → Prop} (x : RS c d sc m σ X env A s E) : RE c d sc m σ X env A s E :=
  ⟨x.sc, x.ok, x.a, x.st, x.er, fun e cls σ' s' hx st h he => x.e e cls σ' s' hx st.wider h (x.er.mono st.kept.wider st.grow.wider).nil he⟩
theorem RS.step {c : Cx} {d : Nat} {sc : Scope} {m m₁ : AEnv} {σ σ₁ : Led} {X : XP} {env : Env} {A : Around} {s s₁ : Shared} {E : Value → Shared → Prop} (x : RS c d sc m σ X env A s E)
    (t : Step c.F (places env ++ owned σ) (places env ++ owned σ₁) s s₁) (h : St c A σ₁ s₁.heap) (er : EnvRel c (ownS c σ₁) env m₁ s₁.heap) : RS c d sc m₁ σ₁ X env A s₁ E := ⟨x.sc, x.ok, x.fr, x.a, h, er, x.e.step t⟩

noncomputable def WS (c : Cx) (d : Nat) (sc : Scope) (st : Stmt) (m : AEnv) (σ : Led) (K : Fl → AEnv → Led → Prop) (X : XP) : Prop :=
  ∀ (env : Env) (A : Around) (s : Shared) (E : Value → Shared → Prop), RS c d sc m σ X env A s E → wpAny c.M A (exec st env) (PostS c A env σ s K) E s
noncomputable def WSs (c : Cx) (d : Nat) (sc : Scope) (sts : List Stmt) (m : AEnv) (σ : Led) (K : Fl → AEnv → Led → Prop) (X : XP) : Prop :=
  ∀ (env : Env) (A : Around) (s : Shared) (E : Value → Shared → Prop), RS c d sc m σ X env A s E → wpAny c.M A (execs sts env) (PostS c A env σ s K) E s

end Mine
end

section
set_option Elab.async false
set_option linter.unusedVariables false
set_option linter.unusedSimpArgs false
namespace Mine
open PySem

variable {c : Cx} {d : Nat} {sc : Scope} {m : AEnv} {σ : Led} {P : V → Led → Prop} {X : XP}

theorem Post.same {A : Around} {s : Shared} {v : V} {cv : Value} {t : Nat} (hs : St c A σ s.heap) (h : P v σ) (r : VRel s.heap (ownS c σ) v cv) : Post c A σ s P cv { s with toks := t } :=
  ⟨v, σ, h, .toks, hs, r⟩
theorem Post.same' {A : Around} {s : Shared} {v : V} {cv : Value} (hs : St c A σ s.heap) (h : P v σ) (r : VRel s.heap (ownS c σ) v cv) : Post c A σ s P cv s :=
  ⟨v, σ, h, .refl, hs, r⟩

theorem WE_int {i : Int} {k : Nat} {pos : Pos} (h : P (.int i) σ) : WE c d sc (.Constant (.int i) k pos) m σ P X :=
  fun z1 z2 z3 z4 r => wpAny_Constant_int (Post.same r.st h (by simp only [VRel]; exact ⟨_, rfl⟩))
theorem WE_str {x : Str} {k : Nat} {pos : Pos} (h : P (.str x) σ) : WE c d sc (.Constant (.str x) k pos) m σ P X :=
  fun z1 z2 z3 z4 r => Calls.Constant_str (Post.same r.st h (by simp only [VRel]; exact ⟨_, rfl⟩))
theorem WE_bool {b : Bool} {k : Nat} {pos : Pos} (h : P (.bool b) σ) : WE c d sc (.Constant (.bool b) k pos) m σ P X :=
  fun z1 z2 z3 z4 r => wpAny_Constant_bool (Post.same' r.st h (by simp only [VRel]))
theorem WE_none {k : Nat} {pos : Pos} (h : P .none σ) : WE c d sc (.Constant .none k pos) m σ P X :=
  fun z1 z2 z3 z4 r => wpAny_Constant_none (Post.same' r.st h (by simp only [VRel]))

theorem nodebug {env : Env} (ok : EnvOk env) {x : Str} {k : NameKind} (h : env.kindOf x = some k) : (x == ("__debug__" : Str)) = false := by
  rw [beq_eq_false_iff_ne]
  rintro rfl
  rw [ok.nodebug] at h; cases h

theorem WE_name {x : Str} {pos : Pos} {v : V} (hx : m.lookup x = some v) (h : P v σ) (hk : isVar sc x = true) : WE c d sc (.Name x pos) m σ P X := by
  intro env A s E r
  have hk' : env.kindOf x = some .local ∨ env.kindOf x = some .cell ∨ env.kindOf x = some .free := by unfold Env.kindOf; rw [r.sc]; exact isVar_kind hk
  rcases hk' with hk | hk | hk
  · obtain ⟨mc, hn, hm⟩ := r.er.ns
    obtain ⟨cv, e, rv⟩ := hm x v hx hk
    exact wpAny_Name (wpAny_loadName_local r.ok.kind hk hn e (Post.same' r.st h rv)) (nodebug r.ok hk)
  · obtain ⟨a, cv, e, hc, rv⟩ := r.er.cell x v hx (.inl hk)
    exact wpAny_Name (wpAny_loadName_cell r.ok.kind hk e hc (Post.same' r.st h rv)) (nodebug r.ok hk)
  · obtain ⟨a, cv, e, hc, rv⟩ := r.er.cell x v hx (.inr hk)
    by_cases hcd : (x == ("__classdict__" : Str)) = true
    · exfalso
      exact r.ok.noclassdict (by rw [beq_iff_eq] at hcd; rw [← hcd]; exact hk)
    · exact wpAny_Name (wpAny_loadName_free r.ok.kind hk e hc (Post.same' r.st h rv) (by simpa using hcd)) (nodebug r.ok hk)

theorem WE_global (hc : c.k.OK) {x : Str} {pos : Pos} {v : V} {cv : Value} (hk : sc.names.lookup x = some .globalImplicit) (hg : c.k.mg x = some cv) (hv : ∀ h own, VRel h own v cv) (h : P v σ) : WE c d sc (.Name x pos) m σ P X := by
  intro env A s E r
  have hk' : env.kindOf x = some .globalImplicit := by unfold Env.kindOf; rw [r.sc]; exact hk
  refine Calls.Name_function_global r.ok.kind hk' (Calls.loadGlobal_global (mg := c.k.mg) ?_ hg (Post.same' r.st h (hv _ _))) (nodebug r.ok hk')
  rw [r.ok.globals]; exact hc.g.keeps r.st.keep
theorem WE_builtin (hc : c.k.OK) {x : Str} {pos : Pos} {cv : Value} (hk : sc.names.lookup x = some .globalImplicit) (hg : c.k.mg x = none) (hb : c.k.mb x = some cv) (h : P (.raw cv) σ) : WE c d sc (.Name x pos) m σ P X := by
  intro env A s E r
  have hk' : env.kindOf x = some .globalImplicit := by unfold Env.kindOf; rw [r.sc]; exact hk
  refine Calls.Name_function_global r.ok.kind hk' (Calls.loadGlobal_builtin (mg := c.k.mg) (mb := c.k.mb) ?_ hg ?_ hb (Post.same' r.st h (by simp only [VRel]))) (nodebug r.ok hk')
  · rw [r.ok.globals]; exact hc.g.keeps r.st.keep
  · rw [r.ok.builtins]; exact hc.b.keeps r.st.keep

theorem WE_binop {l r' : Expr} {op : Operator} {pos : Pos} (h : WE c d sc l m σ (fun a σ₁ => WE c d sc r' m σ₁ (fun b σ₂ => Op2 c d (binaryOp op) a b σ₂ P) X) X) : WE c d sc (.BinOp l op r' pos) m σ P X := by
  intro env A s E r
  refine wpAny_BinOp (wpAny_mono (h env A s E r) ?_ fun z1 z2 x => x)
  rintro ca s₁ ⟨a, σ₁, h₁, t₁, hs₁, ra⟩
  refine wpAny_mono (h₁ env A s₁ E (r.step t₁ hs₁)) ?_ fun z1 z2 x => x
  rintro cb s₂ ⟨b, σ₂, h₂, t₂, hs₂, rb⟩
  exact wpAny_mono (h₂ A s₂ E ca cb r.a hs₂ (t₂.v ra) rb) (fun z1 z2 p => (p.step t₂).step t₁) fun z1 z2 x => x

theorem WE_unary {e : Expr} {op : UnaryOp} {pos : Pos} (h : WE c d sc e m σ (fun a σ₁ => Op1 c d (unaryOp op) a σ₁ P) X) : WE c d sc (.UnaryOp op e pos) m σ P X := by
  intro env A s E r
  refine wpAny_UnaryOp (wpAny_mono (h env A s E r) ?_ fun z1 z2 x => x)
  rintro ca s₁ ⟨a, σ₁, h₁, t₁, hs₁, ra⟩
  exact wpAny_mono (h₁ A s₁ E ca r.a hs₁ ra) (fun z1 z2 p => p.step t₁) fun z1 z2 x => x

theorem Op_neg {i : Int} (h : P (.int (-i)) σ) : Op1 c d (unaryOp .USub) (.int i) σ P := by
  intro A s E ca _ st ra
  simp only [VRel] at ra; obtain ⟨t, rfl⟩ := ra
  exact PySem.P.neg_int (Post.same st h (by simp only [VRel]; exact ⟨_, rfl⟩))

section intOps
variable {x y : Int}
theorem op_int {op : Operator} {z : Int} (hz : ∀ {A : Around} {E : Value → Shared → Prop} {s : Shared} {t u : Tok} {Q : Value → Shared → Prop}, Q (.int z s.toks) { s with toks := s.toks + 1 } → wpAny c.M A (binaryOp op (.int x t) (.int y u)) Q E s)
    (h : P (.int z) σ) : Op2 c d (binaryOp op) (.int x) (.int y) σ P := by
  intro A s E ca cb _ st ra rb
  simp only [VRel] at ra rb; obtain ⟨t, rfl⟩ := ra; obtain ⟨u, rfl⟩ := rb
  exact hz (Post.same st h (by simp only [VRel]; exact ⟨_, rfl⟩))
theorem Op_add (h : P (.int (x + y)) σ) : Op2 c d (binaryOp .Add) (.int x) (.int y) σ P := op_int (fun q => AutoIntOps.add_0 q) h
theorem Op_sub (h : P (.int (x - y)) σ) : Op2 c d (binaryOp .Sub) (.int x) (.int y) σ P := op_int (fun q => AutoIntOps.sub_0 q) h
theorem Op_mul (hm : IntMulOk x y) (h : P (.int (x * y)) σ) : Op2 c d (binaryOp .Mult) (.int x) (.int y) σ P := op_int (fun q => AutoIntOps.mul_0 q hm) h
theorem Op_mod (hy : y ≠ 0) (h : P (.int (x.fmod y)) σ) : Op2 c d (binaryOp .Mod) (.int x) (.int y) σ P := op_int (fun q => AutoIntOps.mod_1 (by simpa using hy) q) h
theorem Op_div (hy : y ≠ 0) (hl : y.natAbs.log2 < 9000) (h : P (.int (x.fdiv y)) σ) : Op2 c d (binaryOp .FloorDiv) (.int x) (.int y) σ P :=
  op_int (fun q => AutoIntOps.floordiv_1 (by simpa using hy) (by rw [PyProof.noPylong_of_log2 hl]; decide) q) h
theorem Op_pow {n : Nat} (hn : n ≠ 0) (hb : Builtin.Int.intBits x * n ≤ 134217728) (h : P (.int (x ^ n)) σ) : Op2 c d (binaryOp .Pow) (.int x) (.int (n : Int)) σ P := by
  refine op_int (z := x ^ n) (fun {A E s t u Q} q => ?_) h
  refine AutoIntOpsIf.pow ?_
  have h0 : ((n : Int) ≥ 0) := by lia
  have h1 : ((n : Int) == 0) = false := by simpa using hn
  rw [if_pos h0, h1]
  simp only [Bool.false_eq_true, if_false]
  by_cases h2 : (x == 0 || x == 1) = true
  · rw [if_pos h2]
    have : x ^ n = x := by
      simp only [Bool.or_eq_true, beq_iff_eq] at h2
      rcases h2 with rfl | rfl
      · exact Int.zero_pow hn
      · exact Int.one_pow ..
    rw [this] at q; exact q
  · rw [if_neg h2]
    by_cases h3 : (x == -1) = true
    · rw [if_pos h3]
      have hx : x = -1 := by simpa using h3
      subst hx
      have : (-1 : Int) ^ n = if (n : Int) % 2 == 0 then 1 else -1 := by
        rcases Nat.mod_two_eq_zero_or_one n with hn2 | hn2
        · have e : n = 2 * (n / 2) := by lia
          have : ((n : Nat) : Int) % 2 = 0 := by lia
          rw [this, e, Int.pow_mul]; exact Int.one_pow ..
        · have e : n = 2 * (n / 2) + 1 := by lia
          have : ((n : Nat) : Int) % 2 = 1 := by lia
          rw [this, e, Int.pow_succ, Int.pow_mul]; exact (by rw [show ((-1 : Int) ^ 2) = 1 from rfl, Int.one_pow]; rfl)
      rw [this] at q
      exact q
    · rw [if_neg h3, if_neg]
      · rw [Int.toNat_natCast]; exact q
      · intro hh
        have h4 : ((Builtin.Int.intBits x : Nat) : Int) * (n : Int) > ((bitsLine : Nat) : Int) := of_decide_eq_true hh
        have h5 : ((Builtin.Int.intBits x * n : Nat) : Int) > ((bitsLine : Nat) : Int) := by rw [Int.natCast_mul]; exact h4
        have h6 : bitsLine = 134217728 := by decide
        lia
end intOps

section cmp
variable {x y : Int}
theorem cmp_int {op : CmpOp} {b : Bool} (hz : ∀ {A : Around} {E : Value → Shared → Prop} {s : Shared} {t u : Tok} {Q : Value → Shared → Prop}, Q (.bool b) s → wpAny c.M A (compareOp op (.int x t) (.int y u)) Q E s)
    (h : P (.bool b) σ) : Op2 c d (compareOp op) (.int x) (.int y) σ P := by
  intro A s E ca cb _ st ra rb
  simp only [VRel] at ra rb; obtain ⟨t, rfl⟩ := ra; obtain ⟨u, rfl⟩ := rb
  exact hz (Post.same' st h (by simp only [VRel]))
theorem Cmp_eq (h : P (.bool (x == y)) σ) : Op2 c d (compareOp .Eq) (.int x) (.int y) σ P := cmp_int (fun q => PySem.P.eq_int q) h
theorem Cmp_ne (h : P (.bool (x != y)) σ) : Op2 c d (compareOp .NotEq) (.int x) (.int y) σ P := cmp_int (fun q => PySem.P.ne_int q) h
theorem Cmp_lt (h : P (.bool (decide (x < y))) σ) : Op2 c d (compareOp .Lt) (.int x) (.int y) σ P := cmp_int (fun q => PySem.P.lt_int q) h
theorem Cmp_le (h : P (.bool (decide (x ≤ y))) σ) : Op2 c d (compareOp .LtE) (.int x) (.int y) σ P := cmp_int (fun q => PySem.P.le_int q) h
theorem Cmp_gt (h : P (.bool (decide (y < x))) σ) : Op2 c d (compareOp .Gt) (.int x) (.int y) σ P := cmp_int (fun q => PySem.P.gt_int q) h
theorem Cmp_ge (h : P (.bool (decide (y ≤ x))) σ) : Op2 c d (compareOp .GtE) (.int x) (.int y) σ P := cmp_int (fun q => PySem.P.ge_int q) h
end cmp

theorem str_beq (x y : Str) : (x.cps.toList == y.cps.toList) = (x == y) := by
  by_cases e : x = y
  · subst e; simp
  · have : ¬ x.cps.toList = y.cps.toList := fun q => e (by obtain ⟨a⟩ := x; obtain ⟨b⟩ := y; exact congrArg Str.mk (Array.toList_inj.mp q))
    rw [beq_eq_false_iff_ne.mpr e, beq_eq_false_iff_ne.mpr this]
theorem Cmp_eq_str {x y : Str} (h : P (.bool (x == y)) σ) : Op2 c d (compareOp .Eq) (.str x) (.str y) σ P := by
  intro A s E ca cb _ st ra rb
  simp only [VRel] at ra rb; obtain ⟨t, rfl⟩ := ra; obtain ⟨u, rfl⟩ := rb
  refine PySem.P.eq_str (Post.same' st h ?_)
  simp only [VRel]
  rw [str_beq]
theorem Cmp_ne_str {x y : Str} (h : P (.bool (x != y)) σ) : Op2 c d (compareOp .NotEq) (.str x) (.str y) σ P := by
  intro A s E ca cb _ st ra rb
  simp only [VRel] at ra rb; obtain ⟨t, rfl⟩ := ra; obtain ⟨u, rfl⟩ := rb
  refine PySem.P.ne_str (Post.same' st h ?_)
  simp only [VRel]
  rw [bne, bne, str_beq]
theorem Cmp_in_str {x y : Str} (h : P (.bool (Txt.contains x y)) σ) : Op2 c d (compareOp .In) (.str y) (.str x) σ P := by
  intro A s E ca cb _ st ra rb
  simp only [VRel] at ra rb; obtain ⟨t, rfl⟩ := ra; obtain ⟨u, rfl⟩ := rb
  exact PySem.P.in_str (Post.same' st h (by simp only [VRel]; rfl))
theorem Cmp_notIn_str {x y : Str} (h : P (.bool (!Txt.contains x y)) σ) : Op2 c d (compareOp .NotIn) (.str y) (.str x) σ P := by
  intro A s E ca cb _ st ra rb
  simp only [VRel] at ra rb; obtain ⟨t, rfl⟩ := ra; obtain ⟨u, rfl⟩ := rb
  exact PySem.P.notIn_str (Post.same' st h (by simp only [VRel]; rfl))

theorem WE_cmp {l r' : Expr} {op : CmpOp} {pos : Pos} (h : WE c d sc l m σ (fun a σ₁ => WE c d sc r' m σ₁ (fun b σ₂ => Op2 c d (compareOp op) a b σ₂ P) X) X)
    (hm : behindInMarks op r' = false) : WE c d sc (.Compare l [op] [r'] pos) m σ P X := by
  intro env A s E r
  refine wpAny_Compare1 (wpAny_mono (h env A s E r) ?_ fun z1 z2 x => x) hm
  rintro ca s₁ ⟨a, σ₁, h₁, t₁, hs₁, ra⟩
  refine wpAny_mono (h₁ env A s₁ E (r.step t₁ hs₁)) ?_ fun z1 z2 x => x
  rintro cb s₂ ⟨b, σ₂, h₂, t₂, hs₂, rb⟩
  exact wpAny_mono (h₂ A s₂ E ca cb r.a hs₂ (t₂.v ra) rb) (fun z1 z2 p => (p.step t₂).step t₁) fun z1 z2 x => x

theorem compareChain2 (pos : Pos) (left : Value) (op1 op2 : CmpOp) (x y : Sem Value) : compareChain pos left [op1, op2] [x, y] = (do
    let rv ← holding [left] x
    standAt pos
    let c ← holding [left, rv] (compareOp op1 left rv)
    release [left, rv] [c]
    if ← holding [c, rv] (truthy c) then (do
      let rw' ← holding [rv] y
      standAt pos
      operate [rv, rw'] (compareOp op2 rv rw')) else pure c) := rfl
theorem testChain2 (pos : Pos) (left : Value) (op1 op2 : CmpOp) (x y : Sem Value) : testChain pos left [op1, op2] [x, y] = (do
    let rv ← holding [left] x
    standAt pos
    let c ← holding [left, rv] (compareOp op1 left rv)
    release [left, rv] [c]
    if ← holding [c, rv] (truthy c) then (do
      let rw' ← holding [rv] y
      standAt pos
      let c ← operate [rv, rw'] (compareOp op2 rv rw')
      holding [c] (truthy c)) else pure false) := rfl
theorem wpAny_release {M : Model} {A : Around} {E : Value → Shared → Prop} {s : Shared} {vs keep : List Value} {Q : Unit → Shared → Prop} (h : Q () s) : wpAny M A (release vs keep) Q E s :=
  fun Γ p z1 => by rw [Sem.wp_release]; exact h
theorem wpAny_operate' {M : Model} {A : Around} {E : Value → Shared → Prop} {s : Shared} {vs : List Value} {t : Sem Value} {Q : Value → Shared → Prop} (h : wpAny M A t Q E s) : wpAny M A (operate vs t) Q E s :=
  fun Γ p hΓ => by rw [Sem.wp_operate]; exact h Γ p hΓ

theorem WE_cmp2 {l r₁ r₂ : Expr} {op₁ op₂ : CmpOp} {pos : Pos}
    (h : WE c d sc l m σ (fun a σ₁ => WE c d sc r₁ m σ₁ (fun b σ₂ => Op2 c d (compareOp op₁) a b σ₂ (fun v σ₃ => ∃ t, v = .bool t ∧
      if t = true then WE c d sc r₂ m σ₃ (fun b' σ₄ => Op2 c d (compareOp op₂) b b' σ₄ P) X else P (.bool false) σ₃)) X) X)
    (hm₂ : behindInMarks op₂ r₂ = false) : WE c d sc (.Compare l [op₁, op₂] [r₁, r₂] pos) m σ P X := by
  intro env A s E r
  show wpAny _ _ (do compareChain pos (← eval l env) [op₁, op₂] [eval r₁ env, markedBehindIn op₂ r₂ (eval r₂ env)]) _ _ _
  rw [markedBehindIn_of_false hm₂]
  refine wpAny_bind (wpAny_mono (h env A s E r) ?_ fun z1 z2 x => x)
  rintro ca s₁ ⟨a, σ₁, h₁, t₁, hs₁, ra⟩
  rw [compareChain2]
  refine wpAny_bind (wpAny_holding (wpAny_mono (h₁ env A s₁ E (r.step t₁ hs₁)) ?_ fun z1 z2 x => x))
  rintro cb s₂ ⟨b, σ₂, h₂, t₂, hs₂, rb⟩
  refine wpAny_bind (wpAny_standAt (wpAny_bind (wpAny_holding (wpAny_mono (h₂ A s₂ E ca cb r.a hs₂ (t₂.v ra) rb) ?_ fun z1 z2 x => x))))
  rintro cv s₃ ⟨v, σ₃, ⟨t, rfl, h₃⟩, t₃, hs₃, rv⟩
  simp only [VRel] at rv; subst rv
  refine wpAny_bind (wpAny_release (wpAny_bind (wpAny_holding (wpAny_truthy_bool ?_))))
  cases t with
  | false => exact wpAny_pure (((Post.same' hs₃ h₃ (by simp only [VRel])).step t₃).step t₂ |>.step t₁)
  | true =>
    refine wpAny_bind (wpAny_holding (wpAny_mono (h₃ env A s₃ E (((r.step t₁ hs₁).step t₂ hs₂).step t₃ hs₃)) ?_ fun z1 z2 x => x))
    rintro cb' s₄ ⟨b', σ₄, h₄, t₄, hs₄, rb'⟩
    exact wpAny_bind (wpAny_standAt (wpAny_operate' (wpAny_mono (h₄ A s₄ E cb cb' r.a hs₄ (t₄.v (t₃.v rb)) rb') (fun z1 z2 p => (((p.step t₄).step t₃).step t₂).step t₁) fun z1 z2 x => x)))

theorem WT_value {e : Expr} {P : Bool → Led → Prop} (h : WE c d sc e m σ (fun v σ₁ => ∃ t, v = .bool t ∧ P t σ₁) X)
    (he : ∀ env whole, isTrue e env whole = (do let v ← whole; standAt e.pos; holding [v] (truthy v))) : WT c d sc e m σ P X := by
  intro env A s E r
  refine wpAny_isTrue_value (wpAny_mono (h env A s E r) ?_ fun z1 z2 x => x) (he _ _)
  rintro cv s₁ ⟨v, σ₁, ⟨t, rfl, h₁⟩, t₁, hs₁, rv⟩
  simp only [VRel] at rv; subst rv
  exact wpAny_truthy_bool ⟨σ₁, h₁, t₁, hs₁⟩
theorem WT_not {e : Expr} {pos : Pos} {P : Bool → Led → Prop} (h : WT c d sc e m σ (fun b σ₁ => P (!b) σ₁) X) : WT c d sc (.UnaryOp .Not e pos) m σ P X :=
  fun env A s E r => wpAny_isTrue_Not (wpAny_mono (h env A s E r) (fun z1 z2 p => p) fun z1 z2 x => x)
theorem WT_bool {op : BoolOp} {es : List Expr} {pos : Pos} {P : Bool → Led → Prop} (h : WTs c d sc op es m σ P X) : WT c d sc (.BoolOp op es pos) m σ P X :=
  fun env A s E r => wpAny_isTrue_BoolOp (h env A s E r)
theorem WTs_and_nil {P : Bool → Led → Prop} (h : P true σ) : WTs c d sc .And [] m σ P X := fun z1 z2 z3 z4 r => wpAny_allTrue_And_nil ⟨σ, h, .refl, r.st⟩
theorem WTs_or_nil {P : Bool → Led → Prop} (h : P false σ) : WTs c d sc .Or [] m σ P X := fun z1 z2 z3 z4 r => wpAny_allTrue_Or_nil ⟨σ, h, .refl, r.st⟩
theorem WTs_and {e : Expr} {es : List Expr} {P : Bool → Led → Prop} (h : WT c d sc e m σ (fun b σ₁ => if b = true then WTs c d sc .And es m σ₁ P X else P false σ₁) X) : WTs c d sc .And (e :: es) m σ P X := by
  intro env A s E r
  refine wpAny_allTrue_And_cons (wpAny_mono (h env A s E r) ?_ fun z1 z2 x => x)
  rintro b s₁ ⟨σ₁, h₁, t₁, hs₁⟩
  cases b with
  | true => exact wpAny_mono (h₁ env A s₁ E (r.step t₁ hs₁)) (fun z1 z2 p => p.step t₁) fun z1 z2 x => x
  | false => exact ⟨σ₁, h₁, t₁, hs₁⟩
theorem WTs_or {e : Expr} {es : List Expr} {P : Bool → Led → Prop} (h : WT c d sc e m σ (fun b σ₁ => if b = true then P true σ₁ else WTs c d sc .Or es m σ₁ P X) X) : WTs c d sc .Or (e :: es) m σ P X := by
  intro env A s E r
  refine wpAny_allTrue_Or_cons (wpAny_mono (h env A s E r) ?_ fun z1 z2 x => x)
  rintro b s₁ ⟨σ₁, h₁, t₁, hs₁⟩
  cases b with
  | false => exact wpAny_mono (h₁ env A s₁ E (r.step t₁ hs₁)) (fun z1 z2 p => p.step t₁) fun z1 z2 x => x
  | true => exact ⟨σ₁, h₁, t₁, hs₁⟩
theorem WT_cmp {l r' : Expr} {op : CmpOp} {pos : Pos} {P : Bool → Led → Prop} (h : WE c d sc l m σ (fun a σ₁ => WE c d sc r' m σ₁ (fun b σ₂ => Op2 c d (compareOp op) a b σ₂ (fun v σ₃ => ∃ t, v = .bool t ∧ P t σ₃)) X) X)
    (hm : behindInMarks op r' = false) : WT c d sc (.Compare l [op] [r'] pos) m σ P X := by
  intro env A s E r
  refine wpAny_isTrue_Compare1 (wpAny_mono (h env A s E r) ?_ fun z1 z2 x => x) hm
  rintro ca s₁ ⟨a, σ₁, h₁, t₁, hs₁, ra⟩
  refine wpAny_mono (h₁ env A s₁ E (r.step t₁ hs₁)) ?_ fun z1 z2 x => x
  rintro cb s₂ ⟨b, σ₂, h₂, t₂, hs₂, rb⟩
  refine wpAny_mono (h₂ A s₂ E ca cb r.a hs₂ (t₂.v ra) rb) ?_ fun z1 z2 x => x
  rintro cv s₃ ⟨v, σ₃, ⟨t, rfl, h₃⟩, t₃, hs₃, rv⟩
  simp only [VRel] at rv; subst rv
  exact wpAny_truthy_bool ⟨σ₃, h₃, (t₁.trans t₂).trans t₃, hs₃⟩
theorem WT_cmp2 {l r₁ r₂ : Expr} {op₁ op₂ : CmpOp} {pos : Pos} {P : Bool → Led → Prop}
    (h : WE c d sc l m σ (fun a σ₁ => WE c d sc r₁ m σ₁ (fun b σ₂ => Op2 c d (compareOp op₁) a b σ₂ (fun v σ₃ => ∃ t, v = .bool t ∧
      if t = true then WE c d sc r₂ m σ₃ (fun b' σ₄ => Op2 c d (compareOp op₂) b b' σ₄ (fun v σ₅ => ∃ t, v = .bool t ∧ P t σ₅)) X else P false σ₃)) X) X)
    (hm₂ : behindInMarks op₂ r₂ = false) : WT c d sc (.Compare l [op₁, op₂] [r₁, r₂] pos) m σ P X := by
  intro env A s E r
  show wpAny _ _ (do testChain pos (← eval l env) [op₁, op₂] [eval r₁ env, markedBehindIn op₂ r₂ (eval r₂ env)]) _ _ _
  rw [markedBehindIn_of_false hm₂]
  refine wpAny_bind (wpAny_mono (h env A s E r) ?_ fun z1 z2 x => x)
  rintro ca s₁ ⟨a, σ₁, h₁, t₁, hs₁, ra⟩
  rw [testChain2]
  refine wpAny_bind (wpAny_holding (wpAny_mono (h₁ env A s₁ E (r.step t₁ hs₁)) ?_ fun z1 z2 x => x))
  rintro cb s₂ ⟨b, σ₂, h₂, t₂, hs₂, rb⟩
  refine wpAny_bind (wpAny_standAt (wpAny_bind (wpAny_holding (wpAny_mono (h₂ A s₂ E ca cb r.a hs₂ (t₂.v ra) rb) ?_ fun z1 z2 x => x))))
  rintro cv s₃ ⟨v, σ₃, ⟨t, rfl, h₃⟩, t₃, hs₃, rv⟩
  simp only [VRel] at rv; subst rv
  refine wpAny_bind (wpAny_release (wpAny_bind (wpAny_holding (wpAny_truthy_bool ?_))))
  cases t with
  | false => exact wpAny_pure ⟨σ₃, h₃, (t₁.trans t₂).trans t₃, hs₃⟩
  | true =>
    refine wpAny_bind (wpAny_holding (wpAny_mono (h₃ env A s₃ E (((r.step t₁ hs₁).step t₂ hs₂).step t₃ hs₃)) ?_ fun z1 z2 x => x))
    rintro cb' s₄ ⟨b', σ₄, h₄, t₄, hs₄, rb'⟩
    refine wpAny_bind (wpAny_standAt (wpAny_bind (wpAny_operate' (wpAny_mono (h₄ A s₄ E cb cb' r.a hs₄ (t₄.v (t₃.v rb)) rb') ?_ fun z1 z2 x => x))))
    rintro cv s₅ ⟨v, σ₅, ⟨t, rfl, h₅⟩, t₅, hs₅, rv⟩
    simp only [VRel] at rv; subst rv
    exact wpAny_holding (wpAny_truthy_bool ⟨σ₅, h₅, ((((t₁.trans t₂).trans t₃).trans t₄).trans t₅), hs₅⟩)

theorem WE_ifexp {t b o : Expr} {pos : Pos} (h : WT c d sc t m σ (fun k σ₁ => if k = true then WE c d sc b m σ₁ P X else WE c d sc o m σ₁ P X) X) : WE c d sc (.IfExp t b o pos) m σ P X := by
  intro env A s E r
  refine wpAny_IfExp (wpAny_mono (h env A s E r) ?_ fun z1 z2 x => x)
  rintro k s₁ ⟨σ₁, h₁, t₁, hs₁⟩
  cases k with
  | true => exact wpAny_mono (h₁ env A s₁ E (r.step t₁ hs₁)) (fun z1 z2 p => p.step t₁) fun z1 z2 x => x
  | false => exact wpAny_mono (h₁ env A s₁ E (r.step t₁ hs₁)) (fun z1 z2 p => p.step t₁) fun z1 z2 x => x

theorem WE_boolop {op : BoolOp} {es : List Expr} {pos : Pos} (h : WEb c d sc op es m σ P X) : WE c d sc (.BoolOp op es pos) m σ P X :=
  fun env A s E r => h env A s E pos r
theorem WEb_one {op : BoolOp} {e : Expr} (h : WE c d sc e m σ P X) : WEb c d sc op [e] m σ P X := fun env A s E z1 r => h env A s E r
theorem WEb_and {e e' : Expr} {es : List Expr} (h : WE c d sc e m σ (fun v σ₁ => ∃ t, v = .bool t ∧ if t = true then WEb c d sc .And (e' :: es) m σ₁ P X else P (.bool false) σ₁) X) : WEb c d sc .And (e :: e' :: es) m σ P X := by
  intro env A s E pos r
  show wpAny _ _ (do let v ← eval e env; standAt pos; let t ← holding [v] (truthy v); match BoolOp.And, t with | .And, false | .Or, true => pure v | _, _ => boolOp pos .And (evalEach (e' :: es) env)) _ _ _
  refine wpAny_bind (wpAny_mono (h env A s E r) ?_ fun z1 z2 x => x)
  rintro cv s₁ ⟨v, σ₁, ⟨t, rfl, h₁⟩, t₁, hs₁, rv⟩
  simp only [VRel] at rv; subst rv
  refine wpAny_bind (wpAny_standAt (wpAny_bind (wpAny_holding (wpAny_truthy_bool ?_))))
  cases t with
  | false => exact wpAny_pure ((Post.same' hs₁ h₁ (by simp only [VRel])).step t₁)
  | true => exact wpAny_mono (h₁ env A s₁ E pos (r.step t₁ hs₁)) (fun z1 z2 p => p.step t₁) fun z1 z2 x => x
theorem WEb_or {e e' : Expr} {es : List Expr} (h : WE c d sc e m σ (fun v σ₁ => ∃ t, v = .bool t ∧ if t = true then P (.bool true) σ₁ else WEb c d sc .Or (e' :: es) m σ₁ P X) X) : WEb c d sc .Or (e :: e' :: es) m σ P X := by
  intro env A s E pos r
  show wpAny _ _ (do let v ← eval e env; standAt pos; let t ← holding [v] (truthy v); match BoolOp.Or, t with | .And, false | .Or, true => pure v | _, _ => boolOp pos .Or (evalEach (e' :: es) env)) _ _ _
  refine wpAny_bind (wpAny_mono (h env A s E r) ?_ fun z1 z2 x => x)
  rintro cv s₁ ⟨v, σ₁, ⟨t, rfl, h₁⟩, t₁, hs₁, rv⟩
  simp only [VRel] at rv; subst rv
  refine wpAny_bind (wpAny_standAt (wpAny_bind (wpAny_holding (wpAny_truthy_bool ?_))))
  cases t with
  | true => exact wpAny_pure ((Post.same' hs₁ h₁ (by simp only [VRel])).step t₁)
  | false => exact wpAny_mono (h₁ env A s₁ E pos (r.step t₁ hs₁)) (fun z1 z2 p => p.step t₁) fun z1 z2 x => x

theorem Op_not {b : Bool} (h : P (.bool (!b)) σ) : Op1 c d (unaryOp .Not) (.bool b) σ P := by
  intro A s E ca _ st ra
  simp only [VRel] at ra; subst ra
  exact PyProof.Rows.not_of (wpAny_truthy_bool (Post.same' st h (by simp only [VRel])))

end Mine
end

section
set_option Elab.async false
set_option linter.unusedVariables false
set_option linter.unusedSimpArgs false
namespace Mine
open PySem

variable {c : Cx} {d : Nat} {sc : Scope} {m : AEnv} {σ : Led} {P : V → Led → Prop} {X : XP}

noncomputable def Ext (h h' : Heap) : Prop := ∀ b o, h.get? b = some o → h'.get? b = some o
theorem Ext.refl {h : Heap} : Ext h h := fun z1 z2 e => e
theorem Ext.trans {h h' h'' : Heap} (x : Ext h h') (y : Ext h' h'') : Ext h h'' := fun b o e => y b o (x b o e)
theorem Ext.push {h : Heap} (o : Obj) : Ext h (h.push o) := fun z1 z2 e => Heap.get?_push_of_some o e
theorem Ext.kept {own : List Addr} {h h' : Heap} (x : Ext h h') : Kept own h h' := Kept.of fun b o e z1 => x b o e
theorem Grow.refl {own : List Addr} {h : Heap} : Grow own own h := fun z1 h => .inl h
theorem Step.ext {F own : List Addr} {s s' : Shared} (x : Ext s.heap s'.heap) (ho : s'.os = s.os) (hg : s'.gens = s.gens) : Step F own own s s' := ⟨x.kept, fun b o e => ⟨o, x b o e⟩, fun b z1 o e => x b o e, .refl, ho, hg⟩

theorem PlainSeq.ext {h h' : Heap} (x : Ext h h') {T : String} {a : Addr} {cs : List Value} (p : PlainSeq h T a cs) : PlainSeq h' T a cs := let ⟨n, e⟩ := p; ⟨n, x _ _ e⟩

theorem ORel.mono {K : Base} {own own' : List Addr} {h h' : Heap} (k : Ext h h') (g : Grow own own' h) {a : Addr} {o : O} (r : ORel K h own a o) : ORel K h' own' a o := by
  cases o with
  | list vs => obtain ⟨cs, p, hl, r⟩ := r; exact ⟨cs, p.ext k, hl, VRels.mono k.kept g vs cs r⟩
  | dictI _ => exact DictR.carry r (k a) (k.kept.carries g)
  | dictS _ => exact DictR.carry r (k a) (k.kept.carries g)
  | inst _ _ _ => exact r.elim
  | exc C => obtain ⟨o, vs, e, q⟩ := r; exact ⟨o, vs, k a _ e, q⟩

theorem ORel.there {K : Base} {own : List Addr} {h : Heap} {a b : Addr} {o : O} (r : ORel K h own a o) (hb : b ∈ o.addrs a) : ∃ ob, h.get? b = some ob := by
  cases o with
  | list vs => obtain ⟨cs, ⟨n, e⟩, _⟩ := r; simp only [O.addrs, List.mem_singleton] at hb; subst hb; exact ⟨_, e⟩
  | dictI _ => simp only [O.addrs, List.mem_singleton] at hb; subst hb; exact DictR.there r
  | dictS _ => simp only [O.addrs, List.mem_singleton] at hb; subst hb; exact DictR.there r
  | inst _ _ _ => exact r.elim
  | exc C => obtain ⟨o, vs, e, q⟩ := r; simp only [O.addrs, List.mem_singleton] at hb; subst hb; exact ⟨o, e⟩

theorem mem_owned : ∀ {σ : Led} {b : Addr}, b ∈ owned σ ↔ ∃ a o, (a, o) ∈ σ ∧ b ∈ o.addrs a
  | [], b => by simp [owned]
  | (a, o) :: r, b => by
    simp only [owned, List.mem_append, List.mem_cons, mem_owned (σ := r)]
    constructor
    · rintro (h | ⟨a', o', h, h'⟩)
      · exact ⟨a, o, .inl rfl, h⟩
      · exact ⟨a', o', .inr h, h'⟩
    · rintro ⟨a', o', h | h, h'⟩
      · cases h; exact .inl h'
      · exact .inr ⟨a', o', h, h'⟩

theorem St.there {A : Around} {h : Heap} (st : St c A σ h) {b : Addr} (hb : b ∈ owned σ) : ∃ ob, h.get? b = some ob := by
  obtain ⟨a, o, hm, hb⟩ := mem_owned.mp hb
  exact (st.objs a o hm).there hb
theorem St.new {A : Around} {h : Heap} (st : St c A σ h) : h.objs.size ∉ owned σ := fun hm => by
  obtain ⟨ob, e⟩ := st.there hm
  exact Nat.lt_irrefl _ (Heap.lt_size e)
theorem St.newS {A : Around} {h : Heap} (st : St c A σ h) : h.objs.size ∉ ownS c σ := fun hm => by
  rcases List.mem_append.mp hm with q | q
  · obtain ⟨_, o, e⟩ := st.hid _ q
    exact Nat.lt_irrefl _ (Heap.lt_size e)
  · exact st.new q
theorem get?_size (h : Heap) : h.get? h.objs.size = none := by
  cases e : h.get? h.objs.size with
  | none => rfl
  | some o => exact absurd (Heap.lt_size e) (Nat.lt_irrefl _)

theorem St.newF {A : Around} {h : Heap} (st : St c A σ h) : h.objs.size ∉ c.F := fun hm => by
  obtain ⟨o, e⟩ := st.prot _ hm
  rw [get?_size] at e; cases e
theorem St.ext {A : Around} {h h' : Heap} (st : St c A σ h) (x : Ext h h') : St c A σ h' := by
  refine ⟨fun b o e => x b o (st.keep b o e), st.nodup, st.fresh, fun a o hm => (st.objs a o hm).mono x .refl, ?_, fun b hb => let ⟨o, e⟩ := st.prot b hb; ⟨o, x b o e⟩, fun b hb => let ⟨q, o, e⟩ := st.hid b hb; ⟨q, o, x b o e⟩⟩
  obtain ⟨l, hl, hf, hd⟩ := st.frames
  refine ⟨l, hl, hf.of_keeps fun b o e z1 => ⟨o, x b o e, rfl⟩, fun L hL => ⟨(hd L hL).1, (hd L hL).2.1, fun o e => ?_⟩⟩
  obtain ⟨_, o', e', _⟩ := hf.mem hL
  rw [x L o' e'] at e; cases e
  exact (hd L hL).2.2 o e'

theorem St.alloc {A : Around} {h h' : Heap} {a : Addr} {o : O} (st : St c A σ h) (x : Ext h h') (hn : ∀ b ∈ o.addrs a, h.get? b = none) (hnd : (o.addrs a).Nodup)
    (hr : ORel c.k h' (ownS c ((a, o) :: σ)) a o) : St c A ((a, o) :: σ) h' := by
  have hg : Grow (owned σ) (owned ((a, o) :: σ)) h := fun b hb => by
    rcases List.mem_append.mp hb with q | q
    · exact .inr (hn b q)
    · exact .inl q
  refine ⟨fun b o e => x b o (st.keep b o e), ?_, ?_, ?_, ?_, fun b hb => let ⟨o, e⟩ := st.prot b hb; ⟨o, x b o e⟩, fun b hb => let ⟨q, o, e⟩ := st.hid b hb; ⟨fun z => hg.notin q e z, o, x b o e⟩⟩
  · refine List.nodup_append.mpr ⟨hnd, st.nodup, fun b hb b' hb' e => ?_⟩
    subst e
    obtain ⟨ob, e⟩ := st.there hb'
    rw [hn b hb] at e; cases e
  · intro b hb
    rcases List.mem_append.mp hb with q | q
    · cases e : c.k.h0.get? b with
      | none => rfl
      | some ob => have := st.keep _ _ e; rw [hn b q] at this; cases this
    · exact st.fresh b q
  · intro a' o' hm
    rcases List.mem_cons.mp hm with q | q
    · cases q; exact hr
    · exact (st.objs a' o' q).mono x hg.wider
  · obtain ⟨l, hl, hf, hd⟩ := st.frames
    refine ⟨l, hl, hf.of_keeps fun b o e z1 => ⟨o, x b o e, rfl⟩, fun L hL => ⟨fun hm => ?_, (hd L hL).2.1, fun o e => ?_⟩⟩
    · obtain ⟨_, o', e', _⟩ := hf.mem hL
      exact hg.notin (hd L hL).1 e' hm
    · obtain ⟨_, o', e', _⟩ := hf.mem hL
      rw [x L o' e'] at e; cases e
      exact (hd L hL).2.2 o e'
theorem Grow.alloc {h : Heap} {a : Addr} {o : O} (hn : ∀ b ∈ o.addrs a, h.get? b = none) : Grow (owned σ) (owned ((a, o) :: σ)) h := fun b hb => by
  rcases List.mem_append.mp hb with q | q
  · exact .inr (hn b q)
  · exact .inl q

theorem Post.newSeq {A : Around} {s : Shared} {T : String} {cs : List Value} {vs : List V} {v : V} {n : Nat} (st : St c A σ s.heap) (hl : cs.length ≤ sizeLine) (r : VRels s.heap (ownS c σ) vs cs)
    (hv : ∀ h own, VRel h own v (.ref s.heap.objs.size) ↔ ∃ a cs, Value.ref s.heap.objs.size = .ref a ∧ a ∉ own ∧ PlainSeq h T a cs ∧ cs.length ≤ sizeLine ∧ VRels h own vs cs) (h : P v σ) :
    Post c A σ s P (.ref s.heap.objs.size) { s with heap := s.heap.push { cls := .type T, data := .seq cs.toArray n } } := by
  refine ⟨v, σ, h, .ext (.push _) rfl rfl, st.ext (.push _), (hv _ _).mpr ⟨_, cs, rfl, st.newS, ⟨n, Heap.get?_push_size _ rfl⟩, hl, VRels.mono (Ext.push _).kept .refl vs cs r⟩⟩
theorem Post.newTup {A : Around} {s : Shared} {cs : List Value} {vs : List V} {n : Nat} (st : St c A σ s.heap) (hl : cs.length ≤ sizeLine) (r : VRels s.heap (ownS c σ) vs cs) (h : P (.tup vs) σ) :
    Post c A σ s P (.ref s.heap.objs.size) { s with heap := s.heap.push { cls := .type "tuple", data := .seq cs.toArray n } } := Post.newSeq st hl r (fun z1 z2 => by simp only [VRel]) h
theorem Post.newLst {A : Around} {s : Shared} {cs : List Value} {vs : List V} {n : Nat} (st : St c A σ s.heap) (hl : cs.length ≤ sizeLine) (r : VRels s.heap (ownS c σ) vs cs) (h : P (.lst vs) σ) :
    Post c A σ s P (.ref s.heap.objs.size) { s with heap := s.heap.push { cls := .type "list", data := .seq cs.toArray n } } := Post.newSeq st hl r (fun z1 z2 => by simp only [VRel]) h
theorem Post.newLoc {A : Around} {s : Shared} {cs : List Value} {vs : List V} {n : Nat} (st : St c A σ s.heap) (hl : cs.length ≤ sizeLine) (r : VRels s.heap (ownS c σ) vs cs) (h : ∀ a, a ∉ owned σ → a ∉ c.F → P (.ref a) ((a, .list vs) :: σ)) :
    Post c A σ s P (.ref s.heap.objs.size) { s with heap := s.heap.push { cls := .type "list", data := .seq cs.toArray n } } := by
  have hn : ∀ b ∈ (O.list vs).addrs s.heap.objs.size, s.heap.get? b = none := fun b hb => by
    simp only [O.addrs, List.mem_singleton] at hb; subst hb; exact get?_size _
  refine ⟨.ref s.heap.objs.size, _, h _ st.new st.newF, ⟨(Ext.push _).kept, fun b o e => ⟨o, Ext.push _ b o e⟩, fun b z1 o e => Ext.push _ b o e, .alloc hn, rfl, rfl⟩, st.alloc (.push _) hn (by simp [O.addrs]) ?_, by simp only [VRel]⟩
  exact ⟨cs, ⟨n, Heap.get?_push_size _ rfl⟩, hl, VRels.mono (Ext.push _).kept (Grow.alloc hn).wider vs cs r⟩

theorem VRels.length {h : Heap} {own : List Addr} : ∀ {vs : List V} {cs : List Value}, VRels h own vs cs → cs.length = vs.length
  | [], _, r => by simp only [VRels] at r; subst r; rfl
  | v :: vs, cs, r => by
    simp only [VRels] at r
    obtain ⟨c, cs', rfl, _, r⟩ := r
    simp [r.length]
theorem VRels.get {h : Heap} {own : List Addr} : ∀ {vs : List V} {cs : List Value} {i : Nat} {v : V}, VRels h own vs cs → vs[i]? = some v → ∃ cv, cs[i]? = some cv ∧ VRel h own v cv
  | [], _, _, _, _, e => by simp at e
  | v :: vs, cs, 0, _, r, e => by
    simp only [VRels] at r
    obtain ⟨c, cs', rfl, r1, r⟩ := r
    simp only [List.getElem?_cons_zero, Option.some.injEq] at e; subst e
    exact ⟨c, rfl, r1⟩
  | v :: vs, cs, i + 1, w, r, e => by
    simp only [VRels] at r
    obtain ⟨c, cs', rfl, r1, r⟩ := r
    simp only [List.getElem?_cons_succ] at e ⊢
    exact r.get e
theorem VRels.drop {h : Heap} {own : List Addr} : ∀ {vs : List V} {cs : List Value} (n : Nat), VRels h own vs cs → VRels h own (vs.drop n) (cs.drop n)
  | _, _, 0, r => r
  | [], cs, n + 1, r => by simp only [VRels] at r; subst r; simp [VRels]
  | v :: vs, cs, n + 1, r => by
    simp only [VRels] at r
    obtain ⟨c, cs', rfl, _, r⟩ := r
    exact r.drop n
theorem VRels.take {h : Heap} {own : List Addr} : ∀ {vs : List V} {cs : List Value} (n : Nat), VRels h own vs cs → VRels h own (vs.take n) (cs.take n)
  | vs, cs, 0, r => by simp [VRels]
  | [], cs, n + 1, r => by simp only [VRels] at r; subst r; simp [VRels]
  | v :: vs, cs, n + 1, r => by
    simp only [VRels] at r
    obtain ⟨c, cs', rfl, r1, r⟩ := r
    simp only [List.take_succ_cons, VRels]
    exact ⟨c, _, rfl, r1, r.take n⟩
theorem VRels.append {h : Heap} {own : List Addr} : ∀ {vs ws : List V} {cs ds : List Value}, VRels h own vs cs → VRels h own ws ds → VRels h own (vs ++ ws) (cs ++ ds)
  | [], ws, cs, ds, r, r' => by simp only [VRels] at r; subst r; exact r'
  | v :: vs, ws, cs, ds, r, r' => by
    simp only [VRels] at r
    obtain ⟨c, cs', rfl, r1, r⟩ := r
    simp only [List.cons_append, VRels]
    exact ⟨c, _, rfl, r1, r.append r'⟩
theorem VRels.one {h : Heap} {own : List Addr} {v : V} {cv : Value} (r : VRel h own v cv) : VRels h own [v] [cv] := by simp only [VRels]; exact ⟨cv, [], rfl, r, rfl⟩
theorem VRels.set {h : Heap} {own : List Addr} : ∀ {vs : List V} {cs : List Value} (i : Nat) {v : V} {cv : Value}, VRels h own vs cs → VRel h own v cv → VRels h own (vs.set i v) (cs.set i cv)
  | [], cs, i, v, cv, r, _ => by simp only [VRels] at r; subst r; simp [VRels]
  | w :: vs, cs, 0, v, cv, r, r' => by
    simp only [VRels] at r
    obtain ⟨c, cs', rfl, r1, r⟩ := r
    simp only [List.set_cons_zero, VRels]; exact ⟨cv, cs', rfl, r', r⟩
  | w :: vs, cs, i + 1, v, cv, r, r' => by
    simp only [VRels] at r
    obtain ⟨c, cs', rfl, r1, r⟩ := r
    simp only [List.set_cons_succ, VRels]; exact ⟨c, _, rfl, r1, r.set i r'⟩

theorem WEs_nil {P : List V → Led → Prop} (h : P [] σ) : WEs c d sc [] m σ P X := fun env A s E pos r => ⟨rfl, Calls.spliced_nil ⟨[], σ, ⟨rfl, h⟩, .refl, r.st, by simp only [VRels]⟩⟩
theorem WEs_cons {e : Expr} {es : List Expr} {P : List V → Led → Prop} (h : WE c d sc e m σ (fun v σ₁ => WEs c d sc es m σ₁ (fun vs σ₂ => P (v :: vs) σ₂) X) X)
    (hstar : ∀ env, starEach (e :: es) env = (false, eval e env) :: starEach es env) (hstars : ∀ env, (starEach es env).any (·.1) = false) : WEs c d sc (e :: es) m σ P X := by
  intro env A s E pos r
  refine ⟨by rw [hstar]; simpa using hstars env, ?_⟩
  have hb : backTo pos (starEach (e :: es) env) = (false, eval e env) :: backTo pos (starEach es env) := by rw [hstar]; rfl
  rw [hb]
  refine Calls.spliced_cons (wpAny_mono (h env A s E r) ?_ fun z1 z2 x => x)
  rintro cv s₁ ⟨v, σ₁, h₁, t₁, hs₁, rv⟩
  refine wpAny_mono (h₁ env A s₁ E pos (r.step t₁ hs₁)).2 ?_ fun z1 z2 x => x
  rintro cvs s₂ ⟨vs, σ₂, ⟨hlen, h₂⟩, t₂, hs₂, rvs⟩
  exact ⟨v :: vs, σ₂, ⟨by simp [hlen], h₂⟩, t₁.trans t₂, hs₂, by simp only [VRels]; exact ⟨cv, cvs, rfl, t₂.v rv, rvs⟩⟩

theorem WE_tuple {es : List Expr} {k : Nat} {pos : Pos} (h : WEs c d sc es m σ (fun vs σ₁ => P (.tup vs) σ₁) X) (hl : es.length ≤ 1000) : WE c d sc (.Tuple es k pos) m σ P X := by
  intro env A s E r
  refine wpAny_Tuple_spliced (wpAny_mono (h env A s E pos r).2 ?_ fun z1 z2 x => x)
  rintro cvs s₁ ⟨vs, σ₁, ⟨hlen, h₁⟩, t₁, hs₁, rv⟩
  have hsz : cvs.length ≤ sizeLine := by rw [rv.length, hlen, sizeLine_eq]; (exact Mine.Ar.lin 0 1 (.le (.v 0) (.k 16777216)) [(.le (.v 0) (.k 1000))] (by kernel_rfl) [] [_] rfl rfl hl)
  exact ⟨hsz, (Post.newTup hs₁ hsz rv h₁).step t₁⟩
theorem WE_list {es : List Expr} {pos : Pos} (h : WEs c d sc es m σ (fun vs σ₁ => P (.lst vs) σ₁) X) (hl : es.length ≤ 1000) : WE c d sc (.List es pos) m σ P X := by
  intro env A s E r
  refine wpAny_List_spliced (wpAny_mono (h env A s E pos r).2 ?_ fun z1 z2 x => x)
  rintro cvs s₁ ⟨vs, σ₁, ⟨hlen, h₁⟩, t₁, hs₁, rv⟩
  have hsz : cvs.length ≤ sizeLine := by rw [rv.length, hlen, sizeLine_eq]; (exact Mine.Ar.lin 0 1 (.le (.v 0) (.k 16777216)) [(.le (.v 0) (.k 1000))] (by kernel_rfl) [] [_] rfl rfl hl)
  exact ⟨hsz, (Post.newLst hs₁ hsz rv h₁).step t₁⟩
theorem WE_list_loc {es : List Expr} {pos : Pos} (h : WEs c d sc es m σ (fun vs σ₁ => ∀ a, a ∉ owned σ₁ → a ∉ c.F → P (.ref a) ((a, .list vs) :: σ₁)) X) (hl : es.length ≤ 1000) : WE c d sc (.List es pos) m σ P X := by
  intro env A s E r
  refine wpAny_List_spliced (wpAny_mono (h env A s E pos r).2 ?_ fun z1 z2 x => x)
  rintro cvs s₁ ⟨vs, σ₁, ⟨hlen, h₁⟩, t₁, hs₁, rv⟩
  have hsz : cvs.length ≤ sizeLine := by rw [rv.length, hlen, sizeLine_eq]; (exact Mine.Ar.lin 0 1 (.le (.v 0) (.k 16777216)) [(.le (.v 0) (.k 1000))] (by kernel_rfl) [] [_] rfl rfl hl)
  exact ⟨hsz, (Post.newLoc hs₁ hsz rv h₁).step t₁⟩

theorem lookup_mem {σ : Led} {a : Addr} {o : O} (h : σ.lookup a = some o) : (a, o) ∈ σ := by
  induction σ with
  | nil => simp at h
  | cons x r ih =>
    obtain ⟨b, o'⟩ := x
    rw [List.lookup_cons] at h
    cases hb : a == b with
    | true => rw [hb] at h; cases h; rw [beq_iff_eq.mp hb]; exact .head _
    | false => rw [hb] at h; exact .tail _ (ih h)

inductive IsLst (σ : Led) : V → List V → Prop
  | lst (vs : List V) : IsLst σ (.lst vs) vs
  | ref {a : Addr} {vs : List V} : σ.lookup a = some (.list vs) → IsLst σ (.ref a) vs

theorem IsLst.plain {A : Around} {h : Heap} {v : V} {vs : List V} {cv : Value} (i : IsLst σ v vs) (st : St c A σ h) (r : VRel h (ownS c σ) v cv) :
    ∃ a cs, cv = .ref a ∧ PlainSeq h "list" a cs ∧ cs.length ≤ sizeLine ∧ VRels h (ownS c σ) vs cs := by
  cases i with
  | lst => simp only [VRel] at r; obtain ⟨a, cs, e, _, p, hl, r⟩ := r; exact ⟨a, cs, e, p, hl, r⟩
  | ref hl =>
    simp only [VRel] at r
    obtain ⟨cs, p, hl', r'⟩ := st.objs _ _ (lookup_mem hl)
    exact ⟨_, cs, r, p, hl', r'⟩
theorem PlainSeq.isList {h : Heap} {a : Addr} {cs : List Value} (p : PlainSeq h "list" a cs) : h.IsList a cs.toArray := let ⟨n, e⟩ := p; ⟨_, e, rfl, n, rfl⟩
theorem PlainSeq.isTuple {h : Heap} {a : Addr} {cs : List Value} (p : PlainSeq h "tuple" a cs) : h.IsTuple a cs.toArray := let ⟨n, e⟩ := p; ⟨_, e, rfl, n, rfl⟩

theorem WE_sub {v i : Expr} {pos : Pos} (h : WE c d sc v m σ (fun a σ₁ => WE c d sc i m σ₁ (fun b σ₂ => Op2 c d (PyProof.Rows.subscriptTail v i) a b σ₂ P) X) X) : WE c d sc (.Subscript v i pos) m σ P X := by
  intro env A s E r
  refine PyProof.Rows.Subscript_ (wpAny_mono (h env A s E r) ?_ fun z1 z2 x => x)
  rintro ca s₁ ⟨a, σ₁, h₁, t₁, hs₁, ra⟩
  refine wpAny_mono (h₁ env A s₁ E (r.step t₁ hs₁)) ?_ fun z1 z2 x => x
  rintro cb s₂ ⟨b, σ₂, h₂, t₂, hs₂, rb⟩
  exact wpAny_mono (h₂ A s₂ E ca cb r.a hs₂ (t₂.v ra) rb) (fun z1 z2 p => (p.step t₂).step t₁) fun z1 z2 x => x

noncomputable def place (i : Int) (n : Nat) : Option Nat := if 0 ≤ i then (if i < n then some i.toNat else none) else if 0 ≤ i + n then some (i + n).toNat else none
theorem seqIndex_place (i : Int) (n : Nat) : seqIndex? i n = place i n := by
  unfold place seqIndex?
  by_cases h : 0 ≤ i
  · have h' : ¬ i < 0 := by (exact Mine.Ar.lin 1 0 (.no (.ilt (.v 0) (.k 0))) [(.ile (.k 0) (.v 0))] (by kernel_rfl) [_] [] rfl rfl h)
    by_cases h2 : i < n <;> simp [h, h', h2]
  · have h' : i < 0 := by (exact Mine.Ar.lin 1 0 (.ilt (.v 0) (.k 0)) [(.no (.ile (.k 0) (.v 0)))] (by kernel_rfl) [_] [] rfl rfl h)
    by_cases h2 : 0 ≤ i + n
    · have : i + (n : Int) < n := by (exact Mine.Ar.lin 1 1 (.ilt (.a (.v 0) (.c (.v 0))) (.c (.v 0))) [(.no (.ile (.k 0) (.v 0)))] (by kernel_rfl) [_] [_] rfl rfl h)
      simp [h, h', h2, this]
    · simp [h, h', h2]
set_option tactic.hygienic true in
theorem place_lt {i : Int} {n j : Nat} (h : place i n = some j) : j < n ∧ -(n : Int) ≤ i ∧ i < n := by
  unfold place at h
  split at h
  · rename_i h0
    split at h
    · rename_i h1
      cases h
      exact ⟨(Int.toNat_lt h0).mpr h1, Int.le_trans (Int.neg_nonpos_of_nonneg (Int.natCast_nonneg n)) h0, h1⟩
    · cases h
  · rename_i h0
    split at h
    · rename_i h1
      cases h
      have h2 : i + n < n := Mine.Ar.lin 1 1 (.ilt (.a (.v 0) (.c (.v 0))) (.c (.v 0))) [(.no (.ile (.k 0) (.v 0)))] (by kernel_rfl) [_] [_] rfl rfl h0
      exact ⟨(Int.toNat_lt h1).mpr h2, Mine.Ar.lin 1 1 (.ile (.g (.c (.v 0))) (.v 0)) [(.ile (.k 0) (.a (.v 0) (.c (.v 0))))] (by kernel_rfl) [_] [_] rfl rfl h1, Mine.Ar.lin 1 1 (.ilt (.v 0) (.c (.v 0))) [(.no (.ile (.k 0) (.v 0)))] (by kernel_rfl) [_] [_] rfl rfl h0⟩
    · cases h
theorem place_nonneg {i : Int} {n : Nat} (h : 0 ≤ i) (h2 : i < n) : place i n = some i.toNat := by unfold place; rw [if_pos h, if_pos h2]

noncomputable def PlainIndex (slice : Expr) : Prop := ∀ o i, subscripted slice false o i = operate [o, i] (getItem o i)

theorem Op_item_at {v slice : Expr} {lv : V} {vs : List V} {i : Int} {j : Nat} {w : V} (hl : IsLst σ lv vs) (hj : place i vs.length = some j) (hw : vs[j]? = some w) (h : P w σ)
    (hs : PlainIndex slice) : Op2 c d (PyProof.Rows.subscriptTail v slice) lv (.int i) σ P := by
  intro A s E ca cb _ st ra rb
  obtain ⟨a, cs, rfl, p, hsz, rs⟩ := hl.plain st ra
  simp only [VRel] at rb; obtain ⟨u, rfl⟩ := rb
  obtain ⟨cv, hcv, rw'⟩ := rs.get hw
  have hlen := rs.length
  obtain ⟨hj1, hj2, hj3⟩ := place_lt hj
  have hsz' : sizeLine = 16777216 := by rw [sizeLine_eq]
  refine PyProof.Rows.tail_any (T := "list") p.isList.typeIs list_getitem_lookup ?_ (hs _ _)
  by_cases h0 : 0 ≤ i
  · have : j = i.toNat := by rw [place_nonneg h0 (by (exact Mine.Ar.lin 1 1 (.ilt (.v 0) (.c (.v 0))) [(.ilt (.v 0) (.c (.v 0)))] (by kernel_rfl) [_] [_] rfl rfl hj3))] at hj; exact (Option.some.inj hj).symm
    subst this
    exact wpAny_getItem_list p.isList h0 (by lia) (by simpa using hcv) (Post.same' st h rw')
  · have : j = (i + vs.length).toNat := by unfold place at hj; rw [if_neg h0, if_pos (by (exact Mine.Ar.lin 1 1 (.ile (.k 0) (.a (.v 0) (.c (.v 0)))) [(.ile (.g (.c (.v 0))) (.v 0))] (by kernel_rfl) [_] [_] rfl rfl hj2))] at hj; exact (Option.some.inj hj).symm
    subst this
    exact wpAny_getItem_list_neg p.isList (by (exact Mine.Ar.lin 1 0 (.ilt (.v 0) (.k 0)) [(.no (.ile (.k 0) (.v 0)))] (by kernel_rfl) [_] [] rfl rfl h0)) (by simp [hlen]; (exact Mine.Ar.lin 1 1 (.ile (.g (.c (.v 0))) (.v 0)) [(.ile (.g (.c (.v 0))) (.v 0))] (by kernel_rfl) [_] [_] rfl rfl hj2)) (by lia) (by simpa [hlen] using hcv) (Post.same' st h rw')
theorem Op_item {v slice : Expr} {lv : V} {vs : List V} {i : Int} {w : V} (hl : IsLst σ lv vs) (h0 : 0 ≤ i) (hw : vs[i.toNat]? = some w) (h : P w σ)
    (hs : PlainIndex slice) : Op2 c d (PyProof.Rows.subscriptTail v slice) lv (.int i) σ P :=
  Op_item_at hl (place_nonneg h0 (by have := (List.getElem?_eq_some_iff.mp hw).1; lia)) hw h hs

theorem Op_titem_at {v slice : Expr} {vs : List V} {i : Int} {j : Nat} {w : V} (hj : place i vs.length = some j) (hw : vs[j]? = some w) (h : P w σ)
    (hs : PlainIndex slice) : Op2 c d (PyProof.Rows.subscriptTail v slice) (.tup vs) (.int i) σ P := by
  intro A s E ca cb _ st ra rb
  simp only [VRel] at ra rb
  obtain ⟨a, cs, rfl, hno, ⟨n, e⟩, hsz, rs⟩ := ra
  obtain ⟨u, rfl⟩ := rb
  obtain ⟨cv, hcv, rw'⟩ := rs.get hw
  have hlen := rs.length
  obtain ⟨hj1, hj2, hj3⟩ := place_lt hj
  have hsz' : sizeLine = 16777216 := by rw [sizeLine_eq]
  refine PyProof.Rows.tail_any (T := "tuple") ⟨_, e, rfl⟩ F.slot_tuple_getitem.lookup ?_ (hs _ _)
  exact PySem.P.getItem_tuple (items := cs.toArray) e (by lia) (by lia) (by rw [seqIndex_place]; simpa [hlen] using hj) (by simpa using hcv) (Post.same' st h rw')
theorem Op_titem {v slice : Expr} {vs : List V} {i : Int} {w : V} (h0 : 0 ≤ i) (hw : vs[i.toNat]? = some w) (h : P w σ)
    (hs : PlainIndex slice) : Op2 c d (PyProof.Rows.subscriptTail v slice) (.tup vs) (.int i) σ P :=
  Op_titem_at (place_nonneg h0 (by have := (List.getElem?_eq_some_iff.mp hw).1; lia)) hw h hs

theorem Op_sitem {v slice : Expr} {x : Str} {i : Int} {k : Nat} (h0 : 0 ≤ i) (hk : x.cps[i.toNat]? = some k) (hn : i < 2 ^ 62) (h : P (.str ⟨#[k]⟩) σ)
    (hs : PlainIndex slice) : Op2 c d (PyProof.Rows.subscriptTail v slice) (.str x) (.int i) σ P := by
  intro A s E ca cb _ st ra rb
  simp only [VRel] at ra rb
  obtain ⟨t, rfl⟩ := ra
  obtain ⟨u, rfl⟩ := rb
  refine PyProof.Rows.tail_any (T := "str") (typeIs_str s x t) F.slot_str_getitem.lookup ?_ (hs _ _)
  have hlt := (Array.getElem?_eq_some_iff.mp hk).1
  refine PySem.P.getItem_str (c := k) (by simp only [Bool.or_eq_false_iff, decide_eq_false_iff_not]; lia) ?_ (Post.same st h (by simp only [VRel]; exact ⟨_, rfl⟩))
  rw [seqIndex_place, place_nonneg h0 (by unfold Str.length; lia)]
  exact hk

noncomputable def clip (o : Option Int) (dflt n : Nat) : Nat := match o with
  | none => dflt
  | some i => (max 0 (min (if i < 0 then i + n else i) n)).toNat
noncomputable def slice {α : Type} (lo hi : Option Int) (xs : List α) : List α := (xs.drop (clip lo 0 xs.length)).take (clip hi xs.length xs.length - clip lo 0 xs.length)

theorem bounds_clip (lo hi : Option Int) (n : Nat) : sliceBounds lo hi none n = (((clip lo 0 n : Nat) : Int), ((clip hi n n : Nat) : Int), 1) := by
  have key : ∀ (o : Option Int) (dn : Nat), (match o with | none => (dn : Int) | some i => max 0 (min (if i < 0 then i + (n : Int) else i) n)) = ((clip o dn n : Nat) : Int) := by
    intro o dn
    cases o with
    | none => rfl
    | some i => exact (Int.toNat_of_nonneg (Int.le_max_left _ _)).symm
  unfold sliceBounds
  simp only [Option.getD_none, show (1 : Int) > 0 by decide, if_true]
  rw [← key lo 0, ← key hi n]
  rfl
theorem slicePick_slice (cs : List Value) (lo hi : Option Int) : slicePick cs.toArray lo hi none = (slice lo hi cs).toArray := by
  unfold slicePick slice
  rw [bounds_clip]
  simp only [sliceRange_one, pick_run, List.size_toArray]
theorem strIdx_clip (lo hi : Option Int) (n : Nat) : Builtin.Str.strSliceIndices lo hi 1 n = (List.range (clip hi n n - clip lo 0 n)).map (clip lo 0 n + ·) := by
  rw [← sliceRange_one]
  have h := bounds_clip lo hi n
  have h1 := congrArg Prod.fst h
  have h2 := congrArg (fun x => x.2.1) h
  dsimp only at h1 h2
  rw [← h1, ← h2]
  rfl
noncomputable def strSlice (lo hi : Option Int) (x : Str) : Str := ⟨(slice lo hi x.cps.toList).toArray⟩

noncomputable def WEo (c : Cx) (d : Nat) (sc : Scope) (e : Option Expr) (m : AEnv) (σ : Led) (P : Option Int → Led → Prop) (X : XP) : Prop :=
  ∀ (env : Env) (A : Around) (s : Shared) (E : Value → Shared → Prop), RE c d sc m σ X env A s E →
    wpAny c.M A (evalPart e env) (fun cv s' => ∃ o σ', IsPart cv o ∧ P o σ' ∧ Step c.F (owned σ) (owned σ') s s' ∧ St c A σ' s'.heap) E s
theorem WEo_none {P : Option Int → Led → Prop} (h : P none σ) : WEo c d sc none m σ P X := fun z1 z2 z3 z4 r => wpAny_pure ⟨none, σ, .none, h, .refl, r.st⟩
theorem WEo_some {e : Expr} {P : Option Int → Led → Prop} (h : WE c d sc e m σ (fun v σ₁ => ∃ i, v = .int i ∧ P (some i) σ₁) X) : WEo c d sc (some e) m σ P X := by
  intro env A s E r
  rw [evalPart_some]
  refine wpAny_mono (h env A s E r) ?_ fun z1 z2 x => x
  rintro cv s₁ ⟨v, σ₁, ⟨i, rfl, h₁⟩, t₁, hs₁, rv⟩
  simp only [VRel] at rv; obtain ⟨t, rfl⟩ := rv
  exact ⟨some i, σ₁, .int i t, h₁, t₁, hs₁⟩

inductive SliceOf (σ : Led) (lo hi : Option Int) : V → V → Prop
  | lst {lv : V} {vs : List V} : IsLst σ lv vs → SliceOf σ lo hi lv (.lst (slice lo hi vs))
  | str {x : Str} : x.length ≤ sizeLine → SliceOf σ lo hi (.str x) (.str (strSlice lo hi x))

theorem VRels.slice {h : Heap} {own : List Addr} {vs : List V} {cs : List Value} (lo hi : Option Int) (r : VRels h own vs cs) : VRels h own (slice lo hi vs) (slice lo hi cs) := by
  unfold Mine.slice
  rw [r.length]
  exact (r.drop _).take _

theorem slice_length_le {α : Type} (lo hi : Option Int) (xs : List α) : (slice lo hi xs).length ≤ xs.length := by
  unfold slice
  rw [List.length_take, List.length_drop]
  exact Nat.le_trans (Nat.min_le_right _ _) (Nat.sub_le _ _)

theorem pick_slice {l u : Option Int} {l' u' : Option (Int × Tok)} {x : Str} (el' : l'.map (·.1) = l) (eu' : u'.map (·.1) = u) : (slicePicked x l' u' none).filterMap (x.cps[·]?) = slice l u x.cps.toList := by
  unfold slicePicked slice
  rw [el', eu']
  show (Builtin.Str.strSliceIndices l u 1 x.length).filterMap _ = _
  rw [strIdx_clip, pick_run]
  simp [Str.length]
theorem slice_all {l u : Option Int} {l' u' : Option (Int × Tok)} {x : Str} (el' : l'.map (·.1) = l) (eu' : u'.map (·.1) = u) (hfull' : (slicePicked x l' u' none).length = x.length) : strSlice l u x = x := by
  unfold strSlice
  have hl : (slice l u x.cps.toList) = x.cps.toList := by
    have h1 : (slicePicked x l' u' none).length = clip u x.length x.length - clip l 0 x.length := by
      unfold slicePicked; rw [el', eu']
      show (Builtin.Str.strSliceIndices l u 1 x.length).length = _
      rw [strIdx_clip]; simp
    have hc : clip u x.length x.length ≤ x.length := by
      cases u with
      | none => simp [clip]
      | some j => exact Int.toNat_le.mpr (Int.max_le.mpr ⟨Int.natCast_nonneg _, Int.min_le_right _ _⟩)
    have h2 : x.cps.toList.length = x.length := by simp [Str.length]
    unfold slice
    rw [h2]
    have h3 : clip l 0 x.length = 0 ∨ x.length = 0 := by
      rcases Nat.eq_zero_or_pos x.length with z | z
      · exact .inr z
      · exact .inl (Mine.Ar.lin 0 4 (.eq (.v 0) (.k 0)) [(.lt (.k 0) (.v 1)), (.eq (.v 2) (.v 1)), (.eq (.v 2) (.s (.v 3) (.v 0))), (.le (.v 3) (.v 1))] (by kernel_rfl) [] [_, _, _, _] rfl rfl z hfull' h1 hc)
    rcases h3 with h3 | h3
    · rw [h3, List.drop_zero, List.take_of_length_le (by (exact Mine.Ar.lin 0 5 (.le (.v 0) (.s (.v 1) (.k 0))) [(.eq (.v 2) (.v 3)), (.eq (.v 2) (.s (.v 1) (.v 4))), (.eq (.v 0) (.v 3))] (by kernel_rfl) [] [_, _, _, _, _] rfl rfl hfull' h1 h2))]
    · have : x.cps.toList = [] := List.eq_nil_of_length_eq_zero (by (exact Mine.Ar.lin 0 2 (.eq (.v 0) (.k 0)) [(.eq (.v 0) (.v 1)), (.eq (.v 1) (.k 0))] (by kernel_rfl) [] [_, _] rfl rfl h2 h3))
      rw [this]; simp
  rw [hl]
theorem part_of {cl : Value} {l : Option Int} (pl : IsPart cl l) : ∃ l' : Option (Int × Tok), cl = partValue l' ∧ l'.map (·.1) = l := by
  cases pl with
  | none => exact ⟨none, rfl, rfl⟩
  | int i t => exact ⟨some (i, t), rfl, rfl⟩
section
variable {v : Expr} {lo hi : Option Expr} {p : Pos} {A : Around} {E : Value → Shared → Prop} {l u : Option Int} {cl cu ca : Value} {h : Heap} {g : Shared}
theorem tail_lst {a : V} {vs : List V} (hl : IsLst σ a vs) (pl : IsPart cl l) (pu : IsPart cu u) (e : g.heap = h.push { cls := .type "slice", data := .fields #[cl, cu, .none] }) (st : St c A σ g.heap) (ra : VRel g.heap (ownS c σ) a ca) (h₃ : P (.lst (slice l u vs)) σ) :
    wpAny c.M A (PyProof.Rows.subscriptTail v (.Slice lo hi none p) ca (.ref h.objs.size)) (Post c A σ g P) E g := by
  obtain ⟨a, cs, rfl, q, hsz, rs⟩ := hl.plain st ra
  refine PyProof.Rows.tail_any (T := "list") q.isList.typeIs list_getitem_lookup ?_ rfl
  refine wpAny_getItem_list_slice q.isList (e ▸ Heap.IsSliceOf.new ..) pl pu .none (by simp) ?_ (by simpa using hsz)
  rw [slicePick_slice]
  exact Post.newLst st (Nat.le_trans (slice_length_le ..) hsz) (rs.slice l u) h₃
set_option tactic.hygienic true in
theorem tail_str {x : Str} (hxs : x.length ≤ sizeLine) (pl : IsPart cl l) (pu : IsPart cu u) (e : g.heap = h.push { cls := .type "slice", data := .fields #[cl, cu, .none] }) (st : St c A σ g.heap) (ra : VRel g.heap (ownS c σ) (.str x) ca) (h₃ : P (.str (strSlice l u x)) σ) :
    wpAny c.M A (PyProof.Rows.subscriptTail v (.Slice lo hi none p) ca (.ref h.objs.size)) (Post c A σ g P) E g := by
  simp only [VRel] at ra
  obtain ⟨t, rfl⟩ := ra
  refine PyProof.Rows.tail_any (T := "str") (typeIs_str _ x t) F.slot_str_getitem.lookup ?_ rfl
  obtain ⟨l', rfl, el'⟩ := part_of pl
  obtain ⟨u', rfl, eu'⟩ := part_of pu
  refine wpAny_getItem_str_slice (l := l') (u := u') (st := none) ⟨_, e ▸ Heap.get?_push_size _ rfl, rfl, rfl⟩ rfl ?_
  have hpick := pick_slice (x := x) el' eu'
  unfold sliceMade
  split
  · rename_i hfull
    rw [slice_all el' eu' (eq_of_beq (Bool.and_eq_true_iff.mp hfull).2)] at h₃
    exact Post.same' st h₃ (by simp only [VRel]; exact ⟨_, rfl⟩)
  · refine ⟨?_, Post.same st h₃ (by simp only [VRel]; exact ⟨_, by rw [hpick]; rfl⟩)⟩
    rw [hpick]
    show (slice l u x.cps.toList).toArray.size ≤ _
    have := slice_length_le l u x.cps.toList
    have h2 : x.cps.toList.length = x.length := by simp [Str.length]
    simp only [List.size_toArray]
    exact Nat.le_trans this (h2 ▸ hxs)
end
theorem WE_slice {v : Expr} {lo hi : Option Expr} {p pos : Pos}
    (h : WE c d sc v m σ (fun a σ₁ => WEo c d sc lo m σ₁ (fun l σ₂ => WEo c d sc hi m σ₂ (fun u σ₃ => ∃ w, SliceOf σ₃ l u a w ∧ P w σ₃) X) X) X) :
    WE c d sc (.Subscript v (.Slice lo hi none p) pos) m σ P X := by
  intro env A s E r
  refine PyProof.Rows.Subscript_ (wpAny_mono (h env A s E r) ?_ fun z1 z2 x => x)
  rintro ca s₁ ⟨a, σ₁, h₁, t₁, hs₁, ra⟩
  refine wpAny_Slice (wpAny_mono (h₁ env A s₁ E (r.step t₁ hs₁)) ?_ fun z1 z2 x => x)
  rintro cl s₂ ⟨l, σ₂, pl, h₂, t₂, hs₂⟩
  refine wpAny_mono (h₂ env A s₂ E ((r.step t₁ hs₁).step t₂ hs₂)) ?_ fun z1 z2 x => x
  rintro cu s₃ ⟨u, σ₃, pu, ⟨w, hw, h₃⟩, t₃, hs₃⟩
  rw [evalPart_none]
  refine wpAny_pure ?_
  have hx := Ext.push (h := s₃.heap) { cls := .type "slice", data := .fields #[cl, cu, .none] }
  have hs₄ := hs₃.ext hx
  have t₄ : Step c.F (owned σ₃) (owned σ₃) s₃ { s₃ with heap := s₃.heap.push { cls := .type "slice", data := .fields #[cl, cu, .none] } } := .ext hx rfl rfl
  have ra' := t₄.v (t₃.v (t₂.v ra))
  have tt := ((t₁.trans t₂).trans t₃).trans t₄
  refine wpAny_mono ?_ (fun z1 z2 q => Post.step tt q) fun z1 z2 x => x
  cases hw with
  | lst hl => exact tail_lst hl pl pu rfl hs₄ ra' h₃
  | str hx => exact tail_str hx pl pu rfl hs₄ ra' h₃

theorem Op_add_str {x y : Str} (hsz : x.length + y.length ≤ sizeLine) (h : P (.str (x ++ y)) σ) : Op2 c d (binaryOp .Add) (.str x) (.str y) σ P := by
  intro A s E ca cb _ st ra rb
  simp only [VRel] at ra rb; obtain ⟨t, rfl⟩ := ra; obtain ⟨u, rfl⟩ := rb
  refine SB.add (hsz := hsz) (h := fun t' k => Post.same st h (by simp only [VRel]; exact ⟨_, rfl⟩))
end Mine
end

section
set_option Elab.async false
set_option linter.unusedVariables false
set_option linter.unusedSimpArgs false
namespace Mine
open PySem

variable {c : Cx} {d : Nat} {sc : Scope} {m : AEnv} {σ : Led} {P : V → Led → Prop} {X : XP} {K : Fl → AEnv → Led → Prop}

noncomputable def But (L : Addr) (h h' : Heap) : Prop := ∀ b o, b ≠ L → h.get? b = some o → h'.get? b = some o

theorem But.carries {own : List Addr} {h h' : Heap} {L : Addr} {ob : Obj} (hL : h.get? L = some ob) (hq : ¬ Frozen ob) (k : But L h h') : Carries own own h h' := fun a o e ha f =>
  ⟨k a o (fun q => by subst q; rw [e] at hL; cases hL; exact hq f) e, ha⟩
theorem VRel.write {own : List Addr} {h h' : Heap} {L : Addr} {ob : Obj} (hL : h.get? L = some ob) (hq : ¬ Frozen ob) (k : But L h h') (v : V) (cv : Value) (r : VRel h own v cv) : VRel h' own v cv := r.carry (k.carries hL hq)
theorem VRels.write {own : List Addr} {h h' : Heap} {L : Addr} {ob : Obj} (hL : h.get? L = some ob) (hq : ¬ Frozen ob) (k : But L h h') (vs : List V) (cs : List Value) (r : VRels h own vs cs) : VRels h' own vs cs := r.carry (k.carries hL hq)

theorem ORel.write {own : List Addr} {h h' : Heap} {L : Addr} {ob : Obj} (hL : h.get? L = some ob) (hq : ¬ Frozen ob) (k : But L h h') {K : Base} {a : Addr} {o : O} (ha : L ∉ o.addrs a) (r : ORel K h own a o) : ORel K h' own a o := by
  cases o with
  | list vs =>
    obtain ⟨cs, ⟨n, p⟩, hl, r⟩ := r
    exact ⟨cs, ⟨n, k a _ (fun q => ha (by simp [O.addrs, q])) p⟩, hl, VRels.write hL hq k vs cs r⟩
  | dictI _ => exact DictR.carry r (fun ob' e => k a _ (fun q => ha (by simp [O.addrs, q])) e) (k.carries hL hq)
  | dictS _ => exact DictR.carry r (fun ob' e => k a _ (fun q => ha (by simp [O.addrs, q])) e) (k.carries hL hq)
  | inst _ _ _ => exact r.elim
  | exc C => obtain ⟨o, vs, e, q⟩ := r; exact ⟨o, vs, k a _ (fun q => ha (by simp [O.addrs, q])) e, q⟩

theorem funFrames_of {h h' base : Heap} : ∀ {l : List Env}, h.FunFrames base l → (∀ L ∈ l.filterMap (·.frame), ∃ o, h'.get? L = some o ∧ ∀ vs, o.data ≠ .fields vs) → h'.FunFrames base l
  | [], _, _ => trivial
  | env :: l, hf, k => by
    obtain ⟨hk, ⟨L, o, hL, hn, ho, hd⟩, hr⟩ := hf
    obtain ⟨o', ho', hd'⟩ := k L (by simp [hL])
    exact ⟨hk, ⟨L, o', hL, hn, ho', hd'⟩, funFrames_of hr fun L' hL' => k L' (by rw [List.filterMap_cons, hL]; exact List.mem_cons_of_mem _ hL')⟩

theorem St.write {A : Around} {h h' : Heap} {L : Addr} {ob ob' : Obj} (st : St c A σ h) (hno : L ∉ owned σ) (h0 : c.k.h0.get? L = none) (hL : h.get? L = some ob) (hq : ¬ Frozen ob) (k : But L h h')
    (hL' : h'.get? L = some ob') (hc : Obj.isDict ob → Obj.isDict ob') (hf : (∀ vs, ob.data ≠ .fields vs) → ∀ vs, ob'.data ≠ .fields vs) : St c A σ h' := by
  refine ⟨fun b o e => k b o (fun q => by rw [q, h0] at e; cases e) (st.keep b o e), st.nodup, st.fresh, fun a o hm => ?_, ?_, fun b hb => ?_, fun b hb => ?_⟩
  · exact (st.objs a o hm).write hL hq k fun q => hno (mem_owned.mpr ⟨a, o, hm, q⟩)
  · obtain ⟨l, hl, hfr, hd⟩ := st.frames
    refine ⟨l, hl, funFrames_of hfr fun L' hL'' => ?_, fun L' hL'' => ⟨(hd L' hL'').1, (hd L' hL'').2.1, fun o e => ?_⟩⟩
    · obtain ⟨_, o, ho, hnf⟩ := hfr.mem hL''
      by_cases e : L' = L
      · subst e; rw [hL] at ho; cases ho; exact ⟨_, hL', hf hnf⟩
      · exact ⟨o, k L' o e ho, hnf⟩
    · obtain ⟨_, o', ho, hnf⟩ := hfr.mem hL''
      by_cases q : L' = L
      · subst q
        rw [hL'] at e; cases e
        exact hc ((hd L' hL'').2.2 _ hL)
      · rw [k L' o' q ho] at e; cases e; exact (hd L' hL'').2.2 _ ho
  · obtain ⟨o, e⟩ := st.prot b hb
    by_cases q : b = L
    · subst q; exact ⟨_, hL'⟩
    · exact ⟨o, k b o q e⟩
  · obtain ⟨q1, o, e⟩ := st.hid b hb
    refine ⟨q1, ?_⟩
    by_cases q : b = L
    · subst q; exact ⟨_, hL'⟩
    · exact ⟨o, k b o q e⟩

theorem not_seq_dict {o : Obj} {es ep} (h : o.data = .dict es ep) : ¬ Frozen o := fun f => f.notDict ⟨_, _, h⟩
theorem not_seq_cell {o : Obj} {v} (h : o.data = .cell v) : ¬ Frozen o := fun f => by
  rcases f with ⟨xs, n, q⟩ | ⟨⟨xs, q⟩, _⟩ | ⟨_, _, _, q⟩ <;> rw [h] at q <;> cases q

theorem there_but {h h' : Heap} {L : Addr} (hL : ∃ o, h'.get? L = some o) (k : But L h h') : ∀ b o, h.get? b = some o → ∃ o', h'.get? b = some o' := fun b o e => by
  by_cases q : b = L
  · exact q ▸ hL
  · exact ⟨o, k b o q e⟩
theorem Step.write {F own W : List Addr} {s : Shared} {h' : Heap} {L : Addr} {t : Nat} (hW : L ∈ W) (hF : L ∉ F) (hL : ∃ o, h'.get? L = some o) (k : But L s.heap h') : Step F (W ++ own) (W ++ own) s { s with heap := h', toks := t } :=
  ⟨Kept.of fun b o e hb => k b o (fun q => hb (by rw [q]; exact List.mem_append_left _ hW)) e, there_but hL k, fun b hb o e => k b o (fun q => hF (q ▸ hb)) e, .refl, rfl, rfl⟩

noncomputable def AStored (c : Cx) (A : Around) (env : Env) (σ : Led) (s : Shared) (x : Str) (m' : AEnv) (s' : Shared) : Prop :=
  (Step c.F (places env ++ owned σ) (places env ++ owned σ) s s' ∧ St c A σ s'.heap ∧ EnvRel c (ownS c σ) env m' s'.heap) ∧
    ∃ L h' tk, s' = { s with heap := h', toks := tk } ∧ But L s.heap h' ∧ ((env.kindOf x = some .local ∧ L = env.locals) ∨ (env.kindOf x = some .cell ∧ env.cells.lookup x = some L))

theorem store_name {A : Around} {s : Shared} {env : Env} {E : Value → Shared → Prop} {x : Str} {v : V} {cv : Value} (ok : EnvOk env) (st : St c A σ s.heap) (er : EnvRel c (ownS c σ) env m s.heap) (rv : VRel s.heap (ownS c σ) v cv)
    (hk : env.kindOf x = some .local ∨ env.kindOf x = some .cell) :
    wpAny c.M A (storeName env x cv) (fun z1 s' => AStored c A env σ s x ((x, v) :: m) s') E s := by
  obtain ⟨mc, hn, hm⟩ := er.ns
  have hpl : (env.scope.kind == .class || (env.scope.kind == .module && env.locals != env.globals)) = false := by rw [ok.kind]; rfl
  rcases hk with hk | hk
  · refine wpAny_storeName_local hk hn (fun h' hn' hs' => ?_) hpl
    obtain ⟨oL, es, ep, hoL, hdL, _⟩ := id hn
    obtain ⟨oL', es', ep', hoL', hdL', _⟩ := id hn'
    have hq := not_seq_dict hdL
    have kb : But env.locals s.heap h' := fun b o hb e => (hs'.2 b hb).trans e
    refine ⟨⟨.write (by simp [places]) er.lnot.2.2 ⟨_, hoL'⟩ kb, st.write (fun q => er.lnot.1 (List.mem_append_right _ q)) er.lnot.2.1 hoL hq kb hoL' (fun z1 => ⟨_, _, hdL'⟩) (fun z1 vs e => by rw [hdL'] at e; cases e), ?_⟩, env.locals, h', _, rfl, kb, .inl ⟨hk, rfl⟩⟩
    refine ⟨⟨_, hn', fun y w hy hky => ?_⟩, fun y w hy hky => ?_, er.lnot, fun y a ha => ?_, er.apart⟩
    · by_cases e : y = x
      · subst e
        rw [List.lookup_cons_self] at hy; cases hy
        exact ⟨cv, by simp, rv.write hoL hq kb⟩
      · rw [List.lookup_cons, beq_eq_false_iff_ne.mpr e] at hy
        obtain ⟨cw, e1, r⟩ := hm y w hy hky
        exact ⟨cw, by simp [e, e1], r.write hoL hq kb⟩
    · have hne : y ≠ x := fun q => by subst q; rw [hk] at hky; simp at hky
      rw [List.lookup_cons, beq_eq_false_iff_ne.mpr hne] at hy
      obtain ⟨a, cw, e1, hc, r⟩ := er.cell y w hy hky
      obtain ⟨oc, hoc, hdc⟩ := hc
      exact ⟨a, cw, e1, ⟨oc, kb a oc (er.cnot y a (mem_of_lookup e1)).2.1 hoc, hdc⟩, r.write hoL hq kb⟩
    · obtain ⟨h1, h2, h3, h4, v', oc, hoc, hdc⟩ := er.cnot y a ha
      exact ⟨h1, h2, h3, h4, v', oc, kb a oc h2 hoc, hdc⟩
  · obtain ⟨a, ha⟩ := ok.cell x (.inl hk)
    obtain ⟨h1, h2, h3, hF, v', hc⟩ := er.cnot x a (mem_of_lookup ha)
    refine wpAny_storeName_cell ok.kind hk ha hc fun h' hc' hs' => ?_
    obtain ⟨oL, hoL, hdL⟩ := id hc
    obtain ⟨oL', hoL', hdL'⟩ := id hc'
    have hq := not_seq_cell hdL
    have kb : But a s.heap h' := fun b o hb e => (hs'.2 b hb).trans e
    have hpa : a ∈ places env := by simp only [places, List.mem_cons, List.mem_map]; exact .inr ⟨(x, a), mem_of_lookup ha, rfl⟩
    refine ⟨⟨.write (t := s.toks) hpa hF ⟨_, hoL'⟩ kb, st.write (fun q => h1 (List.mem_append_right _ q)) h3 hoL hq kb hoL' (fun ⟨_, _, e⟩ => by rw [hdL] at e; cases e) (fun z1 vs e => by rw [hdL'] at e; cases e), ?_⟩, a, h', s.toks, rfl, kb, .inr ⟨hk, ha⟩⟩
    refine ⟨⟨mc, hn.sameBut hs' (Ne.symm h2), fun y w hy hky => ?_⟩, fun y w hy hky => ?_, er.lnot, fun y b hb => ?_, er.apart⟩
    · have hne : y ≠ x := fun q => by subst q; rw [hk] at hky; simp at hky
      rw [List.lookup_cons, beq_eq_false_iff_ne.mpr hne] at hy
      obtain ⟨cw, e1, r⟩ := hm y w hy hky
      exact ⟨cw, e1, r.write hoL hq kb⟩
    · by_cases e : y = x
      · subst e
        rw [List.lookup_cons_self] at hy; cases hy
        exact ⟨a, cv, ha, hc', rv.write hoL hq kb⟩
      · rw [List.lookup_cons, beq_eq_false_iff_ne.mpr e] at hy
        obtain ⟨b, cw, e1, hcb, r⟩ := er.cell y w hy hky
        have hba : b ≠ a := fun q => e (name_of_addr er.apart (mem_of_lookup e1) (q ▸ mem_of_lookup ha))
        obtain ⟨oc, hoc, hdc⟩ := hcb
        exact ⟨b, cw, e1, ⟨oc, kb b oc hba hoc, hdc⟩, r.write hoL hq kb⟩
    · obtain ⟨g1, g2, g3, g4, w, oc, hoc, hdc⟩ := er.cnot y b hb
      by_cases q : b = a
      · subst q; exact ⟨g1, g2, g3, g4, some cv, hc'⟩
      · exact ⟨g1, g2, g3, g4, w, oc, kb b oc q hoc, hdc⟩
end Mine
end

section
set_option Elab.async false
set_option linter.unusedVariables false
set_option linter.unusedSimpArgs false
namespace Mine
open PySem

variable {c : Cx} {d : Nat} {sc : Scope} {m : AEnv} {σ : Led} {P : V → Led → Prop} {X : XP} {K : Fl → AEnv → Led → Prop}

theorem EnvRel.places {own : List Addr} {env : Env} {h : Heap} (er : EnvRel c own env m h) : ∀ b ∈ places env, ∀ o, h.get? b = some o → ¬ Frozen o := by
  intro b hb o e
  simp only [Mine.places, List.mem_cons, List.mem_map] at hb
  rcases hb with rfl | ⟨⟨x, a⟩, hm, rfl⟩
  · obtain ⟨mc, ⟨oL, es, ep, ho, hd, _⟩, _⟩ := er.ns
    rw [ho] at e; cases e; exact not_seq_dict hd
  · obtain ⟨_, _, _, _, v, oc, hoc, hdc⟩ := er.cnot x a hm
    dsimp only at e
    rw [hoc] at e; cases e; exact not_seq_cell hdc

theorem Step.carriesP {F own own' H : List Addr} {env : Env} {s s' : Shared} (er : EnvRel c (H ++ own) env m s.heap) (t : Step F (places env ++ own) (places env ++ own') s s') : Carries (H ++ own) (H ++ own') s.heap s'.heap := by
  intro a o e ha f
  have hn : a ∉ places env ++ own := fun q => (List.mem_append.mp q).elim (fun q => er.places a q o e f) fun q => ha (List.mem_append_right _ q)
  refine ⟨t.kept.exact e hn f.notDict, fun q => ?_⟩
  rcases List.mem_append.mp q with q | q
  · exact ha (List.mem_append_left _ q)
  · exact t.grow.notin hn e (List.mem_append_right _ q)
theorem Step.vps {own own' H : List Addr} {env : Env} {s s' : Shared} {vs : List V} {cs : List Value} (er : EnvRel c (H ++ own) env m s.heap) (t : Step c.F (places env ++ own) (places env ++ own') s s') (r : VRels s.heap (H ++ own) vs cs) : VRels s'.heap (H ++ own') vs cs := r.carry (t.carriesP er)
theorem RS.estep {σ₁ : Led} {env : Env} {A : Around} {s s₁ : Shared} {E : Value → Shared → Prop} (x : RS c d sc m σ X env A s E) (t : Step c.F (owned σ) (owned σ₁) s s₁) (h : St c A σ₁ s₁.heap) : RS c d sc m σ₁ X env A s₁ E :=
  x.step t.wider h (x.er.mono t.kept.wider t.grow.wider)

noncomputable def PostA (c : Cx) (A : Around) (env : Env) (σ : Led) (s : Shared) (K : AEnv → Led → Prop) (s' : Shared) : Prop :=
  ∃ m' σ', K m' σ' ∧ Step c.F (places env ++ owned σ) (places env ++ owned σ') s s' ∧ St c A σ' s'.heap ∧ EnvRel c (ownS c σ') env m' s'.heap
theorem PostA.step {A : Around} {env : Env} {σ₁ : Led} {s s₁ s' : Shared} {K : AEnv → Led → Prop} (st : Step c.F (places env ++ owned σ) (places env ++ owned σ₁) s s₁) (x : PostA c A env σ₁ s₁ K s') : PostA c A env σ s K s' := by
  obtain ⟨m', σ', hp, st', h, r⟩ := x
  exact ⟨m', σ', hp, st.trans st', h, r⟩

noncomputable def WA (c : Cx) (d : Nat) (sc : Scope) (t : Expr) (v : V) (m : AEnv) (σ : Led) (K : AEnv → Led → Prop) (X : XP) : Prop :=
  ∀ (env : Env) (A : Around) (s : Shared) (E : Value → Shared → Prop) (cv : Value), RS c d sc m σ X env A s E → VRel s.heap (ownS c σ) v cv → wpAny c.M A (assign t env cv) (fun z1 s' => PostA c A env σ s K s') E s
noncomputable def WAs (c : Cx) (d : Nat) (sc : Scope) (ts : List Expr) (vs : List V) (m : AEnv) (σ : Led) (K : AEnv → Led → Prop) (X : XP) : Prop :=
  ∀ (env : Env) (A : Around) (s : Shared) (E : Value → Shared → Prop) (cvs : List Value), RS c d sc m σ X env A s E → VRels s.heap (ownS c σ) vs cvs →
    (assignEach ts env).length = vs.length ∧ (assignEach ts env).findIdx? (·.1) = none ∧ wpAny c.M A (assignInOrder ((assignEach ts env).map (·.2)) cvs) (fun z1 s' => PostA c A env σ s K s') E s

noncomputable def isLoc (sc : Scope) (x : Str) : Bool := match sc.names.lookup x with
  | some .local | some .cell => true
  | _ => false
theorem isLoc_kind {sc : Scope} {x : Str} (h : isLoc sc x = true) : sc.names.lookup x = some .local ∨ sc.names.lookup x = some .cell := by
  unfold isLoc at h
  split at h <;> simp_all

theorem WA_name {x : Str} {pos : Pos} {v : V} {K : AEnv → Led → Prop} (h : K ((x, v) :: m) σ) (hk : isLoc sc x = true) : WA c d sc (.Name x pos) v m σ K X := by
  intro env A s E cv r rv
  refine wpAny_assign_Name (wpAny_mono (store_name r.ok r.st r.er rv (by unfold Env.kindOf; rw [r.sc]; exact isLoc_kind hk)) ?_ fun z1 z2 x => x)
  rintro _ s' ⟨⟨t, hs, er⟩, _⟩
  exact ⟨_, σ, h, t, hs, er⟩

theorem WAs_nil {K : AEnv → Led → Prop} (h : K m σ) : WAs c d sc [] [] m σ K X := by
  intro env A s E cvs r rv
  simp only [VRels] at rv; subst rv
  exact ⟨rfl, rfl, wpAny_pure ⟨m, σ, h, .refl, r.st, r.er⟩⟩
theorem WAs_cons {t : Expr} {ts : List Expr} {v : V} {vs : List V} {K : AEnv → Led → Prop} (h : WA c d sc t v m σ (fun m₁ σ₁ => WAs c d sc ts vs m₁ σ₁ K X) X)
    (hst : ∀ env, assignEach (t :: ts) env = (false, assign t env) :: assignEach ts env) (hlen : ∀ env, (assignEach ts env).length = vs.length)
    (hfi : ∀ env, (assignEach ts env).findIdx? (·.1) = none) : WAs c d sc (t :: ts) (v :: vs) m σ K X := by
  intro env A s E cvs r rv
  simp only [VRels] at rv
  obtain ⟨cv, cvs', rfl, r1, rs⟩ := rv
  rw [hst env]
  refine ⟨by simp [hlen env], by simp [List.findIdx?_cons, hfi env], ?_⟩
  show wpAny _ _ (do holding cvs' (assign t env cv); assignInOrder ((assignEach ts env).map (·.2)) cvs') _ _ _
  refine wpAny_bind (wpAny_holding (wpAny_mono (h env A s E cv r r1) ?_ fun z1 z2 x => x))
  rintro _ s₁ ⟨m₁, σ₁, h₁, t₁, hs₁, er₁⟩
  exact wpAny_mono (h₁ env A s₁ E cvs' (r.step t₁ hs₁ er₁) (t₁.vps r.er rs)).2.2 (fun z1 z2 p => p.step t₁) fun z1 z2 x => x
theorem WA_tuple (hh : c.k.hd = true) {ts : List Expr} {k : Nat} {pos : Pos} {vs : List V} {K : AEnv → Led → Prop} (h : WAs c d sc ts vs m σ K X) : WA c d sc (.Tuple ts k pos) (.tup vs) m σ K X := by
  intro env A s E cv r rv
  simp only [VRel] at rv
  obtain ⟨a, cs, rfl, ha, p, hl, rs⟩ := rv
  have hlen := rs.length
  obtain ⟨h1, h2, _⟩ := h env A s E cs r rs
  refine wpAny_assign_Tuple (r.a.handled hh) p.isTuple (by simp [h1, hlen]) h2 fun h' hx => ?_
  have hx' : Ext s.heap h' := fun b o e => hx b o (Nat.ne_of_lt (Heap.lt_size e)) e
  have t₁ : Step c.F (owned σ) (owned σ) s { s with heap := h' } := .ext hx' rfl rfl
  have hs₁ : St c A σ h' := r.st.ext hx'
  exact wpAny_mono (h env A { s with heap := h' } E cs (r.estep t₁ hs₁) (t₁.vs rs)).2.2 (fun z1 z2 p => p.step t₁.wider) fun z1 z2 x => x

theorem WSs_nil (h : K .next m σ) : WSs c d sc [] m σ K X := fun env A s E r => wpAny_execs_nil ⟨.next, m, σ, h, .refl, r.st, r.er, rfl⟩
noncomputable def after (K : Fl → AEnv → Led → Prop) (N : AEnv → Led → Prop) : Fl → AEnv → Led → Prop
  | .next, m, σ => N m σ
  | fl, m, σ => K fl m σ
theorem WSs_cons {st : Stmt} {sts : List Stmt} (h : WS c d sc st m σ (after K fun m₁ σ₁ => WSs c d sc sts m₁ σ₁ K X) X) : WSs c d sc (st :: sts) m σ K X := by
  intro env A s E r
  refine wpAny_execs_cons (wpAny_mono (h env A s E r) ?_ fun z1 z2 x => x)
  rintro f s₁ ⟨fl, m₁, σ₁, h₁, t₁, hs₁, er₁, rf⟩
  cases fl with
  | next =>
    cases rf
    exact wpAny_mono (h₁ env A s₁ E (r.step t₁ hs₁ er₁)) (fun z1 z2 p => p.step t₁) fun z1 z2 x => x
  | brk => cases rf; exact ⟨.brk, m₁, σ₁, h₁, t₁, hs₁, er₁, rfl⟩
  | cont => cases rf; exact ⟨.cont, m₁, σ₁, h₁, t₁, hs₁, er₁, rfl⟩
  | ret v => obtain ⟨cv, rfl, rv⟩ := rf; exact ⟨.ret v, m₁, σ₁, h₁, t₁, hs₁, er₁, cv, rfl, rv⟩

noncomputable def Sub (m' m : AEnv) : Prop := ∀ x v, m'.lookup x = some v → m.lookup x = some v
theorem EnvRel.sub {own : List Addr} {env : Env} {m' : AEnv} {h : Heap} (x : EnvRel c own env m h) (k : Sub m' m) : EnvRel c own env m' h := by
  obtain ⟨mc, hn, hm⟩ := x.ns
  exact ⟨⟨mc, hn, fun y v hy => hm y v (k y v hy)⟩, fun y v hy => x.cell y v (k y v hy), x.lnot, x.cnot, x.apart⟩
theorem WSs_sub {sts : List Stmt} {m' : AEnv} (k : Sub m' m) (h : WSs c d sc sts m' σ K X) : WSs c d sc sts m σ K X :=
  fun env A s E r => h env A s E ⟨r.sc, r.ok, r.fr, r.a, r.st, r.er.sub k, r.e⟩

theorem WS_return {e : Expr} {pos : Pos} (h : WE c d sc e m σ (fun v σ₁ => K (.ret v) m σ₁) X) : WS c d sc (.Return (some e) pos) m σ K X := by
  intro env A s E r
  refine wpAny_Return_some (wpAny_mono (h env A s E r.re) ?_ fun z1 z2 x => x)
  rintro cv s₁ ⟨v, σ₁, h₁, t₁, hs₁, rv⟩
  exact ⟨.ret v, m, σ₁, h₁, t₁.wider, hs₁, r.er.mono t₁.kept.wider t₁.grow.wider, cv, rfl, rv⟩
theorem WS_return_none {pos : Pos} (h : K (.ret .none) m σ) : WS c d sc (.Return none pos) m σ K X :=
  fun env A s E r => wpAny_Return_none ⟨.ret .none, m, σ, h, .refl, r.st, r.er, .none, rfl, by simp only [VRel]⟩
theorem WS_pass {pos : Pos} (h : K .next m σ) : WS c d sc (.Pass pos) m σ K X := fun env A s E r => wpAny_Pass ⟨.next, m, σ, h, .refl, r.st, r.er, rfl⟩
theorem WS_continue {pos : Pos} (h : K .cont m σ) : WS c d sc (.Continue pos) m σ K X := fun env A s E r => wpAny_Continue ⟨.cont, m, σ, h, .refl, r.st, r.er, rfl⟩
theorem WS_break {pos : Pos} (h : K .brk m σ) : WS c d sc (.Break pos) m σ K X := fun env A s E r => wpAny_Break ⟨.brk, m, σ, h, .refl, r.st, r.er, rfl⟩
theorem WS_if {t : Expr} {b o : List Stmt} {pos : Pos} (h : WT c d sc t m σ (fun k σ₁ => if k = true then WSs c d sc b m σ₁ K X else WSs c d sc o m σ₁ K X) X) : WS c d sc (.If t b o pos) m σ K X := by
  intro env A s E r
  refine wpAny_If (wpAny_mono (h env A s E r.re) ?_ fun z1 z2 x => x)
  rintro k s₁ ⟨σ₁, h₁, t₁, hs₁⟩
  cases k with
  | true => exact wpAny_mono (h₁ env A s₁ E (r.estep t₁ hs₁)) (fun z1 z2 p => p.step t₁.wider) fun z1 z2 x => x
  | false => exact wpAny_mono (h₁ env A s₁ E (r.estep t₁ hs₁)) (fun z1 z2 p => p.step t₁.wider) fun z1 z2 x => x
theorem WS_expr {e : Expr} {pos : Pos} (h : WE c d sc e m σ (fun z1 σ₁ => K .next m σ₁) X) (hs : ∀ env, swapsWith e none pos.line env = pure false) : WS c d sc (.Expr e pos) m σ K X := by
  intro env A s E r
  refine wpAny_Expr_any (wpAny_mono (h env A s E r.re) ?_ fun z1 z2 x => x) (by unfold interactive; rw [r.ok.kind]; rfl) (hs env)
  rintro cv s₁ ⟨v, σ₁, h₁, t₁, hs₁, rv⟩
  exact ⟨.next, m, σ₁, h₁, t₁.wider, hs₁, r.er.mono t₁.kept.wider t₁.grow.wider, rfl⟩
theorem WS_assign {t v : Expr} {pos : Pos} (h : WE c d sc v m σ (fun w σ₁ => WA c d sc t w m σ₁ (fun m' σ' => K .next m' σ') X) X)
    (hs : ∀ env, env.scope = sc → swapsWithSole [t] v pos.line env = pure false) (hw : ∀ env, swappedStores [t] v env = pure none)
    (he : ∀ env, assignEach [t] env = [(false, assign t env)]) : WS c d sc (.Assign [t] v pos) m σ K X := by
  intro env A s E r
  refine wpAny_Assign_stores (wpAny_mono (h env A s E r.re) ?_ fun z1 z2 x => x) (hs env r.sc) (hw env)
  rintro cv s₁ ⟨w, σ₁, h₁, t₁, hs₁, rw'⟩
  rw [he env]
  show wpAny _ _ (assign t env cv) _ _ _
  refine wpAny_mono (h₁ env A s₁ E cv (r.estep t₁ hs₁) rw') ?_ fun z1 z2 x => x
  rintro _ s₂ ⟨m₂, σ₂, h₂, t₂, hs₂, er₂⟩
  exact ⟨.next, m₂, σ₂, h₂, t₁.wider.trans t₂, hs₂, er₂, rfl⟩
end Mine
end

section
set_option Elab.async false
set_option linter.unusedVariables false
set_option linter.unusedSimpArgs false
namespace Mine
open PySem

variable {c : Cx} {d : Nat} {sc : Scope} {m : AEnv} {σ : Led} {P : V → Led → Prop} {X : XP} {K : Fl → AEnv → Led → Prop}

noncomputable def NoX : XP := fun z1 z2 => False
theorem EOkS.nox {A : Around} {env : Env} {s : Shared} {E : Value → Shared → Prop} : EOkS c A NoX env σ s E := fun z1 z2 z3 z4 h => h.elim
theorem EOk.nox {A : Around} {own : List Addr} {s : Shared} {E : Value → Shared → Prop} : EOk c A NoX own s E := fun z1 z2 z3 z4 h => h.elim

noncomputable def Cx.pro (c : Cx) (G : List Addr) : Cx := { c with F := G ++ c.F }
theorem St.pro {A : Around} {h : Heap} {G : List Addr} (st : St c A σ h) (hG : ∀ b ∈ G, b ∈ owned σ) : St (c.pro G) A σ h := by
  obtain ⟨l, hl, hf, hd⟩ := st.frames
  refine ⟨st.keep, st.nodup, st.fresh, st.objs, ⟨l, hl, hf, fun L hL => ⟨(hd L hL).1, fun hm => ?_, (hd L hL).2.2⟩⟩, fun b hb => ?_, st.hid⟩
  · rcases List.mem_append.mp hm with q | q
    · exact (hd L hL).1 (hG L q)
    · exact (hd L hL).2.1 q
  · rcases List.mem_append.mp hb with q | q
    · exact st.there (hG b q)
    · exact st.prot b q
theorem St.unpro {A : Around} {h : Heap} {G : List Addr} (st : St (c.pro G) A σ h) : St c A σ h := by
  obtain ⟨l, hl, hf, hd⟩ := st.frames
  exact ⟨st.keep, st.nodup, st.fresh, st.objs, ⟨l, hl, hf, fun L hL => ⟨(hd L hL).1, fun hm => (hd L hL).2.1 (List.mem_append_right _ hm), (hd L hL).2.2⟩⟩, fun b hb => st.prot b (List.mem_append_right _ hb), st.hid⟩
theorem EnvRel.pro {env : Env} {h : Heap} {G : List Addr} (er : EnvRel c (ownS c σ) env m h) (hG : ∀ b ∈ G, b ∈ owned σ) : EnvRel (c.pro G) (ownS c σ) env m h := by
  refine ⟨er.ns, er.cell, ⟨er.lnot.1, er.lnot.2.1, fun hm => ?_⟩, fun x a ha => ?_, er.apart⟩
  · rcases List.mem_append.mp hm with q | q
    · exact er.lnot.1 (List.mem_append_right _ (hG _ q))
    · exact er.lnot.2.2 q
  · obtain ⟨h1, h2, h3, h4, h5⟩ := er.cnot x a ha
    refine ⟨h1, h2, h3, fun hm => ?_, h5⟩
    rcases List.mem_append.mp hm with q | q
    · exact h1 (List.mem_append_right _ (hG _ q))
    · exact h4 q
theorem EnvRel.unpro {own : List Addr} {env : Env} {h : Heap} {G : List Addr} (er : EnvRel (c.pro G) own env m h) : EnvRel c own env m h := by
  refine ⟨er.ns, er.cell, ⟨er.lnot.1, er.lnot.2.1, fun hm => er.lnot.2.2 (List.mem_append_right _ hm)⟩, fun x a ha => ?_, er.apart⟩
  obtain ⟨h1, h2, h3, h4, h5⟩ := er.cnot x a ha
  exact ⟨h1, h2, h3, fun hm => h4 (List.mem_append_right _ hm), h5⟩
theorem Step.unpro {G own own' : List Addr} {s s' : Shared} (t : Step (c.pro G).F own own' s s') : Step c.F own own' s s' := ⟨t.kept, t.there, fun b hb => t.prot b (List.mem_append_right _ hb), t.grow, t.os, t.gens⟩

noncomputable def ButL (wr : List Addr) (h h' : Heap) : Prop := ∀ b o, b ∉ wr → h.get? b = some o → h'.get? b = some o

theorem ButL.carries {own wr : List Addr} {h h' : Heap} (hq : ∀ b ∈ wr, ∀ o, h.get? b = some o → ¬ Frozen o) (k : ButL wr h h') : Carries own own h h' := fun a o e ha f => ⟨k a o (fun q => hq a q o e f) e, ha⟩
theorem VRel.writeL {own wr : List Addr} {h h' : Heap} (hq : ∀ b ∈ wr, ∀ o, h.get? b = some o → ¬ Frozen o) (k : ButL wr h h') (v : V) (cv : Value) (r : VRel h own v cv) : VRel h' own v cv := r.carry (k.carries hq)
theorem VRels.writeL {own wr : List Addr} {h h' : Heap} (hq : ∀ b ∈ wr, ∀ o, h.get? b = some o → ¬ Frozen o) (k : ButL wr h h') (vs : List V) (cs : List Value) (r : VRels h own vs cs) : VRels h' own vs cs := r.carry (k.carries hq)
theorem ORel.writeL {own wr : List Addr} {h h' : Heap} (hq : ∀ b ∈ wr, ∀ o, h.get? b = some o → ¬ Frozen o) (k : ButL wr h h') {K : Base} {a : Addr} {o : O} (ha : ∀ b ∈ o.addrs a, b ∉ wr) (r : ORel K h own a o) : ORel K h' own a o := by
  cases o with
  | list vs =>
    obtain ⟨cs, ⟨n, p⟩, hl, r⟩ := r
    exact ⟨cs, ⟨n, k a _ (ha a (by simp [O.addrs])) p⟩, hl, VRels.writeL hq k vs cs r⟩
  | dictI _ => exact DictR.carry r (fun ob' e => k a _ (ha a (by simp [O.addrs])) e) (k.carries hq)
  | dictS _ => exact DictR.carry r (fun ob' e => k a _ (ha a (by simp [O.addrs])) e) (k.carries hq)
  | inst _ _ _ => exact r.elim
  | exc C => obtain ⟨o, vs, e, q⟩ := r; exact ⟨o, vs, k a _ (ha a (by simp [O.addrs])) e, q⟩

structure WrOk (c : Cx) (A : Around) (σ : Led) (wr : List Addr) (h : Heap) : Prop where
  notown : ∀ b ∈ wr, b ∉ owned σ
  base : ∀ b ∈ wr, c.k.h0.get? b = none
  notF : ∀ b ∈ wr, b ∉ c.F
  notH : ∀ b ∈ wr, b ∉ c.H
  seq : ∀ b ∈ wr, ∀ o, h.get? b = some o → ¬ Frozen o
  notfr : ∀ l, A.frames = some l → ∀ L ∈ l.filterMap (·.frame), L ∉ wr

theorem St.writeL {A : Around} {wr : List Addr} {h h' : Heap} (st : St c A σ h) (w : WrOk c A σ wr h) (k : ButL wr h h') : St c A σ h' := by
  refine ⟨fun b o e => k b o (fun q => by rw [w.base b q] at e; cases e) (st.keep b o e), st.nodup, st.fresh, fun a o hm => ?_, ?_, fun b hb => ?_, fun b hb => ?_⟩
  · exact (st.objs a o hm).writeL w.seq k fun b hb q => w.notown b q (mem_owned.mpr ⟨a, o, hm, hb⟩)
  · obtain ⟨l, hl, hfr, hd⟩ := st.frames
    refine ⟨l, hl, funFrames_of hfr fun L hL => ?_, fun L hL => ⟨(hd L hL).1, (hd L hL).2.1, fun o e => ?_⟩⟩
    · obtain ⟨_, o, ho, hnf⟩ := hfr.mem hL
      exact ⟨o, k L o (w.notfr l hl L hL) ho, hnf⟩
    · obtain ⟨_, o', e', _⟩ := hfr.mem hL
      rw [k L o' (w.notfr l hl L hL) e'] at e; cases e
      exact (hd L hL).2.2 o e'
  · obtain ⟨o, e⟩ := st.prot b hb
    exact ⟨o, k b o (fun q => w.notF b q hb) e⟩
  · obtain ⟨q1, o, e⟩ := st.hid b hb
    exact ⟨q1, o, k b o (fun q => w.notH b q hb) e⟩

theorem EnvRel.writeL {A : Around} {env : Env} {wr : List Addr} {h h' : Heap} (er : EnvRel c (ownS c σ) env m h) (w : WrOk c A σ wr h) (hp : ∀ b ∈ Mine.places env, b ∉ wr) (k : ButL wr h h') : EnvRel c (ownS c σ) env m h' := by
  obtain ⟨mc, hn, hm⟩ := er.ns
  have hL : env.locals ∉ wr := hp _ (by simp [Mine.places])
  have hcp : ∀ x b, (x, b) ∈ env.cells → b ∉ wr := fun x b hm => hp b (by simp only [Mine.places, List.mem_cons, List.mem_map]; exact .inr ⟨_, hm, rfl⟩)
  have hcell : ∀ {a : Addr} {v : Option Value}, a ∉ wr → h.IsCell a v → h'.IsCell a v := fun {a v} ha hc => by
    obtain ⟨oc, hoc, hdc⟩ := hc
    exact ⟨oc, k a oc ha hoc, hdc⟩
  refine ⟨⟨mc, ?_, fun y v hy hk => ?_⟩, fun y v hy hk => ?_, er.lnot, fun y a ha => ?_, er.apart⟩
  · obtain ⟨oL, es, ep, ho, r⟩ := hn
    exact ⟨oL, es, ep, k _ _ hL ho, r⟩
  · obtain ⟨cv, e, r⟩ := hm y v hy hk
    exact ⟨cv, e, VRel.writeL w.seq k v cv r⟩
  · obtain ⟨a, cv, e, hc, r⟩ := er.cell y v hy hk
    exact ⟨a, cv, e, hcell (hcp _ _ (mem_of_lookup e)) hc, VRel.writeL w.seq k v cv r⟩
  · obtain ⟨h1, h2, h3, h4, v, h5⟩ := er.cnot y a ha
    exact ⟨h1, h2, h3, h4, v, hcell (hcp _ _ ha) h5⟩

theorem iter_notFrozen {o : Obj} (h : ∃ xs, o.data = .fields xs) (hc : o.cls ≠ .type "range") : ¬ Frozen o := fun f => by
  obtain ⟨ys, hd⟩ := h
  rcases f with ⟨xs, n, q⟩ | ⟨_, q⟩ | ⟨_, _, _, q⟩
  · rw [hd] at q; cases q
  · exact hc q
  · rw [hd] at q; cases q

theorem Step.writeL {F own own' wr : List Addr} {s s' : Shared} {h' : Heap} {tk : Nat} (t : Step F own own' s s') (hn : ∀ b ∈ wr, s.heap.get? b = none) (hF : ∀ b ∈ wr, b ∉ F) (k : ButL wr s'.heap h') : Step F own own' s { s' with heap := h', toks := tk } := by
  refine ⟨fun b o e hb => ?_, fun b o e => (t.there b o e).imp fun o' e' => k b o' (fun q => by rw [hn b q] at e; cases e) e', fun b hb o e => k b o (fun q => hF b q hb) (t.prot b hb o e), t.grow, t.os, t.gens⟩
  obtain ⟨sl, e', hs⟩ := t.kept b o e hb
  exact ⟨sl, k b _ (fun q => by rw [hn b q] at e; cases e) e', hs⟩

noncomputable def IterOwn (o : Obj) : Prop := ∀ n, o.cls = .type n → ["enumerate", "zip", "dict_itemiterator", "dict_reverseitemiterator", "odict_iterator", "itertools.zip_longest", "itertools.pairwise"].contains n = false
theorem letOwned {M : Model} {A : Around} {E : Value → Shared → Prop} {s : Shared} {t : Expr} {I : Addr} {o : Obj} {v : Value} {Q : Unit → Shared → Prop} (ho : s.heap.get? I = some o) (hi : IterOwn o) (h : Q () s) :
    wpAny M A (letOwnedTupleGo t (.ref I) v) Q E s := by
  have key : ∀ es k z, wpAny M A (letOwnedTupleGo (.Tuple es k z) (.ref I) v) Q E s := fun es k z => by
    cases v with
    | ref a =>
      refine wpAny_bind (wpAny_load ho ?_)
      cases o with
      | mk cls dict data slots =>
        cases cls with
        | type n =>
          cases data with
          | fields vs =>
            show wpAny M A (if (["enumerate", "zip", "dict_itemiterator", "dict_reverseitemiterator", "odict_iterator", "itertools.zip_longest", "itertools.pairwise"].contains n && vs[0]? == some (rawInt a)) = true then _ else pure ()) Q E s
            rw [hi n rfl]
            exact wpAny_pure h
          | _ => exact wpAny_pure h
        | _ => exact wpAny_pure h
    | _ => exact wpAny_pure h
  cases t with
  | Tuple es k z => exact key es k z
  | List es z => exact key es 0 z
  | _ => exact wpAny_pure h

structure ItOk (c : Cx) (A : Around) (σ : Led) (vs : List V) (hb h : Heap) (I : Addr) (fp wr : List Addr) (Pf : Nat → Value → Prop) (Stf : Nat → Heap → Prop) : Prop where
  walks : Walks c.k.prog c.k.w A I fp wr vs.length Pf Stf
  size : vs.length ≤ sizeLine
  start : Stf 0 h
  ext : Ext hb h
  new : ∀ b ∈ wr, hb.get? b = none
  obj : ∀ i h, Stf i h → ∀ b ∈ wr, ∃ o, h.get? b = some o ∧ (∃ xs, o.data = .fields xs) ∧ o.cls ≠ .type "range"
  own : ∀ i h, Stf i h → ∃ o, h.get? I = some o ∧ IterOwn o
  fp : ∀ b ∈ fp, b ∈ wr ∨ b ∈ c.F ∨ (b ∉ owned σ ∧ ∃ o, hb.get? b = some o ∧ ∃ xs n, o.data = .seq xs n)
  elem : ∀ h' own', Carries (ownS c σ) own' hb h' → ∀ i v x, vs[i]? = some v → Pf i x → VRel h' own' v x

noncomputable def IterS (c : Cx) (σ : Led) (lv : V) (vs : List V) : Prop :=
  ∀ (A : Around) (s : Shared) (E : Value → Shared → Prop) (cv : Value), A.handled = none → St c A σ s.heap → VRel s.heap (ownS c σ) lv cv →
    wpAny c.M A (pyIter cv) (fun it s' => ∃ I fp wr Pf Stf, it = .ref I ∧ ItOk c A σ vs s.heap s'.heap I fp wr Pf Stf ∧ s'.os = s.os ∧ s'.gens = s.gens) E s

noncomputable def WLoop (c : Cx) (d : Nat) (sc : Scope) (t : Expr) (body : List Stmt) (K : Fl → AEnv → Led → Prop) : List V → AEnv → Led → Prop
  | [], m, σ => K .next m σ
  | v :: vs, m, σ => WA c d sc t v m σ (fun m₁ σ₁ => WSs c d sc body m₁ σ₁ (fun fl m₂ σ₂ => match fl with
      | .next | .cont => WLoop c d sc t body K vs m₂ σ₂
      | .brk => K .next m₂ σ₂
      | .ret w => K (.ret w) m₂ σ₂) NoX) NoX

theorem WS_for (hh : c.k.hd = true) {t iter : Expr} {body : List Stmt} {pos : Pos}
    (h : WE c d sc iter m σ (fun lv σ₁ => ∃ vs G, (∀ b ∈ G, b ∈ owned σ₁) ∧ IterS (c.pro G) σ₁ lv vs ∧ WLoop (c.pro G) d sc t body K vs m σ₁) X)
    (hs : ∀ env x, foldedSetIterable iter env x = pure x) : WS c d sc (.For t iter body [] pos) m σ K X := by
  intro env A s E r
  refine wpAny_For (wpAny_mono (h env A s E r.re) ?_ fun z1 z2 x => x) (hs env)
  rintro cl s₁ ⟨lv, σ₁, ⟨vs, G, hG, hI, hL⟩, t₁, hs₁, rl⟩
  have er₁ := r.er.mono t₁.kept.wider t₁.grow.wider
  refine wpAny_mono (hI A s₁ E cl (r.a.handled hh) (hs₁.pro hG) rl) ?_ fun z1 z2 x => x
  rintro it s₂ ⟨I, fp, wr, Pf, Stf, rfl, ok, hos, hgens⟩
  have hpl := er₁.places
  have hpn : ∀ b ∈ places env, b ∉ wr := fun b hb hw => by
    have hn := ok.new b hw
    simp only [places, List.mem_cons, List.mem_map] at hb
    rcases hb with rfl | ⟨⟨x, a⟩, hm, rfl⟩
    · obtain ⟨mc, ⟨oL, es, ep, ho, _⟩, _⟩ := er₁.ns; rw [hn] at ho; cases ho
    · obtain ⟨_, _, _, _, v, oc, hoc, _⟩ := er₁.cnot x a hm; rw [hn] at hoc; cases hoc
  have hw0 : ∀ b ∈ wr, c.k.h0.get? b = none := fun b hb => by
    cases e : c.k.h0.get? b with
    | none => rfl
    | some o => have := hs₁.keep _ _ e; rw [ok.new b hb] at this; cases this
  have hwF : ∀ b ∈ wr, b ∉ (c.pro G).F := fun b hb hm => by
    obtain ⟨o, e⟩ := (hs₁.pro hG).prot b hm
    rw [ok.new b hb] at e; cases e
  have hwH : ∀ b ∈ wr, b ∉ (c.pro G).H := fun b hb hm => by
    obtain ⟨_, o, e⟩ := (hs₁.pro hG).hid b hm
    rw [ok.new b hb] at e; cases e
  -- the end
  have fin : ∀ fl f m' σ' s', K fl m' σ' → Step (c.pro G).F (places env ++ owned σ₁) (places env ++ owned σ') s₁ s' → St (c.pro G) A σ' s'.heap → EnvRel (c.pro G) (ownS c σ') env m' s'.heap → FlRel s'.heap (ownS c σ') fl f →
      PostS c A env σ s K f s' := fun fl f m' σ' s' hk hst h1 h2 h3 => ⟨fl, m', σ', hk, t₁.wider.trans hst.unpro, h1.unpro, h2.unpro, h3⟩
  refine codeAny_forLoop_any (fun n s' => ∃ j m' σ', n = vs.length + 1 - j ∧ j ≤ vs.length ∧ WLoop (c.pro G) d sc t body K (vs.drop j) m' σ' ∧ Step (c.pro G).F (places env ++ owned σ₁) (places env ++ owned σ') s₁ s' ∧
      St (c.pro G) A σ' s'.heap ∧ EnvRel (c.pro G) (ownS c σ') env m' s'.heap ∧ Stf j s'.heap ∧ ∀ b ∈ wr, b ∉ owned σ') ?_ (vs.length + 1) ?_
  · rintro n s' ⟨j, m', σ', rfl, hj, hW, hst, hSt, her, hStf, hwo⟩
    have wok : WrOk (c.pro G) A σ' wr s'.heap := ⟨hwo, hw0, hwF, hwH, fun b hb o e => by
      obtain ⟨o', e', q1, q2⟩ := ok.obj j _ hStf b hb
      rw [e] at e'; cases e'; exact iter_notFrozen q1 q2, fun l hl L hL hw => by
      obtain ⟨l', hl', hf', _⟩ := hs₁.frames
      rw [hl] at hl'; cases hl'
      obtain ⟨_, o, e, _⟩ := hf'.mem hL
      rw [ok.new L hw] at e; cases e⟩
    by_cases hlt : j < vs.length
    · refine ok.walks.item j s' _ _ hlt hStf fun v h' tk hP hStf' hk => ?_
      have hk' : ButL wr s'.heap h' := fun b o hb e => hk b o hb e
      have hst₃ : Step (c.pro G).F (places env ++ owned σ₁) (places env ++ owned σ') s₁ { s' with heap := h', toks := tk } := hst.writeL ok.new hwF hk'
      have hSt₃ := hSt.writeL wok hk'
      have her₃ := her.writeL wok hpn hk'
      obtain ⟨oI, hoI, hown⟩ := ok.own _ _ hStf'
      refine letOwned (s := { s' with heap := h', toks := tk }) hoI hown ?_
      have hdrop : vs.drop j = vs[j] :: vs.drop (j + 1) := List.drop_eq_getElem_cons hlt
      rw [hdrop] at hW
      have hrel : VRel h' (ownS (c.pro G) σ') vs[j] v := ok.elem h' _ (hst₃.carriesP er₁) j vs[j] v (List.getElem?_eq_getElem hlt) hP
      have rs₃ : ∀ E', RS (c.pro G) d sc m' σ' NoX env A { s' with heap := h', toks := tk } E' := fun E' => ⟨r.sc, r.ok, r.fr, r.a, hSt₃, her₃, .nox⟩
      refine wpAny_mono (hW env A _ _ v (rs₃ _) hrel) ?_ fun z1 z2 x => x
      rintro _ s₄ ⟨m₄, σ₄, h₄, t₄, hs₄, er₄⟩
      refine wpAny_mono (h₄ env A s₄ _ ((rs₃ _).step t₄ hs₄ er₄)) ?_ fun z1 z2 x => x
      rintro f s₅ ⟨fl, m₅, σ₅, h₅, t₅, hs₅, er₅, rf⟩
      have t₃₅ := t₄.trans t₅
      have hwo₅ : ∀ b ∈ wr, b ∉ owned σ₅ := fun b hb hm => by
        obtain ⟨o, e, _⟩ := ok.obj _ _ hStf' b hb
        have hnot : b ∉ places env ++ owned σ' := fun q => (List.mem_append.mp q).elim (fun q => hpn b q hb) (hwo b hb)
        exact t₃₅.grow.notin hnot e (List.mem_append_right _ hm)
      have hfr : Stf (j + 1) s₅.heap := by
        refine ok.walks.frame _ _ _ hStf' fun b hb o e => ?_
        rcases ok.fp b hb with q | q | ⟨q, ob, hob, xs, n, hd⟩
        · obtain ⟨o', e', ⟨ys, hx⟩, _⟩ := ok.obj _ _ hStf' b q
          rw [e] at e'; cases e'
          exact t₃₅.kept.exact e (fun z => (List.mem_append.mp z).elim (fun z => hpn b z q) (hwo b q)) (by rintro ⟨_, _, z⟩; rw [hx] at z; cases z)
        · exact t₃₅.prot b q o e
        · have hnp : b ∉ places env := fun z => hpl b z ob hob (.inl ⟨xs, n, hd⟩)
          have hnot : b ∉ places env ++ owned σ₁ := fun z => (List.mem_append.mp z).elim hnp q
          have hob₃ : h'.get? b = some ob := hst₃.kept.exact hob hnot (by rintro ⟨_, _, z⟩; rw [hd] at z; cases z)
          have e : h'.get? b = some o := e
          rw [hob₃] at e; cases e
          exact t₃₅.kept.exact hob₃ (hst₃.grow.notin hnot hob) (by rintro ⟨_, _, z⟩; rw [hd] at z; cases z)
      have hst₅ := hst₃.trans t₃₅
      cases fl with
      | next => cases rf; exact ⟨vs.length + 1 - (j + 1), by (exact Mine.Ar.lin 0 2 (.lt (.s (.a (.v 0) (.k 1)) (.a (.v 1) (.k 1))) (.s (.a (.v 0) (.k 1)) (.v 1))) [(.lt (.v 1) (.v 0))] (by kernel_rfl) [] [_, _] rfl rfl hlt), j + 1, m₅, σ₅, rfl, hlt, h₅, hst₅, hs₅, er₅, hfr, hwo₅⟩
      | cont => cases rf; exact ⟨vs.length + 1 - (j + 1), by (exact Mine.Ar.lin 0 2 (.lt (.s (.a (.v 0) (.k 1)) (.a (.v 1) (.k 1))) (.s (.a (.v 0) (.k 1)) (.v 1))) [(.lt (.v 1) (.v 0))] (by kernel_rfl) [] [_, _] rfl rfl hlt), j + 1, m₅, σ₅, rfl, hlt, h₅, hst₅, hs₅, er₅, hfr, hwo₅⟩
      | brk => cases rf; exact fin .next .next m₅ σ₅ s₅ h₅ hst₅ hs₅ er₅ rfl
      | ret w =>
        obtain ⟨cv, rfl, rv⟩ := rf
        exact fin (.ret w) (.ret cv) m₅ σ₅ s₅ h₅ hst₅ hs₅ er₅ ⟨cv, rfl, rv⟩
    · have hjl : j = vs.length := Nat.le_antisymm hj (Nat.not_lt.mp hlt)
      subst hjl
      refine ok.walks.done s' _ _ hStf fun h' tk hk => ?_
      have hk' : ButL wr s'.heap h' := fun b o hb e => hk b o hb e
      refine wpAny_execs_nil ?_
      rw [List.drop_length] at hW
      exact fin .next .next m' σ' _ hW (hst.writeL ok.new hwF hk') (hSt.writeL wok hk') (her.writeL wok hpn hk') rfl
  · refine ⟨0, m, σ₁, rfl, Nat.zero_le _, hL, ⟨ok.ext.kept, fun b o e => ⟨o, ok.ext b o e⟩, fun b z1 o e => ok.ext b o e, .refl, hos, hgens⟩, (hs₁.pro hG).ext ok.ext, (er₁.pro hG).mono ok.ext.kept Grow.refl, ok.start, fun b hb hm => ?_⟩
    obtain ⟨o, e⟩ := hs₁.there hm
    rw [ok.new b hb] at e; cases e
end Mine
end

section
set_option Elab.async false
set_option linter.unusedVariables false
set_option linter.unusedSimpArgs false
namespace Mine
open PySem
variable {c : Cx} {d : Nat} {sc : Scope} {m : AEnv} {σ : Led} {P : V → Led → Prop} {X : XP} {K : Fl → AEnv → Led → Prop}

section
variable {M : Model} {A : Around} {E : Value → Shared → Prop} {s : Shared}
end
section
variable {e : Addr} {cls : Value} {base h h' : Heap} {fr : List Addr} {b : Addr} {o : Obj}
end
theorem Step.uncall {W own own' : List Addr} {F : List Addr} {s s₁ s₂ : Shared} (hext : Ext s.heap s₁.heap) (ho : s₁.os = s.os) (hg : s₁.gens = s.gens) (hn : ∀ b ∈ W, s.heap.get? b = none) (t : Step F (W ++ own) (W ++ own') s₁ s₂) : Step F own own' s s₂ := by
  refine ⟨fun b o e hb => ?_, fun b o e => t.there b o (hext b o e), fun b hb o e => t.prot b hb o (hext b o e), fun b hb => ?_, t.os.trans ho, t.gens.trans hg⟩
  · exact t.kept b o (hext b o e) fun q => (List.mem_append.mp q).elim (fun q => by rw [hn b q] at e; cases e) hb
  · rcases t.grow b (List.mem_append_right _ hb) with q | q
    · rcases List.mem_append.mp q with q | q
      · exact .inr (hn b q)
      · exact .inl q
    · refine .inr ?_
      cases e : s.heap.get? b with
      | none => rfl
      | some o => rw [hext b o e] at q; cases q
theorem St.undeep {A : Around} {env : Env} {l : List Env} {h : Heap} (hA : A.frames = some l) (st : St c (A.deeper env) σ h) : St c A σ h := by
  obtain ⟨l', hl', hf, hdd⟩ := st.frames
  have : l' = env :: l := by rw [Around.frames_deeper hA] at hl'; exact (Option.some.inj hl').symm
  subst this
  refine ⟨st.keep, st.nodup, st.fresh, st.objs, ⟨l, hA, hf.2.2, fun L hL => hdd L ?_⟩, st.prot, st.hid⟩
  obtain ⟨L', _, e, _⟩ := hf.2.1
  rw [List.filterMap_cons, e]; exact List.mem_cons_of_mem _ hL
end Mine
end

section
set_option Elab.async false
set_option linter.unusedVariables false
set_option linter.unusedSimpArgs false
namespace Mine
open PySem

variable {c : Cx} {d : Nat} {sc : Scope} {m : AEnv} {σ : Led} {P : V → Led → Prop} {X : XP} {K : Fl → AEnv → Led → Prop}

inductive Rtn (σ : Led) : V → Led → V → Prop
  | keep {v : V} {σ' : Led} : σ'.Sublist σ → Rtn σ v σ' v
  | freeze {a : Addr} {vs : List V} {σ' : Led} : σ.lookup a = some (.list vs) → σ'.Sublist (σ.filter fun p => p.1 != a) → Rtn σ (.ref a) σ' (.lst vs)

theorem owned_sub {σ σ' : Led} (h : σ'.Sublist σ) : (owned σ').Sublist (owned σ) := by
  induction h with
  | slnil => exact .slnil
  | cons x _ ih => obtain ⟨a, o⟩ := x; exact ih.trans (List.sublist_append_right _ _)
  | cons_cons x _ ih => obtain ⟨a, o⟩ := x; exact (List.Sublist.refl _).append ih

theorem St.sub {A : Around} {h : Heap} {σ' : Led} (st : St c A σ h) (k : σ'.Sublist σ) : St c A σ' h := by
  have ko := owned_sub k
  obtain ⟨l, hl, hf, hd⟩ := st.frames
  refine ⟨st.keep, ko.nodup st.nodup, fun a ha => st.fresh a (ko.subset ha), fun a o hm => ?_, ⟨l, hl, hf, fun L hL => ⟨fun q => (hd L hL).1 (ko.subset q), (hd L hL).2⟩⟩, st.prot, fun b hb => ⟨fun q => (st.hid b hb).1 (ko.subset q), (st.hid b hb).2⟩⟩
  exact (st.objs a o (k.subset hm)).mono Ext.refl (Grow.wider fun b hb => .inl (ko.subset hb))
theorem Rtn.post {A : Around} {s s' : Shared} {own : List Addr} {σ' : Led} {v v' : V} {cv : Value} (r : Rtn σ v σ' v') (t : Step c.F own (owned σ) s s') (st : St c A σ s'.heap) (rv : VRel s'.heap (ownS c σ) v cv) :
    Step c.F own (owned σ') s s' ∧ St c A σ' s'.heap ∧ VRel s'.heap (ownS c σ') v' cv := by
  cases r with
  | keep k =>
    have ko := owned_sub k
    exact ⟨⟨t.kept, t.there, t.prot, fun b hb => t.grow b (ko.subset hb), t.os, t.gens⟩, st.sub k, VRel.mono Kept.refl (Grow.wider fun b hb => .inl (ko.subset hb)) _ _ rv⟩
  | @freeze a vs σ' hl k =>
    have k' : σ'.Sublist σ := k.trans List.filter_sublist
    have ko := owned_sub k'
    refine ⟨⟨t.kept, t.there, t.prot, fun b hb => t.grow b (ko.subset hb), t.os, t.gens⟩, st.sub k', ?_⟩
    simp only [VRel] at rv; subst rv
    obtain ⟨cs, p, hsz, rs⟩ := st.objs _ _ (lookup_mem hl)
    simp only [VRel]
    refine ⟨a, cs, rfl, fun hm => ?_, p, hsz, VRels.mono Kept.refl (Grow.wider fun b hb => .inl (ko.subset hb)) _ _ rs⟩
    have ha0 : a ∈ owned σ := mem_owned.mpr ⟨a, _, lookup_mem hl, by simp [O.addrs]⟩
    replace hm : a ∈ owned σ' := (List.mem_append.mp hm).elim (fun q => absurd ha0 (st.hid a q).1) id
    -- the address is borne once
    have hnd := st.nodup
    have hm' : a ∈ owned (σ.filter fun p => p.1 != a) := (owned_sub k).subset hm
    obtain ⟨b, o, hbo, hab⟩ := mem_owned.mp hm'
    have hb : (b, o) ∈ σ ∧ b ≠ a := by simpa using List.mem_filter.mp hbo
    have key : ∀ (τ : Led), (owned τ).Nodup → (a, O.list vs) ∈ τ → (b, o) ∈ τ → b ≠ a → a ∈ o.addrs b → False := by
      intro τ
      induction τ with
      | nil => intro _ h; cases h
      | cons x τ ih =>
        obtain ⟨y, oy⟩ := x
        intro hnd h1 h2 hne ha
        obtain ⟨_, hnd2, hdis⟩ := List.nodup_append.mp hnd
        rcases List.mem_cons.mp h1 with q1 | q1 <;> rcases List.mem_cons.mp h2 with q2 | q2
        · cases q1; cases q2; exact hne rfl
        · cases q1; exact hdis a (by simp [O.addrs]) a (mem_owned.mpr ⟨b, o, q2, ha⟩) rfl
        · cases q2; exact hdis a ha a (mem_owned.mpr ⟨a, _, q1, by simp [O.addrs]⟩) rfl
        · exact ih hnd2 q1 q2 hne ha
    exact key σ hnd (lookup_mem hl) hb.1 hb.2 hab

noncomputable def Ret (P : V → Led → Prop) : Fl → AEnv → Led → Prop
  | .ret v, _, σ => ∃ v' σ', Rtn σ v σ' v' ∧ P v' σ'
  | .next, _, σ => ∃ σ', σ'.Sublist σ ∧ P .none σ'
  | _, _, _ => False

noncomputable def nodupB : List Str → Bool
  | [] => true
  | x :: r => !r.contains x && nodupB r
theorem nodup_of {l : List Str} (h : nodupB l = true) : l.Nodup := by
  induction l with
  | nil => exact .nil
  | cons x r ih =>
    simp only [nodupB, Bool.and_eq_true, Bool.not_eq_true', List.contains_eq_mem, decide_eq_false_iff_not] at h
    exact List.nodup_cons.mpr ⟨h.1, ih h.2⟩

set_option tactic.hygienic true in
theorem mem_cellsFrom : ∀ (names : List (Str × NameKind)) (n : Nat) (acc : List (Str × Addr)) {x : Str} {a : Addr}, (x, a) ∈ cellsFrom n names acc → (x, a) ∈ acc ∨ ((x, NameKind.cell) ∈ names ∧ n ≤ a)
  | [], _, _, _, _, h => .inl h
  | (y, k) :: r, n, acc, x, a, h => by
    unfold cellsFrom at h
    split at h
    · rename_i hk
      have hk' : k = .cell := beq_iff_eq.mp hk
      subst hk'
      rcases mem_cellsFrom r (n + 1) _ h with q | ⟨q1, q2⟩
      · rcases List.mem_cons.mp q with q | q
        · cases q; exact .inr ⟨.head _, Nat.le_refl _⟩
        · exact .inl q
      · exact .inr ⟨.tail _ q1, by (exact Mine.Ar.lin 0 2 (.le (.v 0) (.v 1)) [(.le (.a (.v 0) (.k 1)) (.v 1))] (by kernel_rfl) [] [_, _] rfl rfl q2)⟩
    · rcases mem_cellsFrom r n _ h with q | ⟨q1, q2⟩
      · exact .inl q
      · exact .inr ⟨.tail _ q1, q2⟩
set_option tactic.hygienic true in
theorem keys_cellsFrom : ∀ (names : List (Str × NameKind)) (n : Nat) (acc : List (Str × Addr)), (cellsFrom n names acc).map (·.1) = ((names.filter (·.2 == .cell)).map (·.1)).reverse ++ acc.map (·.1)
  | [], _, _ => by simp [cellsFrom]
  | (y, k) :: r, n, acc => by
    unfold cellsFrom
    split
    · rename_i hk
      rw [keys_cellsFrom r]
      simp [List.filter_cons, hk]
    · rename_i hk
      rw [keys_cellsFrom r]
      have : (k == NameKind.cell) = false := by simpa using hk
      simp [List.filter_cons, this]
theorem lookup_of_mem {α : Type} : ∀ {l : List (Str × α)}, (l.map (·.1)).Nodup → ∀ {x : Str} {a : α}, (x, a) ∈ l → l.lookup x = some a
  | (y, b) :: r, hn, x, a, h => by
    simp only [List.map_cons, List.nodup_cons] at hn
    rw [List.lookup_cons]
    rcases List.mem_cons.mp h with q | q
    · cases q; simp
    · have : (x == y) = false := by
        rw [beq_eq_false_iff_ne]
        rintro rfl
        exact hn.1 (List.mem_map.mpr ⟨_, q, rfl⟩)
      rw [this]; exact lookup_of_mem hn.2 q
theorem lookup_some_of_key : ∀ {l : List (Str × Addr)} {x : Str}, x ∈ l.map (·.1) → ∃ a, l.lookup x = some a
  | (y, b) :: r, x, h => by
    rw [List.lookup_cons]
    cases hb : x == y with
    | true => exact ⟨b, rfl⟩
    | false =>
      simp only [List.map_cons, List.mem_cons] at h
      rcases h with h | h
      · subst h; simp at hb
      · exact lookup_some_of_key h

noncomputable def scOk (sc : Scope) (names : List Str) : Bool :=
  sc.kind == .function && !sc.isCoroutine && !sc.isGenerator && names.all (fun x => isLoc sc x) && (sc.names.all fun p => p.2 != .free && p.1 != ("__debug__" : Str)) && nodupB ((sc.names.filter (·.2 == .cell)).map (·.1)) && nodupB names

structure FnAt (c : Cx) (f : Value) (names : List Str) (body : List Stmt) (sc : Scope) : Prop where
  at_ : ∃ a o fd, f = .ref a ∧ c.k.h0.get? a = some o ∧ o.data = .func fd ∧ c.k.h0.CodeRec fd.code fd.qualname ∧ fd.body = .stmts body ∧ fd.scope = sc ∧ fd.closure = [] ∧ fd.globals = mainGlobals ∧ fd.builtins = builtinsNs ∧
    ∀ cs : List Value, cs.length = names.length → bindArgs fd ⟨cs, []⟩ = pure (names.zip cs)

theorem bindL_lookup {kindOf : Str → Option NameKind} : ∀ (binds : List (Str × Value)) (m0 : Str → Option Value), (binds.map (·.1)).Nodup → ∀ x, kindOf x = some .local → bindL kindOf binds m0 x = (binds.lookup x).or (m0 x)
  | [], m0, _, x, _ => by simp [bindL]
  | (n, v) :: r, m0, hn, x, hk => by
    simp only [List.map_cons, List.nodup_cons] at hn
    unfold bindL
    rw [bindL_lookup r _ hn.2 x hk, List.lookup_cons]
    by_cases e : x = n
    · subst e
      rw [if_pos hk, beq_self_eq_true]
      have : r.lookup x = none := by
        cases q : r.lookup x with
        | none => rfl
        | some w => exact absurd (List.mem_map.mpr ⟨_, mem_of_lookup q, rfl⟩) hn.1
      rw [this]; simp
    · rw [beq_eq_false_iff_ne.mpr e]
      split <;> simp [e]
theorem bindC_lookup {kindOf : Str → Option NameKind} : ∀ (binds : List (Str × Value)) (m0 : Str → Option Value), (binds.map (·.1)).Nodup → ∀ x, kindOf x ≠ some .local → bindC kindOf binds m0 x = (binds.lookup x).or (m0 x)
  | [], m0, _, x, _ => by simp [bindC]
  | (n, v) :: r, m0, hn, x, hk => by
    simp only [List.map_cons, List.nodup_cons] at hn
    unfold bindC
    rw [bindC_lookup r _ hn.2 x hk, List.lookup_cons]
    by_cases e : x = n
    · subst e
      rw [if_neg hk, beq_self_eq_true]
      have : r.lookup x = none := by
        cases q : r.lookup x with
        | none => rfl
        | some w => exact absurd (List.mem_map.mpr ⟨_, mem_of_lookup q, rfl⟩) hn.1
      rw [this]; simp
    · rw [beq_eq_false_iff_ne.mpr e]
      split <;> simp [e]

theorem zip_lookup {h : Heap} {own : List Addr} : ∀ {names : List Str} {vs : List V} {cs : List Value} {x : Str} {v : V}, VRels h own vs cs → (names.zip vs).lookup x = some v → ∃ cv, (names.zip cs).lookup x = some cv ∧ VRel h own v cv
  | [], _, _, _, _, _, e => by simp at e
  | _ :: _, [], _, _, _, _, e => by simp at e
  | n :: names, w :: vs, cs, x, v, r, e => by
    simp only [VRels] at r
    obtain ⟨cw, cs', rfl, r1, rs⟩ := r
    simp only [List.zip_cons_cons, List.lookup_cons] at e ⊢
    cases hb : x == n with
    | true => rw [hb] at e; cases e; exact ⟨cw, rfl, r1⟩
    | false => rw [hb] at e; exact zip_lookup rs e

theorem CallS_def {f : Value} {names : List Str} {body : List Stmt} {vs : List V} (hc : c.k.OK) (hf : FnAt c f names body sc) (hsc : scOk sc names = true) (hl : vs.length = names.length)
    (h : WSs c d sc body (names.zip vs) σ (Ret P) NoX) : CallS c (d + 1) f vs σ P X := by
  intro A s E cs hA st rs hX
  obtain ⟨a, o, fd, rfl, ho, hd, hcode, hbody, hscope, hclo, hglob, hblt, hbind⟩ := hf.at_
  subst hscope
  simp only [scOk, Bool.and_eq_true, beq_iff_eq, Bool.not_eq_true', List.all_eq_true, bne_iff_ne, ne_eq] at hsc
  obtain ⟨⟨⟨⟨⟨⟨hk, hco⟩, hgen⟩, hnames⟩, hkinds⟩, hcells⟩, hnd⟩ := hsc
  have hnd' := nodup_of hnd
  have hlen : cs.length = names.length := by rw [rs.length, hl]
  have hzip : (names.zip cs).map (·.1) = names := by rw [List.map_fst_zip]; (exact Mine.Ar.lin 0 2 (.le (.v 0) (.v 1)) [(.eq (.v 1) (.v 0))] (by kernel_rfl) [] [_, _] rfl rfl hlen)
  have hkeys : ((cellsFrom (s.heap.objs.size + 1) fd.scope.names []).map (·.1)).Nodup := by
    rw [keys_cellsFrom, List.map_nil, List.append_nil]; exact (List.reverse_perm _).nodup_iff.mpr (nodup_of hcells)
  refine wpAny_call (codeAny_call_cells (by have := hA.depth; unfold recursionLimit; (exact Mine.Ar.lin 0 2 (.lt (.v 0) (.k 1000)) [(.lt (.a (.v 0) (.a (.v 1) (.k 1))) (.k 900))] (by kernel_rfl) [] [_, _] rfl rfl this)) (st.keep _ _ ho) hd (hc.nolimit.keeps st.keep) (hcode.keeps st.keep) hbody (hbind cs hlen) hclo ?_ ?_ hco hgen hk)
  · intro x hx
    have hx1 : x.1 ∈ names := by rw [← hzip]; exact List.mem_map.mpr ⟨x, hx, rfl⟩
    rcases isLoc_kind (hnames x.1 hx1) with q | q
    · exact .inl q
    · refine .inr ⟨q, ?_⟩
      obtain ⟨b, hb⟩ := lookup_some_of_key (l := cellsFrom (s.heap.objs.size + 1) fd.scope.names []) (x := x.1) (by
        rw [keys_cellsFrom]
        simp only [List.map_nil, List.append_nil, List.mem_reverse, List.mem_map, List.mem_filter]
        exact ⟨_, ⟨mem_of_lookup q, by simp⟩, rfl⟩)
      rw [hb]; rfl
  · intro s₁ ic
    have hE : callEnvC fd s.heap.objs.size a = newEnv fd.scope s.heap.objs.size fd.globals (cellsFrom (s.heap.objs.size + 1) fd.scope.names []) (fd.qualname ++ ".<locals>.") (some a) fd.code none fd.builtins := rfl
    generalize henv : callEnvC fd s.heap.objs.size a = env at ic ⊢
    have eloc : env.locals = s.heap.objs.size := by rw [← henv]; rfl
    have escope : env.scope = fd.scope := by rw [← henv]; rfl
    have ecells : env.cells = cellsFrom (s.heap.objs.size + 1) fd.scope.names [] := by rw [← henv]; rfl
    have eglob : env.globals = mainGlobals := by rw [← henv]; exact hglob
    have eblt : env.builtins = builtinsNs := by rw [← henv]; exact hblt
    have eframe : env.frame = some env.locals := by rw [← henv]; rfl
    have ekind : ∀ x, env.kindOf x = fd.scope.names.lookup x := fun x => by unfold Env.kindOf; rw [escope]
    have nofree : ∀ x, env.kindOf x ≠ some .free := fun x q => by
      rw [ekind] at q; exact (hkinds _ (mem_of_lookup q)).1 rfl
    obtain ⟨⟨h₁, tk, hs₁⟩, hns, hkeep, hfresh⟩ := ic.toInCall
    have hext : Ext s.heap s₁.heap := hkeep
    have ok : EnvOk env := by
      refine ⟨by rw [escope]; exact hk, ?_, fun q => nofree _ q, eglob, eblt, fun x q => ?_⟩
      · rw [ekind]
        cases q : fd.scope.names.lookup ("__debug__" : Str) with
        | none => rfl
        | some k => exact absurd rfl (hkinds _ (mem_of_lookup q)).2
      · rcases q with q | q
        · rw [ekind] at q
          rw [ecells]
          refine lookup_some_of_key ?_
          rw [keys_cellsFrom]
          simp only [List.map_nil, List.append_nil, List.mem_reverse, List.mem_map, List.mem_filter]
          exact ⟨_, ⟨mem_of_lookup q, by simp⟩, rfl⟩
        · exact absurd q (nofree x)
    have hpnew : ∀ b ∈ places env, s.heap.get? b = none := fun b hb => by
      simp only [places, List.mem_cons, List.mem_map] at hb
      have hle : s.heap.objs.size ≤ b := by
        rcases hb with rfl | ⟨⟨x, b'⟩, hm, rfl⟩
        · (exact Mine.Ar.lin 0 2 (.le (.v 0) (.v 1)) [(.le (.v 0) (.v 1))] (by kernel_rfl) [] [_, _] rfl rfl hfresh)
        · rw [ecells] at hm
          rcases mem_cellsFrom _ _ _ hm with q | ⟨_, q⟩
          · cases q
          · dsimp only; (exact Mine.Ar.lin 0 2 (.le (.v 0) (.v 1)) [(.le (.a (.v 0) (.k 1)) (.v 1))] (by kernel_rfl) [] [_, _] rfl rfl q)
      cases e : s.heap.get? b with
      | none => rfl
      | some o => exact absurd (Heap.lt_size e) (Nat.not_lt.mpr hle)
    have hpb : ∀ b ∈ places env, b ∉ ownS c σ ∧ c.k.h0.get? b = none ∧ b ∉ c.F := fun b hb => by
      have hn := hpnew b hb
      refine ⟨fun q => ?_, ?_, fun q => ?_⟩
      · rcases List.mem_append.mp q with q | q
        · obtain ⟨_, o, e⟩ := st.hid b q; rw [hn] at e; cases e
        · obtain ⟨o, e⟩ := st.there q; rw [hn] at e; cases e
      · cases e : c.k.h0.get? b with
        | none => rfl
        | some o => have := st.keep _ _ e; rw [hn] at this; cases this
      · obtain ⟨o, e⟩ := st.prot b q; rw [hn] at e; cases e
    have hLp : env.locals ∈ places env := by simp [places]
    have hcp : ∀ x b, (x, b) ∈ env.cells → b ∈ places env := fun x b hm => by simp only [places, List.mem_cons, List.mem_map]; exact .inr ⟨_, hm, rfl⟩
    have st₁ : St c (A.deeper env) σ s₁.heap := by
      have := st.ext hext
      obtain ⟨l, hl, hf, hdd⟩ := this.frames
      refine ⟨this.keep, this.nodup, this.fresh, this.objs, ⟨env :: l, Around.frames_deeper hl, .cons (by rw [ok.kind]; decide) eframe hns (hpb _ hLp).2.1 hf, fun L hL => ?_⟩, this.prot, this.hid⟩
      rw [List.filterMap_cons, eframe] at hL
      rcases List.mem_cons.mp hL with rfl | hL
      · refine ⟨fun q => (hpb _ hLp).1 (List.mem_append_right _ q), (hpb _ hLp).2.2, fun o e => ?_⟩
        obtain ⟨oL, es, ep, e', hd', _⟩ := hns
        rw [e'] at e; cases e; exact ⟨es, ep, hd'⟩
      · exact hdd L hL
    have hA' : AOk c.k d (A.deeper env) := ⟨hA.handled, by have := hA.depth; show A.depth + 1 + d < 900; (exact Mine.Ar.lin 0 2 (.lt (.a (.a (.v 0) (.k 1)) (.v 1)) (.k 900)) [(.lt (.a (.v 0) (.a (.v 1) (.k 1))) (.k 900))] (by kernel_rfl) [] [_, _] rfl rfl this), by have := hA.units; show A.units + 3 + 20 * d < 9000; (exact Mine.Ar.lin 0 2 (.lt (.a (.a (.v 0) (.k 3)) (.m 20 (.v 1))) (.k 9000)) [(.lt (.a (.v 0) (.m 20 (.a (.v 1) (.k 1)))) (.k 9000))] (by kernel_rfl) [] [_, _] rfl rfl this), by have := hA.le; (exact Mine.Ar.lin 0 1 (.le (.v 0) (.k 100)) [(.le (.a (.v 0) (.k 1)) (.k 100))] (by kernel_rfl) [] [_] rfl rfl this)⟩
    have rs₁ := VRels.mono hext.kept (Grow.refl (own := ownS c σ)) vs cs rs
    have er₁ : EnvRel c (ownS c σ) env (names.zip vs) s₁.heap := by
      refine ⟨⟨_, hns, fun x v hx hkx => ?_⟩, fun x v hx hkx => ?_, hpb _ hLp, fun x b hm => ?_, ic.apart⟩
      · obtain ⟨cv, e, r⟩ := zip_lookup rs₁ hx
        exact ⟨cv, by rw [bindL_lookup _ _ (by rw [hzip]; exact hnd') x hkx, e]; rfl, r⟩
      · obtain ⟨b, hb⟩ := ok.cell x hkx
        obtain ⟨cv, e, r⟩ := zip_lookup rs₁ hx
        refine ⟨b, cv, hb, ?_, r⟩
        have := ic.cell x b hb
        rwa [bindC_lookup _ _ (by rw [hzip]; exact hnd') x (fun q => by rw [q] at hkx; simp at hkx), e] at this
      · refine ⟨(hpb _ (hcp x b hm)).1, ?_, (hpb _ (hcp x b hm)).2.1, (hpb _ (hcp x b hm)).2.2, _, ic.cell x b (lookup_of_mem (by rw [ecells]; exact hkeys) hm)⟩
        rw [eloc]
        rw [ecells] at hm
        rcases mem_cellsFrom _ _ _ hm with q | ⟨_, q⟩
        · cases q
        · exact Nat.ne_of_gt (Nat.lt_of_succ_le q)
    obtain ⟨l0, hl0, _⟩ := id st.frames
    have hos : s₁.os = s.os := by rw [hs₁]
    have hgn : s₁.gens = s.gens := by rw [hs₁]
    refine wpAny_mono (h env (A.deeper env) s₁ _ ⟨escope, ok, ⟨l0, Around.frames_deeper hl0⟩, hA', st₁, er₁, fun e cls σ' s' hx t hs er he => ?_⟩) ?_ fun z1 z2 x => x
    · exact hx.elim
    rintro f s₂ ⟨fl, m₂, σ₂, h₂, t₂, hs₂, er₂, rf⟩
    have st₂ : St c A σ₂ s₂.heap := St.undeep hl0 hs₂
    have t₁₂ : Step c.F (owned σ) (owned σ₂) s s₂ := Step.uncall hext hos hgn hpnew t₂
    cases fl with
    | ret v =>
      obtain ⟨cv, rfl, rv⟩ := rf
      obtain ⟨v', σ', hr, hp⟩ := h₂
      obtain ⟨q1, q2, q3⟩ := hr.post t₁₂ st₂ rv
      exact ⟨v', σ', hp, q1, q2, q3⟩
    | next =>
      cases rf
      obtain ⟨σ', hr, hp⟩ := h₂
      obtain ⟨q1, q2, q3⟩ := (Rtn.keep (v := .none) hr).post (cv := .none) t₁₂ st₂ (by simp only [VRel])
      exact ⟨.none, σ', hp, q1, q2, q3⟩
    | brk => exact h₂.elim
    | cont => exact h₂.elim
end Mine
end

section
set_option Elab.async false
set_option linter.unusedVariables false
set_option linter.unusedSimpArgs false
namespace Mine
open PySem

variable {c : Cx} {d : Nat} {sc : Scope} {m : AEnv} {σ : Led} {P : V → Led → Prop} {X : XP} {K : Fl → AEnv → Led → Prop}

noncomputable def Cx.hide (c : Cx) (D : Addr) : Cx := { c with H := D :: c.H }

theorem St.hideNew {A : Around} {h h' : Heap} {D : Addr} {ob : Obj} (st : St c A σ h) (x : Ext h h') (hn : h.get? D = none) (hD : h'.get? D = some ob) : St (c.hide D) A σ h' := by
  have st' := st.ext x
  have hno : D ∉ owned σ := fun q => by obtain ⟨o, e⟩ := st.there q; rw [hn] at e; cases e
  refine ⟨st'.keep, st'.nodup, st'.fresh, fun a o hm => ?_, st'.frames, st'.prot, fun b hb => ?_⟩
  · refine (st.objs a o hm).mono x fun b hb => ?_
    rcases List.mem_cons.mp hb with rfl | hb
    · exact .inr hn
    · exact .inl hb
  · rcases List.mem_cons.mp hb with rfl | hb
    · exact ⟨hno, ob, hD⟩
    · exact st'.hid b hb
theorem St.unhide {A : Around} {h : Heap} {D : Addr} (st : St (c.hide D) A σ h) : St c A σ h :=
  ⟨st.keep, st.nodup, st.fresh, fun a o hm => (st.objs a o hm).mono Ext.refl fun b hb => .inl (List.mem_cons_of_mem _ hb), st.frames, st.prot, fun b hb => st.hid b (List.mem_cons_of_mem _ hb)⟩

theorem But.carriesHid {own : List Addr} {h h' : Heap} {D : Addr} (hD : D ∈ own) (k : But D h h') : Carries own own h h' := fun a o e ha f => ⟨k a o (fun q => ha (q ▸ hD)) e, ha⟩
theorem St.writeHid {A : Around} {h h' : Heap} {D : Addr} {ob ob' : Obj} (st : St c A σ h) (hD : D ∈ c.H) (h0 : c.k.h0.get? D = none) (hob : h.get? D = some ob) (hnd : ¬ Obj.isDict ob) (k : But D h h') (hob' : h'.get? D = some ob') : St c A σ h' := by
  have hno := (st.hid D hD).1
  have hc : Carries (ownS c σ) (ownS c σ) h h' := k.carriesHid (List.mem_append_left _ hD)
  refine ⟨fun b o e => k b o (fun q => by rw [q, h0] at e; cases e) (st.keep b o e), st.nodup, st.fresh, fun a o hm => ?_, ?_, fun b hb => ?_, fun b hb => ?_⟩
  · have hne : ∀ b ∈ o.addrs a, b ≠ D := fun b hb q => hno (mem_owned.mpr ⟨a, o, hm, q ▸ hb⟩)
    have hr := st.objs a o hm
    cases o with
    | list vs =>
      obtain ⟨cs, ⟨n, p⟩, hl, r⟩ := hr
      exact ⟨cs, ⟨n, k a _ (hne a (by simp [O.addrs])) p⟩, hl, r.carry hc⟩
    | dictI _ => exact DictR.carry hr (fun ob' e => k a _ (hne a (by simp [O.addrs])) e) hc
    | dictS _ => exact DictR.carry hr (fun ob' e => k a _ (hne a (by simp [O.addrs])) e) hc
    | inst _ _ _ => exact hr.elim
    | exc C => obtain ⟨o, vs, e, q⟩ := hr; exact ⟨o, vs, k a _ (hne a (by simp [O.addrs])) e, q⟩
  · obtain ⟨l, hl, hfr, hd⟩ := st.frames
    have hne : ∀ L ∈ l.filterMap (·.frame), L ≠ D := fun L hL q => by subst q; exact hnd ((hd L hL).2.2 _ hob)
    refine ⟨l, hl, funFrames_of hfr fun L hL => ?_, fun L hL => ⟨(hd L hL).1, (hd L hL).2.1, fun o e => ?_⟩⟩
    · obtain ⟨_, o, ho, hnf⟩ := hfr.mem hL
      exact ⟨o, k L o (hne L hL) ho, hnf⟩
    · obtain ⟨_, o', e', _⟩ := hfr.mem hL
      rw [k L o' (hne L hL) e'] at e; cases e
      exact (hd L hL).2.2 o e'
  · obtain ⟨o, e⟩ := st.prot b hb
    by_cases q : b = D
    · subst q; exact ⟨_, hob'⟩
    · exact ⟨o, k b o q e⟩
  · obtain ⟨q1, o, e⟩ := st.hid b hb
    refine ⟨q1, ?_⟩
    by_cases q : b = D
    · subst q; exact ⟨_, hob'⟩
    · exact ⟨o, k b o q e⟩
theorem EnvRel.writeHid {env : Env} {h h' : Heap} {D : Addr} (er : EnvRel c (ownS c σ) env m h) (hD : D ∈ c.H) (k : But D h h') : EnvRel c (ownS c σ) env m h' := by
  have hDo : D ∈ ownS c σ := List.mem_append_left _ hD
  have hc : Carries (ownS c σ) (ownS c σ) h h' := k.carriesHid hDo
  obtain ⟨mc, ⟨oL, es, ep, ho, r⟩, hm⟩ := er.ns
  have hcell : ∀ {a : Addr} {v : Option Value}, a ∉ ownS c σ → h.IsCell a v → h'.IsCell a v := fun {a v} ha ⟨oc, hoc, hdc⟩ => ⟨oc, k a oc (fun q => ha (q ▸ hDo)) hoc, hdc⟩
  refine ⟨⟨mc, ⟨oL, es, ep, k _ _ (fun q => er.lnot.1 (q ▸ hDo)) ho, r⟩, fun y v hy hk => ?_⟩, fun y v hy hk => ?_, er.lnot, fun y a ha => ?_, er.apart⟩
  · obtain ⟨cv, e, r⟩ := hm y v hy hk
    exact ⟨cv, e, r.carry hc⟩
  · obtain ⟨a, cv, e, hcl, r⟩ := er.cell y v hy hk
    exact ⟨a, cv, e, hcell (er.cnot y a (mem_of_lookup e)).1 hcl, r.carry hc⟩
  · obtain ⟨h1, h2, h3, h4, v, h5⟩ := er.cnot y a ha
    exact ⟨h1, h2, h3, h4, v, hcell h1 h5⟩

theorem codeAny_comp_any {prog : Program} {w : World} {A : Around} {R : Result → Shared → Prop} {s : Shared} {elt target iter : Expr} {ifs : List Expr} {scope : Scope} {pos : Pos} {it acc : Value} {env : Env} (I : Nat → Shared → Prop)
    (turn : ∀ n s, I n s → wpAny (model prog w) A (pyNext it) (fun r s₁ => match r with
      | none => R (.ok .next) s₁
      | some v => wpAny (model prog w) A (letOwnedTupleGo target it v) (fun z1 s₁' => wpAny (model prog w) A (assign target env v) (fun z1 s₂ =>
          wpAny (model prog w) A (forIn ifs true fun c r => if r = true then do let ok ← isTrue c env (eval c env); pure (ForInStep.yield ok) else pure (ForInStep.yield r)) (fun ok s₃ =>
            if ok = true then wpAny (model prog w) A (eval elt env) (fun x s₄ =>
              wpAny (model prog w) A (call (.builtin "list.append") [acc, x]) (fun z1 s₅ => ∃ m, m < n ∧ I m s₅) (notedBy (model prog w) A env fun e s' => R (.error e) s') s₄) (notedBy (model prog w) A env fun e s' => R (.error e) s') s₃
            else ∃ m, m < n ∧ I m s₃) (notedBy (model prog w) A env fun e s' => R (.error e) s') s₂) (notedBy (model prog w) A env fun e s' => R (.error e) s') s₁') (notedBy (model prog w) A env fun e s' => R (.error e) s') s₁) (notedBy (model prog w) A env fun e s' => R (.error e) s') s)
    (n : Nat) (h : I n s) : codeAny (model prog w) A (.compLoop (.ListComp elt [⟨target, iter, ifs, 0⟩] scope pos) 0 it acc env) R s := by
  refine codeAny_loop rfl I (fun n s hI => ?_) n h
  show wpAny _ A ((compTurn (.ListComp elt [⟨target, iter, ifs, 0⟩] scope pos) 0 it acc env).onRaise (fun x => do noteFrame x env; theTreesLotGoes x)) _ _ s
  refine wpAny_noted ?_
  rw [compTurn_list]
  refine wpAny_bind (wpAny_standAt (wpAny_bind (wpAny_mono (turn n s hI) (fun r s₁ h₁ => ?_) fun z1 z2 h' => h')))
  cases r with
  | none => exact wpAny_pure h₁
  | some v =>
    refine wpAny_bind (wpAny_mono h₁ (fun z1 s₁' h₁' => wpAny_bind (wpAny_mono h₁' (fun z1 s₂ h₂ => wpAny_bind (wpAny_mono h₂ (fun ok s₃ h₃ => ?_) fun z1 z2 h' => h')) fun z1 z2 h' => h')) fun z1 z2 h' => h')
    cases ok with
    | false => exact wpAny_pure ⟨rfl, h₃⟩
    | true =>
      exact wpAny_bind (wpAny_bind (wpAny_mono h₃ (fun x s₄ h₄ => wpAny_bind (wpAny_mono h₄ (fun z1 s₅ h₅ => wpAny_pure (wpAny_pure ⟨rfl, h₅⟩)) fun z1 z2 h' => h')) fun z1 z2 h' => h'))

noncomputable def varOf : Option NameKind → Bool
  | some .cell | some .free => true
  | _ => false
noncomputable def ownOf : Option NameKind → Bool
  | some .local | some .cell => true
  | _ => false

noncomputable def compOk (scope sc : Scope) (x : Str) : Bool :=
  scope.kind == .function && nodupB (scope.names.map (·.1)) &&
  (scope.names.all fun p => p.1 != ("__debug__" : Str) && p.1 != ("__classdict__" : Str) && (p.2 != .free || varOf (sc.names.lookup p.1)) && (!ownOf (some p.2) || p.1 == x || p.1 == (".0" : Str))) &&
  ownOf (scope.names.lookup x)

noncomputable def relabelS (scope sc : Scope) : Scope :=
  { scope with names := scope.names.map fun (n, k) => if (k == .free && sc.kind == .function && sc.names.lookup n == some .cell) then (n, .cell) else (n, k) }
set_option tactic.hygienic true in
theorem lookup_relabelS {scope sc : Scope} {x : Str} : (relabelS scope sc).names.lookup x = (scope.names.lookup x).map fun k => if (k == .free && sc.kind == .function && sc.names.lookup x == some .cell) then .cell else k := by
  unfold relabelS
  dsimp only
  induction scope.names with
  | nil => rfl
  | cons p r ih =>
    obtain ⟨n, k⟩ := p
    simp only [List.map_cons]
    by_cases hx : x = n
    · subst hx
      split
      · rename_i hc
        simp only [List.lookup_cons, beq_self_eq_true, Option.map_some]
        rw [if_pos hc]
      · rename_i hc
        simp only [List.lookup_cons, beq_self_eq_true, Option.map_some]
        rw [if_neg hc]
    · have hb : (x == n) = false := beq_eq_false_iff_ne.mpr hx
      split <;> simp only [List.lookup_cons, hb] <;> exact ih

noncomputable def clOf (cells : List (Str × Addr)) : List (Str × NameKind) → List (Str × Addr) → List (Str × Addr)
  | [], acc => acc
  | (n, k) :: r, acc => if k == .free then clOf cells r ((n, (cells.lookup n).getD 0) :: acc) else clOf cells r acc

theorem closureFor_eq {scope : Scope} {env : Env} (h : ∀ p ∈ scope.names, p.2 = .free → ∃ a, env.cells.lookup p.1 = some a) : closureFor scope env = pure (clOf env.cells scope.names []) := by
  unfold closureFor
  have key : ∀ (names : List (Str × NameKind)) (acc : List (Str × Addr)), (∀ p ∈ names, p.2 = .free → ∃ a, env.cells.lookup p.1 = some a) →
      (forIn names acc fun x cs => match x with | (name, kind) => if (kind == NameKind.free) = true then (do let a ← cellOf env name; pure (ForInStep.yield ((name, a) :: cs))) else pure (ForInStep.yield cs)) = (pure (clOf env.cells names acc) : Sem _) := by
    intro names
    induction names with
    | nil => intro acc _; rfl
    | cons p r ih =>
      intro acc hp
      obtain ⟨n, k⟩ := p
      rw [List.forIn_cons]
      have hr := fun p hm => hp p (List.mem_cons_of_mem _ hm)
      by_cases hk : (k == NameKind.free) = true
      · obtain ⟨a, ha⟩ := hp (n, k) (.head _) (beq_iff_eq.mp hk)
        have e1 : cellOf env n = pure a := by unfold cellOf; rw [ha]
        simp only [hk, if_true, e1, pure_bind]
        rw [ih _ hr]
        simp only [clOf, hk, if_true, ha, Option.getD_some]
      · have hk' : (k == NameKind.free) = false := by simpa using hk
        simp only [hk', Bool.false_eq_true, if_false, pure_bind]
        rw [ih _ hr]
        simp only [clOf, hk', Bool.false_eq_true, if_false]
  have := key scope.names [] h
  simp only [bind_pure]
  exact this

set_option tactic.hygienic true in
theorem mem_clOf : ∀ (cells : List (Str × Addr)) (names : List (Str × NameKind)) (acc : List (Str × Addr)) {x : Str} {a : Addr}, (x, a) ∈ clOf cells names acc → (x, a) ∈ acc ∨ ((x, NameKind.free) ∈ names ∧ a = (cells.lookup x).getD 0)
  | _, [], _, _, _, h => .inl h
  | cells, (n, k) :: r, acc, x, a, h => by
    unfold clOf at h
    split at h
    · rename_i hk
      have hk' : k = .free := beq_iff_eq.mp hk
      subst hk'
      rcases mem_clOf cells r _ h with q | ⟨q1, q2⟩
      · rcases List.mem_cons.mp q with q | q
        · cases q; exact .inr ⟨.head _, rfl⟩
        · exact .inl q
      · exact .inr ⟨.tail _ q1, q2⟩
    · rcases mem_clOf cells r _ h with q | ⟨q1, q2⟩
      · exact .inl q
      · exact .inr ⟨.tail _ q1, q2⟩
set_option tactic.hygienic true in
theorem keys_clOf : ∀ (cells : List (Str × Addr)) (names : List (Str × NameKind)) (acc : List (Str × Addr)), (clOf cells names acc).map (·.1) = ((names.filter (·.2 == .free)).map (·.1)).reverse ++ acc.map (·.1)
  | _, [], _ => by simp [clOf]
  | cells, (y, k) :: r, acc => by
    unfold clOf
    split
    · rename_i hk
      rw [keys_clOf cells r]
      simp [List.filter_cons, hk]
    · rename_i hk
      rw [keys_clOf cells r]
      have : (k == NameKind.free) = false := by simpa using hk
      simp [List.filter_cons, this]
theorem pairwise_keys {cells l : List (Str × Addr)} (hp : cells.Pairwise fun x y => x.2 ≠ y.2) (hn : (l.map (·.1)).Nodup) (hl : ∀ x a, (x, a) ∈ l → cells.lookup x = some a) : l.Pairwise fun x y => x.2 ≠ y.2 := by
  induction l with
  | nil => exact .nil
  | cons p r ih =>
    simp only [List.map_cons, List.nodup_cons] at hn
    refine List.pairwise_cons.mpr ⟨fun q hq e => ?_, ih hn.2 fun x a h => hl x a (.tail _ h)⟩
    have h1 := hl p.1 p.2 (.head _)
    have h2 := hl q.1 q.2 (.tail _ hq)
    have : p.1 = q.1 := name_of_addr hp (mem_of_lookup h1) (e ▸ mem_of_lookup h2)
    exact hn.1 (this ▸ List.mem_map.mpr ⟨q, hq, rfl⟩)
theorem cells_split : ∀ (names : List (Str × NameKind)) (n : Nat) (acc : List (Str × Addr)), cellsFrom n names acc = cellsFrom n names [] ++ acc
  | [], _, _ => rfl
  | (y, k) :: r, n, acc => by
    unfold cellsFrom
    split
    · rw [cells_split r (n + 1) ((y, n) :: acc), cells_split r (n + 1) [(y, n)]]; simp
    · exact cells_split r n acc
end Mine
end

section
set_option Elab.async false
set_option linter.unusedVariables false
set_option linter.unusedSimpArgs false
set_option genSizeOf false
set_option genInjectivity false
namespace Mine
open PySem

variable {c : Cx} {d : Nat} {sc : Scope} {m : AEnv} {σ : Led} {P : V → Led → Prop} {X : XP} {K : Fl → AEnv → Led → Prop}

theorem But.toL {wr : List Addr} {h h' : Heap} {L : Addr} (x : But L h h') (hL : L ∈ wr) : ButL wr h h' := fun b o hb e => x b o (fun q => hb (q ▸ hL)) e
theorem own_kind {k : Option NameKind} (h : ownOf k = true) : k = some .local ∨ k = some .cell := by
  cases k with
  | none => cases h
  | some k => cases k <;> first | exact .inl rfl | exact .inr rfl | cases h
theorem var_kind {k : Option NameKind} (h : varOf k = true) : k = some .cell ∨ k = some .free := by
  cases k with
  | none => cases h
  | some k => cases k <;> first | exact .inl rfl | exact .inr rfl | cases h
theorem assign_N {A : Around} {env : Env} {E : Value → Shared → Prop} {W : List Addr} (ok : EnvOk env) (hW : env.locals ∈ W) {x : Str} {p : Pos} {v : V} {cv : Value} {s : Shared}
    (hk : ownOf (env.kindOf x) = true) (hw : ∀ L, env.kindOf x = some .cell → env.cells.lookup x = some L → L ∈ W)
    (st : St c A σ s.heap) (er : EnvRel c (ownS c σ) env m s.heap) (r : VRel s.heap (ownS c σ) v cv) :
    wpAny c.M A (assign (.Name x p) env cv) (fun z1 s' => ∃ h' tk, s' = { s with heap := h', toks := tk } ∧ ButL W s.heap h' ∧ St c A σ h' ∧ EnvRel c (ownS c σ) env ((x, v) :: m) h') E s := by
  refine wpAny_assign_Name (wpAny_mono (store_name ok st er r (own_kind hk)) ?_ fun z1 z2 x => x)
  rintro _ s₁ ⟨⟨t₁, hs₁, er₁⟩, L, h', tk, rfl, kb, hL⟩
  have hLW : L ∈ W := by
    rcases hL with ⟨_, rfl⟩ | ⟨q1, q2⟩
    · exact hW
    · exact hw L q1 q2
  exact ⟨h', tk, rfl, kb.toL hLW, hs₁, er₁⟩

theorem lookup_filter_key {f : Str → Bool} : ∀ (m : AEnv) (x : Str), (m.filter fun p => f p.1).lookup x = if f x = true then m.lookup x else none
  | [], x => by simp
  | (y, v) :: r, x => by
    rw [List.filter_cons]
    by_cases hx : x = y
    · subst hx
      cases hf : f x with
      | true => simp [List.lookup_cons, hf]
      | false => simp only [hf, Bool.false_eq_true, if_false]; rw [lookup_filter_key r x, hf]; simp
    · have hb : (x == y) = false := beq_eq_false_iff_ne.mpr hx
      split <;> simp only [List.lookup_cons, hb] <;> exact lookup_filter_key r x

noncomputable def WIfs (c : Cx) (d : Nat) (sc : Scope) (ifs : List Expr) (m : AEnv) (σ : Led) (P : Bool → Led → Prop) : Prop := match ifs with
  | [] => P true σ
  | [e] => WT c d sc e m σ P NoX
  | _ => False
noncomputable def WComp (c : Cx) (d : Nat) (sc : Scope) (x : Str) (ifs : List Expr) (elt : Expr) (m : AEnv) (Kf : List V → Led → Prop) : List V → List V → Led → Prop
  | [], acc, σ => Kf acc σ
  | v :: vs, acc, σ => WIfs c d sc ifs ((x, v) :: m) σ (fun b σ₁ => if b = true then WE c d sc elt ((x, v) :: m) σ₁ (fun w σ₂ => WComp c d sc x ifs elt m Kf vs (acc ++ [w]) σ₂) NoX else WComp c d sc x ifs elt m Kf vs acc σ₁)

theorem wpAny_newEnv_comp {M : Model} {A : Around} {E : Value → Shared → Prop} {s : Shared} {scope : Scope} {g : Addr} {cl : List (Str × Addr)} {q : Str} {env : Env} {Q : Env → Shared → Prop}
    (h : Q (newEnv scope s.heap.objs.size g (cellsFrom (s.heap.objs.size + 1) scope.names cl) q none .none (some env) builtinsNs) { s with heap := pushCells (s.heap.push { cls := .type "dict", data := .dict #[] }) scope.names }) :
    wpAny M A (newFunctionEnv scope g cl [] q none .none (some env)) Q E s := by
  simp only [newFunctionEnv, Option.isSome_some, if_true]
  refine wpAny_bind (wpAny_alloc ?_)
  refine wpAny_bind (wpAny_layCells _ (fun name kind cells => by cases hkc : kind == NameKind.cell <;> simp [hkc]) _ _ _ _ ?_)
  rw [show ({ s with heap := s.heap.push { cls := .type "dict", data := .dict #[] } } : Shared).heap.objs.size = s.heap.objs.size + 1 from Heap.size_push ..]
  exact wpAny_bind (wpAny_pure (wpAny_pure h))
theorem WIfs.run {ifs : List Expr} {P : Bool → Led → Prop} (h : WIfs c d sc ifs m σ P) {env : Env} {A : Around} {s : Shared} {E : Value → Shared → Prop} (r : RE c d sc m σ NoX env A s E) {Q : Bool → Shared → Prop}
    (hQ : ∀ b σ' s', P b σ' → Step c.F (owned σ) (owned σ') s s' → St c A σ' s'.heap → Q b s') :
    wpAny c.M A (forIn ifs true fun c r => if r = true then do let ok ← isTrue c env (eval c env); pure (ForInStep.yield ok) else pure (ForInStep.yield r)) Q E s := by
  cases ifs with
  | nil => exact wpAny_tests_nil (hQ true σ s h .refl r.st)
  | cons e1 es =>
    cases es with
    | cons _ _ => exact h.elim
    | nil =>
      refine wpAny_tests_one (wpAny_mono (h env A s E r) ?_ fun z1 z2 x => x)
      rintro b s₅ ⟨σ₅, h₅, t₅, st₅⟩
      exact hQ b σ₅ s₅ h₅ t₅ st₅
structure CQ where
  c : Cx
  G : List Addr
  d : Nat
  A : Around
  env : Env
  S : Scope
  x : Str
  ifs : List Expr
  elt : Expr
  m : AEnv
  mb : AEnv
  Kf : List V → Led → Prop
  vs : List V
  σ : Led
  s : Shared
  D : Addr
  Ws : List Addr
  I : Addr
  fp : List Addr
  wr : List Addr
  Pf : Nat → Value → Prop
  Stf : Nat → Heap → Prop
  hi : Heap
noncomputable abbrev CQ.cD (Q : CQ) : Cx := (Q.c.pro Q.G).hide Q.D
structure CQ.Ok (Q : CQ) : Prop where
  a : AOk Q.c.k Q.d Q.A
  ok : EnvOk Q.env
  sc : Q.env.scope = Q.S
  it : ItOk (Q.c.pro Q.G) Q.A Q.σ Q.vs Q.s.heap Q.hi Q.I Q.fp Q.wr Q.Pf Q.Stf
  wrOk : ∀ σ' h', (∀ b ∈ Q.wr, b ∉ owned σ') → (∀ b ∈ Q.wr, ∀ o, h'.get? b = some o → ¬ Frozen o) → WrOk Q.cD Q.A σ' Q.wr h'
  plwr : ∀ b ∈ places Q.env, b ∉ Q.wr
  loc : Q.env.locals ∈ Q.Ws
  Wpl : ∀ b ∈ Q.Ws, b ∈ places Q.env
  Wnew : ∀ b ∈ Q.Ws, Q.s.heap.get? b = none
  WF : ∀ b ∈ Q.Ws, b ∉ (Q.c.pro Q.G).F
  DW : Q.D ∉ Q.Ws
  Dwr : Q.D ∉ Q.wr
  Dnew : Q.s.heap.get? Q.D = none
  DF : Q.D ∉ (Q.c.pro Q.G).F
  D0 : Q.c.k.h0.get? Q.D = none
  fpD : ∀ b ∈ Q.fp, b ≠ Q.D ∧ b ∉ Q.Ws
  own1 : ownOf (Q.env.kindOf Q.x) = true
  own2 : ∀ L, Q.env.kindOf Q.x = some .cell → Q.env.cells.lookup Q.x = some L → L ∈ Q.Ws
  sub : ∀ v, Sub ((Q.x, v) :: Q.m) ((Q.x, v) :: Q.mb)
  mbs : ∀ v, Sub Q.mb ((Q.x, v) :: Q.mb)
structure CQ.Core0 (Q : CQ) (acc : List V) (σ' : Led) (ccs : List Value) (s' : Shared) : Prop where
  t : Step (Q.c.pro Q.G).F (owned Q.σ) (owned σ') Q.s s'
  st : St Q.cD Q.A σ' s'.heap
  er : EnvRel Q.cD (ownS Q.cD σ') Q.env Q.mb s'.heap
  pD : PlainSeq s'.heap "list" Q.D ccs
  acc : VRels s'.heap (ownS Q.cD σ') acc ccs
structure CQ.Core (Q : CQ) (j : Nat) (acc : List V) (σ' : Led) (ccs : List Value) (s' : Shared) : Prop extends CQ.Core0 Q acc σ' ccs s' where
  stf : Q.Stf j s'.heap
  wo : ∀ b ∈ Q.wr, b ∉ owned σ'
section
variable {Q : CQ} {j : Nat} {acc : List V} {σ' σ₅ : Led} {ccs : List Value} {s' s₅ : Shared} {h' : Heap} {tk : Nat}
theorem CQ.Core.wok (q : Q.Ok) (k : Q.Core j acc σ' ccs s') : WrOk Q.cD Q.A σ' Q.wr s'.heap := q.wrOk σ' _ k.wo fun b hb o e => by
  obtain ⟨o', e', q1, q2⟩ := q.it.obj j _ k.stf b hb
  rw [e] at e'; cases e'; exact iter_notFrozen q1 q2
theorem CQ.Core.turn0 (q : Q.Ok) (k : Q.Core j acc σ' ccs s') (hk : ButL Q.wr s'.heap h') : Q.Core0 acc σ' ccs { s' with heap := h', toks := tk } :=
  ⟨k.t.writeL q.it.new (k.wok q).notF hk, k.st.writeL (k.wok q) hk, k.er.writeL (k.wok q) q.plwr hk, let ⟨n, e⟩ := k.pD; ⟨n, hk _ _ q.Dwr e⟩, VRels.writeL (k.wok q).seq hk acc ccs k.acc⟩
theorem CQ.Core.set (q : Q.Ok) (k : Q.Core j acc σ' ccs s') (kb : ButL Q.Ws s'.heap h') (st : St Q.cD Q.A σ' h') (er : EnvRel Q.cD (ownS Q.cD σ') Q.env Q.mb h') : Q.Core j acc σ' ccs { s' with heap := h', toks := tk } :=
  ⟨⟨k.t.writeL q.Wnew q.WF kb, st, er, let ⟨n, e⟩ := k.pD; ⟨n, kb _ _ q.DW e⟩, k.acc.carry fun a o e ha f => ⟨kb a o (fun w => k.er.places a (q.Wpl a w) o e f) e, ha⟩⟩, q.it.walks.frame _ _ _ k.stf fun b hb o e => kb b o (q.fpD b hb).2 e, k.wo⟩
theorem notDict_of {o : Obj} (h : (∃ xs, o.data = .fields xs) ∨ ∃ xs n, o.data = .seq xs n) : ¬ Obj.isDict o := by
  rintro ⟨_, _, z⟩
  rcases h with ⟨xs, h⟩ | ⟨xs, n, h⟩ <;> rw [h] at z <;> cases z
theorem CQ.Core.step (q : Q.Ok) (k : Q.Core j acc σ' ccs s') (t : Step (Q.c.pro Q.G).F (owned σ') (owned σ₅) s' s₅) (st : St Q.cD Q.A σ₅ s₅.heap) : Q.Core j acc σ₅ ccs s₅ := by
  refine ⟨⟨k.t.trans t, st, k.er.mono t.kept.wider t.grow.wider, ?_, t.vs k.acc⟩, ?_, fun b hb => ?_⟩
  · obtain ⟨n, e⟩ := k.pD
    exact ⟨n, t.kept.exact e (k.st.hid Q.D (.head _)).1 PlainSeq.notDict⟩
  · refine q.it.walks.frame _ _ _ k.stf fun b hb o e => ?_
    rcases q.it.fp b hb with w | w | ⟨w, ob, hob, hd⟩
    · obtain ⟨o', e', hx, _⟩ := q.it.obj _ _ k.stf b w
      rw [e] at e'; cases e'
      exact t.kept.exact e (k.wo b w) (notDict_of (.inl hx))
    · exact t.prot b w o e
    · have hob₄ : s'.heap.get? b = some ob := k.t.kept.exact hob w (notDict_of (.inr hd))
      rw [hob₄] at e; cases e
      exact t.kept.exact hob₄ (k.t.grow.notin w hob) (notDict_of (.inr hd))
  · obtain ⟨o, e, _⟩ := q.it.obj _ _ k.stf b hb
    exact t.grow.notin (k.wo b hb) e
theorem CQ.Core.app (q : Q.Ok) (k : Q.Core j acc σ' ccs s') {w : V} {cx : Value} {n : Nat} (r : VRel s'.heap (ownS Q.cD σ') w cx) (kb : But Q.D s'.heap h') (e : h'.get? Q.D = some { cls := .type "list", data := .seq (ccs ++ [cx]).toArray n }) :
    Q.Core j (acc ++ [w]) σ' (ccs ++ [cx]) { s' with heap := h' } := by
  obtain ⟨n0, e0⟩ := k.pD
  have hD : Q.D ∈ Q.cD.H := .head _
  exact ⟨⟨k.t.writeL (tk := s'.toks) (wr := [Q.D]) (fun b hb => by rw [List.mem_singleton.mp hb]; exact q.Dnew) (fun b hb => by rw [List.mem_singleton.mp hb]; exact q.DF) (kb.toL (.head _)), k.st.writeHid hD q.D0 e0 PlainSeq.notDict kb e, k.er.writeHid hD kb, ⟨n, e⟩,
    (k.acc.append (VRels.one r)).carry (kb.carriesHid (List.mem_append_left _ hD))⟩, q.it.walks.frame _ _ _ k.stf fun b hb o e => kb b o (q.fpD b hb).1 e, k.wo⟩
noncomputable def CQ.Inv (Q : CQ) (n : Nat) (s' : Shared) : Prop := ∃ j acc σ' ccs, n = Q.vs.length + 1 - j ∧ j ≤ Q.vs.length ∧ ccs.length ≤ j ∧ WComp Q.cD Q.d Q.S Q.x Q.ifs Q.elt Q.m Q.Kf (Q.vs.drop j) acc σ' ∧ Q.Core j acc σ' ccs s'
theorem CQ.Core.inv (k : Q.Core (j + 1) acc σ' ccs s') (hj : j < Q.vs.length) (hl : ccs.length ≤ j + 1) (hW : WComp Q.cD Q.d Q.S Q.x Q.ifs Q.elt Q.m Q.Kf (Q.vs.drop (j + 1)) acc σ') : ∃ m, m < Q.vs.length + 1 - j ∧ Q.Inv m s' :=
  ⟨Q.vs.length + 1 - (j + 1), by (exact Mine.Ar.lin 0 2 (.lt (.s (.a (.v 0) (.k 1)) (.a (.v 1) (.k 1))) (.s (.a (.v 0) (.k 1)) (.v 1))) [(.lt (.v 1) (.v 0))] (by kernel_rfl) [] [_, _] rfl rfl hj), j + 1, acc, σ', ccs, rfl, hj, hl, hW, k⟩
theorem CQ.elem_ (q : Q.Ok) (k : Q.Core (j + 1) acc σ' ccs s') (hj : j < Q.vs.length) (hl : ccs.length ≤ j) {v : V} (er : EnvRel Q.cD (ownS Q.cD σ') Q.env ((Q.x, v) :: Q.m) s'.heap) {E : Value → Shared → Prop}
    (hW : WE Q.cD Q.d Q.S Q.elt ((Q.x, v) :: Q.m) σ' (fun w σ₂ => WComp Q.cD Q.d Q.S Q.x Q.ifs Q.elt Q.m Q.Kf (Q.vs.drop (j + 1)) (acc ++ [w]) σ₂) NoX) :
    wpAny Q.c.M Q.A (eval Q.elt Q.env) (fun xv s₄ => wpAny Q.c.M Q.A (call (.builtin "list.append") [.ref Q.D, xv]) (fun z1 s₅ => ∃ m, m < Q.vs.length + 1 - j ∧ Q.Inv m s₅) E s₄) E s' := by
  refine wpAny_mono (hW Q.env Q.A s' E ⟨q.sc, q.ok, q.a, k.st, er, .nox⟩) ?_ fun z1 z2 x => x
  rintro cx s₆ ⟨w, σ₆, h₆, t₆, hSt₆, rw'⟩
  have k₆ := k.step q t₆ hSt₆
  refine wpAny_list_append_plain k₆.pD (fun h₇ hp₇ hs₇ => ?_) (Nat.le_trans hl (Nat.le_trans (Nat.le_of_lt hj) q.it.size))
  obtain ⟨n, e₇⟩ := hp₇
  exact (k₆.app q rw' (fun b o hb e => (hs₇.2 b hb).trans e) (n := n) (by rw [e₇]; simp)).inv hj (by rw [List.length_append]; exact Nat.succ_le_succ hl) h₆
theorem CQ.loop (q : Q.Ok) {R : Result → Shared → Prop} (hR : ∀ acc σ' ccs s', Q.Kf acc σ' → ccs.length ≤ sizeLine → Q.Core0 acc σ' ccs s' → R (.ok .next) s') {iter : Expr} {scope : Scope} {pos px : Pos} {n : Nat} (h : Q.Inv n s') :
    codeAny Q.c.M Q.A (.compLoop (.ListComp Q.elt [⟨.Name Q.x px, iter, Q.ifs, 0⟩] scope pos) 0 (.ref Q.I) (.ref Q.D) Q.env) R s' := by
  refine codeAny_comp_any Q.Inv (fun n s' h => ?_) n h
  obtain ⟨j, acc, σ', ccs, rfl, hj, hl, hW, k⟩ := h
  by_cases hlt : j < Q.vs.length
  · refine q.it.walks.item j s' _ _ hlt k.stf fun v h' tk hP hStf' hk => ?_
    have k₃ : Q.Core (j + 1) acc σ' ccs { s' with heap := h', toks := tk } := ⟨k.turn0 q fun b o hb e => hk b o hb e, hStf', k.wo⟩
    obtain ⟨oI, hoI, hown⟩ := q.it.own _ _ hStf'
    refine letOwned (s := { s' with heap := h', toks := tk }) hoI hown ?_
    rw [List.drop_eq_getElem_cons hlt] at hW
    have hrel : VRel h' (ownS Q.cD σ') Q.vs[j] v := by
      refine q.it.elem h' _ (fun a o e ha f => ?_) j Q.vs[j] v (List.getElem?_eq_getElem hlt) hP
      have hn : a ∉ owned Q.σ := fun q => ha (List.mem_append_right _ q)
      refine ⟨k₃.t.kept.exact e hn f.notDict, fun hm => ?_⟩
      rcases List.mem_append.mp hm with w | w
      · rcases List.mem_cons.mp w with w | w
        · rw [w, q.Dnew] at e; cases e
        · exact ha (List.mem_append_left _ w)
      · exact k₃.t.grow.notin hn e w
    refine wpAny_mono (assign_N (c := Q.cD) q.ok q.loc q.own1 q.own2 k₃.st k₃.er hrel) ?_ fun z1 z2 x => x
    rintro _ s₄ ⟨h₄, tk₄, rfl, kb₄, hSt₄, her₄⟩
    have k₄ := k₃.set q (tk := tk₄) kb₄ hSt₄ (her₄.sub (q.mbs _))
    have er₄ := her₄.sub (q.sub _)
    refine WIfs.run hW ⟨q.sc, q.ok, q.a, hSt₄, er₄, .nox⟩ fun b σ₅ s₅ h₅ t₅ st₅ => ?_
    have k₅ := k₄.step q t₅ st₅
    cases b with
    | true => exact CQ.elem_ q k₅ hlt hl (er₄.mono t₅.kept.wider t₅.grow.wider) h₅
    | false => exact k₅.inv hlt (Nat.le_succ_of_le hl) h₅
  · have hjl : j = Q.vs.length := Nat.le_antisymm hj (Nat.not_lt.mp hlt)
    subst hjl
    refine q.it.walks.done s' _ _ k.stf fun h' tk hk => ?_
    rw [List.drop_length] at hW
    exact hR acc σ' ccs _ hW (Nat.le_trans hl q.it.size) (k.turn0 q fun b o hb e => hk b o hb e)
end
theorem comp_core (hh : c.k.hd = true) {elt iter : Expr} {x : Str} {px : Pos} {ifs : List Expr} {scope : Scope} {pos : Pos} (hok : compOk scope sc x = true) (hdot : m.lookup (".0" : Str) = none) {env : Env} {A : Around} {s₁ : Shared} {E : Value → Shared → Prop} {σ₁ : Led}
    (hsc : env.scope = sc) (ok : EnvOk env) (hA : AOk c.k d A) (st₁ : St c A σ₁ s₁.heap) (er₁ : EnvRel c (ownS c σ₁) env m s₁.heap) {lv : V} {vs : List V} {G : List Addr} {cl : Value} (hG : ∀ b ∈ G, b ∈ owned σ₁)
    (hI : IterS (c.pro G) σ₁ lv vs) (rl : VRel s₁.heap (ownS c σ₁) lv cl) {Kf : List V → Led → Prop} (hW : ∀ D, WComp ((c.pro G).hide D) d (relabelS scope sc) x ifs elt m Kf vs [] σ₁) {RR : Value → Addr → Result → Shared → Prop}
    (hRR : ∀ D C s' σ' ws ccs, Kf ws σ' → Step c.F (owned σ₁) (owned σ') s₁ s' → St (c.hide D) A σ' s'.heap → PlainSeq s'.heap "list" D ccs → ccs.length ≤ sizeLine → VRels s'.heap (ownS (c.hide D) σ') ws ccs →
      s₁.heap.get? D = none → s₁.heap.get? C = none → C ≠ D → (∃ mc, s'.heap.Ns C mc) → C ∉ owned σ' → RR (.ref D) C (.ok .next) s') :
    wpAny c.M A (pyIter cl) (fun it s₂ => wpAny c.M A (newList []) (fun acc s₃ => wpAny c.M A (newFunctionEnv scope env.globals (clOf env.cells scope.names []) [] env.qual none .none (some env)) (fun cenv s₄ =>
      codeAny c.M A (.compStart (.ListComp elt [⟨.Name x px, iter, ifs, 0⟩] scope pos) 0 it acc { cenv with scope := relabel scope env }) (RR acc cenv.locals) s₄) E s₃) E s₂) E s₁ := by
  subst hsc
  simp only [compOk, Bool.and_eq_true, beq_iff_eq, List.all_eq_true, bne_iff_ne, ne_eq, Bool.or_eq_true, Bool.not_eq_true', List.contains_eq_mem, decide_eq_true_eq] at hok
  obtain ⟨⟨⟨hkind, hnd⟩, hnames⟩, htn⟩ := hok
  have hnd := nodup_of hnd
  have hlk : ∀ {x : Str} {k : NameKind}, (x, k) ∈ scope.names → scope.names.lookup x = some k := lookup_of_mem hnd
  have hfree : ∀ x, scope.names.lookup x = some .free → env.kindOf x = some .cell ∨ env.kindOf x = some .free := fun x hx => by
    have := (hnames _ (mem_of_lookup hx)).1.2
    simp only [not_true_eq_false, false_or] at this
    exact var_kind this
  refine wpAny_mono (hI A s₁ E cl (hA.handled hh) (st₁.pro hG) rl) ?_ fun z1 z2 x => x
  rintro it s₂ ⟨I, fp, wr, Pf, Stf, rfl, iok, hos, hgens⟩
  refine wpAny_newList ?_ (by simp)
  refine wpAny_newEnv_comp ?_
  -- the places
  generalize hD : s₂.heap.objs.size = D
  generalize hh₃ : s₂.heap.push { cls := .type "list", data := .seq ([] : List Value).toArray } = h₃
  have hC : h₃.objs.size = D + 1 := by rw [← hh₃, Heap.size_push, hD]
  dsimp only
  rw [hC]
  generalize hC' : D + 1 = C
  have hx12 : Ext s₁.heap s₂.heap := iok.ext
  have hx23 : Ext s₂.heap h₃ := by rw [← hh₃]; exact .push _
  generalize hh₄ : pushCells (h₃.push { cls := .type "dict", data := .dict #[] }) scope.names = h₄
  have hx34 : Ext h₃ h₄ := fun b o e => by rw [← hh₄]; exact pushCells_keeps _ _ b o (Heap.get?_push_of_some _ e)
  have hx14 : Ext s₁.heap h₄ := (hx12.trans hx23).trans hx34
  have hDn : s₂.heap.get? D = none := by rw [← hD]; exact get?_size _
  have notin : ∀ b, D ≤ b → s₁.heap.get? b = none := fun b hb => by
    cases e : s₁.heap.get? b with
    | none => rfl
    | some o => have := Heap.lt_size (hx12 b o e); exact absurd hb (Nat.not_le.mpr (hD ▸ this))
  have hDobj : h₄.get? D = some { cls := .type "list", data := .seq ([] : List Value).toArray } := by
    apply hx34; rw [← hh₃, ← hD]; exact Heap.get?_push_size _ rfl
  have hCns : h₄.Ns C fun z1 => none := by
    have := (Heap.Ns.new h₃ (.type "dict")).keeps (h' := h₄) fun b o e => by rw [← hh₄]; exact pushCells_keeps _ _ b o e
    rwa [hC, hC'] at this
  have hcok : CellsOk h₄ (C + 1) (cellsFrom (C + 1) scope.names []) := by
    have := cellsFrom_ok scope.names (h₃.push { cls := .type "dict", data := .dict #[] }) (C + 1) [] ⟨fun z1 z2 hm => (nomatch hm), List.Pairwise.nil⟩ (by rw [Heap.size_push, hC, hC']; exact Nat.le_refl _)
    rwa [hh₄, Heap.size_push, hC, hC'] at this
  generalize hoc : cellsFrom (C + 1) scope.names [] = oc at hcok
  generalize hcl : clOf env.cells scope.names [] = cle
  have hcells : cellsFrom (C + 1) scope.names cle = oc ++ cle := by rw [cells_split, hoc]
  rw [hcells]
  generalize henv : ({ newEnv scope C env.globals (oc ++ cle) env.qual none .none (some env) builtinsNs with scope := relabel scope env } : Env) = cenv
  have eloc : cenv.locals = C := by rw [← henv]; rfl
  have escope : cenv.scope = relabelS scope env.scope := by rw [← henv]; rfl
  have ecells : cenv.cells = oc ++ cle := by rw [← henv]; rfl
  have eglob : cenv.globals = env.globals := by rw [← henv]; rfl
  have eblt : cenv.builtins = env.builtins := by rw [← henv]; rfl
  have ekind : ∀ x, cenv.kindOf x = (scope.names.lookup x).map fun k => if (k == .free && env.scope.kind == .function && env.scope.names.lookup x == some .cell) then .cell else k := fun x => by
    unfold Env.kindOf; rw [escope]; exact lookup_relabelS
  have eC : (newEnv scope C env.globals (oc ++ cle) env.qual none .none (some env) builtinsNs).locals = C := rfl
  rw [eC]
  -- keys of the cells
  have keyoc : ∀ x, x ∈ oc.map (·.1) ↔ (x, NameKind.cell) ∈ scope.names := fun x => by
    rw [← hoc, keys_cellsFrom]
    simp only [List.map_nil, List.append_nil, List.mem_reverse, List.mem_map, List.mem_filter, beq_iff_eq]
    constructor
    · rintro ⟨⟨y, k⟩, ⟨h1, h2⟩, rfl⟩; dsimp only at h2 ⊢; rw [← h2]; exact h1
    · intro h; exact ⟨_, ⟨h, rfl⟩, rfl⟩
  have keycl : ∀ x, x ∈ cle.map (·.1) ↔ (x, NameKind.free) ∈ scope.names := fun x => by
    rw [← hcl, keys_clOf]
    simp only [List.map_nil, List.append_nil, List.mem_reverse, List.mem_map, List.mem_filter, beq_iff_eq]
    constructor
    · rintro ⟨⟨y, k⟩, ⟨h1, h2⟩, rfl⟩; dsimp only at h2 ⊢; rw [← h2]; exact h1
    · intro h; exact ⟨_, ⟨h, rfl⟩, rfl⟩
  have memcl : ∀ x a, (x, a) ∈ cle → env.cells.lookup x = some a ∧ (x, NameKind.free) ∈ scope.names := fun x a hm => by
    rw [← hcl] at hm
    rcases mem_clOf _ _ _ hm with q | ⟨q1, q2⟩
    · cases q
    · obtain ⟨b, hb⟩ := ok.cell x (hfree x (hlk q1))
      rw [hb] at q2; simp only [Option.getD_some] at q2; rw [q2]; exact ⟨hb, q1⟩
  have lookcl : ∀ x, scope.names.lookup x = some .free → (oc ++ cle).lookup x = env.cells.lookup x := fun x hx => by
    rw [List.lookup_append]
    have h1 : oc.lookup x = none := by
      cases q : oc.lookup x with
      | none => rfl
      | some a =>
        have : (x, NameKind.cell) ∈ scope.names := (keyoc x).mp (List.mem_map.mpr ⟨_, mem_of_lookup q, rfl⟩)
        rw [hlk this] at hx; cases hx
    rw [h1, Option.none_or]
    obtain ⟨a, ha⟩ := lookup_some_of_key ((keycl x).mpr (mem_of_lookup hx))
    rw [ha, (memcl x a (mem_of_lookup ha)).1]
  have lookoc : ∀ x, scope.names.lookup x = some .cell → ∃ a, (oc ++ cle).lookup x = some a ∧ (x, a) ∈ oc := fun x hx => by
    obtain ⟨a, ha⟩ := lookup_some_of_key ((keyoc x).mpr (mem_of_lookup hx))
    exact ⟨a, by rw [List.lookup_append, ha]; rfl, mem_of_lookup ha⟩
  have kinds : ∀ x, (cenv.kindOf x = some .local → scope.names.lookup x = some .local) ∧ ((cenv.kindOf x = some .cell ∨ cenv.kindOf x = some .free) → scope.names.lookup x = some .cell ∨ scope.names.lookup x = some .free) := fun x => by
    rw [ekind]
    cases q : scope.names.lookup x with
    | none => simp
    | some k =>
      simp only [Option.map_some, Option.some.injEq]
      cases k <;> simp <;> split <;> simp_all
  have ok' : EnvOk cenv := by
    refine ⟨by rw [escope]; exact hkind, ?_, ?_, by rw [eglob]; exact ok.globals, by rw [eblt]; exact ok.builtins, fun x hx => ?_⟩
    · rw [ekind]
      cases q : scope.names.lookup ("__debug__" : Str) with
      | none => rfl
      | some k => exact absurd rfl (hnames _ (mem_of_lookup q)).1.1.1
    · rw [ekind]
      cases q : scope.names.lookup ("__classdict__" : Str) with
      | none => simp
      | some k => exact absurd rfl (hnames _ (mem_of_lookup q)).1.1.2
    · rw [ecells]
      rcases (kinds x).2 hx with q | q
      · obtain ⟨a, ha, _⟩ := lookoc x q; exact ⟨a, ha⟩
      · rw [lookcl x q]; exact ok.cell x (hfree x q)
  -- the set of this comprehension's own places
  have hOc : ∀ x a, (x, a) ∈ oc → C + 1 ≤ a ∧ h₄.IsCell a none := fun x a hm => ⟨(hcok.empty x a hm).2, (hcok.empty x a hm).1⟩
  generalize hWs : C :: oc.map (·.2) = Ws
  have hWsge : ∀ b ∈ Ws, C ≤ b := fun b hb => by
    rw [← hWs] at hb
    rcases List.mem_cons.mp hb with rfl | hb
    · exact Nat.le_refl _
    · obtain ⟨⟨x, a⟩, hm, rfl⟩ := List.mem_map.mp hb
      have := (hOc x a hm).1; dsimp only; (exact Mine.Ar.lin 0 2 (.le (.v 0) (.v 1)) [(.le (.a (.v 0) (.k 1)) (.v 1))] (by kernel_rfl) [] [_, _] rfl rfl this)
  have hDC : D < C := by (exact Mine.Ar.lin 0 2 (.lt (.v 0) (.v 1)) [(.eq (.a (.v 0) (.k 1)) (.v 1))] (by kernel_rfl) [] [_, _] rfl rfl hC')
  have hWsnew : ∀ b ∈ Ws, s₁.heap.get? b = none := fun b hb => notin b (by have := hWsge b hb; (exact Mine.Ar.lin 0 3 (.le (.v 0) (.v 1)) [(.eq (.a (.v 0) (.k 1)) (.v 2)), (.le (.v 2) (.v 1))] (by kernel_rfl) [] [_, _, _] rfl rfl hC' this))
  -- contexts
  let cD := (c.pro G).hide D
  have stp := st₁.pro hG
  have st₄ : St cD A σ₁ h₄ := stp.hideNew hx14 (notin D (Nat.le_refl _)) hDobj
  have erp := er₁.pro hG
  have base0 : ∀ b, D ≤ b → c.k.h0.get? b = none := fun b hb => by
    cases e : c.k.h0.get? b with
    | none => rfl
    | some o => have := st₁.keep _ _ e; rw [notin b hb] at this; cases this
  have notF : ∀ b, D ≤ b → b ∉ (c.pro G).F := fun b hb hm => by obtain ⟨o, e⟩ := stp.prot b hm; rw [notin b hb] at e; cases e
  have notH : ∀ b, D ≤ b → b ∉ c.H := fun b hb hm => by obtain ⟨_, o, e⟩ := st₁.hid b hm; rw [notin b hb] at e; cases e
  have notown : ∀ b, D ≤ b → b ∉ owned σ₁ := fun b hb hm => by obtain ⟨o, e⟩ := st₁.there hm; rw [notin b hb] at e; cases e
  have notownS : ∀ b, D < b → b ∉ ownS cD σ₁ := fun b hb hm => by
    rcases List.mem_append.mp hm with q | q
    · rcases List.mem_cons.mp q with q | q
      · (exact Mine.Ar.fls 0 2 [(.lt (.v 0) (.v 1)), (.eq (.v 1) (.v 0))] (by kernel_rfl) [] [_, _] rfl rfl hb q)
      · exact notH b (by (exact Mine.Ar.lin 0 2 (.le (.v 0) (.v 1)) [(.lt (.v 0) (.v 1))] (by kernel_rfl) [] [_, _] rfl rfl hb)) q
    · exact notown b (by (exact Mine.Ar.lin 0 2 (.le (.v 0) (.v 1)) [(.lt (.v 0) (.v 1))] (by kernel_rfl) [] [_, _] rfl rfl hb)) q
  generalize hmb : (m.filter fun p => !ownOf (scope.names.lookup p.1)) = mb
  have lookmb : ∀ x, mb.lookup x = if ownOf (scope.names.lookup x) = true then none else m.lookup x := fun x => by
    rw [← hmb, lookup_filter_key (f := fun x => !ownOf (scope.names.lookup x))]
    cases ownOf (scope.names.lookup x) <;> simp
  have growD : Grow (ownS (c.pro G) σ₁) (ownS cD σ₁) s₁.heap := fun b hb => by
    rcases List.mem_append.mp hb with q | q
    · rcases List.mem_cons.mp q with rfl | q
      · exact .inr (notin _ (Nat.le_refl _))
      · exact .inl (List.mem_append_left _ q)
    · exact .inl (List.mem_append_right _ q)
  have erD : EnvRel (c.pro G) (ownS cD σ₁) env m h₄ := erp.mono hx14.kept growD
  have er₄ : EnvRel cD (ownS cD σ₁) cenv mb h₄ := by
    refine ⟨⟨_, by rw [eloc]; exact hCns, fun x v hx hk => ?_⟩, fun x v hx hk => ?_, ⟨?_, ?_, ?_⟩, fun x a hm => ?_, ?_⟩
    · rw [lookmb, (kinds x).1 hk] at hx; simp [ownOf] at hx
    · rcases (kinds x).2 hk with q | q
      · rw [lookmb, q] at hx; simp [ownOf] at hx
      · rw [lookmb, q] at hx
        simp only [ownOf, Bool.false_eq_true, if_false] at hx
        obtain ⟨a, cv, e, hc, r⟩ := erD.cell x v hx (hfree x q)
        exact ⟨a, cv, by rw [ecells, lookcl x q]; exact e, hc, r⟩
    · rw [eloc]; exact notownS C hDC
    · rw [eloc]; exact base0 C (by (exact Mine.Ar.lin 0 2 (.le (.v 0) (.v 1)) [(.eq (.a (.v 0) (.k 1)) (.v 1))] (by kernel_rfl) [] [_, _] rfl rfl hC'))
    · rw [eloc]; exact notF C (by (exact Mine.Ar.lin 0 2 (.le (.v 0) (.v 1)) [(.eq (.a (.v 0) (.k 1)) (.v 1))] (by kernel_rfl) [] [_, _] rfl rfl hC'))
    · rw [ecells] at hm
      rcases List.mem_append.mp hm with q | q
      · have := hOc x a q
        have hDa : D < a := Nat.lt_trans hDC this.1
        exact ⟨notownS a hDa, by rw [eloc]; exact Nat.ne_of_gt this.1, base0 a (Nat.le_of_lt hDa), notF a (Nat.le_of_lt hDa), none, this.2⟩
      · have hl := (memcl x a q).1
        obtain ⟨h1, h2, h3, h4, v, h5⟩ := erD.cnot x a (mem_of_lookup hl)
        obtain ⟨_, o, e, _⟩ := (er₁.cnot x a (mem_of_lookup hl)).2.2.2.2
        have hne : a ≠ cenv.locals := fun q => by rw [eloc] at q; rw [q, notin C (Nat.le_of_lt hDC)] at e; cases e
        exact ⟨h1, hne, h3, h4, v, h5⟩
    · rw [ecells]
      refine List.pairwise_append.mpr ⟨hcok.apart, ?_, fun p hp q hq e => ?_⟩
      · refine pairwise_keys er₁.apart ?_ fun x a hm => (memcl x a hm).1
        rw [← hcl, keys_clOf, List.map_nil, List.append_nil]
        exact (List.reverse_perm _).nodup_iff.mpr ((List.filter_sublist.map _).nodup hnd)
      · have h1 := (hOc p.1 p.2 hp).1
        obtain ⟨v, o, he, _⟩ := (er₁.cnot q.1 q.2 (mem_of_lookup (memcl q.1 q.2 hq).1)).2.2.2.2
        have hle : D ≤ q.2 := by rw [← e]; exact Nat.le_of_lt (Nat.lt_trans hDC h1)
        rw [notin _ hle] at he; cases he
  have hplaces : ∀ b ∈ places cenv, b ∈ Ws ∨ ∃ o, s₁.heap.get? b = some o := fun b hb => by
    simp only [places, List.mem_cons, List.mem_map, eloc, ecells, List.mem_append] at hb
    rcases hb with rfl | ⟨⟨x, a⟩, q | q, rfl⟩
    · left; rw [← hWs]; exact .head _
    · left; rw [← hWs]; exact .tail _ (List.mem_map.mpr ⟨_, q, rfl⟩)
    · right
      obtain ⟨v, o, e, _⟩ := (er₁.cnot x a (mem_of_lookup (memcl x a q).1)).2.2.2.2
      exact ⟨o, e⟩
  have hwrlt : ∀ b ∈ wr, b < D := fun b hb => by
    obtain ⟨o, e, _⟩ := iok.obj 0 _ iok.start b hb
    exact hD ▸ Heap.lt_size e
  have hplwr : ∀ b ∈ places cenv, b ∉ wr := fun b hb hw => by
    rcases hplaces b hb with q | ⟨o, e⟩
    · exact absurd (Nat.lt_of_lt_of_le hDC (hWsge b q)) (Nat.not_lt.mpr (Nat.le_of_lt (hwrlt b hw)))
    · rw [iok.new b hw] at e; cases e
  have wrOk : ∀ σ' h', (∀ b ∈ wr, b ∉ owned σ') → (∀ b ∈ wr, ∀ o, h'.get? b = some o → ¬ Frozen o) → WrOk cD A σ' wr h' := fun σ' h' h1 h2 => by
    refine ⟨h1, fun b hb => ?_, fun b hb hm => ?_, fun b hb hm => ?_, h2, fun l hl L hL hw => ?_⟩
    · show c.k.h0.get? b = none
      cases e : c.k.h0.get? b with
      | none => rfl
      | some o => have := st₁.keep _ _ e; rw [iok.new b hb] at this; cases this
    · obtain ⟨o, e⟩ := stp.prot b hm; rw [iok.new b hb] at e; cases e
    · rcases List.mem_cons.mp hm with q | q
      · exact Nat.ne_of_lt (hwrlt b hb) q
      · obtain ⟨_, o, e⟩ := st₁.hid b q; rw [iok.new b hb] at e; cases e
    · obtain ⟨l', hl', hf', _⟩ := st₁.frames
      rw [hl] at hl'; cases hl'
      obtain ⟨_, o, e, _⟩ := hf'.mem hL
      rw [iok.new L hw] at e; cases e
  have hwrF : ∀ b ∈ wr, b ∉ (c.pro G).F := fun b hb hm => by obtain ⟨o, e⟩ := stp.prot b hm; rw [iok.new b hb] at e; cases e
  have hWsF : ∀ b ∈ Ws, b ∉ (c.pro G).F := fun b hb => notF b (Nat.le_trans (Nat.le_of_lt hDC) (hWsge b hb))
  have hDwr : D ∉ wr := fun q => Nat.lt_irrefl _ (hwrlt D q)
  have own1 : ownOf (cenv.kindOf x) = true := by
    rw [ekind]
    rcases own_kind htn with q | q <;> rw [q] <;> rfl
  have own2 : ∀ L, cenv.kindOf x = some .cell → cenv.cells.lookup x = some L → L ∈ Ws := fun L hk hl => by
    rcases (kinds x).2 (.inl hk) with q | q
    · obtain ⟨a, ha, hm⟩ := lookoc x q
      rw [ecells, ha] at hl; cases hl
      rw [← hWs]; exact .tail _ (List.mem_map.mpr ⟨_, hm, rfl⟩)
    · rw [q] at htn; cases htn
  have hfpD : ∀ b ∈ fp, b ≠ D ∧ b ∉ Ws := fun b hb => by
    rcases iok.fp b hb with q | q | ⟨_, ob, hob, _⟩
    · exact ⟨fun z => hDwr (z ▸ q), fun z => absurd (Nat.lt_of_lt_of_le hDC (hWsge b z)) (Nat.not_lt.mpr (Nat.le_of_lt (hwrlt b q)))⟩
    · exact ⟨fun z => notF D (Nat.le_refl _) (z ▸ q), fun z => hWsF b z q⟩
    · exact ⟨fun z => (by rw [z, notin D (Nat.le_refl _)] at hob; cases hob), fun z => (by rw [hWsnew b z] at hob; cases hob)⟩
  -- the loop
  have Qok : CQ.Ok ⟨c, G, d, A, cenv, relabelS scope env.scope, x, ifs, elt, m, mb, Kf, vs, σ₁, s₁, D, Ws, I, fp, wr, Pf, Stf, s₂.heap⟩ := by
    refine ⟨hA, ok', escope, iok, wrOk, hplwr, ?_, fun b hb => ?_, hWsnew, hWsF, fun q => absurd hDC (Nat.not_lt.mpr (hWsge D q)), hDwr, notin D (Nat.le_refl _), notF D (Nat.le_refl _), base0 D (Nat.le_refl _), hfpD, own1, own2, fun v y w hy => ?_, fun v y w hy => ?_⟩
    · show cenv.locals ∈ Ws
      rw [eloc, ← hWs]; exact .head _
    · replace hb : b ∈ Ws := hb
      show b ∈ places cenv
      simp only [places, List.mem_cons, List.mem_map, eloc, ecells, List.mem_append]
      rw [← hWs] at hb
      rcases List.mem_cons.mp hb with q | q
      · exact .inl q
      · obtain ⟨p, hp, rfl⟩ := List.mem_map.mp q; exact .inr ⟨p, .inl hp, rfl⟩
    · replace hy : List.lookup y ((x, v) :: m) = some w := hy
      show List.lookup y ((x, v) :: mb) = some w
      rw [List.lookup_cons] at hy ⊢
      cases q : y == x with
      | true => rw [q] at hy; exact hy
      | false =>
        rw [q] at hy
        dsimp only at hy ⊢
        rw [lookmb]
        cases ho : ownOf (scope.names.lookup y) with
        | false => exact hy
        | true =>
          exfalso
          cases z : scope.names.lookup y with
          | none => rw [z] at ho; cases ho
          | some k =>
            rcases (hnames _ (mem_of_lookup z)).2 with (z' | z') | z'
            · rw [z] at ho; rw [ho] at z'; cases z'
            · rw [show y = x from z', beq_self_eq_true] at q; cases q
            · rw [show y = (".0" : Str) from z', hdot] at hy; cases hy
    · replace hy : List.lookup y mb = some w := hy
      show List.lookup y ((x, v) :: mb) = some w
      rw [List.lookup_cons]
      cases q : y == x with
      | false => exact hy
      | true => rw [lookmb, eq_of_beq q, htn] at hy; cases hy
  have hstf := iok.walks.frame 0 s₂.heap h₄ iok.start fun b z1 o e => hx34 b o (hx23 b o e)
  have loop : codeAny c.M A (.compLoop (.ListComp elt [⟨.Name x px, iter, ifs, 0⟩] scope pos) 0 (.ref I) (.ref D) cenv) (RR (.ref D) C) { s₂ with heap := h₄ } := by
    refine CQ.loop Qok (fun acc σ' ccs s' hk hl k => ?_) (n := vs.length + 1) ⟨0, [], σ₁, [], rfl, Nat.zero_le _, Nat.le_refl _, hW D, ⟨⟨hx14.kept, fun b o e => ⟨o, hx14 b o e⟩, fun b z1 o e => hx14 b o e, .refl, hos, hgens⟩, st₄, er₄, ⟨_, hDobj⟩, by simp [VRels]⟩, hstf, fun b hb hm => ?_⟩
    · have hSt' : St (c.hide D) A σ' s'.heap := by
        have z := k.st
        obtain ⟨l, hl, hf, hd⟩ := z.frames
        exact ⟨z.keep, z.nodup, z.fresh, z.objs, ⟨l, hl, hf, fun L hL => ⟨(hd L hL).1, fun q => (hd L hL).2.1 (List.mem_append_right _ q), (hd L hL).2.2⟩⟩, fun b hb => z.prot b (List.mem_append_right _ hb), z.hid⟩
      refine hRR D C _ σ' acc ccs hk k.t.unpro hSt' k.pD hl k.acc (notin D (Nat.le_refl _)) (notin C (Nat.le_of_lt hDC)) (Nat.ne_of_gt hDC) ?_ ?_
      · obtain ⟨mc, hn, _⟩ := k.er.ns; rw [show C = cenv.locals from eloc.symm]; exact ⟨mc, hn⟩
      · rw [show C = cenv.locals from eloc.symm]; exact fun q => k.er.lnot.1 (List.mem_append_right _ q)
    · obtain ⟨o, e⟩ := st₁.there hm; rw [iok.new b hb] at e; cases e
  exact codeAny_compStart_list loop (iok.walks.self 0 _ _ _ hstf loop)
end Mine
end

section
set_option Elab.async false
set_option linter.unusedVariables false
set_option linter.unusedSimpArgs false
namespace Mine
open PySem

variable {c : Cx} {d : Nat} {sc : Scope} {m : AEnv} {σ : Led} {P : V → Led → Prop} {X : XP} {K : Fl → AEnv → Led → Prop}

noncomputable def Made (F : List Addr) (loc : Bool) (P : V → Led → Prop) (ws : List V) (σ : Led) : Prop := if loc = true then ∀ a, a ∉ owned σ → a ∉ F → P (.ref a) ((a, .list ws) :: σ) else P (.lst ws) σ

theorem made_post {A : Around} {s s' : Shared} {own : List Addr} {D : Addr} {ws : List V} {ccs : List Value} {σ' : Led} {loc : Bool} (hp : Made c.F loc P ws σ') (t : Step c.F own (owned σ') s s') (hD0 : s.heap.get? D = none) (h0 : c.k.h0.get? D = none) (hDH : D ∉ c.H) (hDF : D ∉ c.F)
    (st : St (c.hide D) A σ' s'.heap) (hpl : PlainSeq s'.heap "list" D ccs) (hl : ccs.length ≤ sizeLine) (rs : VRels s'.heap (ownS (c.hide D) σ') ws ccs) :
    ∃ v σ'', P v σ'' ∧ Step c.F own (owned σ'') s s' ∧ St c A σ'' s'.heap ∧ VRel s'.heap (ownS c σ'') v (.ref D) ∧ ∀ b ∈ owned σ'', b = D ∨ b ∈ owned σ' := by
  have hno := (st.hid D (.head _)).1
  cases loc with
  | false =>
    refine ⟨.lst ws, σ', hp, t, st.unhide, ?_, fun b hb => .inr hb⟩
    simp only [VRel]
    exact ⟨D, ccs, rfl, fun q => (List.mem_append.mp q).elim hDH hno, hpl, hl, VRels.mono Kept.refl (fun b hb => .inl (List.mem_cons_of_mem _ hb)) _ _ rs⟩
  | true =>
    refine ⟨.ref D, (D, .list ws) :: σ', hp D hno hDF, ⟨t.kept, t.there, t.prot, fun b hb => ?_, t.os, t.gens⟩, ?_, by simp only [VRel], fun b hb => (List.mem_append.mp hb).imp (fun q => by simpa [O.addrs] using q) id⟩
    · rcases List.mem_append.mp hb with q | q
      · simp only [O.addrs, List.mem_singleton] at q; subst q; exact .inr hD0
      · exact t.grow b q
    · have gw : Grow (ownS (c.hide D) σ') (ownS c ((D, .list ws) :: σ')) s'.heap := fun b hb => by
        rcases List.mem_append.mp hb with q | q
        · exact .inl (List.mem_append_left _ (List.mem_cons_of_mem _ q))
        · rcases List.mem_append.mp q with q | q
          · simp only [O.addrs, List.mem_singleton] at q; subst q; exact .inl (List.mem_append_left _ (.head _))
          · exact .inl (List.mem_append_right _ q)
      obtain ⟨l, hl', hf, hd⟩ := st.frames
      refine ⟨st.keep, ?_, ?_, ?_, ⟨l, hl', hf, fun L hL => ⟨fun q => ?_, (hd L hL).2⟩⟩, st.prot, fun b hb => ⟨fun q => ?_, (st.hid b (List.mem_cons_of_mem _ hb)).2⟩⟩
      · refine List.nodup_append.mpr ⟨by simp [O.addrs], st.nodup, fun b hb b' hb' e => ?_⟩
        simp only [O.addrs, List.mem_singleton] at hb; subst hb; subst e; exact hno hb'
      · intro b hb
        rcases List.mem_append.mp hb with q | q
        · simp only [O.addrs, List.mem_singleton] at q; subst q; exact h0
        · exact st.fresh b q
      · intro a o hm
        rcases List.mem_cons.mp hm with q | q
        · cases q; exact ⟨ccs, hpl, hl, VRels.mono Kept.refl gw _ _ rs⟩
        · exact (st.objs a o q).mono Ext.refl gw
      · rcases List.mem_append.mp q with q | q
        · simp only [O.addrs, List.mem_singleton] at q; subst q
          obtain ⟨n, e⟩ := hpl
          exact PlainSeq.notDict ((hd L hL).2.2 _ e)
        · exact (hd L hL).1 q
      · rcases List.mem_append.mp q with q | q
        · simp only [O.addrs, List.mem_singleton] at q; subst q; exact hDH hb
        · exact (st.hid b (List.mem_cons_of_mem _ hb)).1 q

theorem compOk_local {scope : Scope} {x : Str} (h : compOk scope sc x = true) : scope.kind = .function ∧ (∀ x ∈ scope.names, x.2 = .local → scope.names.lookup x.1 = some .local) ∧ ∀ p ∈ scope.names, p.2 = .free → varOf (sc.names.lookup p.1) = true := by
  simp only [compOk, Bool.and_eq_true, beq_iff_eq, List.all_eq_true, bne_iff_ne, ne_eq, Bool.or_eq_true, Bool.not_eq_true', List.contains_eq_mem, decide_eq_true_eq] at h
  obtain ⟨⟨⟨hkind, hnd⟩, hnames⟩, _⟩ := h
  refine ⟨hkind, fun x hx hk => ?_, fun p hp hk => ?_⟩
  · rw [← hk]; exact lookup_of_mem (nodup_of hnd) hx
  · exact (hnames p hp).1.2.elim (absurd hk) id
theorem closure_of {scope : Scope} {env : Env} {x : Str} (ok : EnvOk env) (h : compOk scope env.scope x = true) : closureFor scope env = pure (clOf env.cells scope.names []) :=
  closureFor_eq fun p hp hk => ok.cell p.1 (var_kind ((compOk_local h).2.2 p hp hk))

theorem St.atC {c₀ : Cx} (hk0 : c.k = c₀.k) (hF0 : c.F = c₀.F) {A : Around} {s₁ s' : Shared} {C : Addr} {h' : Heap} {σ' σ₁ : Led} (st₁ : St c₀ A σ₁ s₁.heap) (hC : s₁.heap.get? C = none) (hno : C ∉ owned σ') (hH : C ∉ c.H) (hn : ∃ mc, s'.heap.Ns C mc) (hs : Heap.SameBut C s'.heap h') : WrOk c A σ' [C] s'.heap ∧ ButL [C] s'.heap h' := by
  refine ⟨⟨fun b hb => by rw [List.mem_singleton.mp hb]; exact hno, fun b hb => ?_, fun b hb hm => ?_, fun b hb => by rw [List.mem_singleton.mp hb]; exact hH, fun b hb o e => ?_, fun l hl L hL hm => ?_⟩, fun b o hb e => (hs.2 b fun q => hb (by simp [q])).trans e⟩
  · rw [List.mem_singleton.mp hb, hk0]
    cases e : c₀.k.h0.get? C with
    | none => rfl
    | some o => have := st₁.keep _ _ e; rw [hC] at this; cases this
  · rw [List.mem_singleton.mp hb, hF0] at hm
    obtain ⟨o, e⟩ := st₁.prot C hm; rw [hC] at e; cases e
  · rw [List.mem_singleton.mp hb] at e
    obtain ⟨mc, o', es, ep, e', hd, _⟩ := hn
    rw [e] at e'; cases e'; exact not_seq_dict hd
  · rw [List.mem_singleton.mp hm] at hL
    obtain ⟨l', hl', hf', _⟩ := st₁.frames
    rw [hl] at hl'; cases hl'
    obtain ⟨_, o, e, _⟩ := hf'.mem hL
    rw [hC] at e; cases e

theorem WE_comp_made (hh : c.k.hd = true) {loc : Bool} {elt iter : Expr} {y : Str} {py : Pos} {ifs : List Expr} {scope : Scope} {pos : Pos} (hok : compOk scope sc y = true) (hdot : m.lookup (".0" : Str) = none)
    (h : WE c d sc iter m σ (fun lv σ₁ => ∃ vs G, (∀ b ∈ G, b ∈ owned σ₁) ∧ IterS (c.pro G) σ₁ lv vs ∧ ∀ D, WComp ((c.pro G).hide D) d (relabelS scope sc) y ifs elt m (Made c.F loc P) vs [] σ₁) X)
    (hs : ∀ env x, foldedSetIterable iter env x = pure x) : WE c d sc (.ListComp elt [⟨.Name y py, iter, ifs, 0⟩] scope pos) m σ P X := by
  intro env A s E r
  obtain ⟨hkind, hloc, _⟩ := compOk_local hok
  rw [eval_ListComp]
  refine wpAny_comprehension_free (use := none) rfl (hs env) (closure_of (x := y) r.ok (by rw [r.sc]; exact hok)) hkind hloc (wpAny_mono (h env A s E r) ?_ fun z1 z2 x => x)
  rintro cl s₁ ⟨lv, σ₁, ⟨vs, G, hG, hI, hW⟩, t₁, hs₁, rl⟩
  have er₁ := r.er.mono t₁.kept.wider t₁.grow.wider
  refine comp_core hh hok hdot r.sc r.ok r.a hs₁ er₁ hG hI rl hW (RR := fun acc C => compPost c.M A E none (Post c A σ s P) acc C) ?_
  intro D C s' σ' ws ccs hk hst hSt hpl hl hrs hDn hCn hCD hns hCo
  refine ⟨hns.choose, hns.choose_spec, fun h' hsb => ?_⟩
  have hCH : C ∉ (c.hide D).H := fun q => by
    rcases List.mem_cons.mp q with q | q
    · exact hCD q
    · obtain ⟨_, o, e⟩ := hs₁.hid C q; rw [hCn] at e; cases e
  have hDH : D ∉ c.H := fun q => by obtain ⟨_, o, e⟩ := hs₁.hid D q; rw [hDn] at e; cases e
  have hDF : D ∉ c.F := fun q => by obtain ⟨o, e⟩ := hs₁.prot D q; rw [hDn] at e; cases e
  have hD0 : c.k.h0.get? D = none := by
    cases e : c.k.h0.get? D with
    | none => rfl
    | some o => have := hs₁.keep _ _ e; rw [hDn] at this; cases this
  obtain ⟨wok, kb⟩ := St.atC (c := c.hide D) (c₀ := c) rfl rfl hs₁ hCn hCo hCH hns hsb
  have hst' : Step c.F (owned σ₁) (owned σ') s₁ { s' with heap := h' } := hst.writeL (tk := s'.toks) (fun b hb => by rw [List.mem_singleton.mp hb]; exact hCn) (fun b hb hm => wok.notF b hb hm) kb
  have hpl' : PlainSeq h' "list" D ccs := let ⟨k, e⟩ := hpl; ⟨k, kb D _ (fun q => hCD (List.mem_singleton.mp q).symm) e⟩
  obtain ⟨v, σ'', h1, h2, h3, h4, _⟩ := made_post (s := s₁) (s' := { s' with heap := h' }) hk hst' hDn hD0 hDH hDF (hSt.writeL wok kb) hpl' hl (VRels.writeL wok.seq kb _ _ hrs)
  exact ⟨v, σ'', h1, t₁.trans h2, h3, h4⟩

theorem WS_assign_comp_made (hh : c.k.hd = true) {loc : Bool} {elt iter : Expr} {y : Str} {py : Pos} {ifs : List Expr} {scope : Scope} {pos px p : Pos} {x : Str} (hok : compOk scope sc y = true) (hdot : m.lookup (".0" : Str) = none)
    (hsw : (sc.names.lookup x == some .local && px.line == pos.line && !(scope.names.any fun (n, k) => n == x && (k == .local || k == .cell))) = true) (hx : isLoc sc x = true)
    (h : WE c d sc iter m σ (fun lv σ₁ => ∃ vs G, (∀ b ∈ G, b ∈ owned σ₁) ∧ IterS (c.pro G) σ₁ lv vs ∧ ∀ D, WComp ((c.pro G).hide D) d (relabelS scope sc) y ifs elt m (Made c.F loc fun v σ' => K .next ((x, v) :: m) σ') vs [] σ₁) X)
    (hs : ∀ env x, foldedSetIterable iter env x = pure x) : WS c d sc (.Assign [.Name x px] (.ListComp elt [⟨.Name y py, iter, ifs, 0⟩] scope pos) p) m σ K X := by
  intro env A s E r
  obtain ⟨hkind, hloc, _⟩ := compOk_local hok
  have hsw' : swapsWith (.ListComp elt [⟨.Name y py, iter, ifs, 0⟩] scope pos) (some (.Name x px)) p.line env = pure true := by
    have e : swapsWith (.ListComp elt [⟨.Name y py, iter, ifs, 0⟩] scope pos) (some (.Name x px)) p.line env = pure (env.blockKind == .function && env.kindOf x == some .local && px.line == pos.line && !(scope.names.any fun (n, k) => n == x && (k == .local || k == .cell))) := rfl
    rw [e]
    have hb : env.blockKind = .function := by unfold Env.blockKind; rw [r.ok.kind]; rfl
    simp only [Bool.and_eq_true] at hsw
    unfold Env.kindOf
    rw [hb, r.sc, hsw.1.1, hsw.1.2, hsw.2]; rfl
  rw [exec_Assign_Name_used _ _ _ _ hsw']
  refine wpAny_bind (wpAny_standAt (wpAny_bind ?_))
  show wpAny _ _ (do let _ ← comprehension (.ListComp elt [⟨.Name y py, iter, ifs, 0⟩] scope pos) scope env _ (newList []) false (eval iter env) (some _)) _ _ _
  refine wpAny_bind ?_
  refine wpAny_comprehension_free (use := some (assign (.Name x px) env)) rfl (hs env) (closure_of (x := y) r.ok (by rw [r.sc]; exact hok)) hkind hloc (wpAny_mono (h env A s E r.re) ?_ fun z1 z2 x => x)
  rintro cl s₁ ⟨lv, σ₁, ⟨vs, G, hG, hI, hW⟩, t₁, hs₁, rl⟩
  have er₁ := r.er.mono t₁.kept.wider t₁.grow.wider
  refine comp_core hh hok hdot r.sc r.ok r.a hs₁ er₁ hG hI rl hW (RR := fun acc C => compPost c.M A E (some (assign (.Name x px) env)) (fun z1 s' => wpAny c.M A (pure ()) (fun z1 s' => wpAny c.M A (pure Flow.next) (PostS c A env σ s K) E s') E s') acc C) ?_
  intro D C s' σ' ws ccs hk hst hSt hpl hl hrs hDn hCn hCD hns hCo
  have hCH : C ∉ c.H := fun q => by obtain ⟨_, o, e⟩ := hs₁.hid C q; rw [hCn] at e; cases e
  have hDH : D ∉ c.H := fun q => by obtain ⟨_, o, e⟩ := hs₁.hid D q; rw [hDn] at e; cases e
  have hDF : D ∉ c.F := fun q => by obtain ⟨o, e⟩ := hs₁.prot D q; rw [hDn] at e; cases e
  have hD0 : c.k.h0.get? D = none := by
    cases e : c.k.h0.get? D with
    | none => rfl
    | some o => have := hs₁.keep _ _ e; rw [hDn] at this; cases this
  obtain ⟨v, σ'', h1, h2, h3, h4, h5⟩ := made_post (s := s₁) (s' := s') hk hst hDn hD0 hDH hDF hSt hpl hl hrs
  have er' := er₁.mono h2.kept.wider h2.grow.wider
  show wpAny _ _ (assign (.Name x px) env (.ref D)) _ _ _
  refine wpAny_assign_Name (wpAny_mono (store_name r.ok h3 er' h4 (by unfold Env.kindOf; rw [r.sc]; exact isLoc_kind hx)) ?_ fun z1 z2 x => x)
  rintro _ s₄ ⟨⟨t₄, hs₄, er₄⟩, L, hL', tk, rfl, kbL, hL⟩
  have hCL : C ≠ L := fun q => by
    obtain ⟨mc, ⟨oL, _, _, e, _⟩, _⟩ := er₁.ns
    rcases hL with ⟨_, hL⟩ | ⟨_, hL⟩
    · rw [← hL, ← q, hCn] at e; cases e
    · obtain ⟨_, _, _, _, v', oc, e', _⟩ := er₁.cnot x L (mem_of_lookup hL)
      rw [← q, hCn] at e'; cases e'
  have hCo'' : C ∉ owned σ'' := fun q => (h5 C q).elim hCD hCo
  obtain ⟨mc, oC, es, ep, eC, hdC, hrest⟩ := hns
  refine ⟨mc, ⟨oC, es, ep, kbL C oC hCL eC, hdC, hrest⟩, fun h' hsb => ?_⟩
  obtain ⟨wok, kb⟩ := St.atC (c := c) (c₀ := c) (s' := { s' with heap := hL', toks := tk }) rfl rfl hs₁ hCn hCo'' hCH ⟨mc, oC, es, ep, kbL C oC hCL eC, hdC, hrest⟩ hsb
  refine wpAny_pure (wpAny_pure ?_)
  have t₁₄ : Step c.F (places env ++ owned σ₁) (places env ++ owned σ'') s₁ { s' with heap := hL', toks := tk } := h2.wider.trans t₄
  have t₁₅ := t₁₄.writeL (tk := tk) (wr := [C]) (fun b hb => by rw [List.mem_singleton.mp hb]; exact hCn) (fun b hb hm => wok.notF b hb hm) kb
  refine ⟨.next, _, σ'', h1, t₁.wider.trans t₁₅, hs₄.writeL wok kb, er₄.writeL wok (fun b hb hC => ?_) kb, rfl⟩
  rw [List.mem_singleton.mp hC] at hb
  simp only [places, List.mem_cons, List.mem_map] at hb
  rcases hb with q | ⟨⟨z, a⟩, hm, q⟩
  · obtain ⟨mc, ⟨oL, _, _, e, _⟩, _⟩ := er₁.ns; rw [← q, hCn] at e; cases e
  · obtain ⟨_, _, _, _, v', oc, e', _⟩ := er₁.cnot z a hm
    dsimp only at q; rw [q, hCn] at e'; cases e'

theorem swaps_cell {elt t iter : Expr} {ifs : List Expr} {scope : Scope} {pos px : Pos} {line : Nat} {x : Str} (hx : (sc.names.lookup x == some .local) = false) : ∀ env, env.scope = sc → swapsWithSole [.Name x px] (.ListComp elt [⟨t, iter, ifs, 0⟩] scope pos) line env = pure false := by
  intro env he
  have e : swapsWithSole [.Name x px] (.ListComp elt [⟨t, iter, ifs, 0⟩] scope pos) line env = pure (env.blockKind == .function && env.kindOf x == some .local && px.line == pos.line && !(scope.names.any fun (n, k) => n == x && (k == .local || k == .cell))) := rfl
  rw [e]; unfold Env.kindOf; rw [he, hx]; simp

theorem IterOwn.of {o : Obj} {T : String} (h : o.cls = .type T) (hT : ["enumerate", "zip", "dict_itemiterator", "dict_reverseitemiterator", "odict_iterator", "itertools.zip_longest", "itertools.pairwise"].contains T = false) : IterOwn o := fun n e => by
  rw [h] at e; cases e; exact hT

theorem Iter_seqL {lv : V} {vs : List V} (hl : ∀ {A : Around} {h : Heap} {cv : Value}, St c A σ h → VRel h (ownS c σ) lv cv → ∃ a cs, cv = .ref a ∧ PlainSeq h "list" a cs ∧ cs.length ≤ sizeLine ∧ VRels h (ownS c σ) vs cs ∧ (a ∉ owned σ ∨ a ∈ c.F)) : IterS c σ lv vs := by
  intro A s E cv hh st r
  obtain ⟨a, cs, rfl, p, hsz, rs, ha⟩ := hl st r
  have hlt : a < s.heap.objs.size := by obtain ⟨n, e⟩ := p; exact Heap.lt_size e
  have hsize : cs.toArray.size = vs.length := by rw [List.size_toArray, rs.length]
  have W := Walks.list (prog := c.k.prog) (w := c.k.w) hh s.heap.objs.size a (Nat.ne_of_lt hlt) cs.toArray
  rw [hsize] at W
  refine wpAny_pyIter_list p.isList ⟨_, [s.heap.objs.size, a], [s.heap.objs.size], _, _, rfl, ⟨W, by rw [← rs.length]; exact hsz, ⟨⟨_, Heap.get?_push_size _ rfl, rfl, rfl⟩, p.isList.push _⟩, .push _, fun b hb => ?_, fun i h hst b hb => ?_, fun i h hst => ?_, fun b hb => ?_, fun h' own' k i v x hv hx => ?_⟩, rfl, rfl⟩
  · rw [List.mem_singleton.mp hb]; exact get?_size _
  · rw [List.mem_singleton.mp hb]
    obtain ⟨⟨o, ho, hc, hd⟩, _⟩ := hst
    exact ⟨o, ho, ⟨_, hd⟩, by rw [hc]; decide⟩
  · obtain ⟨⟨o, ho, hc, hd⟩, _⟩ := hst
    exact ⟨o, ho, .of hc (by decide)⟩
  · rcases List.mem_cons.mp hb with q | q
    · left; rw [q]; exact .head _
    · right
      rw [List.mem_singleton.mp q]
      rcases ha with ha | ha
      · right
        obtain ⟨n, e⟩ := p
        exact ⟨ha, _, e, _, _, rfl⟩
      · left; exact ha
  · have rs' := rs.carry k
    obtain ⟨cx, hcx, rx⟩ := rs'.get hv
    have hx : cs.toArray[i]? = some x := hx
    simp only [List.getElem?_toArray] at hx
    rw [hcx] at hx; cases hx; exact rx
theorem Iter_lst {vs : List V} : IterS c σ (.lst vs) vs := Iter_seqL fun st r => by
  simp only [VRel] at r
  obtain ⟨a, cs, e, ha, p, hsz, rs⟩ := r
  exact ⟨a, cs, e, p, hsz, rs, .inl fun q => ha (List.mem_append_right _ q)⟩
theorem Iter_tup {vs : List V} : IterS c σ (.tup vs) vs := by
  intro A s E cv hh st r
  simp only [VRel] at r
  obtain ⟨a, cs, rfl, ha, p, hsz, rs⟩ := r
  have hlt : a < s.heap.objs.size := by obtain ⟨n, e⟩ := p; exact Heap.lt_size e
  have hsize : cs.toArray.size = vs.length := by rw [List.size_toArray, rs.length]
  have W := Walks.tuple (prog := c.k.prog) (w := c.k.w) hh s.heap.objs.size a (Nat.ne_of_lt hlt) cs.toArray
  rw [hsize] at W
  refine wpAny_pyIter_tuple p.isTuple ⟨_, [s.heap.objs.size, a], [s.heap.objs.size], _, _, rfl, ⟨W, by rw [← rs.length]; exact hsz, ⟨⟨_, Heap.get?_push_size _ rfl, rfl, rfl⟩, p.isTuple.push _⟩, .push _, fun b hb => ?_, fun i h hst b hb => ?_, fun i h hst => ?_, fun b hb => ?_, fun h' own' k i v x hv hx => ?_⟩, rfl, rfl⟩
  · rw [List.mem_singleton.mp hb]; exact get?_size _
  · rw [List.mem_singleton.mp hb]
    obtain ⟨⟨o, ho, hc, hd⟩, _⟩ := hst
    exact ⟨o, ho, ⟨_, hd⟩, by rw [hc]; decide⟩
  · obtain ⟨⟨o, ho, hc, hd⟩, _⟩ := hst
    exact ⟨o, ho, .of hc (by decide)⟩
  · rcases List.mem_cons.mp hb with q | q
    · left; rw [q]; exact .head _
    · right; right
      rw [List.mem_singleton.mp q]
      obtain ⟨n, e⟩ := p
      exact ⟨fun q => ha (List.mem_append_right _ q), _, e, _, _, rfl⟩
  · have rs' := rs.carry k
    obtain ⟨cx, hcx, rx⟩ := rs'.get hv
    have hx : cs.toArray[i]? = some x := hx
    simp only [List.getElem?_toArray] at hx
    rw [hcx] at hx; cases hx; exact rx

noncomputable def rangeL (lo hi : Int) : List Int := (List.range (hi - lo).toNat).map fun k => lo + (k : Nat)
theorem rangeL_length (lo hi : Int) : (rangeL lo hi).length = (hi - lo).toNat := by simp [rangeL]
theorem rangeSize_one (lo hi : Int) : Builtin.Range.rangeSize lo hi 1 = ((hi - lo).toNat : Int) := by
  unfold Builtin.Range.rangeSize
  by_cases h : lo < hi
  · simp only [show (1 : Int) > 0 by decide, if_true, h, Int.ediv_one]; lia
  · simp only [show (1 : Int) > 0 by decide, if_true, h, if_false]; lia
theorem Iter_rng {lo hi : Int} (h1 : -1000000000000000 ≤ lo) (h1' : lo ≤ 1000000000000000) (h2 : -1000000000000000 ≤ hi) (h2' : hi ≤ 1000000000000000) (h3 : hi - lo ≤ 16777216) : IterS c σ (.rng lo hi) ((rangeL lo hi).map .int) := by
  intro A s E cv hh st r
  simp only [VRel] at r
  obtain ⟨a, t, u, v, rfl, ha, e⟩ := r
  have hlen : ((rangeL lo hi).map V.int).length = (hi - lo).toNat := by rw [List.length_map, rangeL_length]
  have W := Walks.range (prog := c.k.prog) (w := c.k.w) hh s.heap.objs.size lo 1 (hi - lo).toNat
  rw [← hlen] at W
  have hsm : Builtin.Range.small lo hi 1 = true := small_one (by lia) (by lia) (by lia) (by lia)
  refine wpAny_pyIter_range e hsm ⟨_, [s.heap.objs.size], [s.heap.objs.size], _, _, rfl, ⟨W, by rw [hlen, sizeLine_eq]; lia, ?_, .push _, fun b hb => ?_, fun i h hst b hb => ?_, fun i h hst => ?_, fun b hb => .inl hb, fun h' own' k i w x hv hx => ?_⟩, rfl, rfl⟩
  · show IsRangeIter _ _ _ _ _
    rw [hlen, rangeSize_one]
    simp only [Int.ofNat_zero, Int.zero_mul, Int.add_zero, Int.sub_zero, Int.natCast_zero]
    exact Heap.get?_push_size _ rfl
  · rw [List.mem_singleton.mp hb]; exact get?_size _
  · rw [List.mem_singleton.mp hb]; exact ⟨_, hst, ⟨_, rfl⟩, show Value.type "range_iterator" ≠ .type "range" by decide⟩
  · exact ⟨_, hst, .of rfl (by decide)⟩
  · obtain ⟨t, rfl⟩ := hx
    rw [List.getElem?_map] at hv
    cases q : (rangeL lo hi)[i]? with
    | none => rw [q] at hv; cases hv
    | some z =>
      rw [q] at hv
      simp only [Option.map_some, Option.some.injEq] at hv
      subst hv
      simp only [rangeL, List.getElem?_map] at q
      cases q2 : (List.range (hi - lo).toNat)[i]? with
      | none => rw [q2] at q; cases q
      | some y =>
        rw [q2] at q
        have hy : y = i := by
          obtain ⟨hi', hy⟩ := List.getElem?_eq_some_iff.mp q2
          rw [List.getElem_range] at hy; exact hy.symm
        subst hy
        simp only [Option.map_some, Option.some.injEq] at q
        subst q
        simp only [VRel, Int.mul_one]
        exact ⟨t, rfl⟩
noncomputable def signs (x : Str) : List V := x.cps.toList.map fun k => .str ⟨#[k]⟩
theorem Iter_str {x : Str} (hsz : x.length ≤ sizeLine) : IterS c σ (.str x) (signs x) := by
  intro A s E cv hh st r
  simp only [VRel] at r
  obtain ⟨t, rfl⟩ := r
  have hlen : (signs x).length = x.cps.size := by simp [signs]
  have elem : ∀ (h' : Heap) (own' : List Addr) i v y, (signs x)[i]? = some v → SignAt x i y → VRel h' own' v y := fun h' own' i v y hv hx => by
    obtain ⟨k, u, hk, rfl⟩ := hx
    simp only [signs, List.getElem?_map, Array.getElem?_toList, hk, Option.map_some, Option.some.injEq] at hv
    subst hv
    simp only [VRel]; exact ⟨u, rfl⟩
  cases hasc : x.cps.all (· < 128)
  · have W := Walks.strWide (prog := c.k.prog) (w := c.k.w) hh s.heap.objs.size x t
    rw [← hlen] at W
    refine wpAny_pyIter_wide hasc ⟨_, _, _, _, _, rfl, ⟨W, by rw [hlen]; exact hsz, ⟨_, Heap.get?_push_size _ rfl, rfl, rfl⟩, .push _, fun b hb => ?_, fun i h hst b hb => ?_, fun i h hst => ?_, fun b hb => .inl hb, fun h' own' z1 => elem h' own'⟩, rfl, rfl⟩
    · rw [List.mem_singleton.mp hb]; exact get?_size _
    · rw [List.mem_singleton.mp hb]
      obtain ⟨o, ho, hc, hd⟩ := hst
      exact ⟨o, ho, ⟨_, hd⟩, by rw [hc]; decide⟩
    · obtain ⟨o, ho, hc, hd⟩ := hst
      exact ⟨o, ho, .of hc (by decide)⟩
  · have W := Walks.strAscii (prog := c.k.prog) (w := c.k.w) hh s.heap.objs.size x t
    rw [← hlen] at W
    refine wpAny_pyIter_ascii hasc ⟨_, _, _, _, _, rfl, ⟨W, by rw [hlen]; exact hsz, ⟨_, Heap.get?_push_size _ rfl, rfl, rfl⟩, .push _, fun b hb => ?_, fun i h hst b hb => ?_, fun i h hst => ?_, fun b hb => .inl hb, fun h' own' z1 => elem h' own'⟩, rfl, rfl⟩
    · rw [List.mem_singleton.mp hb]; exact get?_size _
    · rw [List.mem_singleton.mp hb]
      obtain ⟨o, ho, hc, hd⟩ := hst
      exact ⟨o, ho, ⟨_, hd⟩, by rw [hc]; decide⟩
    · obtain ⟨o, ho, hc, hd⟩ := hst
      exact ⟨o, ho, .of hc (by decide)⟩
end Mine
end

section
set_option Elab.async false
set_option linter.unusedVariables false
set_option linter.unusedSimpArgs false
namespace Mine
open PySem

variable {c : Cx} {d : Nat} {sc : Scope} {m : AEnv} {σ : Led} {P : V → Led → Prop} {X : XP}

noncomputable def Callee (c : Cx) (f : Value) : Prop := (∃ id, f = .builtin id) ∨ (∃ T, f = .type T) ∨ ∃ a o fd, f = .ref a ∧ c.k.h0.get? a = some o ∧ o.data = .func fd
theorem Callee.b {id : String} : Callee c (.builtin id) := .inl ⟨_, rfl⟩
theorem Callee.t {T : String} : Callee c (.type T) := .inr (.inl ⟨_, rfl⟩)
theorem evalArgs_any {M : Model} {A : Around} {E : Value → Shared → Prop} {s : Shared} {f : Value} {args : List (Bool × Sem Value)} {Q : Args → Shared → Prop} (hp : args.any (·.1) = false)
    (h : wpAny M A (spliced args) (fun vs s' => Q ⟨vs, []⟩ s') E s) : wpAny M A (evalArgs f true args []) Q E s := by
  rcases args with _ | ⟨⟨b, x⟩, rest⟩
  · unfold evalArgs
    show wpAny M A (spliced [] >>= _) Q E s
    refine wpAny_bind (wpAny_mono h (fun vs s' h' => ?_) fun z1 z2 x => x)
    refine wpAny_bind (wpAny_pure (wpAny_holding ?_))
    exact wpAny_bind (wpAny_pure (wpAny_bind (wpAny_pure (wpAny_pure h'))))
  · simp only [List.any_cons, Bool.or_eq_false_iff] at hp
    obtain ⟨rfl, _⟩ := hp
    exact Calls.evalArgs_plain h

theorem callWith_type {M : Model} {A : Around} {E : Value → Shared → Prop} {s : Shared} {pos : Pos} {T : String} {first : List Value} {args : List (Bool × Sem Value)} {Q : Value → Shared → Prop} (hplain : args.any (·.1) = false)
    (h : wpAny M A (evalArgs (.type T) true args []) (fun a s₁ => wpAny M A (call (.type T) (first ++ a.pos) a.kw) Q E s₁) E s) :
    wpAny M A (callWith pos (.type T) first args []) Q E s := by
  unfold callWith
  refine wpAny_bind (wpAny_holding (wpAny_mono h (fun a s₁ h₁ => wpAny_bind (wpAny_standAt ?_)) fun z1 z2 x => x))
  simp only [hplain, List.any_nil, Bool.or_false]
  refine wpAny_bind (wpAny_pure ?_)
  exact wpAny_bind (wpAny_mono h₁ (fun r s₂ hr => wpAny_bind (wpAny_holding (wpAny_point (wpAny_pure hr)))) fun z1 z2 x => x)

theorem callWith_any {A : Around} {E : Value → Shared → Prop} {s : Shared} {pos : Pos} {f : Value} {first : List Value} {args : List (Bool × Sem Value)} {Q : Value → Shared → Prop} (hplain : args.any (·.1) = false) (hf : Callee c f)
    (h : wpAny c.M A (spliced args) (fun vs s₁ => (∀ b o, c.k.h0.get? b = some o → s₁.heap.get? b = some o) ∧ wpAny c.M A (call f (first ++ vs)) Q E s₁) E s) :
    wpAny c.M A (callWith pos f first args []) Q E s := by
  rcases hf with ⟨id, rfl⟩ | ⟨T, rfl⟩ | ⟨a, o, fd, rfl, ho, hd⟩
  · exact Calls.callWith_builtin hplain (evalArgs_any hplain (wpAny_mono h (fun z1 z2 x => x.2) fun z1 z2 x => x))
  · exact callWith_type hplain (evalArgs_any hplain (wpAny_mono h (fun z1 z2 x => x.2) fun z1 z2 x => x))
  · exact Calls.callWith_function (o := o) (fd := fd) (evalArgs_any hplain (wpAny_mono h (fun z1 z2 x => ⟨⟨x.1 _ _ ho, hd⟩, x.2⟩) fun z1 z2 x => x))

theorem backTo_any {pos : Pos} {l : List (Bool × Sem Value)} (h : l.any (·.1) = false) : (backTo pos l).any (·.1) = false := by
  cases e : (backTo pos l).any (·.1) with
  | false => rfl
  | true =>
    exfalso
    revert h e
    generalize hk : (·.1 : Bool × Sem Value → Bool) = k
    cases l with
    | nil => intro h e; simp [backTo] at e
    | cons x r => cases r with
      | nil => subst hk; intro h e; simp [backTo] at e h; simp [h] at e
      | cons y r => subst hk; intro h e; simp [backTo] at e h; simp_all

theorem WE_call {f : Str} {p pos : Pos} {args : List Expr} (h : WE c d sc (.Name f p) m σ (fun fv σ₁ => ∃ cv, fv = .raw cv ∧ Callee c cv ∧ WEs c d sc args m σ₁ (fun vs σ₂ => CallS c d cv vs σ₂ P X) X) X) :
    WE c d sc (.Call (.Name f p) args [] pos) m σ P X := by
  intro env A s E r
  rw [arm_eval_Call_Name']
  refine wpAny_bind (wpAny_mono (h env A s E r) ?_ fun z1 z2 x => x)
  rintro cf s₁ ⟨fv, σ₁, ⟨cv, rfl, hcal, h₁⟩, t₁, hs₁, rf⟩
  simp only [VRel] at rf; subst rf
  obtain ⟨hp, hw⟩ := h₁ env A s₁ E pos (r.step t₁ hs₁)
  refine callWith_any (backTo_any hp) hcal (wpAny_mono hw ?_ fun z1 z2 x => x)
  rintro cvs s₂ ⟨vs, σ₂, ⟨_, h₂⟩, t₂, hs₂, rvs⟩
  refine ⟨hs₂.keep, ?_⟩
  exact wpAny_mono (h₂ A s₂ E cvs r.a hs₂ rvs ((r.e.step t₁).step t₂)) (fun z1 z2 q => (q.step t₂).step t₁) fun z1 z2 x => x

theorem WE_call_def (hc : c.k.OK) {f : Str} {p pos : Pos} {args : List Expr} {cv : Value} (hk : sc.names.lookup f = some .globalImplicit) (hg : c.k.mg f = some cv) (hcal : Callee c cv)
    (h : WEs c d sc args m σ (fun vs σ₂ => CallS c d cv vs σ₂ P X) X) : WE c d sc (.Call (.Name f p) args [] pos) m σ P X :=
  WE_call (WE_global hc hk hg (v := .raw cv) (fun z1 z2 => by simp only [VRel]) ⟨cv, rfl, hcal, h⟩)
theorem WE_call_builtin (hc : c.k.OK) {f : Str} {p pos : Pos} {args : List Expr} {cv : Value} (hk : sc.names.lookup f = some .globalImplicit) (hg : c.k.mg f = none) (hb : c.k.mb f = some cv) (hcal : Callee c cv)
    (h : WEs c d sc args m σ (fun vs σ₂ => CallS c d cv vs σ₂ P X) X) : WE c d sc (.Call (.Name f p) args [] pos) m σ P X :=
  WE_call (WE_builtin hc hk hg hb ⟨cv, rfl, hcal, h⟩)

noncomputable def Meth (c : Cx) (σ : Led) (ov : V) (name : Str) (T id : String) : Prop := PlainAttrs T ∧ Slot T name id ∧ typeOf (.builtin id) = pure (.type "method_descriptor") ∧
  ∀ (A : Around) (s : Shared) (cv : Value), St c A σ s.heap → VRel s.heap (ownS c σ) ov cv → s.TypeIs cv T ∧ ∀ a, cv = .ref a → ∃ ob, s.heap.get? a = some ob ∧ ob.dict = none

noncomputable def plainBase (e : Expr) : Bool := e.ctorIdx != 16
theorem attributeBase_plain {o : Expr} {name : Str} {env : Env} {x : Sem Value} (h : plainBase o = true) : attributeBase o name env x = x := by
  cases o with
  | Call _ _ _ _ => exact Bool.noConfusion (show false = true from h)
  | _ => rfl

theorem WE_method {o : Expr} {name : Str} {apos pos : Pos} {args : List Expr} (hb : plainBase o = true) (hline : (apos.endLine == pos.line) = true)
    (h : WE c d sc o m σ (fun ov σ₁ => ∃ T id, Meth c σ₁ ov name T id ∧ WEs c d sc args m σ₁ (fun vs σ₂ => CallS c d (.builtin id) (ov :: vs) σ₂ P X) X) X)
    (hs : ∀ env, (starEach args env).any (·.1) = false) (hn : args.length < 30) :
    WE c d sc (.Call (.Attribute o name apos) args [] pos) m σ P X := by
  intro env A s E r
  refine wpAny_Call_method_lateS (attributeBase_plain hb) ?_ hline (wpAny_mono (h env A s E r) ?_ fun z1 z2 x => x)
  · have h1 : (backTo pos (starEach args env)).all (fun x => !x.1) = true := by
      have := backTo_any (pos := pos) (hs env)
      rw [List.any_eq_false] at this
      rw [List.all_eq_true]
      intro x hx
      simpa using this x hx
    rw [h1]
    simp only [Bool.true_and, Bool.and_eq_true, decide_eq_true_eq]
    exact ⟨rfl, by simpa using hn⟩
  · rintro co s₁ ⟨ov, σ₁, ⟨T, id, ⟨pa, slot, hty, hm⟩, h₁⟩, t₁, hs₁, ro⟩
    obtain ⟨hT, hd⟩ := hm A s₁ co hs₁ ro
    refine ⟨T, id, pa, slot, hty, hT, hd, ?_⟩
    obtain ⟨hp, hw⟩ := h₁ env A s₁ E pos (r.step t₁ hs₁)
    refine callWith_any (c := c) (backTo_any hp) .b (wpAny_mono hw ?_ fun z1 z2 x => x)
    rintro cvs s₂ ⟨vs, σ₂, ⟨_, h₂⟩, t₂, hs₂, rvs⟩
    refine ⟨hs₂.keep, ?_⟩
    refine wpAny_mono (h₂ A s₂ E (co :: cvs) r.a hs₂ (by simp only [VRels]; exact ⟨co, cvs, rfl, t₂.v ro, rvs⟩) ((r.e.step t₁).step t₂)) (fun z1 z2 q => (q.step t₂).step t₁) fun z1 z2 x => x

end Mine
end

section
set_option Elab.async false
set_option linter.unusedVariables false
set_option linter.unusedSimpArgs false
namespace Mine
open PySem

variable {c : Cx} {d : Nat} {sc : Scope} {m : AEnv} {σ : Led} {P : V → Led → Prop} {X : XP}

theorem VRels.un1 {h : Heap} {own : List Addr} {v : V} {cs : List Value} (r : VRels h own [v] cs) : ∃ x, cs = [x] ∧ VRel h own v x := by
  simp only [VRels] at r
  obtain ⟨x, _, rfl, r1, rfl⟩ := r
  exact ⟨x, rfl, r1⟩
theorem VRels.un2 {h : Heap} {own : List Addr} {v w : V} {cs : List Value} (r : VRels h own [v, w] cs) : ∃ x y, cs = [x, y] ∧ VRel h own v x ∧ VRel h own w y := by
  simp only [VRels] at r
  obtain ⟨x, _, rfl, r1, y, _, rfl, r2, rfl⟩ := r
  exact ⟨x, y, rfl, r1, r2⟩

theorem Call_len_lst {lv : V} {vs : List V} (hl : IsLst σ lv vs) (h : P (.int vs.length) σ) : CallS c d (.builtin "len") [lv] σ P X := by
  intro A s E cs _ st rs _
  obtain ⟨x, rfl, r⟩ := rs.un1
  obtain ⟨a, cs, rfl, p, hsz, rs⟩ := hl.plain st r
  have hsz' : sizeLine = 16777216 := by rw [sizeLine_eq]
  refine Calls.call_len_list p.isList (by simp only [List.size_toArray]; lia) ?_
  rw [List.size_toArray, rs.length]
  exact Post.same st h (by simp only [VRel]; exact ⟨_, rfl⟩)
theorem Call_len_tup {vs : List V} (h : P (.int vs.length) σ) : CallS c d (.builtin "len") [.tup vs] σ P X := by
  intro A s E cs _ st rs _
  obtain ⟨x, rfl, r⟩ := rs.un1
  simp only [VRel] at r
  obtain ⟨a, cs, rfl, hno, ⟨n, e⟩, hsz, rs⟩ := r
  have hsz' : sizeLine = 16777216 := by rw [sizeLine_eq]
  refine PySem.P.len_tuple e (by simp only [List.size_toArray]; lia) ?_
  rw [List.size_toArray, rs.length]
  exact Post.same st h (by simp only [VRel]; exact ⟨_, rfl⟩)
theorem Call_len_str {x : Str} (hx : x.length ≤ 1000000) (h : P (.int x.length) σ) : CallS c d (.builtin "len") [.str x] σ P X := by
  intro A s E cs _ st rs _
  obtain ⟨x, rfl, r⟩ := rs.un1
  simp only [VRel] at r
  obtain ⟨t, rfl⟩ := r
  exact PySem.P.len_str (by lia) (Post.same st h (by simp only [VRel]; exact ⟨_, rfl⟩))

theorem VRels.raw2 {h : Heap} {own : List Addr} {v : V} {w : Value} {cs : List Value} (r : VRels h own [v, .raw w] cs) : ∃ x, cs = [x, w] ∧ VRel h own v x := by
  obtain ⟨x, y, rfl, r1, r2⟩ := r.un2
  simp only [VRel] at r2; subst r2
  exact ⟨x, rfl, r1⟩
section isi
variable {i : Int} {b : Bool} {x : Str} {vs : List V}
theorem isi_int {T : String} {r : Bool} (hz : ∀ {A : Around} {E : Value → Shared → Prop} {s : Shared} {t : Tok} {Q : Value → Shared → Prop}, (∀ k, Q (.bool r) { s with toks := k }) → wpAny c.M A (call (.builtin "isinstance") [.int i t, .type T]) Q E s)
    (h : P (.bool r) σ) : CallS c d (.builtin "isinstance") [.int i, .raw (.type T)] σ P X := by
  intro A s E cs _ st rs _
  obtain ⟨y, rfl, ry⟩ := rs.raw2
  simp only [VRel] at ry; obtain ⟨t, rfl⟩ := ry
  exact hz fun k => Post.same st h (by simp only [VRel])
theorem Isi_int_int (h : P (.bool true) σ) : CallS c d (.builtin "isinstance") [.int i, .raw (.type "int")] σ P X := isi_int (fun q => IsiPair.int_int (q _)) h
theorem Isi_int_bool (h : P (.bool false) σ) : CallS c d (.builtin "isinstance") [.int i, .raw (.type "bool")] σ P X := isi_int (fun q => IsiPair.int_bool (q _)) h
theorem Isi_int_str (h : P (.bool false) σ) : CallS c d (.builtin "isinstance") [.int i, .raw (.type "str")] σ P X := isi_int (fun q => IsiPair.int_str (q _)) h
theorem Isi_int_tuple (h : P (.bool false) σ) : CallS c d (.builtin "isinstance") [.int i, .raw (.type "tuple")] σ P X := isi_int (fun q => IsiPair.int_tuple (q _)) h
theorem Isi_int_list (h : P (.bool false) σ) : CallS c d (.builtin "isinstance") [.int i, .raw (.type "list")] σ P X := isi_int (fun q => IsiPair.int_list (q _)) h
theorem isi_bool {T : String} {r : Bool} (hz : ∀ {A : Around} {E : Value → Shared → Prop} {s : Shared} {Q : Value → Shared → Prop}, (∀ k, Q (.bool r) { s with toks := k }) → wpAny c.M A (call (.builtin "isinstance") [.bool b, .type T]) Q E s)
    (h : P (.bool r) σ) : CallS c d (.builtin "isinstance") [.bool b, .raw (.type T)] σ P X := by
  intro A s E cs _ st rs _
  obtain ⟨y, rfl, ry⟩ := rs.raw2
  simp only [VRel] at ry; subst ry
  exact hz fun k => Post.same st h (by simp only [VRel])
theorem Isi_bool_int (h : P (.bool true) σ) : CallS c d (.builtin "isinstance") [.bool b, .raw (.type "int")] σ P X := isi_bool (fun q => IsiPair.bool_int (q _)) h
theorem Isi_bool_bool (h : P (.bool true) σ) : CallS c d (.builtin "isinstance") [.bool b, .raw (.type "bool")] σ P X := isi_bool (fun q => IsiPair.bool_bool (q _)) h
theorem Isi_bool_str (h : P (.bool false) σ) : CallS c d (.builtin "isinstance") [.bool b, .raw (.type "str")] σ P X := isi_bool (fun q => IsiPair.bool_str (q _)) h
theorem Isi_bool_tuple (h : P (.bool false) σ) : CallS c d (.builtin "isinstance") [.bool b, .raw (.type "tuple")] σ P X := isi_bool (fun q => IsiPair.bool_tuple (q _)) h
theorem Isi_bool_list (h : P (.bool false) σ) : CallS c d (.builtin "isinstance") [.bool b, .raw (.type "list")] σ P X := isi_bool (fun q => IsiPair.bool_list (q _)) h
theorem isi_str {T : String} {r : Bool} (hz : ∀ {A : Around} {E : Value → Shared → Prop} {s : Shared} {t : Tok} {Q : Value → Shared → Prop}, (∀ k, Q (.bool r) { s with toks := k }) → wpAny c.M A (call (.builtin "isinstance") [.str x t, .type T]) Q E s)
    (h : P (.bool r) σ) : CallS c d (.builtin "isinstance") [.str x, .raw (.type T)] σ P X := by
  intro A s E cs _ st rs _
  obtain ⟨y, rfl, ry⟩ := rs.raw2
  simp only [VRel] at ry; obtain ⟨t, rfl⟩ := ry
  exact hz fun k => Post.same st h (by simp only [VRel])
theorem Isi_str_int (h : P (.bool false) σ) : CallS c d (.builtin "isinstance") [.str x, .raw (.type "int")] σ P X := isi_str (fun q => IsiPair.str_int (q _)) h
theorem Isi_str_bool (h : P (.bool false) σ) : CallS c d (.builtin "isinstance") [.str x, .raw (.type "bool")] σ P X := isi_str (fun q => IsiPair.str_bool (q _)) h
theorem Isi_str_str (h : P (.bool true) σ) : CallS c d (.builtin "isinstance") [.str x, .raw (.type "str")] σ P X := isi_str (fun q => IsiPair.str_str (q _)) h
theorem Isi_str_tuple (h : P (.bool false) σ) : CallS c d (.builtin "isinstance") [.str x, .raw (.type "tuple")] σ P X := isi_str (fun q => IsiPair.str_tuple (q _)) h
theorem Isi_str_list (h : P (.bool false) σ) : CallS c d (.builtin "isinstance") [.str x, .raw (.type "list")] σ P X := isi_str (fun q => IsiPair.str_list (q _)) h
theorem isi_seq {T T' : String} {r : Bool} {lv : V} (hz : ∀ {A : Around} {E : Value → Shared → Prop} {s : Shared} {a : Addr} {o : Obj} {Q : Value → Shared → Prop}, s.heap.get? a = some o → o.cls = .type T' → (∀ k, Q (.bool r) { s with toks := k }) → wpAny c.M A (call (.builtin "isinstance") [.ref a, .type T]) Q E s)
    (hv : ∀ {A : Around} {h : Heap} {x : Value}, St c A σ h → VRel h (ownS c σ) lv x → ∃ a o, x = .ref a ∧ h.get? a = some o ∧ o.cls = .type T')
    (h : P (.bool r) σ) : CallS c d (.builtin "isinstance") [lv, .raw (.type T)] σ P X := by
  intro A s E cs _ st rs _
  obtain ⟨y, rfl, ry⟩ := rs.raw2
  obtain ⟨a, o, rfl, e, hc⟩ := hv st ry
  exact hz e hc fun k => Post.same st h (by simp only [VRel])
theorem cls_tup {A : Around} {h : Heap} {x : Value} (_ : St c A σ h) (r : VRel h (ownS c σ) (.tup vs) x) : ∃ a o, x = .ref a ∧ h.get? a = some o ∧ o.cls = .type "tuple" := by
  simp only [VRel] at r
  obtain ⟨a, cs, rfl, _, ⟨n, e⟩, _, _⟩ := r
  exact ⟨a, _, rfl, e, rfl⟩
theorem cls_lst {A : Around} {h : Heap} {x : Value} {lv : V} (hl : IsLst σ lv vs) (st : St c A σ h) (r : VRel h (ownS c σ) lv x) : ∃ a o, x = .ref a ∧ h.get? a = some o ∧ o.cls = .type "list" := by
  obtain ⟨a, cs, rfl, ⟨n, e⟩, _, _⟩ := hl.plain st r
  exact ⟨a, _, rfl, e, rfl⟩
theorem Isi_tup_tuple (h : P (.bool true) σ) : CallS c d (.builtin "isinstance") [.tup vs, .raw (.type "tuple")] σ P X := isi_seq (fun e hc q => IsiPair.tuple_tuple e hc (q _)) cls_tup h
theorem Isi_tup_list (h : P (.bool false) σ) : CallS c d (.builtin "isinstance") [.tup vs, .raw (.type "list")] σ P X := isi_seq (fun e hc q => IsiPair.tuple_list e hc (q _)) cls_tup h
theorem Isi_tup_int (h : P (.bool false) σ) : CallS c d (.builtin "isinstance") [.tup vs, .raw (.type "int")] σ P X := isi_seq (fun e hc q => IsiPair.tuple_int e hc (q _)) cls_tup h
theorem Isi_tup_bool (h : P (.bool false) σ) : CallS c d (.builtin "isinstance") [.tup vs, .raw (.type "bool")] σ P X := isi_seq (fun e hc q => IsiPair.tuple_bool e hc (q _)) cls_tup h
theorem Isi_tup_str (h : P (.bool false) σ) : CallS c d (.builtin "isinstance") [.tup vs, .raw (.type "str")] σ P X := isi_seq (fun e hc q => IsiPair.tuple_str e hc (q _)) cls_tup h
theorem Isi_lst_tuple {lv : V} (hl : IsLst σ lv vs) (h : P (.bool false) σ) : CallS c d (.builtin "isinstance") [lv, .raw (.type "tuple")] σ P X := isi_seq (fun e hc q => IsiPair.list_tuple e hc (q _)) (cls_lst hl) h
theorem Isi_lst_list {lv : V} (hl : IsLst σ lv vs) (h : P (.bool true) σ) : CallS c d (.builtin "isinstance") [lv, .raw (.type "list")] σ P X := isi_seq (fun e hc q => IsiPair.list_list e hc (q _)) (cls_lst hl) h
theorem Isi_lst_int {lv : V} (hl : IsLst σ lv vs) (h : P (.bool false) σ) : CallS c d (.builtin "isinstance") [lv, .raw (.type "int")] σ P X := isi_seq (fun e hc q => IsiPair.list_int e hc (q _)) (cls_lst hl) h
theorem Isi_lst_bool {lv : V} (hl : IsLst σ lv vs) (h : P (.bool false) σ) : CallS c d (.builtin "isinstance") [lv, .raw (.type "bool")] σ P X := isi_seq (fun e hc q => IsiPair.list_bool e hc (q _)) (cls_lst hl) h
theorem Isi_lst_str {lv : V} (hl : IsLst σ lv vs) (h : P (.bool false) σ) : CallS c d (.builtin "isinstance") [lv, .raw (.type "str")] σ P X := isi_seq (fun e hc q => IsiPair.list_str e hc (q _)) (cls_lst hl) h
end isi

theorem Post.push {A : Around} {s : Shared} {v : V} {cv : Value} {o : Obj} {t : Nat} (st : St c A σ s.heap) (h : P v σ) (r : VRel (s.heap.push o) (ownS c σ) v cv) :
    Post c A σ s P cv { s with heap := s.heap.push o, toks := t } :=
  ⟨v, σ, h, ⟨(Ext.push o).kept, fun b o' e => ⟨o', Ext.push o b o' e⟩, fun b z1 o' e => Ext.push o b o' e, .refl, rfl, rfl⟩, st.ext (.push o), r⟩
theorem Call_range1 {n : Int} (h : P (.rng 0 n) σ) : CallS c d (.type "range") [.int n] σ P X := by
  intro A s E cs _ st rs _
  obtain ⟨x, rfl, r⟩ := rs.un1
  simp only [VRel] at r; obtain ⟨t, rfl⟩ := r
  refine call_range_1 (Post.push st h ?_)
  simp only [VRel]
  exact ⟨_, _, _, _, rfl, st.newS, Heap.get?_push_size _ rfl⟩
theorem Call_range2 {lo hi : Int} (h : P (.rng lo hi) σ) : CallS c d (.type "range") [.int lo, .int hi] σ P X := by
  intro A s E cs _ st rs _
  obtain ⟨x, y, rfl, r, r'⟩ := rs.un2
  simp only [VRel] at r r'; obtain ⟨t, rfl⟩ := r; obtain ⟨u, rfl⟩ := r'
  refine call_range_2 (Post.push st h ?_)
  simp only [VRel]
  exact ⟨_, _, _, _, rfl, st.newS, Heap.get?_push_size _ rfl⟩

theorem Call_max (hh : c.k.hd = true) {a b : Int} (h : P (.int (max a b)) σ) : CallS c d (.builtin "max") [.int a, .int b] σ P X := by
  intro A s E cs hA st rs _
  obtain ⟨x, y, rfl, r, r'⟩ := rs.un2
  simp only [VRel] at r r'; obtain ⟨t, rfl⟩ := r; obtain ⟨u, rfl⟩ := r'
  refine max_two_ints (hA.handled hh) fun h' tk k => ⟨.int (max a b), σ, h, .ext k rfl rfl, st.ext k, ?_⟩
  simp only [VRel]
  by_cases q : b > a
  · rw [if_pos q, show max a b = b from Int.max_eq_right (Int.le_of_lt q)]; exact ⟨_, rfl⟩
  · rw [if_neg q, show max a b = a from Int.max_eq_left (Int.not_lt.mp q)]; exact ⟨_, rfl⟩
theorem Call_min (hh : c.k.hd = true) {a b : Int} (h : P (.int (min a b)) σ) : CallS c d (.builtin "min") [.int a, .int b] σ P X := by
  intro A s E cs hA st rs _
  obtain ⟨x, y, rfl, r, r'⟩ := rs.un2
  simp only [VRel] at r r'; obtain ⟨t, rfl⟩ := r; obtain ⟨u, rfl⟩ := r'
  refine min_two_ints (hA.handled hh) fun h' tk k => ⟨.int (min a b), σ, h, .ext k rfl rfl, st.ext k, ?_⟩
  simp only [VRel]
  by_cases q : b < a
  · rw [if_pos q, show min a b = b from Int.min_eq_right (Int.le_of_lt q)]; exact ⟨_, rfl⟩
  · rw [if_neg q, show min a b = a from Int.min_eq_left (Int.not_lt.mp q)]; exact ⟨_, rfl⟩

theorem VRels.strs {h : Heap} {own : List Addr} : ∀ {ys : List Str} {cs : List Value}, VRels h own (ys.map .str) cs → PyProof.Rows.StrsAre cs ys
  | [], _, r => by simp only [List.map_nil, VRels] at r; subst r; exact .nil
  | y :: ys, _, r => by
    simp only [List.map_cons, VRels, VRel] at r
    obtain ⟨_, _, rfl, ⟨t, rfl⟩, rs⟩ := r
    exact .cons y t (VRels.strs rs)
theorem Meth_join {x : Str} : Meth c σ (.str x) "join" "str" "str.join" := by
  refine ⟨F.plainAttrs_str, F.slot_str_join, F.type_str_join, fun A s cv st r => ?_⟩
  simp only [VRel] at r; obtain ⟨t, rfl⟩ := r
  exact ⟨typeIs_str _ _ _, fun a e => by cases e⟩
theorem Call_join {x : Str} {ys : List Str} {lv : V} (hl : IsLst σ lv (ys.map .str)) (hok : (ys.map (·.length)).sum + ys.length * x.length ≤ 16777216) (h : P (.str (Txt.join x ys)) σ) : CallS c d (.builtin "str.join") [.str x, lv] σ P X := by
  intro A s E cs _ st rs _
  obtain ⟨v, y, rfl, r, r'⟩ := rs.un2
  simp only [VRel] at r; obtain ⟨t, rfl⟩ := r
  obtain ⟨a, cs, rfl, p, hsz, rs⟩ := hl.plain st r'
  exact PyProof.Rows.join_list p.isList (by simpa using rs.strs) hok fun t' k => Post.same st h (by simp only [VRel]; exact ⟨_, rfl⟩)
end Mine
end

section
set_option Elab.async false
set_option linter.unusedVariables false
set_option linter.unusedSimpArgs false
namespace Mine
open PySem

variable {c : Cx} {d : Nat} {sc : Scope} {m : AEnv} {σ : Led} {P P' : V → Led → Prop} {X : XP}

noncomputable def stAt (p : Program) (i : Nat) : Stmt := p.main.body.getD i (.Pass ⟨0, 0, 0, 0⟩)
noncomputable def bodyS : Stmt → List Stmt
  | .FunctionDef _ _ b _ _ _ _ _ _ _ => b
  | .ClassDef _ _ _ b _ _ _ _ _ _ _ => b
  | _ => []
noncomputable def scS : Stmt → Scope
  | .FunctionDef _ _ _ _ _ _ sc _ _ _ => sc
  | .ClassDef _ _ _ _ _ _ sc _ _ _ _ => sc
  | _ => { kind := .function, names := [], isGenerator := false, isCoroutine := false }
noncomputable def namesS : Stmt → List Str
  | .FunctionDef _ a _ _ _ _ _ _ _ _ => a.args.map (·.arg)
  | _ => []

theorem zip_filterMap : ∀ {names : List Str} {cs : List Value}, names.Nodup → cs.length = names.length → names.filterMap (fun n => ((names.zip cs).lookup n).map (n, ·)) = names.zip cs := by
  have gen : ∀ (names : List Str) (cs : List Value) (pre : List (Str × Value)), names.Nodup → cs.length = names.length → (∀ n ∈ names, pre.lookup n = none) → names.filterMap (fun n => ((pre ++ names.zip cs).lookup n).map (n, ·)) = names.zip cs := by
    intro names
    induction names with
    | nil => intro cs pre _ _ _; simp
    | cons n r ih =>
      intro cs pre hn hl hp
      cases cs with
      | nil => simp at hl
      | cons v vs =>
        simp only [List.nodup_cons] at hn
        have h1 : (pre ++ (n :: r).zip (v :: vs)).lookup n = some v := by
          rw [List.lookup_append, hp n (List.mem_cons_self ..)]; simp
        rw [List.filterMap_cons, h1]
        simp only [Option.map_some, List.zip_cons_cons, List.cons.injEq, true_and]
        have := ih vs (pre ++ [(n, v)]) hn.2 (by simpa using hl) (fun x hx => by
          rw [List.lookup_append, hp x (List.mem_cons_of_mem _ hx)]
          have : x ≠ n := fun e => hn.1 (e ▸ hx)
          simp [List.lookup_cons, beq_eq_false_iff_ne.mpr this])
        simpa using this
  intro names cs hn hl
  simpa using gen names cs [] hn hl (by simp)
theorem zip_lookup_some {names : List Str} : ∀ {cs : List Value}, cs.length = names.length → ∀ n ∈ names, ((names.zip cs).lookup n).isNone = false := by
  induction names with
  | nil => intro cs _ n hn; cases hn
  | cons a r ih =>
    intro cs hl n hn
    cases cs with
    | nil => simp at hl
    | cons v vs =>
      simp only [List.zip_cons_cons, List.lookup_cons]
      cases hb : n == a with
      | true => rfl
      | false =>
        have : n ∈ r := by
          rcases List.mem_cons.mp hn with q | q
          · subst q; simp at hb
          · exact q
        exact ih (by simpa using hl) n this

theorem bindArgs_plain {fd : FuncData} {names : List Str} (h1 : fd.params.posonlyargs = []) (h2 : fd.params.args.map (·.arg) = names) (h3 : fd.params.vararg = none) (h4 : fd.params.kwonlyargs = []) (h5 : fd.params.kwarg = none) (h6 : fd.defaults = .none)
    (hn : names.Nodup) {cs : List Value} (hl : cs.length = names.length) : bindArgs fd ⟨cs, []⟩ = pure (names.zip cs) := by
  have hmiss : (names.filter fun n => ((names.zip cs).lookup n).isNone) = [] := by
    rw [List.filter_eq_nil_iff]
    intro n hn'
    rw [zip_lookup_some hl n hn']; simp
  obtain ⟨name, qualname, ⟨po, ar, va, ko, kd, ka, de⟩, body, scope, globals, closure, defaults, kwdefaults, doc, pm, ann, code, ct, bl⟩ := fd
  dsimp only at h1 h2 h3 h4 h5 h6
  subst h1 h2 h3 h4 h5 h6
  refine (if_neg ?_).trans ((if_neg ?_).trans ?_)
  · show ¬ (decide (cs.length > (ar.map (·.arg)).length) && true) = true
    rw [hl, decide_eq_false (Nat.lt_irrefl _)]; decide
  · show ¬ (!(((ar.map (·.arg)).take ((ar.map (·.arg)).length - (List.drop (0 - (ar.map (·.arg)).length) ([] : List Value)).length)).filter fun n => (((ar.map (·.arg)).zip cs).lookup n).isNone).isEmpty) = true
    rw [List.drop_nil, List.length_nil, Nat.sub_zero, List.take_length, hmiss]; decide
  · dsimp only
    rw [show ((none : Option (Array Value)).getD #[]).toList = [] from rfl, List.drop_nil, List.zip_nil_right, List.forIn_nil]
    show pure (f := Sem) (((ar.map fun y : Arg => y.arg) ++ []).filterMap fun n => (((ar.map fun y : Arg => y.arg).zip cs).lookup n).map (n, ·)) = _
    rw [List.append_nil, zip_filterMap hn hl]

structure Fn (k : Base) (x : Str) (st : Stmt) : Prop where
  ex : ∃ f, k.mg x = some f ∧ (∀ c : Cx, c.k = k → FnAt c f (namesS st) (bodyS st) (scS st))
noncomputable def Def (k : Base) (x : Str) : Prop := ∃ a o fd, k.mg x = some (.ref a) ∧ k.h0.get? a = some o ∧ o.data = .func fd
theorem Fn.def {k : Base} {x : Str} {st : Stmt} (h : Fn k x st) : Def k x := by
  obtain ⟨f, hg, hf⟩ := h.ex
  obtain ⟨a, o, fd, rfl, h1, h2, _⟩ := (hf ⟨k, [], []⟩ rfl).at_
  exact ⟨a, o, fd, hg, h1, h2⟩

open PyProof.Rows PySem.Calls in
structure TopAt (k : Base) (q : Program) (loose : List Str) : Prop where
  ok : k.OK
  fn : ∀ d ∈ recsOf q, ∃ a o pm code doc, k.mg d.name = some (.ref a) ∧ k.h0.get? a = some o ∧ o.data = .func (docDef d.name d.params d.body d.scope pm code doc) ∧ k.h0.CodeRec code d.name
  const : ∀ x d, valOf q x = some d → ∃ v, k.mg x = some v ∧ ∀ h' : Heap, Reads h' v d []
  free : ∀ x, x ∉ startupNames → x ∉ loose → x ∉ (recsOf q).map (·.name) → x ∉ (litsOf q).map (·.1) → x ∉ (clssOf q loose).map (·.name) → k.mg x = none
  mbs : ∀ x : Str, x ≠ "__name__" → k.mb x = bootBuiltins x
open PyProof.Rows PySem.Calls in
theorem TopAt.def_ {k : Base} {q : Program} {loose : List Str} (hp : TopAt k q loose) {x : Str} {i : Nat} {st : Stmt} {a : Arguments} {b : List Stmt} {r1 r2 r3 sc t1 t2 pos} (hi : q.main.body[i]? = some st) (hst : st = .FunctionDef x a b r1 r2 r3 sc t1 t2 pos) (hd : q.theDef x = some (a, b, sc))
    (h1 : a.posonlyargs = []) (h2 : a.vararg = none) (h3 : a.kwonlyargs = []) (h4 : a.kw_defaults = []) (h5 : a.kwarg = none) (h6 : a.defaults = []) (hn : nodupB (namesS st) = true) : Fn k x st := by
  subst hst
  have hm : (⟨x, a, b, sc, pos⟩ : DefRec) ∈ recsOf q := by
    refine List.mem_filterMap.mpr ⟨_, List.mem_of_getElem? hi, ?_⟩
    dsimp only
    rw [hd]
    dsimp only
    rw [h6, h3, h4]
    rfl
  obtain ⟨f, o, pm, code, doc, q1, q2, q3, q4⟩ := hp.fn _ hm
  have hn' : nodupB (a.args.map fun y : Arg => y.arg) = true := hn
  exact ⟨.ref f, q1, fun c hck => ⟨f, o, _, rfl, by rw [hck]; exact q2, q3, by rw [hck]; exact q4, rfl, rfl, rfl, rfl, rfl, fun cs hl => bindArgs_plain h1 rfl h2 h3 h5 rfl (nodup_of hn') hl⟩⟩

noncomputable def CallN (c : Cx) (d : Nat) (x : Str) (vs : List V) (σ : Led) (P : V → Led → Prop) (X : XP) : Prop := ∃ f, c.k.mg x = some f ∧ CallS c d f vs σ P X
theorem WE_callN (hc : c.k.OK) {f : Str} {p pos : Pos} {args : List Expr} (hdef : Def c.k f) (h : WEs c d sc args m σ (fun vs σ₂ => CallN c d f vs σ₂ P X) X) (hk : sc.names.lookup f = some .globalImplicit) :
    WE c d sc (.Call (.Name f p) args [] pos) m σ P X := by
  obtain ⟨a, o, fd, hg, ho, hd⟩ := hdef
  refine WE_call_def hc hk hg (.inr (.inr ⟨a, o, fd, rfl, ho, hd⟩)) ?_
  intro env A s E pos r
  obtain ⟨h1, h2⟩ := h env A s E pos r
  refine ⟨h1, wpAny_mono h2 ?_ fun z1 z2 x => x⟩
  rintro cvs s₁ ⟨vs, σ₁, ⟨hl, f', hf', hcall⟩, r⟩
  rw [hg] at hf'; cases hf'
  exact ⟨vs, σ₁, ⟨hl, hcall⟩, r⟩
theorem CallN_def {x : Str} {st : Stmt} {vs : List V} (hc : c.k.OK) (hf : Fn c.k x st) {m₀ : AEnv} (h : WSs c d (scS st) (bodyS st) m₀ σ (Ret P) NoX) (hsc : scOk (scS st) (namesS st) = true) (hl : vs.length = (namesS st).length) (hm : (namesS st).zip vs = m₀) :
    CallN c (d + 1) x vs σ P X := by
  obtain ⟨f, hg, hf⟩ := hf.ex
  subst hm
  exact ⟨f, hg, CallS_def hc (hf c rfl) hsc hl h⟩

noncomputable def Blt (k : Base) (x : Str) (v : Value) : Prop := k.mg x = none ∧ k.mb x = some v
theorem WE_callB (hc : c.k.OK) {f : Str} {p pos : Pos} {args : List Expr} {cv : Value} (hb : Blt c.k f cv) (h : WEs c d sc args m σ (fun vs σ₂ => CallS c d cv vs σ₂ P X) X) (hcal : Callee c cv) (hk : sc.names.lookup f = some .globalImplicit) :
    WE c d sc (.Call (.Name f p) args [] pos) m σ P X := WE_call_builtin hc hk hb.1 hb.2 hcal h
theorem WE_blt (hc : c.k.OK) {x : Str} {pos : Pos} {cv : Value} (hb : Blt c.k x cv) (h : P (.raw cv) σ) (hk : sc.names.lookup x = some .globalImplicit) : WE c d sc (.Name x pos) m σ P X := WE_builtin hc hk hb.1 hb.2 h
open PyProof.Rows PySem.Calls in
noncomputable def unbound (q : Program) (loose : List Str) (x : Str) : Bool := !(startupNames.contains x) && !(loose.contains x) && !(((recsOf q).map (·.name)).contains x) && !(((litsOf q).map (·.1)).contains x) && !(((clssOf q loose).map (·.name)).contains x)
theorem TopAt.blt {k : Base} {q : Program} {loose : List Str} (hp : TopAt k q loose) {x : Str} {v : Value} (hu : unbound q loose x = true) (hn : x ≠ "__name__") (hb : bootBuiltins x = some v) : Blt k x v := by
  unfold unbound at hu
  simp only [Bool.and_eq_true, Bool.not_eq_true', List.contains_eq_mem, decide_eq_false_iff_not] at hu
  exact ⟨hp.free x hu.1.1.1.1 hu.1.1.1.2 hu.1.1.2 hu.1.2 hu.2, by rw [hp.mbs x hn, hb]⟩

theorem WE.mono {e : Expr} (h : WE c d sc e m σ P X) (k : ∀ v σ', P v σ' → P' v σ') : WE c d sc e m σ P' X := fun env A s E r =>
  wpAny_mono (h env A s E r) (fun _ _ ⟨v, σ', hp, t⟩ => ⟨v, σ', k v σ' hp, t⟩) fun z1 z2 x => x
theorem WT.mono {e : Expr} {P P' : Bool → Led → Prop} (h : WT c d sc e m σ P X) (k : ∀ v σ', P v σ' → P' v σ') : WT c d sc e m σ P' X := fun env A s E r =>
  wpAny_mono (h env A s E r) (fun _ _ ⟨σ', hp, t⟩ => ⟨σ', k _ σ' hp, t⟩) fun z1 z2 x => x
theorem WSs.mono {sts : List Stmt} {K K' : Fl → AEnv → Led → Prop} (h : WSs c d sc sts m σ K X) (k : ∀ f m' σ', K f m' σ' → K' f m' σ') : WSs c d sc sts m σ K' X := fun env A s E r =>
  wpAny_mono (h env A s E r) (fun _ _ ⟨f, m', σ', hp, t⟩ => ⟨f, m', σ', k f m' σ' hp, t⟩) fun z1 z2 x => x

theorem law_core {prog : Program} {w : World} {s₁ : Shared} {mg mb : Str → Option Value} (hk : (Base.mk prog w s₁.heap mg mb true).OK) {fa a : Addr} {items : List Value} {xs : List Int} {E : Value → Shared → Prop}
    (hl : s₁.heap.get? a = some { cls := .type "list", data := .seq items.toArray }) (hi : PyProof.Rows.IntsAre items xs) (hlen : xs.length ≤ 63)
    (h : CallS ⟨⟨prog, w, s₁.heap, mg, mb, true⟩, [], []⟩ 90 (.ref fa) [.lst (xs.map .int)] [] (fun v z1 => v = .bool true) NoX) :
    wpAny (model prog w) callerA (call (.ref fa) [.ref a]) (fun v s' => v = .bool true ∧ (∀ b o, s₁.heap.get? b = some o → s'.heap.get? b = some o) ∧ s'.os = s₁.os ∧ s'.gens = s₁.gens) E s₁ := by
  have hints : ∀ {items : List Value} {xs : List Int}, PyProof.Rows.IntsAre items xs → VRels s₁.heap [] (xs.map V.int) items := by
    intro items xs hi
    induction hi with
    | nil => simp only [List.map_nil, VRels]
    | cons n t _ ih => simp only [List.map_cons, VRels, VRel]; exact ⟨_, _, rfl, ⟨t, rfl⟩, ih⟩
  have hst : St ⟨⟨prog, w, s₁.heap, mg, mb, true⟩, [], []⟩ callerA [] s₁.heap := by
    refine ⟨fun z1 z2 e => e, List.nodup_nil, fun z1 h => (by cases h), fun z1 z2 h => (by cases h), ⟨[], rfl, ?_, fun L h => (by cases h)⟩, fun z1 h => (by cases h), fun z1 h => (by cases h)⟩
    exact trivial
  have hsz : items.length = xs.length := by have := (hints hi).length; simpa using this
  refine wpAny_mono (h callerA s₁ E [.ref a] ⟨fun z1 => rfl, by decide +kernel, by decide +kernel, by decide⟩ hst ?_ EOk.nox) ?_ fun z1 z2 x => x
  · simp only [VRels, VRel]
    exact ⟨_, _, rfl, ⟨a, items, rfl, by simp [ownS, owned], ⟨_, hl⟩, by rw [hsz, sizeLine_eq]; lia, hints hi⟩, rfl⟩
  · rintro v s' ⟨v', σ', hv, t, st, r⟩
    rw [hv] at r
    simp only [VRel] at r
    exact ⟨r, fun b o e => st.keep b o e, t.os, t.gens⟩

end Mine
end

section
set_option Elab.async false
set_option linter.unusedVariables false
set_option linter.unusedSimpArgs false
namespace Mine
open PySem

variable {c : Cx} {d : Nat} {sc : Scope} {m : AEnv} {σ : Led} {P P' : V → Led → Prop} {X : XP} {K : Fl → AEnv → Led → Prop} {N : AEnv → Led → Prop}

theorem Cmp_eq_bool {a b : Bool} (h : P (.bool (a == b)) σ) : Op2 c d (compareOp .Eq) (.bool a) (.bool b) σ P := by
  intro A s E ca cb _ st ra rb
  simp only [VRel] at ra rb; subst ra; subst rb
  exact PyProof.Rows.eq_bool (Post.same' st h (by simp only [VRel]))
theorem Cmp_ne_bool {a b : Bool} (h : P (.bool (a != b)) σ) : Op2 c d (compareOp .NotEq) (.bool a) (.bool b) σ P := by
  intro A s E ca cb _ st ra rb
  simp only [VRel] at ra rb; subst ra; subst rb
  exact PyProof.Rows.ne_bool (Post.same' st h (by simp only [VRel]))
theorem Op_pow12 (h : P (.int 1000000000000) σ) : Op2 c d (binaryOp .Pow) (.int 10) (.int 12) σ P :=
  Op_pow (x := 10) (n := 12) (by decide) (by decide +kernel) h
set_option tactic.hygienic true in
theorem intBits_small {a : Int} (h1 : -9223372036854775808 < a) (h2 : a < 9223372036854775808) : Builtin.Int.intBits a ≤ 64 := by
  have hn : a.natAbs < 2 ^ 63 := by lia
  unfold Builtin.Int.intBits
  first
    | (split
       · (exact Mine.Ar.lin 0 0 (.le (.k 0) (.k 64)) [] (by kernel_rfl) [] [] rfl rfl )
       · rename_i hz
         have : a.natAbs ≠ 0 := by simpa using hz
         have := (Nat.log2_lt this).mpr hn
         (exact Mine.Ar.lin 0 1 (.le (.a (.v 0) (.k 1)) (.k 64)) [(.lt (.v 0) (.k 63))] (by kernel_rfl) [] [_] rfl rfl this))
    | (simp only []; by_cases hz : a.natAbs = 0 <;> simp_all <;> (have := (Nat.log2_lt hz).mpr hn; lia))
theorem mulOk_left {a b : Int} (h1 : -9223372036854775808 < a) (h2 : a < 9223372036854775808) : IntMulOk a b := IntMulOk.of_left (intBits_small h1 h2)
theorem mulOk_right {a b : Int} (h1 : -9223372036854775808 < b) (h2 : b < 9223372036854775808) : IntMulOk a b := IntMulOk.of_right (intBits_small h1 h2)

theorem Op_modp {x y : Int} (hy : 0 < y) (h : P (.int (x % y)) σ) : Op2 c d (binaryOp .Mod) (.int x) (.int y) σ P :=
  Op_mod (by (exact Mine.Ar.lin 1 0 (.no (.ieq (.v 0) (.k 0))) [(.ilt (.k 0) (.v 0))] (by kernel_rfl) [_] [] rfl rfl hy)) (by rw [Int.fmod_eq_emod_of_nonneg _ (by (exact Mine.Ar.lin 1 0 (.ile (.k 0) (.v 0)) [(.ilt (.k 0) (.v 0))] (by kernel_rfl) [_] [] rfl rfl hy))]; exact h)
theorem log2_small {y : Int} (hy : 0 < y) (h2 : y < 9223372036854775808) : y.natAbs.log2 < 9000 := by
  have hn : y.natAbs < 2 ^ 63 := by lia
  have := (Nat.log2_lt (by lia)).mpr hn
  (exact Mine.Ar.lin 0 1 (.lt (.v 0) (.k 9000)) [(.lt (.v 0) (.k 63))] (by kernel_rfl) [] [_] rfl rfl this)
theorem Op_divp {x y : Int} (hy : 0 < y) (h2 : y < 9223372036854775808) (h : P (.int (x / y)) σ) : Op2 c d (binaryOp .FloorDiv) (.int x) (.int y) σ P :=
  Op_div (by (exact Mine.Ar.lin 1 0 (.no (.ieq (.v 0) (.k 0))) [(.ilt (.k 0) (.v 0))] (by kernel_rfl) [_] [] rfl rfl hy)) (log2_small hy h2) (by rw [Int.fdiv_eq_ediv_of_nonneg _ (by (exact Mine.Ar.lin 1 0 (.ile (.k 0) (.v 0)) [(.ilt (.k 0) (.v 0))] (by kernel_rfl) [_] [] rfl rfl hy))]; exact h)
end Mine
namespace Mine
open PySem
theorem mem_rangeL {lo hi i : Int} : i ∈ rangeL lo hi ↔ lo ≤ i ∧ i < hi := by
  unfold rangeL
  simp only [List.mem_map, List.mem_range]
  constructor
  · rintro ⟨k, hk, rfl⟩
    exact ⟨Int.le_add_of_nonneg_right (Int.natCast_nonneg k), Int.add_lt_of_lt_sub_left (Int.lt_toNat.mp hk)⟩
  · intro h
    refine ⟨(i - lo).toNat, ?_, ?_⟩
    · exact (Int.toNat_lt_toNat (Int.sub_pos_of_lt (Int.lt_of_le_of_lt h.1 h.2))).mpr (Int.sub_lt_sub_right h.2 lo)
    · rw [Int.toNat_of_nonneg (Int.sub_nonneg.mpr h.1)]; rw [Int.add_comm, Int.sub_add_cancel]
theorem strAppend_list (x y : Str) : (x ++ y).cps.toList = x.cps.toList ++ y.cps.toList := by
  show (x.cps ++ y.cps).toList = _
  simp
theorem str_ext {x y : Str} (h : x.cps.toList = y.cps.toList) : x = y := by
  obtain ⟨⟨l⟩⟩ := x; obtain ⟨⟨l'⟩⟩ := y
  simp only at h; subst h; rfl
theorem str_length (x : Str) : x.length = x.cps.toList.length := by simp [Str.length]
theorem join_signs : ∀ (l : List Nat), Str.join (Str.ofString "") (l.map fun k => (⟨#[k]⟩ : Str)) = ⟨l.toArray⟩
  | [] => rfl
  | [k] => rfl
  | k :: k' :: r => by
    have ih := join_signs (k' :: r)
    simp only [List.map_cons] at ih
    simp only [List.map_cons, Str.join]
    rw [ih]
    apply str_ext
    rw [strAppend_list, strAppend_list]
    have : (Str.ofString "").cps.toList = [] := by decide +kernel
    rw [this]; rfl
end Mine
end

section
set_option Elab.async false
set_option linter.unusedVariables false
set_option linter.unusedSimpArgs false
namespace Mine
open PySem PySem.W PyProof.Rows

theorem law_head {l : OpenLaw} {w : World} {s₀ s₁ : Shared} {mg mb : Str → Option Value} {fa a : Addr} {items : List Value} {xs : List Int} (hk : (Base.mk l.row.prog w s₁.heap mg mb true).OK)
    (hw : Well w.params s₁.heap (.ref a) (ofPy (.list (xs.map .int)))) (hL : s₁.heap.IsList a items.toArray) (hi : IntsAre items xs) (hlen : xs.length ≤ 63) (hg : s₁.gens = #[])
    (h : CallS ⟨⟨l.row.prog, w, s₁.heap, mg, mb, true⟩, [], []⟩ 90 (.ref fa) [.lst (xs.map .int)] [] (fun v z1 => v = .bool true) NoX) :
    wpAny (model l.row.prog w) callerA (call (.ref fa) [.ref a]) (fun v s' => GoodWG l.row.claim (classAt s₀.heap) (ExcName.means s₀.heap) [ofPy (.list (xs.map .int))] s₁ (.ok (.ret v)) s')
      (fun e s' => GoodWG l.row.claim (classAt s₀.heap) (ExcName.means s₀.heap) [ofPy (.list (xs.map .int))] s₁ (.error e) s') s₁ := by
  obtain ⟨o, ho, hc, n, hd⟩ := hL
  have hobj : s₁.heap.get? a = some { cls := .type "list", data := .seq items.toArray } := by
    have key : ∀ (v : Value) (dd : WData) (ys : List WData), Well w.params s₁.heap v dd → v = .ref a → dd = .list ys → ∃ vs : List Value, s₁.heap.get? a = some { cls := .type "list", data := .seq vs.toArray } := by
      intro v dd ys hW
      cases hW <;> intro e1 e2 <;> first
        | (cases e2; done)
        | (cases e1; cases e2; exact ⟨_, by assumption⟩)
    have e2 : ∃ ys, ofPy (.list (xs.map .int)) = .list ys := by
      first
        | exact ⟨_, rfl⟩
        | (simp only [ofPy]; exact ⟨_, rfl⟩)
    obtain ⟨ys, e2⟩ := e2
    obtain ⟨vs, hv⟩ := key _ _ ys hw rfl e2
    rw [hv] at ho
    cases ho
    simp only at hd
    cases hd
    exact hv
  refine wpAny_mono (law_core hk hobj hi hlen h) ?_ fun z1 z2 x => x
  rintro v s' ⟨rfl, hkeep, hos, hgens⟩
  refine GoodW.toG ⟨.inl ⟨.bool true, .bool true, [], rfl, ?_, ?_, ?_, ?_⟩, hkeep, hos, hgens.trans hg⟩
  · intro cls; rfl
  · exact .bool _
  · refine postW_of (X := true) ?_ ?_ rfl
    · have e : WShape.has [] (.bool true) .bool = true := by decide +kernel
      exact e
    · have e : same (WData.bool true) (WData.bool true) = true := by decide +kernel
      show WTm.value [] (.eq .res (.lit (.bool true))) _ = _
      simp [WTm.value, e]
  · intro _; exact ⟨List.nodup_nil, fun a ha => by cases ha⟩
end Mine
end

section
set_option Elab.async false
set_option linter.unusedVariables false
set_option linter.unusedSimpArgs false
namespace Mine
open PySem PySem.SeqAt

variable {c : Cx} {d : Nat} {sc : Scope} {m : AEnv} {σ : Led} {P P' : V → Led → Prop} {X : XP} {K : Fl → AEnv → Led → Prop} {N : AEnv → Led → Prop}

noncomputable def Const (k : Base) (x : Str) (v : V) : Prop := ∃ cv, k.mg x = some cv ∧ ∀ h own, VRel h own v cv
theorem WE_const (hc : c.k.OK) {x : Str} {pos : Pos} {v : V} (hv : Const c.k x v) (h : P v σ) (hk : sc.names.lookup x = some .globalImplicit) : WE c d sc (.Name x pos) m σ P X := by
  obtain ⟨cv, hg, hr⟩ := hv
  exact WE_global hc hk hg hr h
theorem TopAt.constI {k : Base} {q : Program} {loose : List Str} (hp : TopAt k q loose) {x : Str} {i : Int} (hv : PyProof.Rows.valOf q x = some (.int i)) : Const k x (.int i) := by
  obtain ⟨v, h1, h2⟩ := hp.const x _ hv
  obtain ⟨t, rfl⟩ : ∃ t, v = .int i t := by cases h2 default; exact ⟨_, rfl⟩
  exact ⟨_, h1, fun h own => by simp only [VRel]; exact ⟨t, rfl⟩⟩
theorem TopAt.constS {k : Base} {q : Program} {loose : List Str} (hp : TopAt k q loose) {x y : Str} (hv : PyProof.Rows.valOf q x = some (.str y)) : Const k x (.str y) := by
  obtain ⟨v, h1, h2⟩ := hp.const x _ hv
  obtain ⟨t, rfl⟩ : ∃ t, v = .str y t := by cases h2 default; exact ⟨_, rfl⟩
  exact ⟨_, h1, fun h own => by simp only [VRel]; exact ⟨t, rfl⟩⟩
theorem VRels.bools {h : Heap} {own : List Addr} : ∀ {bs : List Bool} {cs : List Value}, VRels h own (bs.map .bool) cs → cs = bs.map .bool
  | [], _, r => by simp only [List.map_nil, VRels] at r; subst r; rfl
  | y :: ys, _, r => by
    simp only [List.map_cons, VRels, VRel] at r
    obtain ⟨_, _, rfl, rfl, rs⟩ := r
    rw [VRels.bools rs]; rfl
theorem VRels.ints {h : Heap} {own : List Addr} : ∀ {ys : List Int} {cs : List Value}, VRels h own (ys.map .int) cs → ∃ xs : Array (Int × Tok), cs.toArray = intItems xs ∧ xs.toList.map (·.1) = ys
  | [], _, r => by simp only [List.map_nil, VRels] at r; subst r; exact ⟨#[], by simp [intItems], rfl⟩
  | y :: ys, _, r => by
    simp only [List.map_cons, VRels, VRel] at r
    obtain ⟨_, _, rfl, ⟨t, rfl⟩, rs⟩ := r
    obtain ⟨xs, e1, e2⟩ := VRels.ints rs
    refine ⟨#[(y, t)] ++ xs, ?_, by simp [e2]⟩
    have : ∀ l : List (Int × Tok), intItems l.toArray = (l.map fun p => Value.int p.1 p.2).toArray := by intro l; simp [intItems]
    obtain ⟨l⟩ := xs
    rw [this] at e1
    have e3 : (#[(y, t)] ++ (⟨l⟩ : Array (Int × Tok))) = (((y, t) :: l)).toArray := by simp
    rw [e3, this]
    have e4 := congrArg Array.toList e1
    simp only at e4
    rw [List.map_cons, ← e4]
theorem all_range {bs : List Bool} {tr : Nat → Bool} (h : ∀ i b, bs[i]? = some b → tr i = b) : (List.range bs.length).all tr = bs.all id := by
  induction bs generalizing tr with
  | nil => rfl
  | cons b r ih =>
    rw [List.length_cons, List.range_succ_eq_map, List.all_cons, List.all_map, List.all_cons, h 0 b rfl]
    rw [ih (tr := tr ∘ Nat.succ) (fun i b hb => h (i + 1) b (by simpa using hb))]; rfl
theorem Call_all (hh : c.k.hd = true) {bs : List Bool} {lv : V} (hl : IsLst σ lv (bs.map .bool)) (h : P (.bool (bs.all id)) σ) : CallS c d (.builtin "all") [lv] σ P X := by
  intro A s E cs hA st rs _
  obtain ⟨x, rfl, r⟩ := rs.un1
  obtain ⟨a, cs, rfl, p, hsz, rs⟩ := hl.plain st r
  have hcs := rs.bools
  have hlt : a < s.heap.objs.size := by obtain ⟨n, e⟩ := p; exact Heap.lt_size e
  refine call_all_walk (wpAny_pyIter_list p.isList ?_)
  refine ⟨_, _, _, _, _, _, fun i => (bs[i]?).getD false, rfl, Walks.list (A := A.in1) (hA.handled hh) _ a (Nat.ne_of_lt hlt) cs.toArray, ⟨⟨_, Heap.get?_push_size _ rfl, rfl, rfl⟩, p.isList.push _⟩, ?_, fun h' tk hk => ?_⟩
  · intro i v s Q E hP hQ
    have hP : cs.toArray[i]? = some v := hP
    rw [hcs, List.getElem?_toArray, List.getElem?_map] at hP
    cases e : bs[i]? with
    | none => rw [e] at hP; cases hP
    | some b =>
      rw [e] at hP
      simp only [Option.map_some, Option.some.injEq] at hP
      subst hP
      have hQ : Q ((bs[i]?).getD false) s := hQ
      rw [e] at hQ
      exact wpAny_truthy_bool hQ
  · have hx : Ext s.heap h' := fun b o e => hk b o (fun q => by rw [List.mem_singleton.mp q] at e; exact absurd (Heap.lt_size e) (Nat.lt_irrefl _)) (Heap.get?_push_of_some _ e)
    have hlen : cs.toArray.size = bs.length := by rw [List.size_toArray, hcs, List.length_map]
    rw [hlen, all_range (bs := bs) (fun i b hb => by rw [hb]; rfl)]
    exact ⟨_, σ, h, .ext hx rfl rfl, st.ext hx, by simp only [VRel]⟩
theorem Call_sum (hh : c.k.hd = true) {ys : List Int} {lv : V} (hl : IsLst σ lv (ys.map .int)) (h : P (.int ys.sum) σ) : CallS c d (.builtin "sum") [lv] σ P X := by
  intro A s E cs hA st rs _
  obtain ⟨x, rfl, r⟩ := rs.un1
  obtain ⟨a, cs, rfl, p, hsz, rs⟩ := hl.plain st r
  obtain ⟨xs, e1, e2⟩ := rs.ints
  have hl' := p.isList
  rw [e1] at hl'
  have hlt : a < s.heap.objs.size := by obtain ⟨n, e⟩ := p; exact Heap.lt_size e
  refine call_sum_walkG (iter_intList hl' fun s₂ e stt hfp hlI => ?_)
  subst e
  refine ⟨_, _, _, _, _, _, numAt xs, rfl, Walks.list (A := A.in1) (hA.handled hh) _ a hlI (intItems xs), stt, hfp, (fun z1 z2 => intItems_at), fun h' tk t' hk => ?_⟩
  have hx : Ext s.heap h' := old_kept hk
  have hsum : preSum (numAt xs) (intItems xs).size = ys.sum := by
    have : (intItems xs).size = xs.size := by simp [intItems]
    rw [this, preSum_eq, List.take_of_length_le (by simp), e2]
  rw [hsum]
  exact ⟨_, σ, h, .ext hx rfl rfl, st.ext hx, by simp only [VRel]; exact ⟨_, rfl⟩⟩

theorem Op_addl {va vb : V} {as bs : List V} (ha : IsLst σ va as) (hb : IsLst σ vb bs) (hsz : as.length + bs.length ≤ 1000000) (h : P (.lst (as ++ bs)) σ) : Op2 c d (binaryOp .Add) va vb σ P := by
  intro A s E ca cb _ st ra rb
  obtain ⟨a, cs, rfl, ⟨n, e⟩, _, rs⟩ := ha.plain st ra
  obtain ⟨b, ds, rfl, ⟨n', e'⟩, _, rs'⟩ := hb.plain st rb
  have h1 := rs.length
  have h2 := rs'.length
  have hs' : sizeLine = 16777216 := by rw [sizeLine_eq]
  refine PySem.P.add_list (hsz := by simp only [List.size_toArray]; (exact Mine.Ar.lin 0 5 (.le (.a (.v 0) (.v 1)) (.v 2)) [(.le (.a (.v 3) (.v 4)) (.k 1000000)), (.eq (.v 0) (.v 3)), (.eq (.v 1) (.v 4)), (.eq (.v 2) (.k 16777216))] (by kernel_rfl) [] [_, _, _, _, _] rfl rfl hsz h1 h2 hs')) e e' ?_
  have e3 : cs.toArray ++ ds.toArray = (cs ++ ds).toArray := by simp
  rw [e3]
  exact Post.newLst (n := 0) st (by rw [List.length_append]; (exact Mine.Ar.lin 0 5 (.le (.a (.v 0) (.v 1)) (.v 2)) [(.le (.a (.v 3) (.v 4)) (.k 1000000)), (.eq (.v 0) (.v 3)), (.eq (.v 1) (.v 4)), (.eq (.v 2) (.k 16777216))] (by kernel_rfl) [] [_, _, _, _, _] rfl rfl hsz h1 h2 hs')) (rs.append rs') h
theorem Call_list {lv : V} {vs : List V} (hl : IsLst σ lv vs) (h : P (.lst vs) σ) : CallS c d (.type "list") [lv] σ P X := by
  intro A s E cs hA st rs _
  obtain ⟨x, rfl, r⟩ := rs.un1
  obtain ⟨a, cs, rfl, ⟨n, e⟩, hsz, rs⟩ := hl.plain st r
  refine call_list_seq (hsz := by simpa using hsz) a (.inl rfl) e rfl rfl fun h' c' hx hn => ?_
  have hx : Ext s.heap h' := hx
  refine ⟨.lst vs, σ, h, .ext hx rfl rfl, st.ext hx, ?_⟩
  simp only [VRel]
  exact ⟨_, cs, rfl, st.newS, ⟨c', hn⟩, hsz, VRels.mono hx.kept .refl vs cs rs⟩
mutual
noncomputable def toD : V → PyData
  | .none => .none
  | .bool b => .bool b
  | .int i => .int i
  | .str x => .str x
  | .tup vs => .tuple (toDs vs)
  | .lst vs => .list (toDs vs)
  | _ => .none
noncomputable def toDs : List V → List PyData
  | [] => []
  | v :: vs => toD v :: toDs vs
end
mutual
noncomputable def isD : V → Bool
  | .none => true
  | .bool _ => true
  | .int _ => true
  | .str x => PyData.strOk x
  | .tup vs => isDs vs
  | .lst vs => isDs vs
  | _ => false
noncomputable def isDs : List V → Bool
  | [] => true
  | v :: vs => isD v && isDs vs
end
mutual
theorem isD_lay : ∀ (v : V), isD v = true → (toD v).canLay0 = true
  | .none, _ => by simp [toD, PyData.canLay0]
  | .bool _, _ => by simp [toD, PyData.canLay0]
  | .int _, _ => by simp [toD, PyData.canLay0]
  | .str x, h => by simpa [toD, PyData.canLay0, isD] using h
  | .tup vs, h => by simp only [toD, PyData.canLay0]; exact isDs_lay vs (by simpa [isD] using h)
  | .lst vs, h => by simp only [toD, PyData.canLay0]; exact isDs_lay vs (by simpa [isD] using h)
  | .set _ _, h => by simp [isD] at h
  | .rng _ _, h => by simp [isD] at h
  | .ref _, h => by simp [isD] at h
  | .raw _, h => by simp [isD] at h
theorem isDs_lay : ∀ (vs : List V), isDs vs = true → PyData.canLayAll0 (toDs vs) = true
  | [], _ => by simp [toDs, PyData.canLayAll0]
  | v :: vs, h => by
    simp only [isDs, Bool.and_eq_true] at h
    simp only [toDs, PyData.canLayAll0, Bool.and_eq_true]
    exact ⟨isD_lay v h.1, isDs_lay vs h.2⟩
end
mutual
theorem VRel.reads {h : Heap} {own : List Addr} : ∀ (v : V) (cv : Value), isD v = true → VRel h own v cv → ∃ as, Reads h cv (toD v) as
  | .none, _, _, r => by simp only [VRel] at r; subst r; exact ⟨[], .none⟩
  | .bool b, _, _, r => by simp only [VRel] at r; subst r; exact ⟨[], .bool b⟩
  | .int i, _, _, r => by simp only [VRel] at r; obtain ⟨t, rfl⟩ := r; exact ⟨[], .int i t⟩
  | .str x, _, _, r => by simp only [VRel] at r; obtain ⟨t, rfl⟩ := r; exact ⟨[], .str x t⟩
  | .tup vs, _, hd, r => by
    simp only [VRel] at r
    obtain ⟨a, cs, rfl, _, ⟨n, e⟩, _, rs⟩ := r
    obtain ⟨as, ra⟩ := VRels.reads vs cs (by simpa [isD] using hd) rs
    exact ⟨as, .tuple e rfl rfl (by simpa using ra)⟩
  | .lst vs, _, hd, r => by
    simp only [VRel] at r
    obtain ⟨a, cs, rfl, _, ⟨n, e⟩, _, rs⟩ := r
    obtain ⟨as, ra⟩ := VRels.reads vs cs (by simpa [isD] using hd) rs
    exact ⟨a :: as, .list e rfl rfl (by simpa using ra)⟩
  | .set _ _, _, h, _ => by simp [isD] at h
  | .rng _ _, _, h, _ => by simp [isD] at h
  | .ref _, _, h, _ => by simp [isD] at h
  | .raw _, _, h, _ => by simp [isD] at h
theorem VRels.reads {h : Heap} {own : List Addr} : ∀ (vs : List V) (cs : List Value), isDs vs = true → VRels h own vs cs → ∃ as, ReadsAll h cs (toDs vs) as
  | [], _, _, r => by simp only [VRels] at r; subst r; exact ⟨[], .nil⟩
  | v :: vs, _, hd, r => by
    simp only [isDs, Bool.and_eq_true] at hd
    simp only [VRels] at r
    obtain ⟨x, xs, rfl, r1, rs⟩ := r
    obtain ⟨as, ra⟩ := VRel.reads v x hd.1 r1
    obtain ⟨bs, rb⟩ := VRels.reads vs xs hd.2 rs
    exact ⟨as ++ bs, .cons ra rb⟩
end
inductive Dat (σ : Led) : V → PyData → Prop
  | val {v : V} : isD v = true → Dat σ v (toD v)
  | ref {a : Addr} {vs : List V} : σ.lookup a = some (.list vs) → isDs vs = true → Dat σ (.ref a) (.list (toDs vs))
theorem Dat.reads {A : Around} {h : Heap} {v : V} {cv : Value} {x : PyData} (i : Dat σ v x) (st : St c A σ h) (r : VRel h (ownS c σ) v cv) : (∃ as, Reads h cv x as) ∧ x.canLay0 = true := by
  cases i with
  | val hd => exact ⟨VRel.reads v cv hd r, isD_lay v hd⟩
  | ref hl hd =>
    simp only [VRel] at r; subst r
    obtain ⟨cs, ⟨n, e⟩, _, rs⟩ := st.objs _ _ (lookup_mem hl)
    obtain ⟨as, ra⟩ := VRels.reads _ cs hd rs
    exact ⟨⟨_, .list e rfl rfl (by simpa using ra)⟩, by simp only [PyData.canLay0]; exact isDs_lay _ hd⟩
theorem units_ok {A : Around} (h : AOk c.k d A) : A.units + 65 < cLine := by
  have h1 := h.units
  have h2 : cLine = 9900 := by decide
  rw [h2]; (exact Mine.Ar.lin 0 2 (.lt (.a (.v 0) (.k 65)) (.k 9900)) [(.lt (.a (.v 0) (.m 20 (.v 1))) (.k 9000))] (by kernel_rfl) [] [_, _] rfl rfl h1)
theorem Cmp_ne_d {va vb : V} {x y : PyData} (ha : Dat σ va x) (hb : Dat σ vb y) (hx : x.depth ≤ 20) (hy : y.depth ≤ 20) (h : P (.bool (!PyData.eqv x y)) σ) : Op2 c d (compareOp .NotEq) va vb σ P := by
  intro A s E ca cb hA st ra rb
  obtain ⟨⟨as, ra⟩, la⟩ := ha.reads st ra
  obtain ⟨⟨bs, rb⟩, lb⟩ := hb.reads st rb
  have hu := units_ok hA
  exact compareNe_shaped ra rb (by unfold shaped; rw [la]; simp; (exact Mine.Ar.lin 0 1 (.le (.v 0) (.k 64)) [(.le (.v 0) (.k 20))] (by kernel_rfl) [] [_] rfl rfl hx)) (by unfold shaped; rw [lb]; simp; (exact Mine.Ar.lin 0 1 (.le (.v 0) (.k 64)) [(.le (.v 0) (.k 20))] (by kernel_rfl) [] [_] rfl rfl hy)) (by (exact Mine.Ar.lin 0 2 (.lt (.a (.v 0) (.k 64)) (.v 1)) [(.lt (.a (.v 0) (.k 65)) (.v 1))] (by kernel_rfl) [] [_, _] rfl rfl hu)) (Post.same' st h (by simp only [VRel]))
theorem isDs_all (vs : List V) : isDs vs = true ↔ ∀ v ∈ vs, isD v = true := by
  induction vs with
  | nil => simp [isDs]
  | cons v r ih => simp [isDs, ih]

theorem WA.mono {t : Expr} {v : V} {K K' : AEnv → Led → Prop} (h : WA c d sc t v m σ K X) (k : ∀ m' σ', K m' σ' → K' m' σ') : WA c d sc t v m σ K' X := fun env A s E cv r rv =>
  wpAny_mono (h env A s E cv r rv) (fun _ _ ⟨m', σ', hp, t⟩ => ⟨m', σ', k m' σ' hp, t⟩) fun z1 z2 x => x
theorem WA_sub {t : Expr} {v : V} {m' : AEnv} {K : AEnv → Led → Prop} (k : Sub m' m) (h : WA c d sc t v m' σ K X) : WA c d sc t v m σ K X :=
  fun env A s E cv r rv => h env A s E cv ⟨r.sc, r.ok, r.fr, r.a, r.st, r.er.sub k, r.e⟩ rv
theorem bits_of_layable : ∀ {xs : List Int}, (PyData.list (xs.map .int)).layable0 = true → ∀ x ∈ xs, Builtin.Int.intBits x ≤ 1048576 := by
  intro xs h
  have hw : PyData.weightAll (xs.map .int) ≤ 1048576 := by
    simp only [PyData.layable0, Bool.and_eq_true, decide_eq_true_eq, PyData.weight] at h
    exact of_decide_eq_true h.2
  clear h
  induction xs with
  | nil => intro x hx; cases hx
  | cons a r ih =>
    simp only [List.map_cons, PyData.weightAll, PyData.weight] at hw
    intro x hx
    rcases List.mem_cons.mp hx with rfl | hx
    · show (if x == 0 then 0 else x.natAbs.log2 + 1) ≤ _
      (exact Mine.Ar.lin 0 2 (.le (.v 0) (.k 1048576)) [(.le (.a (.a (.v 0) (.k 1)) (.v 1)) (.k 1048576))] (by kernel_rfl) [] [_, _] rfl rfl hw)
    · exact ih (by (exact Mine.Ar.lin 0 2 (.le (.v 0) (.k 1048576)) [(.le (.a (.a (.v 1) (.k 1)) (.v 0)) (.k 1048576))] (by kernel_rfl) [] [_, _] rfl rfl hw)) x hx
end Mine
namespace Mine
open PySem
end Mine
namespace Mine
open PySem
variable {c : Cx} {d : Nat} {σ : Led}
noncomputable def Sz (n : Nat) (x : Int) : Prop := x.natAbs < 2 ^ n
set_option tactic.hygienic true in
theorem Sz.bits {n : Nat} {x : Int} (h : Sz n x) : Builtin.Int.intBits x ≤ n := by
  unfold Builtin.Int.intBits
  split
  · (exact Mine.Ar.lin 0 1 (.le (.k 0) (.v 0)) [] (by kernel_rfl) [] [_] rfl rfl )
  · rename_i hz
    have h0 : x.natAbs ≠ 0 := by simpa using hz
    have := (Nat.log2_lt h0).mpr h
    (exact Mine.Ar.lin 0 2 (.le (.a (.v 0) (.k 1)) (.v 1)) [(.lt (.v 0) (.v 1))] (by kernel_rfl) [] [_, _] rfl rfl this)
set_option tactic.hygienic true in
theorem Sz.of_bits {n : Nat} {x : Int} (h : Builtin.Int.intBits x ≤ n) : Sz n x := by
  unfold Builtin.Int.intBits at h
  unfold Sz
  split at h
  · rename_i hz
    have : x = 0 := by simpa using hz
    subst this
    exact Nat.two_pow_pos n
  · rename_i hz
    have h0 : x.natAbs ≠ 0 := by simpa using hz
    exact (Nat.log2_lt h0).mp (by (exact Mine.Ar.lin 0 2 (.lt (.v 0) (.v 1)) [(.le (.a (.v 0) (.k 1)) (.v 1))] (by kernel_rfl) [] [_, _] rfl rfl h))
theorem Sz.mono {n k : Nat} {x : Int} (h : Sz n x) (hk : n ≤ k) : Sz k x := Nat.lt_of_lt_of_le h (Nat.pow_le_pow_right (by decide) hk)
theorem Sz.mul {n k : Nat} {x y : Int} (h : Sz n x) (h' : Sz k y) : Sz (n + k) (x * y) := by
  unfold Sz
  rw [Int.natAbs_mul, Nat.pow_add]
  exact Nat.mul_lt_mul'' h h'
theorem Sz.add {n : Nat} {x y : Int} (h : Sz n x) (h' : Sz n y) : Sz (n + 1) (x + y) := by
  unfold Sz at *
  rw [Nat.pow_succ]
  have := Int.natAbs_add_le x y
  lia
theorem Sz.small {x : Int} (h1 : -9223372036854775808 < x) (h2 : x < 9223372036854775808) : Sz 64 x := Sz.of_bits (intBits_small h1 h2)
theorem Sz.div {n : Nat} {x y : Int} (h : Sz n x) (hy : 0 < y) : Sz n (x / y) := Nat.lt_of_le_of_lt (Int.natAbs_ediv_le_natAbs x y) h
theorem Op_pow3 {P : V → Led → Prop} {x : Int} {n : Nat} (h : Sz n x) (hn : n ≤ 40000000) (hq : P (.int (x ^ 3)) σ) : Op2 c d (binaryOp .Pow) (.int x) (.int 3) σ P :=
  Op_pow (x := x) (n := 3) (by decide) (by have := h.bits; lia) hq
end Mine
end

section
set_option Elab.async false
set_option linter.unusedVariables false
set_option linter.unusedSimpArgs false
namespace Mine
open PySem
variable {c : Cx} {d : Nat} {sc : Scope} {m : AEnv} {σ : Led} {P P' : V → Led → Prop} {X : XP} {K : Fl → AEnv → Led → Prop} {N : AEnv → Led → Prop}

theorem slice_map {α β : Type} (f : α → β) (lo hi : Option Int) (xs : List α) : slice lo hi (xs.map f) = (slice lo hi xs).map f := by
  unfold slice; simp [List.map_take, List.map_drop]
theorem clip_pos {n : Int} (hn : 0 ≤ n) (k l : Nat) : clip (some n) k l = min n.toNat l := by
  obtain ⟨i, rfl⟩ := Int.eq_ofNat_of_zero_le hn
  show (max 0 (min (if (i : Int) < 0 then (i : Int) + l else i) l)).toNat = min i l
  rw [if_neg (Int.not_lt.mpr hn), Int.max_eq_right (Int.le_min.mpr ⟨hn, Int.natCast_nonneg l⟩)]
  rcases Nat.le_total i l with h | h
  · rw [Int.min_eq_left (Int.ofNat_le.mpr h), Nat.min_eq_left h]; rfl
  · rw [Int.min_eq_right (Int.ofNat_le.mpr h), Nat.min_eq_right h]; rfl
theorem slice_take {α : Type} (n : Int) (hn : 0 ≤ n) (xs : List α) : slice none (some n) xs = xs.take n.toNat := by
  unfold slice
  rw [clip_pos hn, List.take_eq_take_min (i := n.toNat)]; rfl
theorem slice_drop {α : Type} (n : Int) (hn : 0 ≤ n) (xs : List α) : slice (some n) none xs = xs.drop n.toNat := by
  unfold slice
  rw [clip_pos hn, List.drop_eq_drop_min (i := n.toNat), List.take_of_length_le]
  rw [List.length_drop]; exact Nat.le_refl _
theorem eqv_self {v : V} (h : isD v = true) : PyData.eqv (toD v) (toD v) = true := by
  first
    | exact SeqAt.eqv_refl _ (isD_lay v h)
    | exact PyData.eqv_refl _ (isD_lay v h)
    | exact eqv_refl _ (isD_lay v h)
    | exact P3.eqv_refl _ (isD_lay v h)
end Mine
end

section
set_option Elab.async false
set_option linter.unusedVariables false
set_option linter.unusedSimpArgs false
namespace Mine
open PySem

variable {c : Cx} {d : Nat} {sc : Scope} {m : AEnv} {σ : Led} {P : V → Led → Prop} {X : XP} {K : Fl → AEnv → Led → Prop}

noncomputable def upd (a : Addr) (o : O) : Led → Led
  | [] => []
  | (b, x) :: r => if b = a then (b, o) :: r else (b, x) :: upd a o r
theorem upd_here {a : Addr} {o x : O} {r : Led} : upd a o ((a, x) :: r) = (a, o) :: r := by simp [upd]
theorem upd_there {a b : Addr} {o x : O} {r : Led} (h : b ≠ a) : upd a o ((b, x) :: r) = (b, x) :: upd a o r := by simp [upd, h]
theorem led_here {a : Addr} {o : O} {r : Led} : List.lookup a ((a, o) :: r) = some o := by simp
theorem led_there {a b : Addr} {o x : O} {r : Led} (h : a ≠ b) (h2 : List.lookup a r = some o) : List.lookup a ((b, x) :: r) = some o := by
  rw [List.lookup_cons, beq_eq_false_iff_ne.mpr h]; exact h2
theorem O.self (a : Addr) (o : O) : a ∈ o.addrs a := by cases o <;> simp [O.addrs]
theorem owned_upd {a : Addr} {o o' : O} (h1 : o'.addrs a = o.addrs a) : ∀ {σ : Led}, σ.lookup a = some o → owned (upd a o' σ) = owned σ
  | [], h => by simp at h
  | (b, x) :: r, h => by
    rw [List.lookup_cons] at h
    by_cases q : b = a
    · subst q
      simp only [beq_self_eq_true] at h
      cases h
      rw [upd_here]
      show o'.addrs b ++ owned r = _
      rw [h1]; rfl
    · rw [beq_eq_false_iff_ne.mpr (fun e => q e.symm)] at h
      rw [upd_there q]
      show x.addrs b ++ owned (upd a o' r) = x.addrs b ++ owned r
      rw [owned_upd h1 h]
theorem mem_upd {a : Addr} {o o' : O} : ∀ {σ : Led}, (owned σ).Nodup → σ.lookup a = some o → ∀ {b : Addr} {x : O}, (b, x) ∈ upd a o' σ → (b = a ∧ x = o') ∨ ((b, x) ∈ σ ∧ a ∉ x.addrs b)
  | [], _, h, _, _ => by simp at h
  | (y, oy) :: r, hnd, h, b, x => by
    intro hm
    rw [List.lookup_cons] at h
    obtain ⟨_, hnd2, hdis⟩ := List.nodup_append.mp hnd
    by_cases q : y = a
    · subst q
      simp only [beq_self_eq_true] at h
      cases h
      rw [upd_here] at hm
      rcases List.mem_cons.mp hm with e | e
      · cases e; exact .inl ⟨rfl, rfl⟩
      · refine .inr ⟨.tail _ e, fun hb => hdis y (O.self _ _) y (mem_owned.mpr ⟨b, x, e, hb⟩) rfl⟩
    · rw [beq_eq_false_iff_ne.mpr (fun e => q e.symm)] at h
      rw [upd_there q] at hm
      rcases List.mem_cons.mp hm with e | e
      · cases e
        exact .inr ⟨.head _, fun hb => hdis a hb a (mem_owned.mpr ⟨a, _, lookup_mem h, O.self _ _⟩) rfl⟩
      · rcases mem_upd hnd2 h e with e | e
        · exact .inl e
        · exact .inr ⟨.tail _ e.1, e.2⟩
theorem ORel.writeOwn {own : List Addr} {h h' : Heap} {K : Base} {D a : Addr} {o : O} (hD : D ∈ own) (k : But D h h') (ha : D ∉ o.addrs a) (r : ORel K h own a o) : ORel K h' own a o := by
  cases o with
  | list vs =>
    obtain ⟨cs, ⟨n, e⟩, hl, rs⟩ := r
    exact ⟨cs, ⟨n, k a _ (fun q => ha (by simp [O.addrs, q])) e⟩, hl, rs.carry (But.carriesHid hD k)⟩
  | dictI _ => exact DictR.carry r (fun ob' e => k a _ (fun q => ha (by simp [O.addrs, q])) e) (But.carriesHid hD k)
  | dictS _ => exact DictR.carry r (fun ob' e => k a _ (fun q => ha (by simp [O.addrs, q])) e) (But.carriesHid hD k)
  | inst _ _ _ => exact r.elim
  | exc C => obtain ⟨o, vs, e, q⟩ := r; exact ⟨o, vs, k a _ (fun q => ha (by simp [O.addrs, q])) e, q⟩
theorem mem_own_lookup {a : Addr} {o : O} (hl : σ.lookup a = some o) : a ∈ owned σ := mem_owned.mpr ⟨a, _, lookup_mem hl, O.self _ _⟩
theorem St.updO {A : Around} {h h' : Heap} {a : Addr} {o o' : O} (st : St c A σ h) (hl : σ.lookup a = some o) (ho : o'.addrs a = o.addrs a) (k : But a h h') (r : ORel c.k h' (ownS c σ) a o') : St c A (upd a o' σ) h' := by
  have hao : a ∈ owned σ := mem_own_lookup hl
  have hown : owned (Mine.upd a o' σ) = owned σ := owned_upd ho hl
  have hownS : ownS c (Mine.upd a o' σ) = ownS c σ := by unfold ownS; rw [hown]
  have haS : a ∈ ownS c σ := List.mem_append_right _ hao
  obtain ⟨l, hl', hf, hd⟩ := st.frames
  refine ⟨fun b o e => k b o (fun q => ?_) (st.keep b o e), by rw [hown]; exact st.nodup, by rw [hown]; exact st.fresh, fun b o hm => ?_, ⟨l, hl', funFrames_of hf fun L hL => ?_, fun L hL => ⟨?_, (hd L hL).2.1, fun o e => ?_⟩⟩, fun b hb => ?_, fun b hb => ?_⟩
  · subst q; rw [st.fresh _ hao] at e; cases e
  · rw [hownS]
    rcases mem_upd st.nodup hl hm with ⟨rfl, rfl⟩ | ⟨hm', hne⟩
    · exact r
    · exact (st.objs b o hm').writeOwn haS k hne
  · obtain ⟨_, o, ho, hnf⟩ := hf.mem hL
    exact ⟨o, k L o (fun q => (hd L hL).1 (q ▸ hao)) ho, hnf⟩
  · rw [hown]; exact (hd L hL).1
  · obtain ⟨_, o', ho, _⟩ := hf.mem hL
    rw [k L o' (fun q => (hd L hL).1 (q ▸ hao)) ho] at e
    cases e; exact (hd L hL).2.2 _ ho
  · obtain ⟨o, e⟩ := st.prot b hb
    by_cases q : b = a
    · subst q; exact r.there (O.self _ _)
    · exact ⟨o, k b o q e⟩
  · obtain ⟨q1, o, e⟩ := st.hid b hb
    rw [hown]
    exact ⟨q1, o, k b o (fun q => q1 (q ▸ hao)) e⟩
theorem St.upd {A : Around} {h h' : Heap} {a : Addr} {vs ws : List V} {cs : List Value} (st : St c A σ h) (hl : σ.lookup a = some (.list vs)) (k : But a h h') (p : PlainSeq h' "list" a cs) (hsz : cs.length ≤ sizeLine)
    (r : VRels h (ownS c σ) ws cs) : St c A (upd a (.list ws) σ) h' :=
  st.updO hl rfl k ⟨cs, p, hsz, r.carry (But.carriesHid (List.mem_append_right _ (mem_own_lookup hl)) k)⟩
theorem Step.upd {s : Shared} {h' : Heap} {a : Addr} {o o' : O} {t : Nat} (hl : σ.lookup a = some o) (ho : o'.addrs a = o.addrs a) (hF : a ∉ c.F) (hL : ∃ o, h'.get? a = some o) (k : But a s.heap h') : Step c.F (owned σ) (owned (upd a o' σ)) s { s with heap := h', toks := t } := by
  have hao : a ∈ owned σ := mem_own_lookup hl
  rw [owned_upd ho hl]
  exact ⟨Kept.of fun b o e hb => k b o (fun q => hb (q ▸ hao)) e, there_but hL k, fun b hb o e => k b o (fun q => hF (q ▸ hb)) e, .refl, rfl, rfl⟩
theorem SameBut.but {a : Addr} {h h' : Heap} (k : Heap.SameBut a h h') : But a h h' := fun b o hb e => by rw [k.2 b hb]; exact e

theorem Meth_append {a : Addr} {vs : List V} (hl : σ.lookup a = some (.list vs)) : Meth c σ (.ref a) "append" "list" "list.append" := by
  refine ⟨PySem.F.plainAttrs_list, PySem.F.slot_list_append, PySem.F.type_list_append, fun A s cv st r => ?_⟩
  obtain ⟨b, cs, rfl, p, _⟩ := (IsLst.ref hl).plain st r
  obtain ⟨n, e⟩ := id p
  exact ⟨p.isList.typeIs, fun b' q => by cases q; exact ⟨_, e, rfl⟩⟩
theorem Call_append {a : Addr} {vs : List V} {v : V} (hl : σ.lookup a = some (.list vs)) (hF : a ∉ c.F) (hsz : vs.length < 16777216) (h : P .none (upd a (.list (vs ++ [v])) σ)) : CallS c d (.builtin "list.append") [.ref a, v] σ P X := by
  intro A s E cs hA st rs _
  obtain ⟨x, y, rfl, r1, r2⟩ := rs.un2
  simp only [VRel] at r1; subst r1
  obtain ⟨cs, p, hl', rs'⟩ := st.objs _ _ (lookup_mem hl)
  have hlen := rs'.length
  refine wpAny_list_append_plain (items := cs.toArray) p (fun h' hp hs => ?_) (by simpa using hl')
  have hk : But a s.heap h' := SameBut.but hs
  have hp' : PlainSeq h' "list" a (cs ++ [y]) := by
    have e : cs.toArray.push y = (cs ++ [y]).toArray := by simp
    rw [e] at hp; exact hp
  refine ⟨.none, _, h, .upd (t := s.toks) hl rfl hF (hp'.elim fun z1 e => ⟨_, e⟩) hk, st.upd hl hk hp' ?_ (rs'.append (.one r2)), rfl⟩
  rw [List.length_append, sizeLine_eq]; simp; lia

noncomputable def SetIt (c : Cx) (d : Nat) (ov iv v : V) (σ : Led) (K : Led → Prop) : Prop :=
  ∀ (A : Around) (s : Shared) (E : Value → Shared → Prop) (co ci cv : Value), AOk c.k d A → St c A σ s.heap → VRel s.heap (ownS c σ) ov co → VRel s.heap (ownS c σ) iv ci → VRel s.heap (ownS c σ) v cv →
    wpAny c.M A (setItem co ci cv) (fun z1 s' => ∃ σ', K σ' ∧ Step c.F (owned σ) (owned σ') s s' ∧ St c A σ' s'.heap) E s
theorem wpAny_assign_sub {M : Model} {A : Around} {E : Value → Shared → Prop} {s : Shared} {env : Env} {o i : Expr} {pos : Pos} {v : Value} {Q : Unit → Shared → Prop}
    (h : wpAny M A (eval o env) (fun ov s₂ => wpAny M A (eval i env) (fun iv s₃ => wpAny M A (setItem ov iv v) (fun z1 s₄ => Q () s₄) E s₃) E s₂) E s) : wpAny M A (assign (.Subscript o i pos) env v) Q E s := by
  rw [assign_Subscript]
  refine wpAny_bind (wpAny_holding (wpAny_mono h (fun ov s₂ h₂ => ?_) fun z1 z2 x => x))
  refine wpAny_bind (wpAny_holding (wpAny_mono h₂ (fun iv s₃ h₃ => ?_) fun z1 z2 x => x))
  exact wpAny_bind (wpAny_standAt (wpAny_bind (wpAny_holding (wpAny_mono h₃ (fun z1 s₄ h₄ => wpAny_release h₄) fun z1 z2 x => x))))
theorem WA_item {o i : Expr} {pos : Pos} {v : V} {K : AEnv → Led → Prop} (h : WE c d sc o m σ (fun ov σ₁ => WE c d sc i m σ₁ (fun iv σ₂ => SetIt c d ov iv v σ₂ (fun σ₃ => K m σ₃)) X) X) : WA c d sc (.Subscript o i pos) v m σ K X := by
  intro env A s E cv r rv
  refine wpAny_assign_sub (wpAny_mono (h env A s E r.re) ?_ fun z1 z2 x => x)
  rintro co s₁ ⟨ov, σ₁, h₁, t₁, hs₁, ro⟩
  have r₁ := r.estep t₁ hs₁
  refine wpAny_mono (h₁ env A s₁ E r₁.re) ?_ fun z1 z2 x => x
  rintro ci s₂ ⟨iv, σ₂, h₂, t₂, hs₂, ri⟩
  have r₂ := r₁.estep t₂ hs₂
  refine wpAny_mono (h₂ A s₂ E co ci cv r.a hs₂ (t₂.v ro) ri (t₂.v (t₁.v rv))) ?_ fun z1 z2 x => x
  rintro _ s₃ ⟨σ₃, h₃, t₃, hs₃⟩
  exact ⟨m, σ₃, h₃, (t₁.trans (t₂.trans t₃)).wider, hs₃, r₂.er.mono t₃.kept.wider t₃.grow.wider⟩
theorem mapSeq_set_plain (its : Array Value) (n : Nat) (i : Nat) (x : Value) : ∃ n', Obj.mapSeq (·.setIfInBounds i x) { cls := .type "list", data := .seq its n } = { cls := .type "list", data := .seq (its.setIfInBounds i x) n' } := by
  simp [Obj.mapSeq]
theorem setItem_at {prog : Program} {w : World} {A : Around} {E : Value → Shared → Prop} {s : Shared} {a : Addr} {cs : List Value} {k : Int} {t : Tok} {j : Nat} {v : Value} {Q : Unit → Shared → Prop} (p : PlainSeq s.heap "list" a cs) (hj : place k cs.length = some j) (hsz : cs.length ≤ sizeLine)
    (hQ : ∀ h', PlainSeq h' "list" a (cs.set j v) → But a s.heap h' → Q () { s with heap := h' }) : wpAny (model prog w) A (setItem (.ref a) (.int k t) v) Q E s := by
  obtain ⟨n, ho⟩ := id p
  have hl := p.isList
  obtain ⟨hj1, hj2, hj3⟩ := place_lt hj
  rw [sizeLine_eq] at hsz
  unfold setItem
  refine wpAny_holding ?_
  refine wpAny_bind (wpAny_sequenceKey hl.typeIs (by decide) ?_)
  refine wpAny_bind (wpAny_callSpecial?_slot (name := Str.ofString "__setitem__") hl.typeIs slot_list_setitem
    (wpAny_call_entry slot_list_setitem hl.typeIs entry_list_setitem ?_ (args_list_setitem _ _ _)))
  show wpAny _ _ (Builtin.List.listSubscript? (.int k t) >>= _) _ _ s
  have hfit : Builtin.List.listFitsIndex k = true := by
    unfold Builtin.List.listFitsIndex
    simp
    omega
  refine wpAny_bind (wpAny_listSubscript_int hfit ?_)
  have hx' : cs.toArray[j]? = some cs[j] := by simp [hj1]
  obtain ⟨n', e'⟩ := mapSeq_set_plain cs.toArray n j v
  have hfin : PlainSeq (s.heap.update a (Obj.mapSeq (·.setIfInBounds j v))) "list" a (cs.set j v) := by
    refine ⟨n', ?_⟩
    rw [Heap.get?_update_self _ ho (by rw [e']; rfl), e']
    simp
  have fin := hQ _ hfin (SameBut.but (Heap.SameBut.update ..))
  cases k with
  | ofNat i =>
    have : j = i := by
      have := place_nonneg (i := Int.ofNat i) (Int.natCast_nonneg i) hj3
      rw [hj] at this; exact Option.some.inj this
    subst this
    show wpAny _ _ ((seqItemAt a j >>= fun r => pure (r.map (j, ·))) >>= _) _ _ s
    refine wpAny_bind (wpAny_bind (wpAny_seqItemAt ho rfl (wpAny_pure ?_)))
    rw [hx']
    show wpAny _ _ (setSeqItemAt a j v >>= _) _ _ s
    exact wpAny_bind (wpAny_setSeqItemAt ho rfl (wpAny_bind (wpAny_pure (wpAny_pure ⟨.none, rfl, wpAny_pure fin⟩))))
  | negSucc i =>
    show wpAny _ _ ((Builtin.List.listItems (.ref a) >>= fun xs => pure ((seqIndex? (Int.negSucc i) xs.size).bind fun i => xs[i]?.map (i, ·))) >>= _) _ _ s
    refine wpAny_bind (wpAny_bind ?_)
    show wpAny _ _ (seqItems? (.ref a) >>= _) _ _ s
    refine wpAny_bind (wpAny_seqItems ho rfl (wpAny_pure (wpAny_pure ?_)))
    rw [show seqIndex? (Int.negSucc i) cs.toArray.size = some j by rw [seqIndex_place]; simpa using hj]
    simp only [Option.bind_some, hx', Option.map_some]
    show wpAny _ _ (setSeqItemAt a j v >>= _) _ _ s
    exact wpAny_bind (wpAny_setSeqItemAt ho rfl (wpAny_bind (wpAny_pure (wpAny_pure ⟨.none, rfl, wpAny_pure fin⟩))))
theorem Set_at {a : Addr} {vs : List V} {i : Int} {j : Nat} {v : V} {K : Led → Prop} (hl : σ.lookup a = some (.list vs)) (hF : a ∉ c.F) (hj : place i vs.length = some j) (h : K (upd a (.list (vs.set j v)) σ)) : SetIt c d (.ref a) (.int i) v σ K := by
  intro A s E co ci cv hA st ro ri rv
  simp only [VRel] at ro ri; subst ro; obtain ⟨t, rfl⟩ := ri
  obtain ⟨cs, p, hsz, rs⟩ := st.objs _ _ (lookup_mem hl)
  refine setItem_at p (by rw [rs.length]; exact hj) hsz fun h' p' k => ?_
  exact ⟨_, h, .upd (t := s.toks) hl rfl hF (p'.elim fun z1 e => ⟨_, e⟩) k, st.upd hl k p' (by rw [List.length_set]; exact hsz) (rs.set _ rv)⟩
theorem Set_list {a : Addr} {vs : List V} {i : Int} {v : V} {K : Led → Prop} (hl : σ.lookup a = some (.list vs)) (hF : a ∉ c.F) (h0 : 0 ≤ i) (hi : i.toNat < vs.length) (h : K (upd a (.list (vs.set i.toNat v)) σ)) : SetIt c d (.ref a) (.int i) v σ K :=
  Set_at hl hF (place_nonneg h0 ((Int.toNat_lt h0).mp hi)) h
end Mine
end

section
set_option Elab.async false
set_option linter.unusedVariables false
set_option linter.unusedSimpArgs false
namespace Mine
open PySem
variable {c : Cx} {d : Nat} {sc : Scope} {m : AEnv} {σ : Led} {P : V → Led → Prop} {X : XP} {K : Fl → AEnv → Led → Prop}

section
variable {κ : Type} [DecidableEq κ]
noncomputable def putV (kvs : List (κ × V)) (k : κ) (v : V) : List (κ × V) :=
  if kvs.any (fun kv => kv.1 = k) then kvs.map (fun kv => if kv.1 = k then (kv.1, v) else kv) else kvs ++ [(k, v)]
theorem any_keys {α β : Type} {kvs : List (κ × α)} {cs : List (κ × β)} (e : cs.map (·.1) = kvs.map (·.1)) (k : κ) : (cs.any fun kv => decide (kv.1 = k)) = kvs.any fun kv => decide (kv.1 = k) := by
  have h : ∀ {γ : Type} (l : List (κ × γ)), (l.any fun kv => decide (kv.1 = k)) = (l.map (·.1)).any fun x => decide (x = k) := fun l => by rw [List.any_map]; rfl
  rw [h, h, e]
theorem keys_put {α : Type} (l : List (κ × α)) (k : κ) (v : α) : (l.map fun kv => if kv.1 = k then (kv.1, v) else kv).map (·.1) = l.map (·.1) := by
  rw [List.map_map]
  refine List.map_congr_left fun x z1 => ?_
  show (if x.1 = k then (x.1, v) else x).1 = x.1
  split <;> rfl
theorem put_rel {h : Heap} {own : List Addr} {k : κ} {v : V} {cv : Value} (rv : VRel h own v cv) : ∀ (kvs : List (κ × V)) (cs : List (κ × Value)), cs.map (·.1) = kvs.map (·.1) → VRels h own (kvs.map (·.2)) (cs.map (·.2)) →
    VRels h own ((kvs.map fun kv => if kv.1 = k then (kv.1, v) else kv).map (·.2)) ((cs.map fun kv => if kv.1 = k then (kv.1, cv) else kv).map (·.2))
  | [], [], _, r => r
  | [], _ :: _, e, _ => by cases e
  | _ :: _, [], e, _ => by cases e
  | (a, x) :: kvs, (b, y) :: cs, e, r => by
    simp only [List.map_cons, List.cons.injEq] at e
    obtain ⟨e1, e2⟩ := e
    simp only [List.map_cons, VRels] at r ⊢
    obtain ⟨y', cs', e3, r1, r2⟩ := r
    cases e3
    subst e1
    refine ⟨_, _, rfl, ?_, put_rel rv kvs cs e2 r2⟩
    show VRel h own (if b = k then (b, v) else (b, x)).2 (if b = k then (b, cv) else (b, y)).2
    split
    · exact rv
    · exact r1
theorem put_both {h : Heap} {own : List Addr} {k : κ} {v : V} {cv : Value} {kvs : List (κ × V)} {cs : List (κ × Value)} (rv : VRel h own v cv) (e : cs.map (·.1) = kvs.map (·.1)) (r : VRels h own (kvs.map (·.2)) (cs.map (·.2))) :
    (stored cs k cv).map (·.1) = (putV kvs k v).map (·.1) ∧ VRels h own ((putV kvs k v).map (·.2)) ((stored cs k cv).map (·.2)) := by
  unfold stored putV
  rw [any_keys e k]
  cases kvs.any fun kv => decide (kv.1 = k) with
  | true => exact ⟨(keys_put cs k cv).trans (e.trans (keys_put kvs k v).symm), put_rel rv kvs cs e r⟩
  | false =>
    simp only [Bool.false_eq_true, if_false, List.map_append, List.map_cons, List.map_nil]
    exact ⟨by rw [e], r.append (.one rv)⟩
structure DK (c : Cx) (knd : KeyKind c.k.prog c.k.w κ) (mk : List (κ × V) → O) (kv : κ → V) : Prop where
  rel : ∀ h own a kvs, ORel c.k h own a (mk kvs) = DictR c.k knd h own a kvs
  addrs : ∀ a kvs, (mk kvs).addrs a = [a]
  key : ∀ h own k cv, VRel h own (kv k) cv → knd.is k cv = true
variable {knd : KeyKind c.k.prog c.k.w κ} {mk : List (κ × V) → O} {kv : κ → V}
theorem Set_dict (D : DK c knd mk kv) {a : Addr} {kvs : List (κ × V)} {i : κ} {v : V} {K : Led → Prop} (hl : σ.lookup a = some (mk kvs)) (hF : a ∉ c.F) (hsz : kvs.length ≤ 1000) (h : K (upd a (mk (putV kvs i v)) σ)) : SetIt c d (.ref a) (kv i) v σ K := by
  intro A s E co ci cv hA st ro ri rv
  simp only [VRel] at ro; subst ro
  have hr := st.objs _ _ (lookup_mem hl)
  rw [D.rel] at hr
  obtain ⟨cs, hs, p, e, rs⟩ := hr
  have hlen : cs.length = kvs.length := by rw [← List.length_map (f := fun x : κ × Value => x.1), e, List.length_map]
  refine wpAny_setItem_pairs (hsz := by rw [hlen, sizeLine_eq]; lia) (D.key _ _ _ _ ri) p fun h' p' k => ?_
  have k' := SameBut.but k
  have ho : (mk (putV kvs i v)).addrs a = (mk kvs).addrs a := by rw [D.addrs, D.addrs]
  obtain ⟨q1, q2⟩ := put_both (k := i) rv e rs
  refine ⟨_, h, .upd hl ho hF (p'.elim fun z1 q => q.elim fun z1 q => q.elim fun z1 q => ⟨_, q.1⟩) k', st.updO hl ho k' ?_⟩
  rw [D.rel]
  exact ⟨_, hs, p', q1, q2.carry (But.carriesHid (List.mem_append_right _ (mem_own_lookup hl)) k')⟩
theorem WE_dict0 (hk : c.k.OK) (D : DK c knd mk kv) {pos : Pos} (h : ∀ a, a ∉ owned σ → a ∉ c.F → P (.ref a) ((a, mk []) :: σ)) : WE c d sc (.Dict [] [] pos) m σ P X := by
  intro env A s E r
  refine wpAny_Dict_empty ?_
  have hn : ∀ b ∈ (mk []).addrs s.heap.objs.size, s.heap.get? b = none := fun b hb => by
    rw [D.addrs, List.mem_singleton] at hb; subst hb; exact get?_size _
  obtain ⟨o, es, ep, ho, _⟩ := hk.g
  have h3 : mainGlobals < s.heap.objs.size := Heap.lt_size (r.st.keep _ _ ho)
  refine ⟨.ref s.heap.objs.size, _, h _ r.st.new r.st.newF, ⟨(Ext.push _).kept, fun b o e => ⟨o, Ext.push _ b o e⟩, fun b z1 o e => Ext.push _ b o e, .alloc hn, rfl, rfl⟩, r.st.alloc (.push _) hn (by rw [D.addrs]; simp) ?_, by simp only [VRel]⟩
  rw [D.rel]
  refine ⟨[], ?_, Heap.DictOf.new _, rfl, rfl⟩
  rw [beq_eq_false_iff_ne]
  intro q
  rw [q] at h3
  exact absurd h3 (by decide)
end
theorem DK.int : DK c (intKind c.k.prog c.k.w) O.dictI V.int := ⟨fun z1 z2 z3 z4 => rfl, fun z1 z2 => rfl, fun h own k cv r => by simp only [VRel] at r; obtain ⟨t, rfl⟩ := r; exact intKind_is _ _ k t⟩
theorem DK.str : DK c (strKind c.k.prog c.k.w) O.dictS V.str := ⟨fun z1 z2 z3 z4 => rfl, fun z1 z2 => rfl, fun h own k cv r => by simp only [VRel] at r; obtain ⟨t, rfl⟩ := r; exact strKind_is _ _ k t⟩

theorem WT_sub {e : Expr} {m' : AEnv} {P : Bool → Led → Prop} (k : Sub m' m) (h : WT c d sc e m' σ P X) : WT c d sc e m σ P X := fun env A s E r => h env A s E ⟨r.sc, r.ok, r.a, r.st, r.er.sub k, r.e⟩
end Mine
end

section
set_option Elab.async false
set_option linter.unusedVariables false
set_option linter.unusedSimpArgs false
namespace Mine
open PySem
variable {c : Cx} {d : Nat} {sc : Scope} {m : AEnv} {σ : Led} {P : V → Led → Prop} {X : XP} {K : Fl → AEnv → Led → Prop}

end Mine
end

section
set_option Elab.async false
set_option linter.unusedVariables false
set_option linter.unusedSimpArgs false
namespace Mine
namespace Tim
open PySem PyProof.Rows

variable {prog : Program} {w : World} {A : Around} {E : Value → Shared → Prop} {s : Shared} {κ : SortKind} {r : Keyed → Nat} {a₀ : Array Keyed}

noncomputable def Ask (prog : Program) (w : World) (A : Around) (s : Shared) (κ : SortKind) (r : Keyed → Nat) (a₀ : Array Keyed) : Prop :=
  ∀ x ∈ a₀.toList, ∀ y ∈ a₀.toList, ∀ (E : Value → Shared → Prop) (Q : Bool → Shared → Prop), Q (decide (r x < r y)) s → wpAny (model prog w) A (keyLt' κ x.1 y.1) Q E s

theorem wpS_lt (hC : Ask prog w A s κ r a₀) {st : SortSt} {x y : Keyed} {Q : Option Bool → SortSt → Prop} (hk : kindOf st = κ) (hx : x ∈ a₀.toList) (hy : y ∈ a₀.toList) (h : Q (some (decide (r x < r y))) st) :
    wpS (model prog w) A E s (lt' x y) Q st := by
  rw [lt'_eq]
  refine wpS_bind (wpS_get ?_)
  rw [hk]
  refine wpS_bind (wpS_lift (wpAny_attempt (hC x hx y hy _ _ ⟨rfl, ?_⟩)))
  exact wpS_pure h
theorem wpS_elem {M : Model} {st : SortSt} {arr : Array Keyed} {i : Nat} {p : Keyed} {Q : Keyed → SortSt → Prop} (h : arr[i]? = some p) (hq : Q p st) : wpS M A E s (elem' arr i) Q st := by
  rw [elem'_eq, h]; exact wpS_pure hq

noncomputable def R (r : Keyed → Nat) (xs : Array Keyed) (i : Nat) : Nat := match xs[i]? with
  | some p => r p
  | none => 0
theorem R_congr {xs ys : Array Keyed} {i j : Nat} (h : xs[i]? = ys[j]?) : R r xs i = R r ys j := by unfold R; rw [h]
theorem R_of {xs : Array Keyed} {i : Nat} {p : Keyed} (h : xs[i]? = some p) : R r xs i = r p := by unfold R; rw [h]
theorem R_bubble {xs : Array Keyed} {src d : Nat} (hs : src < xs.size) (hd : d ≤ src) (k : Nat) :
    R r (bubble xs src d) k = if k = src - d then R r xs src else if src - d < k ∧ k ≤ src then R r xs (k - 1) else R r xs k := by
  have e := getElem?_bubble hs d hd k
  by_cases h1 : k = src - d
  · rw [if_pos h1] at e ⊢; exact R_congr e
  · rw [if_neg h1] at e ⊢
    by_cases h2 : src - d < k ∧ k ≤ src
    · rw [if_pos h2] at e ⊢; exact R_congr e
    · rw [if_neg h2] at e ⊢; exact R_congr e
theorem R_mirror {xs : Array Keyed} {i j : Nat} (hj : j ≤ xs.size) (k : Nat) :
    R r (mirror xs i j ((j - i) / 2)) k = if i ≤ k ∧ k < j then R r xs (i + j - 1 - k) else R r xs k := by
  have e := getElem?_mirror_all (i := i) hj k
  by_cases h1 : i ≤ k ∧ k < j
  · rw [if_pos h1] at e ⊢; exact R_congr e
  · rw [if_neg h1] at e ⊢; exact R_congr e

structure TB (κ : SortKind) (a₀ : Array Keyed) (st : SortSt) : Prop where
  perm : (arrOf st).Perm a₀
  kind : kindOf st = κ
  failed : failedOf st = none
theorem TB.size {st : SortSt} (h : TB κ a₀ st) : (arrOf st).size = a₀.size := h.perm.size_eq
theorem TB.mem {st : SortSt} (h : TB κ a₀ st) {p : Keyed} : p ∈ (arrOf st).toList ↔ p ∈ a₀.toList := (Array.perm_iff_toList_perm.mp h.perm).mem_iff
theorem TB.at (r : Keyed → Nat) {st : SortSt} (h : TB κ a₀ st) {i : Nat} (hi : i < a₀.size) : ∃ p, (arrOf st)[i]? = some p ∧ p ∈ a₀.toList ∧ R r (arrOf st) i = r p := by
  have hi' : i < (arrOf st).size := by rw [h.size]; exact hi
  have e : (arrOf st)[i]? = some (arrOf st)[i] := getElem?_pos _ i hi'
  exact ⟨_, e, h.mem.mp (by simp), R_of e⟩
theorem TB.setArr {st : SortSt} (h : TB κ a₀ st) {xs : Array Keyed} (hp : xs.Perm (arrOf st)) : TB κ a₀ (setArr st xs) := ⟨hp.trans h.perm, h.kind, h.failed⟩

theorem wpS_ltR (hC : Ask prog w A s κ r a₀) {st : SortSt} {i j : Nat} {Q : Option Bool → SortSt → Prop} (hB : TB κ a₀ st) (hi : i < a₀.size) (hj : j < a₀.size)
    (h : Q (some (decide (R r (arrOf st) i < R r (arrOf st) j))) st) : wpS (model prog w) A E s (ltAt' i j) Q st := by
  obtain ⟨p, e1, m1, k1⟩ := hB.at r hi
  obtain ⟨q, e2, m2, k2⟩ := hB.at r hj
  rw [k1, k2] at h
  rw [ltAt'_eq]
  refine wpS_bind (wpS_get ?_)
  exact wpS_bind (wpS_elem e1 (wpS_bind (wpS_elem e2 (wpS_lt hC hB.kind m1 m2 h))))

noncomputable def Asc (r : Keyed → Nat) (xs : Array Keyed) (lo hi : Nat) : Prop := ∀ i j, lo ≤ i → i ≤ j → j < hi → R r xs i ≤ R r xs j
noncomputable def Dsc (r : Keyed → Nat) (xs : Array Keyed) (lo hi : Nat) : Prop := ∀ i j, lo ≤ i → i ≤ j → j < hi → R r xs j ≤ R r xs i

structure Nx (κ : SortKind) (a₀ : Array Keyed) (lo : Nat) (st st' : SortSt) : Prop where
  tb : TB κ a₀ st'
  pend : pendingOf st' = pendingOf st
  low : ∀ k, k < lo → (arrOf st')[k]? = (arrOf st)[k]?
theorem Nx.refl {lo : Nat} {st : SortSt} (h : TB κ a₀ st) : Nx κ a₀ lo st st := ⟨h, rfl, fun z1 z2 => rfl⟩
theorem Nx.trans {lo : Nat} {st st' st'' : SortSt} (h : Nx κ a₀ lo st st') (k : Nx κ a₀ lo st' st'') : Nx κ a₀ lo st st'' := ⟨k.tb, k.pend.trans h.pend, fun i hi => (k.low i hi).trans (h.low i hi)⟩
theorem Nx.mirror {lo i j : Nat} {st st' : SortSt} (h : Nx κ a₀ lo st st') (hi : lo ≤ i) (hj : j ≤ a₀.size) : Nx κ a₀ lo st (setArr st' (mirror (arrOf st') i j ((j - i) / 2))) :=
  ⟨h.tb.setArr (mirror_perm _ _ _ _), h.pend, fun k hk => by
    refine Eq.trans ?_ (h.low k hk)
    show (PyProof.Rows.mirror (arrOf st') i j ((j - i) / 2))[k]? = _
    rw [getElem?_mirror_all (by rw [h.tb.size]; exact hj), if_neg (by (exact Mine.Ar.lin 0 4 (.no (.an (.le (.v 0) (.v 1)) (.lt (.v 1) (.v 2)))) [(.le (.v 3) (.v 0)), (.lt (.v 1) (.v 3))] (by kernel_rfl) [] [_, _, _, _] rfl rfl hi hk))]⟩
theorem Nx.bubble {lo src d : Nat} {st st' : SortSt} (h : Nx κ a₀ lo st st') (hs : src < a₀.size) (hd : d ≤ src) (hi : lo ≤ src - d) : Nx κ a₀ lo st (setArr st' (bubble (arrOf st') src d)) :=
  ⟨h.tb.setArr (bubble_perm _ _ _), h.pend, fun k hk => by
    refine Eq.trans ?_ (h.low k hk)
    show (PyProof.Rows.bubble (arrOf st') src d)[k]? = _
    rw [getElem?_bubble (by rw [h.tb.size]; exact hs) _ hd, if_neg (by (exact Mine.Ar.lin 0 4 (.no (.eq (.v 0) (.s (.v 1) (.v 2)))) [(.le (.v 3) (.s (.v 1) (.v 2))), (.lt (.v 0) (.v 3))] (by kernel_rfl) [] [_, _, _, _] rfl rfl hi hk)), if_neg (by (exact Mine.Ar.lin 0 4 (.no (.an (.lt (.s (.v 0) (.v 1)) (.v 2)) (.le (.v 2) (.v 0)))) [(.le (.v 3) (.s (.v 0) (.v 1))), (.lt (.v 2) (.v 3))] (by kernel_rfl) [] [_, _, _, _] rfl rfl hi hk))]⟩

theorem Asc.snoc {xs : Array Keyed} {lo x : Nat} (h : Asc r xs lo (lo + x)) (hx : 1 ≤ x) (hn : ¬ R r xs (lo + x) < R r xs (lo + x - 1)) : Asc r xs lo (lo + (x + 1)) := by
  intro i j h1 h2 h3
  by_cases hj : j < lo + x
  · exact h i j h1 h2 hj
  · have : j = lo + x := by (exact Mine.Ar.lin 0 3 (.eq (.v 0) (.a (.v 1) (.v 2))) [(.lt (.v 0) (.a (.v 1) (.a (.v 2) (.k 1)))), (.no (.lt (.v 0) (.a (.v 1) (.v 2))))] (by kernel_rfl) [] [_, _, _] rfl rfl h3 hj)
    subst this
    by_cases hi : i = lo + x
    · subst hi; exact Nat.le_refl _
    · have := h i (lo + x - 1) h1 (by (exact Mine.Ar.lin 0 3 (.le (.v 0) (.s (.a (.v 1) (.v 2)) (.k 1))) [(.le (.v 0) (.a (.v 1) (.v 2))), (.no (.eq (.v 0) (.a (.v 1) (.v 2))))] (by kernel_rfl) [] [_, _, _] rfl rfl h2 hi)) (by (exact Mine.Ar.lin 0 2 (.lt (.s (.a (.v 0) (.v 1)) (.k 1)) (.a (.v 0) (.v 1))) [(.le (.k 1) (.v 1))] (by kernel_rfl) [] [_, _] rfl rfl hx))
      (exact Mine.Ar.lin 0 3 (.le (.v 0) (.v 1)) [(.no (.lt (.v 1) (.v 2))), (.le (.v 0) (.v 2))] (by kernel_rfl) [] [_, _, _] rfl rfl hn this)
theorem Dsc.snoc {xs : Array Keyed} {lo x : Nat} (h : Dsc r xs lo (lo + x)) (hx : 1 ≤ x) (hn : R r xs (lo + x) ≤ R r xs (lo + x - 1)) : Dsc r xs lo (lo + (x + 1)) := by
  intro i j h1 h2 h3
  by_cases hj : j < lo + x
  · exact h i j h1 h2 hj
  · have : j = lo + x := by (exact Mine.Ar.lin 0 3 (.eq (.v 0) (.a (.v 1) (.v 2))) [(.lt (.v 0) (.a (.v 1) (.a (.v 2) (.k 1)))), (.no (.lt (.v 0) (.a (.v 1) (.v 2))))] (by kernel_rfl) [] [_, _, _] rfl rfl h3 hj)
    subst this
    by_cases hi : i = lo + x
    · subst hi; exact Nat.le_refl _
    · have := h i (lo + x - 1) h1 (by (exact Mine.Ar.lin 0 3 (.le (.v 0) (.s (.a (.v 1) (.v 2)) (.k 1))) [(.le (.v 0) (.a (.v 1) (.v 2))), (.no (.eq (.v 0) (.a (.v 1) (.v 2))))] (by kernel_rfl) [] [_, _, _] rfl rfl h2 hi)) (by (exact Mine.Ar.lin 0 2 (.lt (.s (.a (.v 0) (.v 1)) (.k 1)) (.a (.v 0) (.v 1))) [(.le (.k 1) (.v 1))] (by kernel_rfl) [] [_, _] rfl rfl hx))
      (exact Mine.Ar.lin 0 3 (.le (.v 0) (.v 1)) [(.le (.v 0) (.v 2)), (.le (.v 2) (.v 1))] (by kernel_rfl) [] [_, _, _] rfl rfl hn this)

theorem Dsc.mirrorEq {xs : Array Keyed} {lo m neq : Nat} (hm : lo + m ≤ xs.size) (hq : neq + 1 ≤ m) (he : ∀ i, lo + m - (neq + 1) ≤ i → i < lo + m → R r xs i = R r xs (lo + m - 1)) (k : Nat) :
    R r (mirror xs (lo + m - (neq + 1)) (lo + m) ((lo + m - (lo + m - (neq + 1))) / 2)) k = R r xs k := by
  rw [R_mirror hm]
  split
  · rw [he _ (by lia) (by lia), he k (by lia) (by lia)]
  · rfl

theorem turned {xs : Array Keyed} {lo n : Nat} (hsz : lo + n ≤ xs.size) (hs : Asc r xs lo (lo + n)) (hro : ¬ R r xs lo < R r xs (lo + n - 1)) (hlt : R r xs (lo + n) < R r xs (lo + n - 1)) :
    Dsc r (mirror xs lo (lo + n) ((lo + n - lo) / 2)) lo (lo + (n + 1)) := by
  have hall : ∀ k, lo ≤ k → k < lo + n → R r (mirror xs lo (lo + n) ((lo + n - lo) / 2)) k = R r xs (lo + n - 1) := by
    intro k k1 k2
    rw [R_mirror hsz, if_pos ⟨k1, k2⟩]
    have h0 : lo ≤ lo + (lo + n) - 1 - k := by (exact Mine.Ar.lin 0 3 (.le (.v 0) (.s (.s (.a (.v 0) (.a (.v 0) (.v 1))) (.k 1)) (.v 2))) [(.lt (.v 2) (.a (.v 0) (.v 1)))] (by kernel_rfl) [] [_, _, _] rfl rfl k2)
    have h1 : lo + (lo + n) - 1 - k ≤ lo + n - 1 := by (exact Mine.Ar.lin 0 3 (.le (.s (.s (.a (.v 0) (.a (.v 0) (.v 1))) (.k 1)) (.v 2)) (.s (.a (.v 0) (.v 1)) (.k 1))) [(.le (.v 0) (.v 2))] (by kernel_rfl) [] [_, _, _] rfl rfl k1)
    have h2 : lo + n - 1 < lo + n := by (exact Mine.Ar.lin 0 3 (.lt (.s (.a (.v 0) (.v 1)) (.k 1)) (.a (.v 0) (.v 1))) [(.lt (.v 2) (.a (.v 0) (.v 1)))] (by kernel_rfl) [] [_, _, _] rfl rfl k2)
    have a := hs lo _ (Nat.le_refl _) h0 (Nat.lt_of_le_of_lt h1 h2)
    have b := hs _ (lo + n - 1) h0 h1 h2
    exact Nat.le_antisymm b (Nat.le_trans (Nat.not_lt.mp hro) a)
  have hend : R r (mirror xs lo (lo + n) ((lo + n - lo) / 2)) (lo + n) = R r xs (lo + n) := by rw [R_mirror hsz, if_neg fun q => Nat.lt_irrefl _ q.2]
  intro i j i1 i2 i3
  rcases Nat.lt_or_eq_of_le (show j ≤ lo + n from Nat.le_of_lt_succ i3) with q | q
  · rw [hall i i1 (Nat.lt_of_le_of_lt i2 q), hall j (Nat.le_trans i1 i2) q]; exact Nat.le_refl _
  · rw [q, hend]
    rcases Nat.lt_or_eq_of_le (q ▸ i2) with w | w
    · rw [hall i i1 w]; exact Nat.le_of_lt hlt
    · rw [w, hend]; exact Nat.le_refl _
theorem one_up {xs : Array Keyed} {lo x i : Nat} (a : lo + x - (0 + 1) ≤ i) (b : i < lo + x) : R r xs i = R r xs (lo + x - 1) := by
  have : i = lo + x - 1 := Nat.le_antisymm (Nat.le_sub_one_of_lt b) a
  rw [this]
theorem wpS_countRun (hC : Ask prog w A s κ r a₀) {st : SortSt} {lo nrem : Nat} {Q : Option Nat → SortSt → Prop} (hB : TB κ a₀ st) (hn : lo + nrem ≤ a₀.size) (h1 : 1 ≤ nrem)
    (h : ∀ m st', Nx κ a₀ lo st st' → 1 ≤ m → m ≤ nrem → Asc r (arrOf st') lo (lo + m) → Q (some m) st') : wpS (model prog w) A E s (countRun' lo nrem) Q st := by
  have B : ∀ {x}, x < nrem → lo + x < a₀.size := fun h => Nat.lt_of_lt_of_le (Nat.add_lt_add_left h lo) hn
  have B1 : ∀ {x}, x < nrem → lo + x - 1 < a₀.size := fun h => Nat.lt_of_le_of_lt (Nat.sub_le _ _) (B h)
  have B2 : ∀ {x}, x ≤ nrem → lo + x ≤ a₀.size := fun h => Nat.le_trans (Nat.add_le_add_left h lo) hn
  rw [countRun'_eq]
  refine wpS_bind (wpS_mono (wpS_forRange (I := fun x c st' => st' = st ∧ c = (none, x) ∧ Asc r (arrOf st) lo (lo + x))
    (Q := fun c st' => st' = st ∧ ∃ n, c = (none, n) ∧ 1 ≤ n ∧ n ≤ nrem ∧ Asc r (arrOf st) lo (lo + n) ∧ (n = nrem ∨ R r (arrOf st) (lo + n) < R r (arrOf st) (lo + n - 1))) ?step ?fin ?init) ?post)
  case init => exact ⟨rfl, rfl, fun i j a b c => by have : i = j := by (exact Mine.Ar.lin 0 3 (.eq (.v 0) (.v 1)) [(.le (.v 2) (.v 0)), (.le (.v 0) (.v 1)), (.lt (.v 1) (.a (.v 2) (.k 1)))] (by kernel_rfl) [] [_, _, _] rfl rfl a b c)
                                                    subst this; exact Nat.le_refl _⟩
  case fin =>
    rintro c st' ⟨rfl, rfl, hs⟩
    rw [show max 1 nrem = nrem by lia] at hs ⊢
    exact ⟨rfl, nrem, rfl, h1, Nat.le_refl _, hs, .inl rfl⟩
  case step =>
    rintro x c st' hx hxn ⟨rfl, rfl, hs⟩
    dsimp only
    refine wpS_bind (wpS_ltR hC hB (B hxn) (B1 hxn) ?_)
    by_cases hl : R r (arrOf st') (lo + x) < R r (arrOf st') (lo + x - 1)
    · rw [decide_eq_true hl]
      simp only [if_true]
      exact wpS_pure ⟨rfl, x, rfl, hx, Nat.le_of_lt hxn, hs, .inr hl⟩
    · rw [decide_eq_false hl]
      simp only [Bool.false_eq_true, if_false]
      exact wpS_pure ⟨rfl, rfl, hs.snoc hx hl⟩
  case post =>
    rintro c st' ⟨rfl, n0, rfl, hn1, hn2, hs, hor⟩
    extract_lets -underBinder -merge +onlyGivenNames cr n
    have hcr : cr = none := rfl
    have hn : n = n0 := rfl
    clear_value cr n
    subst hcr; subst hn
    dsimp -zeta -zetaHave -zetaUnused only
    by_cases hnn : n = nrem
    · rw [if_pos (by simpa using hnn)]
      exact wpS_pure (h n st' (.refl hB) hn1 hn2 hs)
    · rw [if_neg (by simpa using hnn)]
      have hlt := hor.resolve_left hnn
      extract_lets -underBinder -merge +onlyGivenNames jp
      have H1 : ∀ u st2, Nx κ a₀ lo st' st2 → Dsc r (arrOf st2) lo (lo + (n + 1)) → wpS (model prog w) A E s (jp u) Q st2 := by
        intro u st2 hN hD
        clear hlt hor hs
        refine wpS_bind (wpS_lift (wpAny_rule ⟨rfl, ?_⟩))
        refine wpS_bind (wpS_mono (wpS_forRange (I := fun x c st3 => ∃ neq, c = (none, x, neq) ∧ Nx κ a₀ lo st' st3 ∧ Dsc r (arrOf st3) lo (lo + x) ∧ neq + 1 ≤ x ∧ (∀ i, lo + x - (neq + 1) ≤ i → i < lo + x → R r (arrOf st3) i = R r (arrOf st3) (lo + x - 1)))
          (Q := fun c st3 => ∃ m neq, c = (none, m, neq) ∧ n + 1 ≤ m ∧ m ≤ nrem ∧ Nx κ a₀ lo st' st3 ∧ Dsc r (arrOf st3) lo (lo + m) ∧ neq + 1 ≤ m ∧ (∀ i, lo + m - (neq + 1) ≤ i → i < lo + m → R r (arrOf st3) i = R r (arrOf st3) (lo + m - 1))) ?_ ?_ ?_) ?_)
        · rintro x c st3 hx hxn ⟨neq, rfl, hN3, hD3, hq3, he3⟩
          dsimp only
          have hsz : lo + x ≤ (arrOf st3).size := by rw [hN3.tb.size]; exact Nat.le_of_lt (B hxn)
          have hx1 : 1 ≤ x := Nat.le_trans (Nat.le_add_left 1 n) hx
          refine wpS_bind (wpS_ltR hC hN3.tb (B hxn) (B1 hxn) ?_)
          by_cases hl : R r (arrOf st3) (lo + x) < R r (arrOf st3) (lo + x - 1)
          · rw [decide_eq_true hl]
            simp only [if_true]
            by_cases hneq : neq > 0
            · rw [if_pos hneq]
              refine wpS_bind (wpS_reverse (wpS_pure ⟨0, rfl, hN3.mirror (by (exact Mine.Ar.lin 0 3 (.le (.v 0) (.s (.a (.v 0) (.v 1)) (.a (.v 2) (.k 1)))) [(.le (.a (.v 2) (.k 1)) (.v 1))] (by kernel_rfl) [] [_, _, _] rfl rfl hq3)) (Nat.le_of_lt (B hxn)), ?_, Nat.le_add_left _ _, fun i a b => one_up a b⟩))
              refine Dsc.snoc (fun i j a b c => ?_) hx1 ?_
              · show R r (mirror (arrOf st3) _ _ _) j ≤ R r (mirror (arrOf st3) _ _ _) i
                rw [Dsc.mirrorEq hsz hq3 he3, Dsc.mirrorEq hsz hq3 he3]; exact hD3 i j a b c
              · show R r (mirror (arrOf st3) _ _ _) _ ≤ R r (mirror (arrOf st3) _ _ _) _
                rw [Dsc.mirrorEq hsz hq3 he3, Dsc.mirrorEq hsz hq3 he3]; exact Nat.le_of_lt hl
            · rw [if_neg hneq]
              exact wpS_pure ⟨0, rfl, hN3, hD3.snoc hx1 (Nat.le_of_lt hl), Nat.le_add_left _ _, fun i a b => one_up a b⟩
          · rw [decide_eq_false hl]
            simp only [Bool.false_eq_true, if_false]
            refine wpS_bind (wpS_ltR hC hN3.tb (B1 hxn) (B hxn) ?_)
            by_cases hg : R r (arrOf st3) (lo + x - 1) < R r (arrOf st3) (lo + x)
            · rw [decide_eq_true hg]
              simp only [if_true]
              exact wpS_pure ⟨x, neq, rfl, hx, Nat.le_of_lt hxn, hN3, hD3, hq3, he3⟩
            · rw [decide_eq_false hg]
              simp only [Bool.false_eq_true, if_false]
              refine wpS_pure ⟨neq + 1, rfl, hN3, hD3.snoc hx1 (Nat.not_lt.mp hg), Nat.succ_le_succ hq3, fun i a b => ?_⟩
              rw [show lo + (x + 1) - 1 = lo + x by (exact Mine.Ar.lin 0 2 (.eq (.s (.a (.v 0) (.a (.v 1) (.k 1))) (.k 1)) (.a (.v 0) (.v 1))) [] (by kernel_rfl) [] [_, _] rfl rfl )]
              by_cases q : i = lo + x
              · subst q; rfl
              · rw [he3 i (by (exact Mine.Ar.lin 0 4 (.le (.s (.a (.v 0) (.v 1)) (.a (.v 2) (.k 1))) (.v 3)) [(.le (.s (.a (.v 0) (.a (.v 1) (.k 1))) (.a (.a (.v 2) (.k 1)) (.k 1))) (.v 3))] (by kernel_rfl) [] [_, _, _, _] rfl rfl a)) (by (exact Mine.Ar.lin 0 3 (.lt (.v 0) (.a (.v 1) (.v 2))) [(.lt (.v 0) (.a (.v 1) (.a (.v 2) (.k 1)))), (.no (.eq (.v 0) (.a (.v 1) (.v 2))))] (by kernel_rfl) [] [_, _, _] rfl rfl b q))]; (exact Mine.Ar.lin 0 2 (.eq (.v 0) (.v 1)) [(.no (.lt (.v 1) (.v 0))), (.no (.lt (.v 0) (.v 1)))] (by kernel_rfl) [] [_, _] rfl rfl hl hg)
        · rintro c st3 ⟨neq, rfl, hN3, hD3, hq3, he3⟩
          rw [show max (n + 1) nrem = nrem by lia] at hD3 hq3 he3 ⊢
          exact ⟨nrem, neq, rfl, by (exact Mine.Ar.lin 0 2 (.le (.a (.v 0) (.k 1)) (.v 1)) [(.le (.v 0) (.v 1)), (.no (.eq (.v 0) (.v 1)))] (by kernel_rfl) [] [_, _] rfl rfl hn2 hnn), Nat.le_refl _, hN3, hD3, hq3, he3⟩
        · exact ⟨0, rfl, hN, hD, Nat.le_add_left _ _, fun i a b => one_up a b⟩
        · rintro c st3 ⟨m, neq, rfl, hm1, hm2, hN3, hD3, hq3, he3⟩
          extract_lets -underBinder -merge +onlyGivenNames cr u2 m' neq'
          have hcr : cr = none := rfl
          have hm' : m' = m := rfl
          have hneq' : neq' = neq := rfl
          clear_value cr m' neq'
          subst hcr; subst hm'; subst hneq'
          dsimp -zeta -zetaHave -zetaUnused only
          extract_lets -underBinder -merge +onlyGivenNames jp2
          have H2 : ∀ u st5, Nx κ a₀ lo st' st5 → Dsc r (arrOf st5) lo (lo + m') → wpS (model prog w) A E s (jp2 u) Q st5 := by
            intro u st5 hN5 hD5
            have hsz : lo + m' ≤ (arrOf st5).size := by rw [hN5.tb.size]; exact B2 hm2
            clear hN3 hD3 hq3 he3 hN hD
            refine wpS_bind (wpS_reverse ?_)
            have hN6 := hN5.mirror (i := lo) (j := lo + m') (Nat.le_refl _) (B2 hm2)
            refine wpS_bind (wpS_mono (wpS_forRange (I := fun x c st6 => c = (none, x) ∧ Nx κ a₀ lo st' st6 ∧ Asc r (arrOf st6) lo (lo + x))
              (Q := fun c st6 => ∃ k, c = (none, k) ∧ 1 ≤ k ∧ k ≤ nrem ∧ Nx κ a₀ lo st' st6 ∧ Asc r (arrOf st6) lo (lo + k)) ?_ ?_ ?_) ?_)
            · rintro x c st6 hx hxn ⟨rfl, hN7, hA7⟩
              dsimp only
              refine wpS_bind (wpS_ltR hC hN7.tb (B hxn) (B1 hxn) ?_)
              by_cases hl : R r (arrOf st6) (lo + x) < R r (arrOf st6) (lo + x - 1)
              · rw [decide_eq_true hl]
                simp only [if_true]
                exact wpS_pure ⟨x, rfl, by (exact Mine.Ar.lin 0 3 (.le (.k 1) (.v 0)) [(.le (.a (.v 1) (.k 1)) (.v 2)), (.le (.v 2) (.v 0))] (by kernel_rfl) [] [_, _, _] rfl rfl hm1 hx), Nat.le_of_lt hxn, hN7, hA7⟩
              · rw [decide_eq_false hl]
                simp only [Bool.false_eq_true, if_false]
                exact wpS_pure ⟨rfl, hN7, hA7.snoc (by (exact Mine.Ar.lin 0 3 (.le (.k 1) (.v 0)) [(.le (.a (.v 1) (.k 1)) (.v 2)), (.le (.v 2) (.v 0))] (by kernel_rfl) [] [_, _, _] rfl rfl hm1 hx)) hl⟩
            · rintro c st6 ⟨rfl, hN7, hA7⟩
              rw [show max m' nrem = nrem by lia] at hA7 ⊢
              exact ⟨nrem, rfl, h1, Nat.le_refl _, hN7, hA7⟩
            · refine ⟨rfl, hN6, fun i j a b c => ?_⟩
              have hsz5 := hsz
              show R r (mirror (arrOf _) _ _ _) i ≤ R r (mirror (arrOf _) _ _ _) j
              rw [R_mirror hsz5, R_mirror hsz5, if_pos (by (exact Mine.Ar.lin 0 4 (.an (.le (.v 0) (.v 1)) (.lt (.v 1) (.a (.v 0) (.v 2)))) [(.le (.v 0) (.v 1)), (.le (.v 1) (.v 3)), (.lt (.v 3) (.a (.v 0) (.v 2)))] (by kernel_rfl) [] [_, _, _, _] rfl rfl a b c)), if_pos (by (exact Mine.Ar.lin 0 4 (.an (.le (.v 0) (.v 1)) (.lt (.v 1) (.a (.v 0) (.v 2)))) [(.le (.v 0) (.v 3)), (.le (.v 3) (.v 1)), (.lt (.v 1) (.a (.v 0) (.v 2)))] (by kernel_rfl) [] [_, _, _, _] rfl rfl a b c))]
              exact hD5 _ _ (by (exact Mine.Ar.lin 0 3 (.le (.v 0) (.s (.s (.a (.v 0) (.a (.v 0) (.v 1))) (.k 1)) (.v 2))) [(.lt (.v 2) (.a (.v 0) (.v 1)))] (by kernel_rfl) [] [_, _, _] rfl rfl c)) (by (exact Mine.Ar.lin 0 4 (.le (.s (.s (.a (.v 0) (.a (.v 0) (.v 1))) (.k 1)) (.v 2)) (.s (.s (.a (.v 0) (.a (.v 0) (.v 1))) (.k 1)) (.v 3))) [(.le (.v 3) (.v 2))] (by kernel_rfl) [] [_, _, _, _] rfl rfl b)) (by (exact Mine.Ar.lin 0 4 (.lt (.s (.s (.a (.v 0) (.a (.v 0) (.v 1))) (.k 1)) (.v 2)) (.a (.v 0) (.v 1))) [(.le (.a (.v 3) (.k 1)) (.v 1)), (.le (.v 0) (.v 2))] (by kernel_rfl) [] [_, _, _, _] rfl rfl hm1 a))
            · rintro c st6 ⟨k, rfl, hk1, hk2, hN7, hA7⟩
              exact wpS_pure (h k st6 hN7 hk1 hk2 hA7)
          clear_value jp2
          have hsz : lo + m' ≤ (arrOf st3).size := by rw [hN3.tb.size]; exact B2 hm2
          by_cases hneq : neq' > 0
          · rw [if_pos hneq]
            refine wpS_bind (wpS_reverse (H2 _ _ (hN3.mirror (by (exact Mine.Ar.lin 0 3 (.le (.v 0) (.s (.a (.v 0) (.v 1)) (.a (.v 2) (.k 1)))) [(.le (.a (.v 2) (.k 1)) (.v 1))] (by kernel_rfl) [] [_, _, _] rfl rfl hq3)) (by (exact Mine.Ar.lin 0 4 (.le (.a (.v 0) (.v 1)) (.v 2)) [(.le (.a (.v 0) (.v 3)) (.v 2)), (.le (.v 1) (.v 3))] (by kernel_rfl) [] [_, _, _, _] rfl rfl hn hm2))) fun i j a b c => ?_))
            show R r (mirror (arrOf st3) _ _ _) j ≤ R r (mirror (arrOf st3) _ _ _) i
            rw [Dsc.mirrorEq hsz hq3 he3, Dsc.mirrorEq hsz hq3 he3]; exact hD3 i j a b c
          · rw [if_neg hneq]
            exact H2 _ _ hN3 hD3
      clear_value jp
      by_cases hgt : n > 1
      · rw [if_pos hgt]
        refine wpS_bind (wpS_ltR hC hB (by (exact Mine.Ar.lin 0 3 (.lt (.v 0) (.v 1)) [(.le (.a (.v 0) (.v 2)) (.v 1)), (.le (.k 1) (.v 2))] (by kernel_rfl) [] [_, _, _] rfl rfl hn h1)) (by (exact Mine.Ar.lin 0 4 (.lt (.s (.a (.v 0) (.v 1)) (.k 1)) (.v 2)) [(.le (.a (.v 0) (.v 3)) (.v 2)), (.le (.k 1) (.v 3)), (.le (.v 1) (.v 3))] (by kernel_rfl) [] [_, _, _, _] rfl rfl hn h1 hn2)) ?_)
        by_cases hro : R r (arrOf st') lo < R r (arrOf st') (lo + n - 1)
        · rw [decide_eq_true hro]
          simp only [if_true]
          exact wpS_pure (h n st' (.refl hB) hn1 hn2 hs)
        · rw [decide_eq_false hro]
          simp only [Bool.false_eq_true, if_false]
          refine wpS_bind (wpS_reverse ?_)
          exact H1 _ _ ((Nx.refl (lo := lo) hB).mirror (i := lo) (j := lo + n) (Nat.le_refl _) (B2 hn2)) (turned (by rw [hB.size]; exact B2 hn2) hs hro hlt)
      · rw [if_neg hgt]
        refine H1 _ _ (.refl hB) ?_
        have : n = 1 := by (exact Mine.Ar.lin 0 1 (.eq (.v 0) (.k 1)) [(.le (.k 1) (.v 0)), (.no (.lt (.k 1) (.v 0)))] (by kernel_rfl) [] [_] rfl rfl hn1 hgt)
        subst this
        intro i j i1 i2 i3
        by_cases q : i = j
        · subst q; exact Nat.le_refl _
        · have q1 : i = lo := by (exact Mine.Ar.lin 0 3 (.eq (.v 0) (.v 1)) [(.le (.v 1) (.v 0)), (.le (.v 0) (.v 2)), (.lt (.v 2) (.a (.v 1) (.a (.k 1) (.k 1)))), (.no (.eq (.v 0) (.v 2)))] (by kernel_rfl) [] [_, _, _] rfl rfl i1 i2 i3 q)
          have q2 : j = lo + 1 := by (exact Mine.Ar.lin 0 3 (.eq (.v 0) (.a (.v 1) (.k 1))) [(.le (.v 1) (.v 2)), (.le (.v 2) (.v 0)), (.lt (.v 0) (.a (.v 1) (.a (.k 1) (.k 1)))), (.no (.eq (.v 2) (.v 0)))] (by kernel_rfl) [] [_, _, _] rfl rfl i1 i2 i3 q)
          rw [show lo + 1 - 1 = lo by (exact Mine.Ar.lin 0 1 (.eq (.s (.a (.v 0) (.k 1)) (.k 1)) (.v 0)) [] (by kernel_rfl) [] [_] rfl rfl )] at hlt
          rw [q1, q2]
          (exact Mine.Ar.lin 0 2 (.le (.v 0) (.v 1)) [(.lt (.v 0) (.v 1))] (by kernel_rfl) [] [_, _] rfl rfl hlt)
end Tim
end Mine
end

section
set_option Elab.async false
set_option linter.unusedVariables false
set_option linter.unusedSimpArgs false
namespace Mine
namespace Tim
open PySem PyProof.Rows

variable {prog : Program} {w : World} {A : Around} {E : Value → Shared → Prop} {s : Shared} {κ : SortKind} {r : Keyed → Nat} {a₀ : Array Keyed}

theorem mid {l u n x : Nat} (h : l < u) (hx : u - l ≤ n - x) : l + (u - l) / 2 < u ∧ u - (l + (u - l) / 2 + 1) ≤ n - (x + 1) ∧ l + (u - l) / 2 - l ≤ n - (x + 1) := by
  have he : (u - l) / 2 < u - l := Nat.div_lt_self (Nat.sub_pos_of_lt h) (by decide)
  generalize (u - l) / 2 = e at he
  rw [Nat.add_sub_cancel_left]
  exact ⟨Nat.add_lt_of_lt_sub' he, by (exact Mine.Ar.lin 0 5 (.le (.s (.v 0) (.a (.a (.v 1) (.v 2)) (.k 1))) (.s (.v 3) (.a (.v 4) (.k 1)))) [(.le (.s (.v 0) (.v 1)) (.s (.v 3) (.v 4)))] (by kernel_rfl) [] [_, _, _, _, _] rfl rfl hx), by (exact Mine.Ar.lin 0 5 (.le (.v 0) (.s (.v 1) (.a (.v 2) (.k 1)))) [(.le (.s (.v 3) (.v 4)) (.s (.v 1) (.v 2))), (.lt (.v 0) (.s (.v 3) (.v 4)))] (by kernel_rfl) [] [_, _, _, _, _] rfl rfl hx he)⟩
theorem mid2 {l q k x : Nat} (h : l < q) (hx : q - l ≤ k - x) : l ≤ (l + q) / 2 ∧ (l + q) / 2 < q ∧ q - ((l + q) / 2 + 1) ≤ k - (x + 1) ∧ (l + q) / 2 - l ≤ k - (x + 1) := by
  have h1 : l ≤ (l + q) / 2 := (Nat.le_div_iff_mul_le (by decide)).mpr (by lia)
  have h2 : (l + q) / 2 < q := (Nat.div_lt_iff_lt_mul (by decide)).mpr (by lia)
  generalize (l + q) / 2 = e at h1 h2
  exact ⟨h1, h2, by (exact Mine.Ar.lin 0 5 (.le (.s (.v 0) (.a (.v 1) (.k 1))) (.s (.v 2) (.a (.v 3) (.k 1)))) [(.le (.s (.v 0) (.v 4)) (.s (.v 2) (.v 3))), (.le (.v 4) (.v 1))] (by kernel_rfl) [] [_, _, _, _, _] rfl rfl hx h1), by (exact Mine.Ar.lin 0 5 (.le (.s (.v 0) (.v 1)) (.s (.v 2) (.a (.v 3) (.k 1)))) [(.le (.s (.v 4) (.v 1)) (.s (.v 2) (.v 3))), (.lt (.v 0) (.v 4))] (by kernel_rfl) [] [_, _, _, _, _] rfl rfl hx h2)⟩
theorem R_bub {xs : Array Keyed} {src p : Nat} (hs : src < xs.size) (hp : p ≤ src) (k : Nat) (hk : k ≤ src) :
    (k < p → R r (bubble xs src (src - p)) k = R r xs k) ∧ R r (bubble xs src (src - p)) p = R r xs src ∧ (p < k → R r (bubble xs src (src - p)) k = R r xs (k - 1)) := by
  have e : src - (src - p) = p := Nat.sub_sub_self hp
  refine ⟨fun h => ?_, ?_, fun h => ?_⟩
  · rw [R_bubble hs (Nat.sub_le _ _), e, if_neg (Nat.ne_of_lt h), if_neg fun q => Nat.lt_asymm h q.1]
  · rw [R_bubble hs (Nat.sub_le _ _), e, if_pos rfl]
  · rw [R_bubble hs (Nat.sub_le _ _), e, if_neg (Nat.ne_of_gt h), if_pos ⟨h, hk⟩]
theorem bubble_asc {xs : Array Keyed} {lo p src : Nat} (hs : src < xs.size) (hlp : lo ≤ p) (hp : p ≤ src) (ha : Asc r xs lo src) (h1 : ∀ i, lo ≤ i → i < p → R r xs i ≤ R r xs src) (h2 : ∀ i, p ≤ i → i < src → R r xs src < R r xs i) :
    Asc r (bubble xs src (src - p)) lo (src + 1) := by
  intro i j hi hij hj
  have hj' : j ≤ src := Nat.le_of_lt_succ hj
  have ri := R_bub (r := r) hs hp i (Nat.le_trans hij hj')
  have rj := R_bub (r := r) hs hp j hj'
  rcases Nat.lt_trichotomy j p with q | q | q
  · rw [ri.1 (Nat.lt_of_le_of_lt hij q), rj.1 q]
    exact ha i j hi hij (Nat.lt_of_lt_of_le q hp)
  · subst q
    rcases Nat.lt_or_eq_of_le hij with q | q
    · rw [ri.1 q, rj.2.1]; exact h1 i hi q
    · subst q; exact Nat.le_refl _
  · have hj1 : j - 1 < src := Nat.lt_of_lt_of_le (Nat.sub_lt (Nat.lt_of_le_of_lt (Nat.zero_le _) q) Nat.zero_lt_one) hj'
    have hpj : p ≤ j - 1 := Nat.le_sub_one_of_lt q
    rw [rj.2.2 q]
    rcases Nat.lt_trichotomy i p with w | w | w
    · rw [ri.1 w]; exact ha i (j - 1) hi (Nat.le_trans (Nat.le_of_lt w) hpj) hj1
    · rw [w, ri.2.1]; exact Nat.le_of_lt (h2 _ hpj hj1)
    · rw [ri.2.2 w]; exact ha (i - 1) (j - 1) (Nat.le_trans hlp (Nat.le_sub_one_of_lt w)) (Nat.sub_le_sub_right hij 1) hj1
theorem wpS_binarySort (hC : Ask prog w A s κ r a₀) {st : SortSt} {lo n ok : Nat} {Q : Bool → SortSt → Prop} (hn : lo + n ≤ a₀.size) (hok : ok ≤ n) (hB : TB κ a₀ st) (hs : Asc r (arrOf st) lo (lo + ok))
    (h : ∀ st', Nx κ a₀ lo st st' → Asc r (arrOf st') lo (lo + n) → Q true st') : wpS (model prog w) A E s (binarySort' lo n ok) Q st := by
  rw [binarySort'_eq]
  refine wpS_bind (wpS_mono (wpS_forRange (I := fun k c st' => c = (none, ()) ∧ Nx κ a₀ lo st st' ∧ Asc r (arrOf st') lo (lo + min k n))
    (Q := fun c st' => c = (none, ()) ∧ Nx κ a₀ lo st st' ∧ Asc r (arrOf st') lo (lo + n)) ?step ?fin ?init) ?post)
  case post =>
    rintro c st' ⟨rfl, hB', hs'⟩
    exact wpS_pure (h st' hB' hs')
  case init =>
    refine ⟨rfl, .refl hB, fun i j hi hij hj => ?_⟩
    by_cases h1 : ok = 0
    · have : i = j := by lia
      subst this; exact Nat.le_refl _
    · exact hs i j hi hij (by lia)
  case fin =>
    rintro c st' ⟨hc, hB', hs'⟩
    refine ⟨hc, hB', ?_⟩
    rwa [Nat.min_eq_right (Nat.le_max_right _ _)] at hs'
  case step =>
    rintro k c st' hak hkn ⟨rfl, hN', hs'⟩
    rw [Nat.min_eq_left (Nat.le_of_lt hkn)] at hs'
    refine wpS_bind (wpS_mono (wpS_forRange (I := fun x c st'' => st'' = st' ∧ ∃ l q, c = (none, l, q) ∧ l ≤ q ∧ q ≤ k ∧ q - l ≤ k - x ∧
        (∀ i, lo ≤ i → i < lo + l → R r (arrOf st') i ≤ R r (arrOf st') (lo + k)) ∧ (∀ i, lo + q ≤ i → i < lo + k → R r (arrOf st') (lo + k) < R r (arrOf st') i))
      (Q := fun c st'' => st'' = st' ∧ ∃ l q, c = (none, l, q) ∧ l ≤ k ∧
        (∀ i, lo ≤ i → i < lo + l → R r (arrOf st') i ≤ R r (arrOf st') (lo + k)) ∧ (∀ i, lo + l ≤ i → i < lo + k → R r (arrOf st') (lo + k) < R r (arrOf st') i)) ?istep ?ifin ?iinit) ?ipost)
    case iinit => exact ⟨rfl, 0, k, rfl, Nat.zero_le _, Nat.le_refl _, Nat.le_refl _, fun i h1 hi => absurd (Nat.lt_of_le_of_lt h1 hi) (Nat.lt_irrefl _), fun i h1 h2 => absurd (Nat.lt_of_le_of_lt h1 h2) (Nat.lt_irrefl _)⟩
    case ifin =>
      rintro c st'' ⟨rfl, l, q, rfl, hlr, hrk, hm, hlo, hhi⟩
      have : l = q := Nat.le_antisymm hlr (Nat.le_of_sub_eq_zero (Nat.le_zero.mp (Nat.le_trans hm (Nat.le_of_eq (Nat.sub_self _)))))
      subst this
      exact ⟨rfl, l, l, rfl, hrk, hlo, hhi⟩
    case istep =>
      rintro x c st'' _ hxk ⟨rfl, l, q, rfl, hlr, hrk, hm, hlo, hhi⟩
      dsimp only
      by_cases hge : l ≥ q
      · rw [if_pos hge]
        have : l = q := by (exact Mine.Ar.lin 0 2 (.eq (.v 0) (.v 1)) [(.le (.v 0) (.v 1)), (.le (.v 1) (.v 0))] (by kernel_rfl) [] [_, _] rfl rfl hlr hge)
        subst this
        exact wpS_pure ⟨rfl, l, l, rfl, hrk, hlo, hhi⟩
      · rw [if_neg hge]
        obtain ⟨y1, y2, y3, y4⟩ := mid2 (Nat.not_le.mp hge) hm
        have hkz : lo + k < a₀.size := Nat.lt_of_lt_of_le (Nat.add_lt_add_left hkn lo) hn
        have hmk : lo + (l + q) / 2 < lo + k := Nat.add_lt_add_left (Nat.lt_of_lt_of_le y2 hrk) lo
        refine wpS_bind (wpS_ltR hC hN'.tb hkz (Nat.lt_trans hmk hkz) ?_)
        by_cases hless : R r (arrOf st'') (lo + k) < R r (arrOf st'') (lo + (l + q) / 2)
        · rw [decide_eq_true hless]
          simp only [if_true]
          exact wpS_pure ⟨rfl, l, (l + q) / 2, rfl, y1, Nat.le_trans (Nat.le_of_lt y2) hrk, y4, hlo, fun i h1 h2 => Nat.lt_of_lt_of_le hless (hs' (lo + (l + q) / 2) i (Nat.le_add_right _ _) h1 h2)⟩
        · rw [decide_eq_false hless]
          simp only [Bool.false_eq_true, if_false]
          exact wpS_pure ⟨rfl, (l + q) / 2 + 1, q, rfl, y2, hrk, y3, fun i h0 h1 => Nat.le_trans (hs' i (lo + (l + q) / 2) h0 (Nat.le_of_lt_succ h1) hmk) (Nat.not_lt.mp hless), hhi⟩
    case ipost =>
      rintro c st'' ⟨rfl, l, q, rfl, hlk, hlo, hhi⟩
      show wpS _ _ _ _ (do moveDown' (lo + k) (lo + l); pure (ForInStep.yield (none, ()))) _ _
      rw [moveDown'_eq]
      have hkz : lo + k < a₀.size := Nat.lt_of_lt_of_le (Nat.add_lt_add_left hkn lo) hn
      have hks : lo + k < (arrOf st'').size := by rw [hN'.tb.size]; exact hkz
      refine wpS_bind (wpS_modify (wpS_pure ⟨rfl, hN'.bubble hkz (Nat.sub_le _ _) (by rw [Nat.sub_sub_self (Nat.add_le_add_left hlk lo)]; exact Nat.le_add_right _ _), ?_⟩))
      rw [Nat.min_eq_left hkn]
      exact bubble_asc hks (Nat.le_add_right lo l) (Nat.add_le_add_left hlk lo) hs' hlo hhi

noncomputable def By (left : Bool) (x y : Nat) : Bool := if left = true then decide (y < x) else decide (y ≤ x)
theorem By.mono {left : Bool} {x y z : Nat} (h : By left x z = true) (hyz : y ≤ z) : By left x y = true := by
  unfold By at h ⊢
  cases left <;> simp at h ⊢ <;> lia

theorem min_top {a b n : Nat} (h : a ≤ n) : a + min b (n - a) ≤ n := Nat.le_trans (Nat.add_le_add_left (Nat.min_le_right _ _) _) (Nat.le_of_eq (Nat.add_sub_of_le h))
theorem sub_min {l o h : Nat} (h2 : l < o) (h3 : l ≤ h) : h + 1 - min o (h + 1) ≤ h - l := by
  have m : l + 1 ≤ min o (h + 1) := Nat.le_min.mpr ⟨h2, Nat.succ_le_succ h3⟩
  exact Nat.le_trans (Nat.sub_le_sub_left m _) (Nat.le_of_eq (Nat.succ_sub_succ h l))
noncomputable def gallop' : Bool → Keyed → Array Keyed → Nat → Nat → Nat → StateT SortSt Sem (Option Nat) := sortPriv% PySem.Builtin.gallop

theorem wpS_bey (hC : Ask prog w A s κ r a₀) {st : SortSt} {left : Bool} {key p : Keyed} {arr : Array Keyed} {j : Nat} {Q : Option Bool → SortSt → Prop} (hk : kindOf st = κ) (hkey : key ∈ a₀.toList) (hp : arr[j]? = some p) (hm : p ∈ a₀.toList)
    (h : Q (some (By left (r key) (R r arr j))) st) : wpS (model prog w) A E s (elem' arr j >>= fun x => if left = true then lt' x key else lt' key x >>= fun o => pure (o.map fun b => !b)) Q st := by
  rw [R_of hp] at h
  refine wpS_bind (wpS_elem hp ?_)
  cases left with
  | true => exact wpS_lt hC hk hm hkey h
  | false =>
    refine wpS_bind (wpS_lt hC hk hkey hm (wpS_pure ?_))
    have e : (Option.map (fun b => !b) (some (decide (r key < r p)))) = some (By false (r key) (r p)) := by
      simp [By]
      by_cases q : r p ≤ r key
      · simp [q]
      · simp [q]; (exact Mine.Ar.lin 0 2 (.lt (.v 0) (.v 1)) [(.no (.le (.v 1) (.v 0)))] (by kernel_rfl) [] [_, _] rfl rfl q)
    rw [e]; exact h

theorem wpS_gallop (hC : Ask prog w A s κ r a₀) {st : SortSt} {left : Bool} {key : Keyed} {arr : Array Keyed} {base n hint : Nat} {Q : Option Nat → SortSt → Prop} (hk : kindOf st = κ) (hkey : key ∈ a₀.toList)
    (hin : ∀ i, i < n → ∃ p, arr[base + i]? = some p ∧ p ∈ a₀.toList) (hs : Asc r arr base (base + n)) (hh : hint < n)
    (h : ∀ k, k ≤ n → (∀ i, i < k → By left (r key) (R r arr (base + i)) = true) → (∀ i, k ≤ i → i < n → By left (r key) (R r arr (base + i)) = false) → Q (some k) st) :
    wpS (model prog w) A E s (gallop' left key arr base n hint) Q st := by
  unfold gallop'
  have at_ : ∀ i, i < n → ∃ p, arr[base + i]? = some p ∧ p ∈ a₀.toList := hin
  have mono : ∀ i j, i ≤ j → j < n → By left (r key) (R r arr (base + j)) = true → By left (r key) (R r arr (base + i)) = true := fun i j hij hj hb => By.mono hb (hs _ _ (Nat.le_add_right _ _) (Nat.add_le_add_left hij base) (Nat.add_lt_add_left hj base))
  obtain ⟨p0, hp0, hm0⟩ := at_ hint hh
  refine wpS_bind (wpS_bey hC hk hkey hp0 hm0 ?_)
  dsimp -zeta -zetaHave -zetaUnused only
  extract_lets -underBinder -merge +onlyGivenNames jp
  have H : ∀ u la ofs lo hi, (∀ i, i < lo → By left (r key) (R r arr (base + i)) = true) → (∀ i, hi ≤ i → i < n → By left (r key) (R r arr (base + i)) = false) → lo ≤ hi → hi ≤ n → wpS (model prog w) A E s (jp u la ofs lo hi) Q st := by
    clear hp0 hm0 p0
    intro u la ofs lo hi b1 b2 b3 b4
    refine wpS_bind (wpS_mono (wpS_forRange (I := fun x c st'' => st'' = st ∧ ∃ l u, c = (none, l, u) ∧ l ≤ u ∧ u ≤ n ∧ u - l ≤ n - x ∧ (∀ i, i < l → By left (r key) (R r arr (base + i)) = true) ∧ (∀ i, u ≤ i → i < n → By left (r key) (R r arr (base + i)) = false))
    (Q := fun c st'' => st'' = st ∧ ∃ l, c = (none, l, l) ∧ l ≤ n ∧ (∀ i, i < l → By left (r key) (R r arr (base + i)) = true) ∧ (∀ i, l ≤ i → i < n → By left (r key) (R r arr (base + i)) = false)) ?_ ?_ ?_) ?_)
    · rintro x c st'' _ hx ⟨rfl, l, u, rfl, k1, k2, k3, k4, k5⟩
      dsimp only
      by_cases hge : l ≥ u
      · rw [if_pos hge]
        have : l = u := by (exact Mine.Ar.lin 0 2 (.eq (.v 0) (.v 1)) [(.le (.v 0) (.v 1)), (.le (.v 1) (.v 0))] (by kernel_rfl) [] [_, _] rfl rfl k1 hge)
        subst this
        exact wpS_pure ⟨rfl, l, rfl, k2, k4, k5⟩
      · rw [if_neg hge]
        obtain ⟨y1, y2, y3⟩ := mid (Nat.not_le.mp hge) k3
        obtain ⟨p, hp, hm⟩ := at_ (l + (u - l) / 2) (Nat.lt_of_lt_of_le y1 k2)
        refine wpS_bind (wpS_bey hC hk hkey hp hm ?_)
        cases hb2 : By left (r key) (R r arr (base + (l + (u - l) / 2))) with
        | true =>
          simp only [if_true]
          exact wpS_pure ⟨rfl, l + (u - l) / 2 + 1, u, rfl, y1, k2, y2, fun i hi => mono i (l + (u - l) / 2) (Nat.le_of_lt_succ hi) (Nat.lt_of_lt_of_le y1 k2) hb2, k5⟩
        | false =>
          simp only [Bool.false_eq_true, if_false]
          refine wpS_pure ⟨rfl, l, l + (u - l) / 2, rfl, Nat.le_add_right _ _, Nat.le_trans (Nat.le_of_lt y1) k2, y3, k4, fun i hi hn => ?_⟩
          cases e : By left (r key) (R r arr (base + i)) with
          | false => rfl
          | true => have := mono (l + (u - l) / 2) i hi hn e; rw [hb2] at this; cases this
    · rintro c st'' ⟨rfl, l, u, rfl, k1, k2, k3, k4, k5⟩
      have : l = u := Nat.le_antisymm k1 (Nat.le_of_sub_eq_zero (Nat.le_zero.mp (Nat.le_trans k3 (Nat.le_of_eq (Nat.sub_self _)))))
      subst this
      exact ⟨rfl, l, rfl, k2, k4, k5⟩
    · exact ⟨rfl, lo, hi, rfl, b3, b4, Nat.le_trans (Nat.sub_le _ _) b4, b1, b2⟩
    · rintro c st'' ⟨rfl, l, rfl, k2, k4, k5⟩
      exact wpS_pure (h l k2 k4 k5)
  clear_value jp
  cases hb : By left (r key) (R r arr (base + hint)) with
  | true =>
    rw [if_pos rfl]
    refine wpS_bind (wpS_mono (wpS_forRange (I := fun x c st' => st' = st ∧ ∃ last ofs, c = (none, last, ofs) ∧ x < ofs ∧ last < ofs ∧ hint + last < n ∧ By left (r key) (R r arr (base + (hint + last))) = true)
      (Q := fun c st' => st' = st ∧ ∃ last ofs, c = (none, last, ofs) ∧ last < ofs ∧ hint + last < n ∧ By left (r key) (R r arr (base + (hint + last))) = true ∧ (n - hint ≤ ofs ∨ (hint + ofs < n ∧ By left (r key) (R r arr (base + (hint + ofs))) = false))) ?_ ?_ ?_) ?_)
    · rintro x c st' _ hx ⟨rfl, last, ofs, rfl, h1, h2, h3, h4⟩
      dsimp only
      by_cases hge : ofs ≥ n - hint
      · rw [if_pos hge]
        exact wpS_pure ⟨rfl, last, ofs, rfl, h2, h3, h4, .inl hge⟩
      · rw [if_neg hge]
        obtain ⟨p, hp, hm⟩ := at_ (hint + ofs) (by (exact Mine.Ar.lin 0 3 (.lt (.a (.v 0) (.v 1)) (.v 2)) [(.no (.le (.s (.v 2) (.v 0)) (.v 1)))] (by kernel_rfl) [] [_, _, _] rfl rfl hge))
        refine wpS_bind (wpS_bey hC hk hkey hp hm ?_)
        cases hb2 : By left (r key) (R r arr (base + (hint + ofs))) with
        | true =>
          simp only [Bool.not_true, Bool.false_eq_true, if_false]
          exact wpS_pure ⟨rfl, ofs, 2 * ofs + 1, rfl, by (exact Mine.Ar.lin 0 2 (.lt (.a (.v 0) (.k 1)) (.a (.m 2 (.v 1)) (.k 1))) [(.lt (.v 0) (.v 1))] (by kernel_rfl) [] [_, _] rfl rfl h1), by (exact Mine.Ar.lin 0 1 (.lt (.v 0) (.a (.m 2 (.v 0)) (.k 1))) [] (by kernel_rfl) [] [_] rfl rfl ), by (exact Mine.Ar.lin 0 3 (.lt (.a (.v 0) (.v 1)) (.v 2)) [(.no (.le (.s (.v 2) (.v 0)) (.v 1)))] (by kernel_rfl) [] [_, _, _] rfl rfl hge), hb2⟩
        | false =>
          simp only [Bool.not_false, if_true]
          exact wpS_pure ⟨rfl, last, ofs, rfl, h2, h3, h4, .inr ⟨by (exact Mine.Ar.lin 0 3 (.lt (.a (.v 0) (.v 1)) (.v 2)) [(.no (.le (.s (.v 2) (.v 0)) (.v 1)))] (by kernel_rfl) [] [_, _, _] rfl rfl hge), hb2⟩⟩
    · rintro c st' ⟨rfl, last, ofs, rfl, h1, h2, h3, h4⟩
      exact ⟨rfl, last, ofs, rfl, h2, h3, h4, .inl (by lia)⟩
    · exact ⟨rfl, 0, 1, rfl, Nat.zero_lt_one, Nat.zero_lt_one, by (exact Mine.Ar.lin 0 2 (.lt (.a (.v 0) (.k 0)) (.v 1)) [(.lt (.v 0) (.v 1))] (by kernel_rfl) [] [_, _] rfl rfl hh), by simpa using hb⟩
    · rintro c st' ⟨rfl, last, ofs, rfl, h2, h3, h4, hor⟩
      dsimp only
      have b1 : ∀ i, i < hint + last + 1 → By left (r key) (R r arr (base + i)) = true := fun i hi => mono i (hint + last) (Nat.le_of_lt_succ hi) h3 h4
      have b4 : hint + min ofs (n - hint) ≤ n := min_top (Nat.le_of_lt hh)
      have b2 : ∀ i, hint + min ofs (n - hint) ≤ i → i < n → By left (r key) (R r arr (base + i)) = false := fun i hi hn => by
        rcases hor with q | ⟨q1, q2⟩
        · rw [Nat.min_eq_right q, Nat.add_sub_of_le (Nat.le_of_lt hh)] at hi
          exact absurd hn (Nat.not_lt.mpr hi)
        · cases e : By left (r key) (R r arr (base + i)) with
          | false => rfl
          | true => have := mono (hint + ofs) i (Nat.le_trans (Nat.le_of_eq (by rw [Nat.min_eq_left (Nat.le_sub_of_add_le' (Nat.le_of_lt q1))])) hi) hn e; rw [q2] at this; cases this
      have b3 : hint + last + 1 ≤ hint + min ofs (n - hint) := Nat.add_le_add_left (k := hint) (Nat.le_min.mpr ⟨h2, Nat.le_sub_of_add_le' h3⟩)
      exact H _ _ _ _ _ b1 b2 b3 b4
  | false =>
    rw [if_neg (by decide)]
    refine wpS_bind (wpS_mono (wpS_forRange (I := fun x c st' => st' = st ∧ ∃ last ofs, c = (none, last, ofs) ∧ x < ofs ∧ last < ofs ∧ last ≤ hint ∧ By left (r key) (R r arr (base + (hint - last))) = false)
      (Q := fun c st' => st' = st ∧ ∃ last ofs, c = (none, last, ofs) ∧ last < ofs ∧ last ≤ hint ∧ By left (r key) (R r arr (base + (hint - last))) = false ∧ (hint + 1 ≤ ofs ∨ (ofs ≤ hint ∧ By left (r key) (R r arr (base + (hint - ofs))) = true))) ?_ ?_ ?_) ?_)
    · rintro x c st' _ hx ⟨rfl, last, ofs, rfl, h1, h2, h3, h4⟩
      dsimp only
      by_cases hge : ofs ≥ hint + 1
      · rw [if_pos hge]
        exact wpS_pure ⟨rfl, last, ofs, rfl, h2, h3, h4, .inl hge⟩
      · rw [if_neg hge]
        obtain ⟨p, hp, hm⟩ := at_ (hint - ofs) (by (exact Mine.Ar.lin 0 3 (.lt (.s (.v 0) (.v 1)) (.v 2)) [(.lt (.v 0) (.v 2))] (by kernel_rfl) [] [_, _, _] rfl rfl hh))
        refine wpS_bind (wpS_bey hC hk hkey hp hm ?_)
        cases hb2 : By left (r key) (R r arr (base + (hint - ofs))) with
        | true =>
          simp only [if_true]
          exact wpS_pure ⟨rfl, last, ofs, rfl, h2, h3, h4, .inr ⟨by (exact Mine.Ar.lin 0 2 (.le (.v 0) (.v 1)) [(.no (.le (.a (.v 1) (.k 1)) (.v 0)))] (by kernel_rfl) [] [_, _] rfl rfl hge), hb2⟩⟩
        | false =>
          simp only [Bool.false_eq_true, if_false]
          exact wpS_pure ⟨rfl, ofs, 2 * ofs + 1, rfl, by (exact Mine.Ar.lin 0 2 (.lt (.a (.v 0) (.k 1)) (.a (.m 2 (.v 1)) (.k 1))) [(.lt (.v 0) (.v 1))] (by kernel_rfl) [] [_, _] rfl rfl h1), by (exact Mine.Ar.lin 0 1 (.lt (.v 0) (.a (.m 2 (.v 0)) (.k 1))) [] (by kernel_rfl) [] [_] rfl rfl ), by (exact Mine.Ar.lin 0 2 (.le (.v 0) (.v 1)) [(.no (.le (.a (.v 1) (.k 1)) (.v 0)))] (by kernel_rfl) [] [_, _] rfl rfl hge), hb2⟩
    · rintro c st' ⟨rfl, last, ofs, rfl, h1, h2, h3, h4⟩
      exact ⟨rfl, last, ofs, rfl, h2, h3, h4, .inl (by lia)⟩
    · exact ⟨rfl, 0, 1, rfl, Nat.zero_lt_one, Nat.zero_lt_one, by (exact Mine.Ar.lin 0 1 (.le (.k 0) (.v 0)) [] (by kernel_rfl) [] [_] rfl rfl ), by simpa using hb⟩
    · rintro c st' ⟨rfl, last, ofs, rfl, h2, h3, h4, hor⟩
      dsimp only
      have b1 : ∀ i, i < hint + 1 - min ofs (hint + 1) → By left (r key) (R r arr (base + i)) = true := fun i hi => by
        rcases hor with q | ⟨q1, q2⟩
        · rw [Nat.min_eq_right q, Nat.sub_self] at hi
          exact absurd hi (Nat.not_lt_zero _)
        · rw [Nat.min_eq_left (Nat.le_succ_of_le q1), Nat.succ_sub q1] at hi
          exact mono i (hint - ofs) (Nat.le_of_lt_succ hi) (by (exact Mine.Ar.lin 0 3 (.lt (.s (.v 0) (.v 1)) (.v 2)) [(.lt (.v 0) (.v 2))] (by kernel_rfl) [] [_, _, _] rfl rfl hh)) q2
      have b2 : ∀ i, hint - last ≤ i → i < n → By left (r key) (R r arr (base + i)) = false := fun i hi hn => by
        cases e : By left (r key) (R r arr (base + i)) with
        | false => rfl
        | true => have := mono (hint - last) i hi hn e; rw [h4] at this; cases this
      have b3 : hint + 1 - min ofs (hint + 1) ≤ hint - last := sub_min h2 h3
      have b4 : hint - last ≤ n := Nat.le_trans (Nat.sub_le _ _) (Nat.le_of_lt hh)
      exact H _ _ _ _ _ b1 b2 b3 b4
end Tim
end Mine
end

section
set_option Elab.async false
set_option linter.unusedVariables false
set_option linter.unusedSimpArgs false
namespace Mine
namespace Tim
open PySem PyProof.Rows

variable {prog : Program} {w : World} {A : Around} {E : Value → Shared → Prop} {s : Shared} {κ : SortKind} {r : Keyed → Nat} {a₀ : Array Keyed}

noncomputable def Srt (r : Keyed → Nat) (l : List Keyed) : Prop := l.Pairwise fun x y => r x ≤ r y
theorem Asc.srt {xs : Array Keyed} (h : Asc r xs 0 xs.size) : Srt r xs.toList := by
  unfold Srt
  rw [List.pairwise_iff_getElem]
  intro i j hi hj hij
  have := h i j (by (exact Mine.Ar.lin 0 1 (.le (.k 0) (.v 0)) [] (by kernel_rfl) [] [_] rfl rfl )) (by (exact Mine.Ar.lin 0 2 (.le (.v 0) (.v 1)) [(.lt (.v 0) (.v 1))] (by kernel_rfl) [] [_, _] rfl rfl hij)) (by simpa using hj)
  have e1 : R r xs i = r xs.toList[i] := R_of (by simp at hi; simp [hi])
  have e2 : R r xs j = r xs.toList[j] := R_of (by simp at hj; simp [hj])
  rw [← e1, ← e2]; exact this
theorem mem_ext {xs : Array Keyed} {i k : Nat} {x : Keyed} (h : x ∈ ((xs.toList.drop i).take k)) : ∃ j, i ≤ j ∧ j < i + k ∧ j < xs.size ∧ R r xs j = r x := by
  obtain ⟨n, hn, rfl⟩ := List.mem_iff_getElem.mp h
  simp at hn
  have hn := Nat.lt_min.mp hn
  refine ⟨i + n, by (exact Mine.Ar.lin 0 2 (.le (.v 0) (.a (.v 0) (.v 1))) [] (by kernel_rfl) [] [_, _] rfl rfl ), Nat.add_lt_add_left hn.1 _, Nat.add_lt_of_lt_sub' hn.2, R_of ?_⟩
  simp [show i + n < xs.size from Nat.add_lt_of_lt_sub' hn.2]
theorem toList_ext (xs : Array Keyed) (i j : Nat) : (xs.extract i j).toList = (xs.toList.drop i).take (j - i) := by
  rw [Array.toList_extract, List.extract_eq_take_drop]
theorem ext_one {xs : Array Keyed} {i : Nat} {x : Keyed} (h : xs[i]? = some x) : xs.extract i (i + 1) = #[x] := by
  have hi : i < xs.size := by
    rcases Nat.lt_or_ge i xs.size with q | q
    · exact q
    · rw [Array.getElem?_eq_none q] at h; cases h
  have hx : xs[i] = x := by rw [Array.getElem?_eq_getElem hi] at h; exact Option.some.inj h
  apply Array.toList_inj.mp
  rw [toList_ext]
  rw [show i + 1 - i = 1 by (exact Mine.Ar.lin 0 1 (.eq (.s (.a (.v 0) (.k 1)) (.v 0)) (.k 1)) [] (by kernel_rfl) [] [_] rfl rfl ), List.drop_eq_getElem_cons (by simpa using hi)]
  simp [hx]

structure MI (r : Keyed → Nat) (a b out : Array Keyed) (ia ib : Nat) : Prop where
  perm : (out.toList ++ (a.toList.drop ia ++ b.toList.drop ib)).Perm (a.toList ++ b.toList)
  srt : Srt r out.toList
  leA : ∀ x ∈ out.toList, ∀ i, ia ≤ i → i < a.size → r x ≤ R r a i
  leB : ∀ x ∈ out.toList, ∀ i, ib ≤ i → i < b.size → r x ≤ R r b i
noncomputable def Fin' (r : Keyed → Nat) (a b res : Array Keyed) : Prop := res.toList.Perm (a.toList ++ b.toList) ∧ Srt r res.toList
theorem Srt.ext {xs : Array Keyed} (h : Asc r xs 0 xs.size) (i k : Nat) : Srt r ((xs.toList.drop i).take k) := List.Pairwise.sublist ((List.take_sublist _ _).trans (List.drop_sublist _ _)) h.srt
theorem MI.takeA {a b out : Array Keyed} {ia ib k : Nat} (h : MI r a b out ia ib) (ha : Asc r a 0 a.size) (hk : ∀ i, ia ≤ i → i < ia + k → ∀ j, ib ≤ j → j < b.size → R r a i ≤ R r b j) (hkz : ia + k ≤ a.size) : MI r a b (out ++ a.extract ia (ia + k)) (ia + k) ib := by
  have e : (out ++ a.extract ia (ia + k)).toList = out.toList ++ (a.toList.drop ia).take k := by rw [Array.toList_append, toList_ext, show ia + k - ia = k by (exact Mine.Ar.lin 0 2 (.eq (.s (.a (.v 0) (.v 1)) (.v 0)) (.v 1)) [] (by kernel_rfl) [] [_, _] rfl rfl )]
  refine ⟨?_, ?_, fun x hx i h1 h2 => ?_, fun x hx i h1 h2 => ?_⟩
  · rw [e, List.append_assoc, ← List.append_assoc ((a.toList.drop ia).take k), ← List.drop_drop, List.take_append_drop]
    exact h.perm
  · rw [e]
    refine List.pairwise_append.mpr ⟨h.srt, Srt.ext ha _ _, fun x hx y hy => ?_⟩
    obtain ⟨j, j1, j2, j3, j4⟩ := mem_ext (r := r) hy
    rw [← j4]; exact h.leA x hx j j1 j3
  · rw [e] at hx
    rcases List.mem_append.mp hx with hx | hx
    · exact h.leA x hx i (by (exact Mine.Ar.lin 0 3 (.le (.v 0) (.v 1)) [(.le (.a (.v 0) (.v 2)) (.v 1))] (by kernel_rfl) [] [_, _, _] rfl rfl h1)) h2
    · obtain ⟨j, j1, j2, j3, j4⟩ := mem_ext (r := r) hx
      rw [← j4]; exact ha j i (by (exact Mine.Ar.lin 0 1 (.le (.k 0) (.v 0)) [] (by kernel_rfl) [] [_] rfl rfl )) (by (exact Mine.Ar.lin 0 4 (.le (.v 0) (.v 1)) [(.le (.a (.v 2) (.v 3)) (.v 1)), (.lt (.v 0) (.a (.v 2) (.v 3)))] (by kernel_rfl) [] [_, _, _, _] rfl rfl h1 j2)) h2
  · rw [e] at hx
    rcases List.mem_append.mp hx with hx | hx
    · exact h.leB x hx i h1 h2
    · obtain ⟨j, j1, j2, j3, j4⟩ := mem_ext (r := r) hx
      rw [← j4]; exact hk j j1 j2 i h1 h2
theorem MI.takeB {a b out : Array Keyed} {ia ib k : Nat} (h : MI r a b out ia ib) (hb : Asc r b 0 b.size) (hk : ∀ i, ib ≤ i → i < ib + k → ∀ j, ia ≤ j → j < a.size → R r b i ≤ R r a j) (hkz : ib + k ≤ b.size) : MI r a b (out ++ b.extract ib (ib + k)) ia (ib + k) := by
  have e : (out ++ b.extract ib (ib + k)).toList = out.toList ++ (b.toList.drop ib).take k := by rw [Array.toList_append, toList_ext, show ib + k - ib = k by (exact Mine.Ar.lin 0 2 (.eq (.s (.a (.v 0) (.v 1)) (.v 0)) (.v 1)) [] (by kernel_rfl) [] [_, _] rfl rfl )]
  refine ⟨?_, ?_, fun x hx i h1 h2 => ?_, fun x hx i h1 h2 => ?_⟩
  · rw [e, List.append_assoc, ← List.drop_drop]
    refine List.Perm.trans (List.Perm.append_left _ ?_) h.perm
    refine List.Perm.trans (List.perm_append_comm_assoc _ _ _) (List.Perm.append_left _ ?_)
    rw [List.take_append_drop]
  · rw [e]
    refine List.pairwise_append.mpr ⟨h.srt, Srt.ext hb _ _, fun x hx y hy => ?_⟩
    obtain ⟨j, j1, j2, j3, j4⟩ := mem_ext (r := r) hy
    rw [← j4]; exact h.leB x hx j j1 j3
  · rw [e] at hx
    rcases List.mem_append.mp hx with hx | hx
    · exact h.leA x hx i h1 h2
    · obtain ⟨j, j1, j2, j3, j4⟩ := mem_ext (r := r) hx
      rw [← j4]; exact hk j j1 j2 i h1 h2
  · rw [e] at hx
    rcases List.mem_append.mp hx with hx | hx
    · exact h.leB x hx i (by (exact Mine.Ar.lin 0 3 (.le (.v 0) (.v 1)) [(.le (.a (.v 0) (.v 2)) (.v 1))] (by kernel_rfl) [] [_, _, _] rfl rfl h1)) h2
    · obtain ⟨j, j1, j2, j3, j4⟩ := mem_ext (r := r) hx
      rw [← j4]; exact hb j i (by (exact Mine.Ar.lin 0 1 (.le (.k 0) (.v 0)) [] (by kernel_rfl) [] [_] rfl rfl )) (by (exact Mine.Ar.lin 0 4 (.le (.v 0) (.v 1)) [(.le (.a (.v 2) (.v 3)) (.v 1)), (.lt (.v 0) (.a (.v 2) (.v 3)))] (by kernel_rfl) [] [_, _, _, _] rfl rfl h1 j2)) h2
theorem push_ext {out : Array Keyed} {xs : Array Keyed} {i : Nat} {x : Keyed} (h : xs[i]? = some x) : out.push x = out ++ xs.extract i (i + 1) := by
  rw [ext_one h, Array.push_eq_append]
theorem lt_of_get {xs : Array Keyed} {i : Nat} {x : Keyed} (h : xs[i]? = some x) : i < xs.size := by
  rcases Nat.lt_or_ge i xs.size with q | q
  · exact q
  · rw [Array.getElem?_eq_none q] at h; cases h
theorem MI.pushA {a b out : Array Keyed} {ia ib : Nat} {x : Keyed} (h : MI r a b out ia ib) (ha : Asc r a 0 a.size) (hx : a[ia]? = some x) (hk : ∀ j, ib ≤ j → j < b.size → r x ≤ R r b j) : MI r a b (out.push x) (ia + 1) ib := by
  rw [push_ext hx]
  refine h.takeA ha (fun i i1 i2 j j1 j2 => ?_) (lt_of_get hx)
  have : i = ia := by (exact Mine.Ar.lin 0 2 (.eq (.v 0) (.v 1)) [(.le (.v 1) (.v 0)), (.lt (.v 0) (.a (.v 1) (.k 1)))] (by kernel_rfl) [] [_, _] rfl rfl i1 i2)
  subst this
  rw [R_of hx]; exact hk j j1 j2
theorem MI.pushB {a b out : Array Keyed} {ia ib : Nat} {x : Keyed} (h : MI r a b out ia ib) (hb : Asc r b 0 b.size) (hx : b[ib]? = some x) (hk : ∀ j, ia ≤ j → j < a.size → r x ≤ R r a j) : MI r a b (out.push x) ia (ib + 1) := by
  rw [push_ext hx]
  refine h.takeB hb (fun i i1 i2 j j1 j2 => ?_) (lt_of_get hx)
  have : i = ib := by (exact Mine.Ar.lin 0 2 (.eq (.v 0) (.v 1)) [(.le (.v 1) (.v 0)), (.lt (.v 0) (.a (.v 1) (.k 1)))] (by kernel_rfl) [] [_, _] rfl rfl i1 i2)
  subst this
  rw [R_of hx]; exact hk j j1 j2
theorem extract_end (xs : Array Keyed) (i : Nat) : (xs.extract i).toList = xs.toList.drop i := by
  rw [toList_ext, List.take_of_length_le (by simp)]
theorem MI.done {a b out : Array Keyed} {ia ib : Nat} (h : MI r a b out ia ib) (ha : Asc r a 0 a.size) (hb : Asc r b 0 b.size) (hi : ib = b.size ∨ ia = a.size) : Fin' r a b (out ++ a.extract ia ++ b.extract ib) := by
  have e : (out ++ a.extract ia ++ b.extract ib).toList = out.toList ++ (a.toList.drop ia ++ b.toList.drop ib) := by
    rw [Array.toList_append, Array.toList_append, extract_end, extract_end, List.append_assoc]
  refine ⟨by rw [e]; exact h.perm, ?_⟩
  rw [e]
  have hm : ∀ {xs : Array Keyed} {i : Nat} {y : Keyed}, y ∈ xs.toList.drop i → ∃ j, i ≤ j ∧ j < xs.size ∧ R r xs j = r y := fun {xs i y} hy => by
    have hy' : y ∈ (xs.toList.drop i).take xs.size := by rw [List.take_of_length_le (by simp)]; exact hy
    obtain ⟨j, j1, _, j3, j4⟩ := mem_ext (r := r) hy'
    exact ⟨j, j1, j3, j4⟩
  refine List.pairwise_append.mpr ⟨h.srt, ?_, fun x hx y hy => ?_⟩
  · rcases hi with q | q
    · rw [List.drop_eq_nil_of_le (as := b.toList) (by simp; (exact Mine.Ar.lin 0 2 (.le (.v 0) (.v 1)) [(.eq (.v 1) (.v 0))] (by kernel_rfl) [] [_, _] rfl rfl q)), List.append_nil]; exact List.Pairwise.sublist (List.drop_sublist _ _) ha.srt
    · rw [List.drop_eq_nil_of_le (as := a.toList) (by simp; (exact Mine.Ar.lin 0 2 (.le (.v 0) (.v 1)) [(.eq (.v 1) (.v 0))] (by kernel_rfl) [] [_, _] rfl rfl q)), List.nil_append]; exact List.Pairwise.sublist (List.drop_sublist _ _) hb.srt
  · rcases List.mem_append.mp hy with hy | hy
    · obtain ⟨j, j1, j3, j4⟩ := hm hy; rw [← j4]; exact h.leA x hx j j1 j3
    · obtain ⟨j, j1, j3, j4⟩ := hm hy; rw [← j4]; exact h.leB x hx j j1 j3
theorem MI.last {a b out : Array Keyed} {ia ib : Nat} (h : MI r a b out ia ib) (ha : Asc r a 0 a.size) (hb : Asc r b 0 b.size) (hi : ia + 1 = a.size) (hl : ∀ j, j < b.size → R r b j ≤ R r a (a.size - 1)) : Fin' r a b (out ++ b.extract ib ++ a.extract ia) := by
  have e : (out ++ b.extract ib ++ a.extract ia).toList = out.toList ++ (b.toList.drop ib ++ a.toList.drop ia) := by
    rw [Array.toList_append, Array.toList_append, extract_end, extract_end, List.append_assoc]
  have hm : ∀ {xs : Array Keyed} {i : Nat} {y : Keyed}, y ∈ xs.toList.drop i → ∃ j, i ≤ j ∧ j < xs.size ∧ R r xs j = r y := fun {xs i y} hy => by
    have hy' : y ∈ (xs.toList.drop i).take xs.size := by rw [List.take_of_length_le (by simp)]; exact hy
    obtain ⟨j, j1, _, j3, j4⟩ := mem_ext (r := r) hy'
    exact ⟨j, j1, j3, j4⟩
  refine ⟨by rw [e]; exact (List.Perm.append_left _ List.perm_append_comm).trans h.perm, ?_⟩
  rw [e]
  refine List.pairwise_append.mpr ⟨h.srt, ?_, fun x hx y hy => ?_⟩
  · refine List.pairwise_append.mpr ⟨List.Pairwise.sublist (List.drop_sublist _ _) hb.srt, List.Pairwise.sublist (List.drop_sublist _ _) ha.srt, fun x hx y hy => ?_⟩
    obtain ⟨j, j1, j3, j4⟩ := hm hx
    obtain ⟨k, k1, k3, k4⟩ := hm hy
    have : k = a.size - 1 := by (exact Mine.Ar.lin 0 3 (.eq (.v 0) (.s (.v 1) (.k 1))) [(.eq (.a (.v 2) (.k 1)) (.v 1)), (.le (.v 2) (.v 0)), (.lt (.v 0) (.v 1))] (by kernel_rfl) [] [_, _, _] rfl rfl hi k1 k3)
    rw [← j4, ← k4, this]; exact hl j j3
  · rcases List.mem_append.mp hy with hy | hy
    · obtain ⟨j, j1, j3, j4⟩ := hm hy; rw [← j4]; exact h.leB x hx j j1 j3
    · obtain ⟨j, j1, j3, j4⟩ := hm hy; rw [← j4]; exact h.leA x hx j j1 j3

structure MJ (r : Keyed → Nat) (a b out : Array Keyed) (na nb : Nat) : Prop where
  perm : ((a.toList.take na ++ b.toList.take nb) ++ out.toList.reverse).Perm (a.toList ++ b.toList)
  srt : Srt r out.toList.reverse
  leA : ∀ x ∈ out.toList, ∀ i, i < na → i < a.size → R r a i ≤ r x
  leB : ∀ x ∈ out.toList, ∀ i, i < nb → i < b.size → R r b i ≤ r x
theorem take_split {xs : List Keyed} {k n : Nat} (h : k ≤ n) : xs.take n = xs.take k ++ (xs.drop k).take (n - k) := by
  have e := List.take_append_drop k (xs.take n)
  rw [List.take_take, List.drop_take, show min k n = k by lia] at e
  exact e.symm
theorem MJ.takeA {a b out : Array Keyed} {na nb k : Nat} (h : MJ r a b out na nb) (ha : Asc r a 0 a.size) (hk : ∀ i, k ≤ i → i < na → ∀ j, j < nb → j < b.size → R r b j ≤ R r a i) (hkn : k ≤ na) (hn : na ≤ a.size) : MJ r a b (out ++ (a.extract k na).reverse) k nb := by
  have e : (out ++ (a.extract k na).reverse).toList = out.toList ++ ((a.toList.drop k).take (na - k)).reverse := by rw [Array.toList_append, Array.toList_reverse, toList_ext]
  have er : (out ++ (a.extract k na).reverse).toList.reverse = (a.toList.drop k).take (na - k) ++ out.toList.reverse := by rw [e]; simp
  refine ⟨?_, ?_, fun x hx i h1 h2 => ?_, fun x hx i h1 h2 => ?_⟩
  · rw [er]
    refine List.Perm.trans ?_ h.perm
    rw [take_split hkn (xs := a.toList), ← List.append_assoc]
    refine List.Perm.append_right _ ?_
    rw [List.append_assoc, List.append_assoc]
    exact List.Perm.append_left _ List.perm_append_comm
  · rw [er]
    refine List.pairwise_append.mpr ⟨Srt.ext ha _ _, h.srt, fun x hx y hy => ?_⟩
    obtain ⟨j, j1, j2, j3, j4⟩ := mem_ext (r := r) hx
    rw [← j4]; exact h.leA y (List.mem_reverse.mp hy) j (by (exact Mine.Ar.lin 0 3 (.lt (.v 0) (.v 1)) [(.le (.v 2) (.v 1)), (.lt (.v 0) (.a (.v 2) (.s (.v 1) (.v 2))))] (by kernel_rfl) [] [_, _, _] rfl rfl hkn j2)) j3
  · rw [e] at hx
    rcases List.mem_append.mp hx with hx | hx
    · exact h.leA x hx i (by (exact Mine.Ar.lin 0 3 (.lt (.v 0) (.v 1)) [(.le (.v 2) (.v 1)), (.lt (.v 0) (.v 2))] (by kernel_rfl) [] [_, _, _] rfl rfl hkn h1)) h2
    · obtain ⟨j, j1, j2, j3, j4⟩ := mem_ext (r := r) (List.mem_reverse.mp hx)
      rw [← j4]; exact ha i j (by (exact Mine.Ar.lin 0 1 (.le (.k 0) (.v 0)) [] (by kernel_rfl) [] [_] rfl rfl )) (by (exact Mine.Ar.lin 0 3 (.le (.v 0) (.v 1)) [(.lt (.v 0) (.v 2)), (.le (.v 2) (.v 1))] (by kernel_rfl) [] [_, _, _] rfl rfl h1 j1)) j3
  · rw [e] at hx
    rcases List.mem_append.mp hx with hx | hx
    · exact h.leB x hx i h1 h2
    · obtain ⟨j, j1, j2, j3, j4⟩ := mem_ext (r := r) (List.mem_reverse.mp hx)
      rw [← j4]; exact hk j j1 (by (exact Mine.Ar.lin 0 3 (.lt (.v 0) (.v 1)) [(.le (.v 2) (.v 1)), (.lt (.v 0) (.a (.v 2) (.s (.v 1) (.v 2))))] (by kernel_rfl) [] [_, _, _] rfl rfl hkn j2)) i h1 h2
theorem MJ.takeB {a b out : Array Keyed} {na nb k : Nat} (h : MJ r a b out na nb) (hb : Asc r b 0 b.size) (hk : ∀ i, k ≤ i → i < nb → ∀ j, j < na → j < a.size → R r a j ≤ R r b i) (hkn : k ≤ nb) (hn : nb ≤ b.size) : MJ r a b (out ++ (b.extract k nb).reverse) na k := by
  have e : (out ++ (b.extract k nb).reverse).toList = out.toList ++ ((b.toList.drop k).take (nb - k)).reverse := by rw [Array.toList_append, Array.toList_reverse, toList_ext]
  have er : (out ++ (b.extract k nb).reverse).toList.reverse = (b.toList.drop k).take (nb - k) ++ out.toList.reverse := by rw [e]; simp
  refine ⟨?_, ?_, fun x hx i h1 h2 => ?_, fun x hx i h1 h2 => ?_⟩
  · rw [er]
    refine List.Perm.trans ?_ h.perm
    rw [take_split hkn (xs := b.toList), ← List.append_assoc, ← List.append_assoc]
  · rw [er]
    refine List.pairwise_append.mpr ⟨Srt.ext hb _ _, h.srt, fun x hx y hy => ?_⟩
    obtain ⟨j, j1, j2, j3, j4⟩ := mem_ext (r := r) hx
    rw [← j4]; exact h.leB y (List.mem_reverse.mp hy) j (by (exact Mine.Ar.lin 0 3 (.lt (.v 0) (.v 1)) [(.le (.v 2) (.v 1)), (.lt (.v 0) (.a (.v 2) (.s (.v 1) (.v 2))))] (by kernel_rfl) [] [_, _, _] rfl rfl hkn j2)) j3
  · rw [e] at hx
    rcases List.mem_append.mp hx with hx | hx
    · exact h.leA x hx i h1 h2
    · obtain ⟨j, j1, j2, j3, j4⟩ := mem_ext (r := r) (List.mem_reverse.mp hx)
      rw [← j4]; exact hk j j1 (by (exact Mine.Ar.lin 0 3 (.lt (.v 0) (.v 1)) [(.le (.v 2) (.v 1)), (.lt (.v 0) (.a (.v 2) (.s (.v 1) (.v 2))))] (by kernel_rfl) [] [_, _, _] rfl rfl hkn j2)) i h1 h2
  · rw [e] at hx
    rcases List.mem_append.mp hx with hx | hx
    · exact h.leB x hx i (by (exact Mine.Ar.lin 0 3 (.lt (.v 0) (.v 1)) [(.le (.v 2) (.v 1)), (.lt (.v 0) (.v 2))] (by kernel_rfl) [] [_, _, _] rfl rfl hkn h1)) h2
    · obtain ⟨j, j1, j2, j3, j4⟩ := mem_ext (r := r) (List.mem_reverse.mp hx)
      rw [← j4]; exact hb i j (by (exact Mine.Ar.lin 0 1 (.le (.k 0) (.v 0)) [] (by kernel_rfl) [] [_] rfl rfl )) (by (exact Mine.Ar.lin 0 3 (.le (.v 0) (.v 1)) [(.lt (.v 0) (.v 2)), (.le (.v 2) (.v 1))] (by kernel_rfl) [] [_, _, _] rfl rfl h1 j1)) j3
theorem push_rev {out xs : Array Keyed} {i : Nat} {x : Keyed} (h : xs[i]? = some x) : out.push x = out ++ (xs.extract i (i + 1)).reverse := by
  rw [ext_one h, Array.push_eq_append]; simp
theorem MJ.pushA {a b out : Array Keyed} {na nb : Nat} {x : Keyed} (h : MJ r a b out na nb) (ha : Asc r a 0 a.size) (h1 : 1 ≤ na) (hn : na ≤ a.size) (hx : a[na - 1]? = some x) (hk : ∀ j, j < nb → j < b.size → R r b j ≤ r x) : MJ r a b (out.push x) (na - 1) nb := by
  rw [push_rev hx, show na - 1 + 1 = na by (exact Mine.Ar.lin 0 1 (.eq (.a (.s (.v 0) (.k 1)) (.k 1)) (.v 0)) [(.le (.k 1) (.v 0))] (by kernel_rfl) [] [_] rfl rfl h1)]
  refine h.takeA ha (fun i i1 i2 j j1 j2 => ?_) (by (exact Mine.Ar.lin 0 1 (.le (.s (.v 0) (.k 1)) (.v 0)) [] (by kernel_rfl) [] [_] rfl rfl )) hn
  have : i = na - 1 := by (exact Mine.Ar.lin 0 2 (.eq (.v 0) (.s (.v 1) (.k 1))) [(.le (.s (.v 1) (.k 1)) (.v 0)), (.lt (.v 0) (.v 1))] (by kernel_rfl) [] [_, _] rfl rfl i1 i2)
  subst this
  rw [R_of hx]; exact hk j j1 j2
theorem MJ.pushB {a b out : Array Keyed} {na nb : Nat} {x : Keyed} (h : MJ r a b out na nb) (hb : Asc r b 0 b.size) (h1 : 1 ≤ nb) (hn : nb ≤ b.size) (hx : b[nb - 1]? = some x) (hk : ∀ j, j < na → j < a.size → R r a j ≤ r x) : MJ r a b (out.push x) na (nb - 1) := by
  rw [push_rev hx, show nb - 1 + 1 = nb by (exact Mine.Ar.lin 0 1 (.eq (.a (.s (.v 0) (.k 1)) (.k 1)) (.v 0)) [(.le (.k 1) (.v 0))] (by kernel_rfl) [] [_] rfl rfl h1)]
  refine h.takeB hb (fun i i1 i2 j j1 j2 => ?_) (by (exact Mine.Ar.lin 0 1 (.le (.s (.v 0) (.k 1)) (.v 0)) [] (by kernel_rfl) [] [_] rfl rfl )) hn
  have : i = nb - 1 := by (exact Mine.Ar.lin 0 2 (.eq (.v 0) (.s (.v 1) (.k 1))) [(.le (.s (.v 1) (.k 1)) (.v 0)), (.lt (.v 0) (.v 1))] (by kernel_rfl) [] [_, _] rfl rfl i1 i2)
  subst this
  rw [R_of hx]; exact hk j j1 j2
theorem mem_tk {xs : Array Keyed} {k : Nat} {x : Keyed} (h : x ∈ xs.toList.take k) : ∃ j, j < k ∧ j < xs.size ∧ R r xs j = r x := by
  have : x ∈ (xs.toList.drop 0).take k := h
  obtain ⟨j, _, j2, j3, j4⟩ := mem_ext (r := r) this
  exact ⟨j, by (exact Mine.Ar.lin 0 2 (.lt (.v 0) (.v 1)) [(.lt (.v 0) (.a (.k 0) (.v 1)))] (by kernel_rfl) [] [_, _] rfl rfl j2), j3, j4⟩
theorem MJ.done {a b out : Array Keyed} {na nb : Nat} (h : MJ r a b out na nb) (ha : Asc r a 0 a.size) (hb : Asc r b 0 b.size) (hi : na = 0 ∨ nb = 0) : Fin' r a b (a.extract 0 na ++ b.extract 0 nb ++ out.reverse) := by
  have e : (a.extract 0 na ++ b.extract 0 nb ++ out.reverse).toList = (a.toList.take na ++ b.toList.take nb) ++ out.toList.reverse := by
    rw [Array.toList_append, Array.toList_append, toList_ext, toList_ext, Array.toList_reverse]; rfl
  refine ⟨by rw [e]; exact h.perm, ?_⟩
  rw [e]
  refine List.pairwise_append.mpr ⟨?_, h.srt, fun x hx y hy => ?_⟩
  · rcases hi with q | q
    · rw [q, List.take_zero, List.nil_append]; exact List.Pairwise.sublist (List.take_sublist _ _) hb.srt
    · rw [q, List.take_zero, List.append_nil]; exact List.Pairwise.sublist (List.take_sublist _ _) ha.srt
  · rcases List.mem_append.mp hx with hx | hx
    · obtain ⟨j, j1, j3, j4⟩ := mem_tk (r := r) hx; rw [← j4]; exact h.leA y (List.mem_reverse.mp hy) j j1 j3
    · obtain ⟨j, j1, j3, j4⟩ := mem_tk (r := r) hx; rw [← j4]; exact h.leB y (List.mem_reverse.mp hy) j j1 j3
theorem MJ.first {a b out : Array Keyed} {na nb : Nat} (h : MJ r a b out na nb) (ha : Asc r a 0 a.size) (hb : Asc r b 0 b.size) (hi : nb = 1) (hl : ∀ j, j < a.size → R r b 0 ≤ R r a j) : Fin' r a b (b.extract 0 nb ++ a.extract 0 na ++ out.reverse) := by
  have e : (b.extract 0 nb ++ a.extract 0 na ++ out.reverse).toList = (b.toList.take nb ++ a.toList.take na) ++ out.toList.reverse := by
    rw [Array.toList_append, Array.toList_append, toList_ext, toList_ext, Array.toList_reverse]; rfl
  refine ⟨by rw [e]; exact (List.Perm.append_right _ List.perm_append_comm).trans h.perm, ?_⟩
  rw [e]
  refine List.pairwise_append.mpr ⟨?_, h.srt, fun x hx y hy => ?_⟩
  · refine List.pairwise_append.mpr ⟨List.Pairwise.sublist (List.take_sublist _ _) hb.srt, List.Pairwise.sublist (List.take_sublist _ _) ha.srt, fun x hx y hy => ?_⟩
    obtain ⟨j, j1, j3, j4⟩ := mem_tk (r := r) hx
    obtain ⟨k, k1, k3, k4⟩ := mem_tk (r := r) hy
    have : j = 0 := by (exact Mine.Ar.lin 0 2 (.eq (.v 0) (.k 0)) [(.eq (.v 1) (.k 1)), (.lt (.v 0) (.v 1))] (by kernel_rfl) [] [_, _] rfl rfl hi j1)
    rw [← j4, ← k4, this]; exact hl k k3
  · rcases List.mem_append.mp hx with hx | hx
    · obtain ⟨j, j1, j3, j4⟩ := mem_tk (r := r) hx; rw [← j4]; exact h.leB y (List.mem_reverse.mp hy) j j1 j3
    · obtain ⟨j, j1, j3, j4⟩ := mem_tk (r := r) hx; rw [← j4]; exact h.leA y (List.mem_reverse.mp hy) j j1 j3
end Tim
end Mine
end

section
set_option Elab.async false
set_option linter.unusedVariables false
set_option linter.unusedSimpArgs false
set_option maxRecDepth 4000
namespace Mine
namespace Tim
open PySem PyProof.Rows

variable {prog : Program} {w : World} {A : Around} {E : Value → Shared → Prop} {s : Shared} {κ : SortKind} {r : Keyed → Nat} {a₀ : Array Keyed}

structure Gs (st st' : SortSt) : Prop where
  kind : kindOf st' = kindOf st
  arr : arrOf st' = arrOf st
  pend : pendingOf st' = pendingOf st
  failed : failedOf st' = failedOf st
theorem Gs.refl {st : SortSt} : Gs st st := ⟨rfl, rfl, rfl, rfl⟩
theorem Gs.gal {st st' : SortSt} (h : Gs st st') (g : Nat) : Gs st (SortSt.mk' (kindOf st') (arrOf st') (pendingOf st') g (failedOf st')) := ⟨h.kind, h.arr, h.pend, h.failed⟩
theorem get_of {xs : Array Keyed} (h : ∀ x ∈ xs.toList, x ∈ a₀.toList) {i : Nat} (hi : i < xs.size) : ∃ x, xs[i]? = some x ∧ x ∈ a₀.toList ∧ R r xs i = r x := by
  have e : xs[i]? = some xs[i] := getElem?_pos xs i hi
  exact ⟨_, e, h _ (by simp), R_of e⟩

theorem wpS_gal (hC : Ask prog w A s κ r a₀) {st : SortSt} {left : Bool} {key : Keyed} {arr : Array Keyed} {base n hint : Nat} {Q : Option Nat → SortSt → Prop} (hk : kindOf st = κ) (hkey : key ∈ a₀.toList) (hmem : ∀ x ∈ arr.toList, x ∈ a₀.toList)
    (hs : Asc r arr 0 arr.size) (hn : base + n ≤ arr.size) (hh : hint < n)
    (h : ∀ k, k ≤ n → (∀ i, base ≤ i → i < base + k → By left (r key) (R r arr i) = true) → (∀ i, base + k ≤ i → i < base + n → By left (r key) (R r arr i) = false) → Q (some k) st) :
    wpS (model prog w) A E s (gallop' left key arr base n hint) Q st := by
  refine wpS_gallop hC hk hkey (fun i hi => ?_) (fun i j i1 i2 i3 => hs i j (Nat.zero_le _) i2 (Nat.lt_of_lt_of_le i3 hn)) hh fun k hk1 hk2 hk3 => h k hk1 (fun i i1 i2 => ?_) fun i i1 i2 => ?_
  · obtain ⟨x, q1, q2, _⟩ := get_of (r := r) hmem (i := base + i) (by (exact Mine.Ar.lin 0 4 (.lt (.a (.v 0) (.v 1)) (.v 2)) [(.le (.a (.v 0) (.v 3)) (.v 2)), (.lt (.v 1) (.v 3))] (by kernel_rfl) [] [_, _, _, _] rfl rfl hn hi))
    exact ⟨x, q1, q2⟩
  · have := hk2 (i - base) (by (exact Mine.Ar.lin 0 3 (.lt (.s (.v 0) (.v 1)) (.v 2)) [(.le (.v 1) (.v 0)), (.lt (.v 0) (.a (.v 1) (.v 2)))] (by kernel_rfl) [] [_, _, _] rfl rfl i1 i2))
    rwa [show base + (i - base) = i by (exact Mine.Ar.lin 0 2 (.eq (.a (.v 0) (.s (.v 1) (.v 0))) (.v 1)) [(.le (.v 0) (.v 1))] (by kernel_rfl) [] [_, _] rfl rfl i1)] at this
  · have := hk3 (i - base) (by (exact Mine.Ar.lin 0 3 (.le (.v 0) (.s (.v 1) (.v 2))) [(.le (.a (.v 2) (.v 0)) (.v 1))] (by kernel_rfl) [] [_, _, _] rfl rfl i1)) (by (exact Mine.Ar.lin 0 4 (.lt (.s (.v 0) (.v 1)) (.v 2)) [(.lt (.v 3) (.v 2)), (.lt (.v 0) (.a (.v 1) (.v 2)))] (by kernel_rfl) [] [_, _, _, _] rfl rfl hh i2))
    rwa [show base + (i - base) = i by (exact Mine.Ar.lin 0 3 (.eq (.a (.v 0) (.s (.v 1) (.v 0))) (.v 1)) [(.le (.a (.v 0) (.v 2)) (.v 1))] (by kernel_rfl) [] [_, _, _] rfl rfl i1)] at this
theorem By.f {x y : Nat} : By false x y = true ↔ y ≤ x := by simp [By]
theorem By.f' {x y : Nat} : By false x y = false ↔ x < y := by simp [By]
theorem By.t {x y : Nat} : By true x y = true ↔ y < x := by simp [By]
theorem By.t' {x y : Nat} : By true x y = false ↔ x ≤ y := by simp [By]

noncomputable def mergeLo' : Array Keyed → Array Keyed → StateT SortSt Sem (Array Keyed) := sortPriv% PySem.Builtin.mergeLo
noncomputable def mergeHi' : Array Keyed → Array Keyed → StateT SortSt Sem (Array Keyed) := sortPriv% PySem.Builtin.mergeHi

structure Two (r : Keyed → Nat) (a₀ a b : Array Keyed) : Prop where
  ma : ∀ x ∈ a.toList, x ∈ a₀.toList
  mb : ∀ x ∈ b.toList, x ∈ a₀.toList
  a0 : 0 < a.size
  b0 : 0 < b.size
  ha : Asc r a 0 a.size
  hb : Asc r b 0 b.size
  first : ∀ i, i < a.size → R r b 0 ≤ R r a i
  last : ∀ j, j < b.size → R r b j ≤ R r a (a.size - 1)

structure LoI (r : Keyed → Nat) (a b : Array Keyed) (p : Nat) (out : Array Keyed) (ia ib : Nat) : Prop where
  m : MI r a b out ia ib
  i1 : ia + 1 < a.size
  i2 : ib < b.size
  pr : p ≤ ia + ib
theorem LoI.le {a b out : Array Keyed} {p q ia ib : Nat} (h : LoI r a b p out ia ib) (hq : q ≤ p) : LoI r a b q out ia ib := ⟨h.m, h.i1, h.i2, Nat.le_trans hq h.pr⟩
theorem LoI.pushB {a b out : Array Keyed} {p ia ib : Nat} {x : Keyed} (T : Two r a₀ a b) (h : LoI r a b p out ia ib) (hx : b[ib]? = some x) (hk : ∀ j, ia ≤ j → j < a.size → r x ≤ R r a j) :
    (ib + 1 = b.size → Fin' r a b (out.push x ++ a.extract ia ++ b.extract (ib + 1))) ∧ (ib + 1 ≠ b.size → LoI r a b (p + 1) (out.push x) ia (ib + 1)) := by
  have M := h.m.pushB T.hb hx hk
  have := h.i2
  have := h.pr
  exact ⟨fun e => M.done T.ha T.hb (.inl e), fun e => ⟨M, h.i1, by lia, by (exact Mine.Ar.lin 0 3 (.le (.a (.v 0) (.k 1)) (.a (.v 1) (.a (.v 2) (.k 1)))) [(.le (.v 0) (.a (.v 1) (.v 2)))] (by kernel_rfl) [] [_, _, _] rfl rfl this)⟩⟩
theorem LoI.pushA {a b out : Array Keyed} {p ia ib : Nat} {x : Keyed} (T : Two r a₀ a b) (h : LoI r a b p out ia ib) (hx : a[ia]? = some x) (hk : ∀ j, ib ≤ j → j < b.size → r x ≤ R r b j) :
    (ia + 1 + 1 = a.size → Fin' r a b (out.push x ++ b.extract ib ++ a.extract (ia + 1))) ∧ (ia + 1 + 1 ≠ a.size → LoI r a b (p + 1) (out.push x) (ia + 1) ib) := by
  have M := h.m.pushA T.ha hx hk
  have := h.i1
  have := h.pr
  exact ⟨fun e => M.last T.ha T.hb e T.last, fun e => ⟨M, by lia, h.i2, by (exact Mine.Ar.lin 0 3 (.le (.a (.v 0) (.k 1)) (.a (.a (.v 1) (.k 1)) (.v 2))) [(.le (.v 0) (.a (.v 1) (.v 2)))] (by kernel_rfl) [] [_, _, _] rfl rfl this)⟩⟩
theorem LoI.takeA {a b out : Array Keyed} {p ia ib k : Nat} {y : Keyed} (T : Two r a₀ a b) (h : LoI r a b p out ia ib) (hy : R r b ib = r y) (hk : ∀ i, ia ≤ i → i < ia + k → R r a i ≤ r y) (hz : ia + k ≤ a.size) :
    (ia + k + 1 = a.size → Fin' r a b (out ++ a.extract ia (ia + k) ++ b.extract ib ++ a.extract (ia + k))) ∧ (ia + k = a.size → Fin' r a b (out ++ a.extract ia (ia + k) ++ a.extract (ia + k) ++ b.extract ib)) ∧
      (ia + k + 1 ≠ a.size → ia + k ≠ a.size → LoI r a b p (out ++ a.extract ia (ia + k)) (ia + k) ib) := by
  have M := h.m.takeA (k := k) T.ha (fun i i1 i2 j j1 j2 => Nat.le_trans (hk i i1 i2) (hy ▸ T.hb ib j (Nat.zero_le _) j1 j2)) hz
  have := h.pr
  exact ⟨fun e => M.last T.ha T.hb e T.last, fun e => M.done T.ha T.hb (.inr e), fun e1 e2 => ⟨M, by (exact Mine.Ar.lin 0 3 (.lt (.a (.a (.v 0) (.v 1)) (.k 1)) (.v 2)) [(.le (.a (.v 0) (.v 1)) (.v 2)), (.no (.eq (.a (.a (.v 0) (.v 1)) (.k 1)) (.v 2))), (.no (.eq (.a (.v 0) (.v 1)) (.v 2)))] (by kernel_rfl) [] [_, _, _] rfl rfl hz e1 e2), h.i2, by (exact Mine.Ar.lin 0 4 (.le (.v 0) (.a (.a (.v 1) (.v 2)) (.v 3))) [(.le (.v 0) (.a (.v 1) (.v 3)))] (by kernel_rfl) [] [_, _, _, _] rfl rfl this)⟩⟩
theorem LoI.takeB {a b out : Array Keyed} {p ia ib k : Nat} {z : Keyed} (T : Two r a₀ a b) (h : LoI r a b p out ia ib) (hz : R r a ia = r z) (hk : ∀ i, ib ≤ i → i < ib + k → R r b i < r z) (hzz : ib + k ≤ b.size) :
    (ib + k = b.size → Fin' r a b (out ++ b.extract ib (ib + k) ++ a.extract ia ++ b.extract (ib + k))) ∧ (ib + k ≠ b.size → LoI r a b p (out ++ b.extract ib (ib + k)) ia (ib + k)) := by
  have M := h.m.takeB (k := k) T.hb (fun i i1 i2 j j1 j2 => Nat.le_trans (Nat.le_of_lt (hk i i1 i2)) (hz ▸ T.ha ia j (Nat.zero_le _) j1 j2)) hzz
  have := h.pr
  exact ⟨fun e => M.done T.ha T.hb (.inl e), fun e => ⟨M, h.i1, by (exact Mine.Ar.lin 0 3 (.lt (.a (.v 0) (.v 1)) (.v 2)) [(.le (.a (.v 0) (.v 1)) (.v 2)), (.no (.eq (.a (.v 0) (.v 1)) (.v 2)))] (by kernel_rfl) [] [_, _, _] rfl rfl hzz e), by (exact Mine.Ar.lin 0 4 (.le (.v 0) (.a (.v 1) (.a (.v 2) (.v 3)))) [(.le (.v 0) (.a (.v 1) (.v 2)))] (by kernel_rfl) [] [_, _, _, _] rfl rfl this)⟩⟩

noncomputable def LoL (r : Keyed → Nat) (a b : Array Keyed) (st : SortSt) (p : Nat) (out : Array Keyed) (ia ib : Nat) (st' : SortSt) : Prop := Gs st st' ∧ LoI r a b p out ia ib
noncomputable def LoE (r : Keyed → Nat) (a b : Array Keyed) (st : SortSt) (c : Option (Array Keyed)) (st' : SortSt) : Prop := ∃ res, c = some res ∧ Fin' r a b res ∧ Gs st st'

theorem wpS_mergeLo (hC : Ask prog w A s κ r a₀) {st : SortSt} {a b : Array Keyed} {Q : Array Keyed → SortSt → Prop} (hk : kindOf st = κ) (T : Two r a₀ a b) (h : ∀ res st', Gs st st' → Fin' r a b res → Q res st') :
    wpS (model prog w) A E s (mergeLo' a b) Q st := by
  have getA : ∀ {i}, i < a.size → ∃ x, a[i]? = some x ∧ x ∈ a₀.toList ∧ R r a i = r x := get_of T.ma
  have getB : ∀ {i}, i < b.size → ∃ x, b[i]? = some x ∧ x ∈ a₀.toList ∧ R r b i = r x := get_of T.mb
  unfold mergeLo'
  refine wpS_bind (wpS_lift (wpAny_rule ⟨rfl, ?_⟩))
  extract_lets -underBinder -merge +onlyGivenNames total done lastOfA
  obtain ⟨y0, hy0, my0, ry0⟩ := getB T.b0
  refine wpS_bind (wpS_elem hy0 ?_)
  extract_lets -underBinder -merge +onlyGivenNames out ia ib
  have M0 : MI r a b #[y0] 0 1 := MI.pushB (out := #[]) ⟨by simp, by simp [Srt], by simp, by simp⟩ T.hb hy0 (fun j z1 j2 => by rw [← ry0]; exact T.first j j2)
  by_cases e1 : b.size = 1
  · rw [if_pos (show (ib == b.size) = true by rw [e1]; rfl)]
    exact wpS_pure (h _ _ .refl (M0.done T.ha T.hb (.inl e1.symm)))
  rw [if_neg (show ¬ (ib == b.size) = true from fun q => e1 (beq_iff_eq.mp q).symm)]
  by_cases e2 : a.size = 1
  · rw [if_pos (show (ia + 1 == a.size) = true by rw [e2]; rfl)]
    exact wpS_pure (h _ _ .refl (M0.last T.ha T.hb e2.symm T.last))
  rw [if_neg (show ¬ (ia + 1 == a.size) = true from fun q => e2 (beq_iff_eq.mp q).symm)]
  refine wpS_bind (wpS_get ?_)
  extract_lets -underBinder -merge +onlyGivenNames mg
  have htot : total = a.size + b.size := rfl
  refine wpS_bind (wpS_mono (wpS_forRange (I := fun x c st' => c.1 = none ∧ LoL r a b st (x + 1) c.2.1 c.2.2.1 c.2.2.2.1 st') (Q := fun c st' => LoE r a b st c.1 st') ?_ ?_ ?_) ?_)
  · rintro x c st' _ hx ⟨_, hG, I⟩
    extract_lets -underBinder -merge +onlyGivenNames u1 o1 u2 i1 u3 j1 mg1 ac bc
    replace I : LoI r a b (x + 1) o1 i1 j1 := I
    clear_value o1 i1 j1 mg1 ac bc
    refine wpS_bind (wpS_mono (wpS_forRange (I := fun x1 c st'' => c.1 = none ∧ LoL r a b st (x + 1 + x1) c.2.1 c.2.2.1 c.2.2.2.1 st'')
      (Q := fun c st'' => LoE r a b st c.1 st'' ∨ (c.1 = none ∧ LoL r a b st (x + 2) c.2.1 c.2.2.1 c.2.2.2.1 st'')) ?_ ?_ ⟨rfl, hG, I⟩) ?_)
    · rintro x1 c1 st'' _ hx1 ⟨_, hG, I⟩
      extract_lets -underBinder -merge +onlyGivenNames v1 o2 v2 i2 v3 j2 v4 ac2 bc2
      replace I : LoI r a b (x + 1 + x1) o2 i2 j2 := I
      clear_value o2 i2 j2 ac2 bc2
      obtain ⟨y, hy, my, ry⟩ := getB I.i2
      obtain ⟨z, hz, mz, rz⟩ := getA (Nat.lt_of_succ_lt I.i1)
      refine wpS_bind (wpS_elem hy (wpS_bind (wpS_elem hz (wpS_bind (wpS_lt hC (hG.kind.trans hk) my mz ?_)))))
      by_cases hw : r y < r z
      · rw [decide_eq_true hw]
        show wpS _ _ _ _ (ite (true = true) _ _) _ _
        rw [if_pos rfl]
        refine wpS_bind (wpS_elem hy ?_)
        have P := I.pushB T hy (fun j j1 j2 => Nat.le_of_lt (Nat.lt_of_lt_of_le hw (rz ▸ T.ha i2 j (Nat.zero_le _) j1 j2)))
        extract_lets -underBinder -merge +onlyGivenNames o3 j3 bc3 ac3
        by_cases e : j2 + 1 = b.size
        · rw [if_pos (show (j3 == b.size) = true from beq_iff_eq.mpr e)]
          exact wpS_pure (.inl ⟨_, rfl, P.1 e, hG⟩)
        · rw [if_neg (show ¬ (j3 == b.size) = true from fun q => e (beq_iff_eq.mp q))]
          split
          · exact wpS_pure (.inr ⟨rfl, hG, (P.2 e).le (by (exact Mine.Ar.lin 0 2 (.le (.a (.v 0) (.k 2)) (.a (.a (.a (.v 0) (.k 1)) (.v 1)) (.k 1))) [] (by kernel_rfl) [] [_, _] rfl rfl ))⟩)
          · exact wpS_pure ⟨rfl, hG, P.2 e⟩
      · rw [decide_eq_false hw]
        show wpS _ _ _ _ (ite (false = true) _ _) _ _
        rw [if_neg (by decide)]
        refine wpS_bind (wpS_elem hz ?_)
        have P := I.pushA T hz (fun q q1 q2 => Nat.le_trans (Nat.not_lt.mp hw) (ry ▸ T.hb j2 q (Nat.zero_le _) q1 q2))
        extract_lets -underBinder -merge +onlyGivenNames o3 i3 ac3 bc3
        by_cases e : i2 + 1 + 1 = a.size
        · rw [if_pos (show (i3 + 1 == a.size) = true from beq_iff_eq.mpr e)]
          exact wpS_pure (.inl ⟨_, rfl, P.1 e, hG⟩)
        · rw [if_neg (show ¬ (i3 + 1 == a.size) = true from fun q => e (beq_iff_eq.mp q))]
          split
          · exact wpS_pure (.inr ⟨rfl, hG, (P.2 e).le (by (exact Mine.Ar.lin 0 2 (.le (.a (.v 0) (.k 2)) (.a (.a (.a (.v 0) (.k 1)) (.v 1)) (.k 1))) [] (by kernel_rfl) [] [_, _] rfl rfl ))⟩)
          · exact wpS_pure ⟨rfl, hG, P.2 e⟩
    · rintro c st' ⟨_, _, I⟩
      have := I.i1
      have := I.i2
      have := I.pr
      exfalso; lia
    · rintro c1 st'' hor
      extract_lets -underBinder -merge +onlyGivenNames cr v1 o2 v2 i2 v3 j2 v4 ac2 bc2
      rcases hor with ⟨res, hc, hF, hG⟩ | ⟨hc, hG, I⟩
      · have hcr : cr = some res := hc
        clear_value cr
        subst hcr
        exact wpS_pure ⟨res, rfl, hF, hG⟩
      · have hcr : cr = none := hc
        replace I : LoI r a b (x + 2) o2 i2 j2 := I
        clear_value cr o2 i2 j2 ac2 bc2
        subst hcr
        refine wpS_bind (wpS_lift (wpAny_rule ⟨rfl, ?_⟩))
        extract_lets -underBinder -merge +onlyGivenNames mg2
        refine wpS_bind (wpS_mono (wpS_forRange (I := fun z1 c st3 => c.1 = none ∧ LoL r a b st (x + 2) c.2.1 c.2.2.1 c.2.2.2.1 st3)
          (Q := fun c st3 => LoE r a b st c.1 st3 ∨ (c.1 = none ∧ LoL r a b st (x + 2) c.2.1 c.2.2.1 c.2.2.2.1 st3)) ?_ (fun z1 z2 q => .inr q) ⟨rfl, hG, I⟩) ?_)
        · rintro x2 c2 st3 _ _ ⟨_, hG, I⟩
          extract_lets -underBinder -merge +onlyGivenNames w1 o3 w2 i3 w3 j3 w4 mg3 w5 ac3 bc3 jp
          replace I : LoI r a b (x + 2) o3 i3 j3 := I
          have H : ∀ g, wpS (model prog w) A E s (jp () g) (fun r' st' => match r' with | .done c' => LoE r a b st c'.1 st' ∨ (c'.1 = none ∧ LoL r a b st (x + 2) c'.2.1 c'.2.2.1 c'.2.2.2.1 st') | .yield c' => c'.1 = none ∧ LoL r a b st (x + 2) c'.2.1 c'.2.2.1 c'.2.2.2.1 st') st3 := by
            intro g
            clear_value o3 i3 j3 ac3 bc3
            refine wpS_bind (wpS_modify ?_)
            have hG4 := hG.gal g
            obtain ⟨y, hy, my, ry⟩ := getB I.i2
            refine wpS_bind (wpS_elem hy (wpS_bind (wpS_gal hC (hG4.kind.trans hk) my T.ma T.ha (by have := I.i1; (exact Mine.Ar.lin 0 2 (.le (.a (.v 0) (.s (.v 1) (.v 0))) (.v 1)) [(.lt (.a (.v 0) (.k 1)) (.v 1))] (by kernel_rfl) [] [_, _] rfl rfl this)) (by have := I.i1; (exact Mine.Ar.lin 0 2 (.lt (.k 0) (.s (.v 0) (.v 1))) [(.lt (.a (.v 1) (.k 1)) (.v 0))] (by kernel_rfl) [] [_, _] rfl rfl this)) ?_)))
            intro k hk1 hk2 hk3
            have hz1 : i3 + k ≤ a.size := by have := I.i1; (exact Mine.Ar.lin 0 3 (.le (.a (.v 0) (.v 1)) (.v 2)) [(.le (.v 1) (.s (.v 2) (.v 0))), (.lt (.a (.v 0) (.k 1)) (.v 2))] (by kernel_rfl) [] [_, _, _] rfl rfl hk1 this)
            have P := I.takeA (k := k) T ry (fun i i1 i2 => By.f.mp (hk2 i i1 i2)) hz1
            replace hk3 : ∀ i, i3 + k ≤ i → i < a.size → r y < R r a i := fun i i1 i2 => By.f'.mp (hk3 i i1 (by have := I.i1; (exact Mine.Ar.lin 0 3 (.lt (.v 0) (.a (.v 1) (.s (.v 2) (.v 1)))) [(.lt (.v 0) (.v 2))] (by kernel_rfl) [] [_, _, _] rfl rfl i2)))
            clear hk1 hk2
            dsimp -zeta -zetaHave -zetaUnused only
            extract_lets -underBinder -merge +onlyGivenNames ac4 jp2
            have H2 : ∀ o i, LoI r a b (x + 2) o i j3 → i3 ≤ i → (∀ q, i ≤ q → q < a.size → r y < R r a q) → wpS (model prog w) A E s (jp2 () o i) (fun r' st' => match r' with | .done c' => LoE r a b st c'.1 st' ∨ (c'.1 = none ∧ LoL r a b st (x + 2) c'.2.1 c'.2.2.1 c'.2.2.2.1 st') | .yield c' => c'.1 = none ∧ LoL r a b st (x + 2) c'.2.1 c'.2.2.1 c'.2.2.2.1 st') (SortSt.mk' (kindOf st3) (arrOf st3) (pendingOf st3) g (failedOf st3)) := by
              clear P hk3 hz1 I
              intro o i I hi hq
              clear_value ac4
              refine wpS_bind (wpS_elem hy ?_)
              have P := I.pushB T hy (fun j j1 j2 => Nat.le_of_lt (hq j j1 j2))
              extract_lets -underBinder -merge +onlyGivenNames o5 j5
              by_cases e : j3 + 1 = b.size
              · rw [if_pos (show (j5 == b.size) = true from beq_iff_eq.mpr e)]
                exact wpS_pure (.inl ⟨_, rfl, P.1 e, hG4⟩)
              · rw [if_neg (show ¬ (j5 == b.size) = true from fun q => e (beq_iff_eq.mp q))]
                replace P : LoI r a b (x + 3) o5 i j5 := P.2 e
                clear_value o5 j5
                obtain ⟨z, hz, mz, rz⟩ := getA (Nat.lt_of_succ_lt P.i1)
                refine wpS_bind (wpS_elem hz (wpS_bind (wpS_gal hC (hG4.kind.trans hk) mz T.mb T.hb (by have := P.i2; (exact Mine.Ar.lin 0 2 (.le (.a (.v 0) (.s (.v 1) (.v 0))) (.v 1)) [(.lt (.v 0) (.v 1))] (by kernel_rfl) [] [_, _] rfl rfl this)) (by have := P.i2; (exact Mine.Ar.lin 0 2 (.lt (.k 0) (.s (.v 0) (.v 1))) [(.lt (.v 1) (.v 0))] (by kernel_rfl) [] [_, _] rfl rfl this)) ?_)))
                intro k1 hk1 hk2 hk3
                have hz1 : j5 + k1 ≤ b.size := by have := P.i2; (exact Mine.Ar.lin 0 3 (.le (.a (.v 0) (.v 1)) (.v 2)) [(.le (.v 1) (.s (.v 2) (.v 0))), (.lt (.v 0) (.v 2))] (by kernel_rfl) [] [_, _, _] rfl rfl hk1 this)
                have P2 := P.takeB (k := k1) T rz (fun q i1 i2 => By.t.mp (hk2 q i1 i2)) hz1
                replace hk3 : ∀ q, j5 + k1 ≤ q → q < b.size → r z ≤ R r b q := fun q i1 i2 => By.t'.mp (hk3 q i1 (by have := P.i2; (exact Mine.Ar.lin 0 3 (.lt (.v 0) (.a (.v 1) (.s (.v 2) (.v 1)))) [(.lt (.v 0) (.v 2))] (by kernel_rfl) [] [_, _, _] rfl rfl i2)))
                clear hk1 hk2
                dsimp -zeta -zetaHave -zetaUnused only
                extract_lets -underBinder -merge +onlyGivenNames bc4 jp3
                have H3 : ∀ o q, LoI r a b (x + 3) o i q → (∀ l, q ≤ l → l < b.size → r z ≤ R r b l) → wpS (model prog w) A E s (jp3 () o q) (fun r' st' => match r' with | .done c' => LoE r a b st c'.1 st' ∨ (c'.1 = none ∧ LoL r a b st (x + 2) c'.2.1 c'.2.2.1 c'.2.2.2.1 st') | .yield c' => c'.1 = none ∧ LoL r a b st (x + 2) c'.2.1 c'.2.2.1 c'.2.2.2.1 st') (SortSt.mk' (kindOf st3) (arrOf st3) (pendingOf st3) g (failedOf st3)) := by
                  clear P2 hk3 hz1 P
                  intro o q P hl
                  refine wpS_bind (wpS_elem hz ?_)
                  have P2 := P.pushA T hz hl
                  extract_lets -underBinder -merge +onlyGivenNames o6 i6
                  by_cases e : i + 1 + 1 = a.size
                  · rw [if_pos (show (i6 + 1 == a.size) = true from beq_iff_eq.mpr e)]
                    exact wpS_pure (.inl ⟨_, rfl, P2.1 e, hG4⟩)
                  · rw [if_neg (show ¬ (i6 + 1 == a.size) = true from fun q => e (beq_iff_eq.mp q))]
                    split
                    · exact wpS_pure (.inr ⟨rfl, hG4, (P2.2 e).le (by (exact Mine.Ar.lin 0 1 (.le (.a (.v 0) (.k 2)) (.a (.a (.v 0) (.k 3)) (.k 1))) [] (by kernel_rfl) [] [_] rfl rfl ))⟩)
                    · exact wpS_pure ⟨rfl, hG4, (P2.2 e).le (by (exact Mine.Ar.lin 0 1 (.le (.a (.v 0) (.k 2)) (.a (.a (.v 0) (.k 3)) (.k 1))) [] (by kernel_rfl) [] [_] rfl rfl ))⟩
                clear_value jp3
                by_cases e4 : k1 > 0
                · rw [if_pos e4]
                  extract_lets -underBinder -merge +onlyGivenNames o7 j7
                  by_cases e5 : j5 + k1 = b.size
                  · rw [if_pos (show (j7 == b.size) = true from beq_iff_eq.mpr e5)]
                    exact wpS_pure (.inl ⟨_, rfl, P2.1 e5, hG4⟩)
                  · rw [if_neg (show ¬ (j7 == b.size) = true from fun q => e5 (beq_iff_eq.mp q))]
                    exact H3 _ _ (P2.2 e5) hk3
                · rw [if_neg e4]
                  exact H3 _ _ P fun l l1 l2 => hk3 l (by (exact Mine.Ar.lin 0 3 (.le (.a (.v 0) (.v 1)) (.v 2)) [(.no (.lt (.k 0) (.v 1))), (.le (.v 0) (.v 2))] (by kernel_rfl) [] [_, _, _] rfl rfl e4 l1)) l2
            clear_value jp2
            by_cases e4 : k > 0
            · rw [if_pos e4]
              extract_lets -underBinder -merge +onlyGivenNames o7 i7
              by_cases e5 : i3 + k + 1 = a.size
              · rw [if_pos (show (i7 + 1 == a.size) = true from beq_iff_eq.mpr e5)]
                exact wpS_pure (.inl ⟨_, rfl, P.1 e5, hG4⟩)
              · rw [if_neg (show ¬ (i7 + 1 == a.size) = true from fun q => e5 (beq_iff_eq.mp q))]
                by_cases e6 : i3 + k = a.size
                · rw [if_pos (show (i7 == a.size) = true from beq_iff_eq.mpr e6)]
                  exact wpS_pure (.inl ⟨_, rfl, P.2.1 e6, hG4⟩)
                · rw [if_neg (show ¬ (i7 == a.size) = true from fun q => e6 (beq_iff_eq.mp q))]
                  exact H2 _ _ (P.2.2 e5 e6) (Nat.le_add_right _ _) hk3
            · rw [if_neg e4]
              exact H2 _ _ I (Nat.le_refl _) fun q q1 q2 => hk3 q (by (exact Mine.Ar.lin 0 3 (.le (.a (.v 0) (.v 1)) (.v 2)) [(.no (.lt (.k 0) (.v 1))), (.le (.v 0) (.v 2))] (by kernel_rfl) [] [_, _, _] rfl rfl e4 q1)) q2
          clear_value jp
          split
          · exact wpS_mono (H (mg3 - 1)) fun r' st' q => by cases r' <;> exact q
          · exact wpS_mono (H mg3) fun r' st' q => by cases r' <;> exact q
        · rintro c2 st3 hor
          extract_lets -underBinder -merge +onlyGivenNames cr w1 o3 w2 i3 w3 j3 w4 mg3
          rcases hor with ⟨res, hc, hF, hG⟩ | ⟨hc, hG, I⟩
          · have hcr : cr = some res := hc
            clear_value cr
            subst hcr
            exact wpS_pure ⟨res, rfl, hF, hG⟩
          · have hcr : cr = none := hc
            clear_value cr
            subst hcr
            exact wpS_bind (wpS_modify (wpS_pure ⟨rfl, hG.gal _, I⟩))
  · rintro c st' ⟨_, _, I⟩
    have := I.i1
    have := I.i2
    have := I.pr
    exfalso; lia
  · exact ⟨rfl, .refl, M0, by have := T.a0; show 0 + 1 < a.size; (exact Mine.Ar.lin 0 1 (.lt (.a (.k 0) (.k 1)) (.v 0)) [(.no (.eq (.v 0) (.k 1))), (.lt (.k 0) (.v 0))] (by kernel_rfl) [] [_] rfl rfl e2 this), by have := T.b0; show 1 < b.size; (exact Mine.Ar.lin 0 1 (.lt (.k 1) (.v 0)) [(.no (.eq (.v 0) (.k 1))), (.lt (.k 0) (.v 0))] (by kernel_rfl) [] [_] rfl rfl e1 this), Nat.le_refl _⟩
  · rintro c st' ⟨res, hc, hF, hG⟩
    extract_lets -underBinder -merge +onlyGivenNames cr
    have hcr : cr = some res := hc
    clear_value cr
    subst hcr
    exact wpS_pure (h res st' hG hF)
structure HiI (r : Keyed → Nat) (a b : Array Keyed) (p : Nat) (out : Array Keyed) (na nb : Nat) : Prop where
  m : MJ r a b out na nb
  n1 : 0 < na
  n2 : 1 < nb
  n3 : na ≤ a.size
  n4 : nb ≤ b.size
  pr : na + nb + p ≤ a.size + b.size
theorem HiI.le {a b out : Array Keyed} {p q na nb : Nat} (h : HiI r a b p out na nb) (hq : q ≤ p) : HiI r a b q out na nb := ⟨h.m, h.n1, h.n2, h.n3, h.n4, by have := h.pr; (exact Mine.Ar.lin 0 6 (.le (.a (.a (.v 0) (.v 1)) (.v 2)) (.a (.v 3) (.v 4))) [(.le (.v 2) (.v 5)), (.le (.a (.a (.v 0) (.v 1)) (.v 5)) (.a (.v 3) (.v 4)))] (by kernel_rfl) [] [_, _, _, _, _, _] rfl rfl hq this)⟩
theorem HiI.a1 {a b out : Array Keyed} {p na nb : Nat} (h : HiI r a b p out na nb) : na - 1 < a.size := by have := h.n1; have := h.n3; lia
theorem HiI.b1 {a b out : Array Keyed} {p na nb : Nat} (h : HiI r a b p out na nb) : nb - 1 < b.size := by have := h.n2; have := h.n4; lia
theorem HiI.pushA {a b out : Array Keyed} {p na nb : Nat} {x : Keyed} (T : Two r a₀ a b) (h : HiI r a b p out na nb) (hx : a[na - 1]? = some x) (hk : ∀ j, j < nb → j < b.size → R r b j ≤ r x) :
    (na - 1 = 0 → Fin' r a b (a.extract 0 (na - 1) ++ b.extract 0 nb ++ (out.push x).reverse)) ∧ (na - 1 ≠ 0 → HiI r a b (p + 1) (out.push x) (na - 1) nb) := by
  have M := h.m.pushA T.ha h.n1 h.n3 hx hk
  have := h.pr
  have := h.n3
  exact ⟨fun e => M.done T.ha T.hb (.inl e), fun e => ⟨M, Nat.pos_of_ne_zero e, h.n2, by (exact Mine.Ar.lin 0 2 (.le (.s (.v 0) (.k 1)) (.v 1)) [(.le (.v 0) (.v 1))] (by kernel_rfl) [] [_, _] rfl rfl this), h.n4, by lia⟩⟩
theorem HiI.pushB {a b out : Array Keyed} {p na nb : Nat} {x : Keyed} (T : Two r a₀ a b) (h : HiI r a b p out na nb) (hx : b[nb - 1]? = some x) (hk : ∀ j, j < na → j < a.size → R r a j ≤ r x) :
    (nb - 1 = 1 → Fin' r a b (b.extract 0 (nb - 1) ++ a.extract 0 na ++ (out.push x).reverse)) ∧ (nb - 1 ≠ 1 → HiI r a b (p + 1) (out.push x) na (nb - 1)) := by
  have M := h.m.pushB T.hb (Nat.le_of_lt h.n2) h.n4 hx hk
  have := h.pr
  have := h.n2
  have := h.n4
  exact ⟨fun e => M.first T.ha T.hb e T.first, fun e => ⟨M, h.n1, by lia, h.n3, by (exact Mine.Ar.lin 0 2 (.le (.s (.v 0) (.k 1)) (.v 1)) [(.le (.v 0) (.v 1))] (by kernel_rfl) [] [_, _] rfl rfl this), by lia⟩⟩
theorem HiI.takeA {a b out : Array Keyed} {p na nb k : Nat} {y : Keyed} (T : Two r a₀ a b) (h : HiI r a b p out na nb) (hy : R r b (nb - 1) = r y) (hk : ∀ i, k ≤ i → i < na → r y < R r a i) (hz : k ≤ na) :
    (k = 0 → Fin' r a b (a.extract 0 k ++ b.extract 0 nb ++ (out ++ (a.extract k na).reverse).reverse)) ∧ (k ≠ 0 → HiI r a b p (out ++ (a.extract k na).reverse) k nb) := by
  have M := h.m.takeA (k := k) T.ha (fun i i1 i2 j j1 j2 => Nat.le_trans (hy ▸ T.hb j (nb - 1) (Nat.zero_le _) (Nat.le_pred_of_lt j1) h.b1) (Nat.le_of_lt (hk i i1 i2))) hz h.n3
  have := h.pr
  have := h.n3
  exact ⟨fun e => M.done T.ha T.hb (.inl e), fun e => ⟨M, Nat.pos_of_ne_zero e, h.n2, by (exact Mine.Ar.lin 0 3 (.le (.v 0) (.v 1)) [(.le (.v 0) (.v 2)), (.le (.v 2) (.v 1))] (by kernel_rfl) [] [_, _, _] rfl rfl hz this), h.n4, by lia⟩⟩
theorem HiI.takeB {a b out : Array Keyed} {p na nb k : Nat} {z : Keyed} (T : Two r a₀ a b) (h : HiI r a b p out na nb) (hzr : R r a (na - 1) = r z) (hk : ∀ i, k ≤ i → i < nb → r z ≤ R r b i) (hz : k ≤ nb) :
    (k = 1 → Fin' r a b (b.extract 0 k ++ a.extract 0 na ++ (out ++ (b.extract k nb).reverse).reverse)) ∧ (k = 0 → Fin' r a b (a.extract 0 na ++ b.extract 0 k ++ (out ++ (b.extract k nb).reverse).reverse)) ∧ (k ≠ 1 → k ≠ 0 → HiI r a b p (out ++ (b.extract k nb).reverse) na k) := by
  have M := h.m.takeB (k := k) T.hb (fun i i1 i2 j j1 j2 => Nat.le_trans (hzr ▸ T.ha j (na - 1) (Nat.zero_le _) (Nat.le_pred_of_lt j1) h.a1) (hk i i1 i2)) hz h.n4
  have := h.pr
  have := h.n4
  exact ⟨fun e => M.first T.ha T.hb e T.first, fun e => M.done T.ha T.hb (.inr e), fun e1 e2 => ⟨M, h.n1, by (exact Mine.Ar.lin 0 1 (.lt (.k 1) (.v 0)) [(.no (.eq (.v 0) (.k 1))), (.no (.eq (.v 0) (.k 0)))] (by kernel_rfl) [] [_] rfl rfl e1 e2), h.n3, by (exact Mine.Ar.lin 0 3 (.le (.v 0) (.v 1)) [(.le (.v 0) (.v 2)), (.le (.v 2) (.v 1))] (by kernel_rfl) [] [_, _, _] rfl rfl hz this), by lia⟩⟩
noncomputable def HiL (r : Keyed → Nat) (a b : Array Keyed) (st : SortSt) (p : Nat) (out : Array Keyed) (na nb : Nat) (st' : SortSt) : Prop := Gs st st' ∧ HiI r a b p out na nb

theorem wpS_mergeHi (hC : Ask prog w A s κ r a₀) {st : SortSt} {a b : Array Keyed} {Q : Array Keyed → SortSt → Prop} (hk : kindOf st = κ) (T : Two r a₀ a b) (h : ∀ res st', Gs st st' → Fin' r a b res → Q res st') :
    wpS (model prog w) A E s (mergeHi' a b) Q st := by
  have getA : ∀ {i}, i < a.size → ∃ x, a[i]? = some x ∧ x ∈ a₀.toList ∧ R r a i = r x := get_of T.ma
  have getB : ∀ {i}, i < b.size → ∃ x, b[i]? = some x ∧ x ∈ a₀.toList ∧ R r b i = r x := get_of T.mb
  unfold mergeHi'
  refine wpS_bind (wpS_lift (wpAny_rule ⟨rfl, ?_⟩))
  extract_lets -underBinder -merge +onlyGivenNames total done firstOfB na nb
  obtain ⟨z0, hz0, mz0, rz0⟩ := getA (i := a.size - 1) (Nat.pred_lt (Nat.ne_of_gt T.a0))
  refine wpS_bind (wpS_elem hz0 ?_)
  extract_lets -underBinder -merge +onlyGivenNames out
  have M0 : MJ r a b #[z0] (a.size - 1) b.size := MJ.pushA (out := #[]) (na := a.size) ⟨by simp [List.take_of_length_le], by simp [Srt], by simp, by simp⟩ T.ha T.a0 (Nat.le_refl _) hz0 (fun j z1 j2 => by rw [← rz0]; exact T.last j j2)
  by_cases e1 : a.size - 1 = 0
  · rw [if_pos (show (na == 0) = true from beq_iff_eq.mpr e1)]
    exact wpS_pure (h _ _ .refl (M0.done T.ha T.hb (.inl e1)))
  rw [if_neg (show ¬ (na == 0) = true from fun q => e1 (beq_iff_eq.mp q))]
  by_cases e2 : b.size = 1
  · rw [if_pos (show (nb == 1) = true from beq_iff_eq.mpr e2)]
    exact wpS_pure (h _ _ .refl (M0.first T.ha T.hb e2 T.first))
  rw [if_neg (show ¬ (nb == 1) = true from fun q => e2 (beq_iff_eq.mp q))]
  refine wpS_bind (wpS_get ?_)
  extract_lets -underBinder -merge +onlyGivenNames mg
  have htot : total = a.size + b.size := rfl
  refine wpS_bind (wpS_mono (wpS_forRange (I := fun x c st' => c.1 = none ∧ HiL r a b st (x + 1) c.2.2.2.1 c.2.1 c.2.2.1 st') (Q := fun c st' => LoE r a b st c.1 st') ?_ ?_ ?_) ?_)
  · rintro x c st' _ hx ⟨_, hG, I⟩
    extract_lets -underBinder -merge +onlyGivenNames u1 n1 u2 m1 u3 o1 mg1 ac bc
    replace I : HiI r a b (x + 1) o1 n1 m1 := I
    clear_value o1 n1 m1 mg1 ac bc
    refine wpS_bind (wpS_mono (wpS_forRange (I := fun x1 c st'' => c.1 = none ∧ HiL r a b st (x + 1 + x1) c.2.2.2.1 c.2.1 c.2.2.1 st'')
      (Q := fun c st'' => LoE r a b st c.1 st'' ∨ (c.1 = none ∧ HiL r a b st (x + 2) c.2.2.2.1 c.2.1 c.2.2.1 st'')) ?_ ?_ ⟨rfl, hG, I⟩) ?_)
    · rintro x1 c1 st'' _ hx1 ⟨_, hG, I⟩
      extract_lets -underBinder -merge +onlyGivenNames v1 n2 v2 m2 v3 o2 v4 ac2 bc2
      replace I : HiI r a b (x + 1 + x1) o2 n2 m2 := I
      clear_value o2 n2 m2 ac2 bc2
      obtain ⟨y, hy, my, ry⟩ := getB I.b1
      obtain ⟨z, hz, mz, rz⟩ := getA I.a1
      refine wpS_bind (wpS_elem hy (wpS_bind (wpS_elem hz (wpS_bind (wpS_lt hC (hG.kind.trans hk) my mz ?_)))))
      by_cases hw : r y < r z
      · rw [decide_eq_true hw]
        show wpS _ _ _ _ (ite (true = true) _ _) _ _
        rw [if_pos rfl]
        extract_lets -underBinder -merge +onlyGivenNames n3
        refine wpS_bind (wpS_elem hz ?_)
        have P := I.pushA T hz (fun q q1 q2 => Nat.le_trans (ry ▸ T.hb q (m2 - 1) (Nat.zero_le _) (Nat.le_pred_of_lt q1) I.b1) (Nat.le_of_lt hw))
        extract_lets -underBinder -merge +onlyGivenNames o3 ac3 bc3
        by_cases e : n2 - 1 = 0
        · rw [if_pos (show (n3 == 0) = true from beq_iff_eq.mpr e)]
          exact wpS_pure (.inl ⟨_, rfl, P.1 e, hG⟩)
        · rw [if_neg (show ¬ (n3 == 0) = true from fun q => e (beq_iff_eq.mp q))]
          split
          · exact wpS_pure (.inr ⟨rfl, hG, (P.2 e).le (by (exact Mine.Ar.lin 0 2 (.le (.a (.v 0) (.k 2)) (.a (.a (.a (.v 0) (.k 1)) (.v 1)) (.k 1))) [] (by kernel_rfl) [] [_, _] rfl rfl ))⟩)
          · exact wpS_pure ⟨rfl, hG, P.2 e⟩
      · rw [decide_eq_false hw]
        show wpS _ _ _ _ (ite (false = true) _ _) _ _
        rw [if_neg (by decide)]
        extract_lets -underBinder -merge +onlyGivenNames m3
        refine wpS_bind (wpS_elem hy ?_)
        have P := I.pushB T hy (fun q q1 q2 => Nat.le_trans (rz ▸ T.ha q (n2 - 1) (Nat.zero_le _) (Nat.le_pred_of_lt q1) I.a1) (Nat.not_lt.mp hw))
        extract_lets -underBinder -merge +onlyGivenNames o3 bc3 ac3
        by_cases e : m2 - 1 = 1
        · rw [if_pos (show (m3 == 1) = true from beq_iff_eq.mpr e)]
          exact wpS_pure (.inl ⟨_, rfl, P.1 e, hG⟩)
        · rw [if_neg (show ¬ (m3 == 1) = true from fun q => e (beq_iff_eq.mp q))]
          split
          · exact wpS_pure (.inr ⟨rfl, hG, (P.2 e).le (by (exact Mine.Ar.lin 0 2 (.le (.a (.v 0) (.k 2)) (.a (.a (.a (.v 0) (.k 1)) (.v 1)) (.k 1))) [] (by kernel_rfl) [] [_, _] rfl rfl ))⟩)
          · exact wpS_pure ⟨rfl, hG, P.2 e⟩
    · rintro c st' ⟨_, _, I⟩
      have := I.n1
      have := I.n2
      have := I.pr
      exfalso; lia
    · rintro c1 st'' hor
      extract_lets -underBinder -merge +onlyGivenNames cr v1 n2 v2 m2 v3 o2 v4 ac2 bc2
      rcases hor with ⟨res, hc, hF, hG⟩ | ⟨hc, hG, I⟩
      · have hcr : cr = some res := hc
        clear_value cr
        subst hcr
        exact wpS_pure ⟨res, rfl, hF, hG⟩
      · have hcr : cr = none := hc
        replace I : HiI r a b (x + 2) o2 n2 m2 := I
        clear_value cr o2 n2 m2 ac2 bc2
        subst hcr
        refine wpS_bind (wpS_lift (wpAny_rule ⟨rfl, ?_⟩))
        extract_lets -underBinder -merge +onlyGivenNames mg2
        refine wpS_bind (wpS_mono (wpS_forRange (I := fun z1 c st3 => c.1 = none ∧ HiL r a b st (x + 2) c.2.2.2.1 c.2.1 c.2.2.1 st3)
          (Q := fun c st3 => LoE r a b st c.1 st3 ∨ (c.1 = none ∧ HiL r a b st (x + 2) c.2.2.2.1 c.2.1 c.2.2.1 st3)) ?_ (fun z1 z2 q => .inr q) ⟨rfl, hG, I⟩) ?_)
        · rintro x2 c2 st3 _ _ ⟨_, hG, I⟩
          extract_lets -underBinder -merge +onlyGivenNames w1 n3 w2 m3 w3 o3 w4 mg3 w5 ac3 bc3 jp
          replace I : HiI r a b (x + 2) o3 n3 m3 := I
          have H : ∀ g, wpS (model prog w) A E s (jp () g) (fun r' st' => match r' with | .done c' => LoE r a b st c'.1 st' ∨ (c'.1 = none ∧ HiL r a b st (x + 2) c'.2.2.2.1 c'.2.1 c'.2.2.1 st') | .yield c' => c'.1 = none ∧ HiL r a b st (x + 2) c'.2.2.2.1 c'.2.1 c'.2.2.1 st') st3 := by
            intro g
            clear_value o3 n3 m3 ac3 bc3
            refine wpS_bind (wpS_modify ?_)
            have hG4 := hG.gal g
            obtain ⟨y, hy, my, ry⟩ := getB I.b1
            refine wpS_bind (wpS_elem hy (wpS_bind (wpS_gal hC (hG4.kind.trans hk) my T.ma T.ha (by rw [Nat.zero_add]; exact I.n3) (Nat.pred_lt (Nat.ne_of_gt I.n1)) ?_)))
            intro k hk1 hk2 hk3
            rw [Nat.zero_add] at hk2 hk3
            have P := I.takeA (k := k) T ry (fun i i1 i2 => By.f'.mp (hk3 i i1 (by rw [Nat.zero_add]; exact i2))) hk1
            replace hk2 : ∀ i, i < k → i < a.size → R r a i ≤ r y := fun i i1 z1 => By.f.mp (hk2 i (Nat.zero_le _) i1)
            clear hk3
            dsimp -zeta -zetaHave -zetaUnused only
            extract_lets -underBinder -merge +onlyGivenNames k' ac4 jp2
            have H2 : ∀ n o, HiI r a b (x + 2) o n m3 → (∀ q, q < n → q < a.size → R r a q ≤ r y) → wpS (model prog w) A E s (jp2 () n o) (fun r' st' => match r' with | .done c' => LoE r a b st c'.1 st' ∨ (c'.1 = none ∧ HiL r a b st (x + 2) c'.2.2.2.1 c'.2.1 c'.2.2.1 st') | .yield c' => c'.1 = none ∧ HiL r a b st (x + 2) c'.2.2.2.1 c'.2.1 c'.2.2.1 st') (SortSt.mk' (kindOf st3) (arrOf st3) (pendingOf st3) g (failedOf st3)) := by
              clear P hk2 hk1 I
              intro n o I hq
              clear_value ac4
              refine wpS_bind (wpS_elem hy ?_)
              have P := I.pushB T hy hq
              extract_lets -underBinder -merge +onlyGivenNames o5
              by_cases e : m3 - 1 = 1
              · rw [if_pos (show (m3 - 1 == 1) = true from beq_iff_eq.mpr e)]
                exact wpS_pure (.inl ⟨_, rfl, P.1 e, hG4⟩)
              · rw [if_neg (show ¬ (m3 - 1 == 1) = true from fun q => e (beq_iff_eq.mp q))]
                replace P : HiI r a b (x + 3) o5 n (m3 - 1) := P.2 e
                clear_value o5
                obtain ⟨z, hz, mz, rz⟩ := getA P.a1
                refine wpS_bind (wpS_elem hz (wpS_bind (wpS_gal hC (hG4.kind.trans hk) mz T.mb T.hb (by rw [Nat.zero_add]; exact P.n4) (Nat.pred_lt (Nat.ne_of_gt (Nat.lt_trans Nat.zero_lt_one P.n2))) ?_)))
                intro k1 hk1 hk2 hk3
                rw [Nat.zero_add] at hk2 hk3
                have P2 := P.takeB (k := k1) T rz (fun q i1 i2 => By.t'.mp (hk3 q i1 (by rw [Nat.zero_add]; exact i2))) hk1
                replace hk2 : ∀ q, q < k1 → q < b.size → R r b q ≤ r z := fun q i1 z1 => Nat.le_of_lt (By.t.mp (hk2 q (Nat.zero_le _) i1))
                clear hk3
                dsimp -zeta -zetaHave -zetaUnused only
                extract_lets -underBinder -merge +onlyGivenNames k1' bc4 jp3
                have H3 : ∀ q o, HiI r a b (x + 3) o n q → (∀ l, l < q → l < b.size → R r b l ≤ r z) → wpS (model prog w) A E s (jp3 () q o) (fun r' st' => match r' with | .done c' => LoE r a b st c'.1 st' ∨ (c'.1 = none ∧ HiL r a b st (x + 2) c'.2.2.2.1 c'.2.1 c'.2.2.1 st') | .yield c' => c'.1 = none ∧ HiL r a b st (x + 2) c'.2.2.2.1 c'.2.1 c'.2.2.1 st') (SortSt.mk' (kindOf st3) (arrOf st3) (pendingOf st3) g (failedOf st3)) := by
                  clear P2 hk2 hk1 P
                  intro q o P hl
                  refine wpS_bind (wpS_elem hz ?_)
                  have P2 := P.pushA T hz hl
                  extract_lets -underBinder -merge +onlyGivenNames o6
                  by_cases e : n - 1 = 0
                  · rw [if_pos (show (n - 1 == 0) = true from beq_iff_eq.mpr e)]
                    exact wpS_pure (.inl ⟨_, rfl, P2.1 e, hG4⟩)
                  · rw [if_neg (show ¬ (n - 1 == 0) = true from fun q => e (beq_iff_eq.mp q))]
                    split
                    · exact wpS_pure (.inr ⟨rfl, hG4, (P2.2 e).le (by (exact Mine.Ar.lin 0 1 (.le (.a (.v 0) (.k 2)) (.a (.a (.v 0) (.k 3)) (.k 1))) [] (by kernel_rfl) [] [_] rfl rfl ))⟩)
                    · exact wpS_pure ⟨rfl, hG4, (P2.2 e).le (by (exact Mine.Ar.lin 0 1 (.le (.a (.v 0) (.k 2)) (.a (.a (.v 0) (.k 3)) (.k 1))) [] (by kernel_rfl) [] [_] rfl rfl ))⟩
                clear_value jp3
                by_cases e4 : m3 - 1 - k1 > 0
                · rw [if_pos e4]
                  extract_lets -underBinder -merge +onlyGivenNames o7 m7
                  by_cases e5 : k1 = 1
                  · rw [if_pos (show (m7 == 1) = true from beq_iff_eq.mpr e5)]
                    exact wpS_pure (.inl ⟨_, rfl, P2.1 e5, hG4⟩)
                  · rw [if_neg (show ¬ (m7 == 1) = true from fun q => e5 (beq_iff_eq.mp q))]
                    by_cases e6 : k1 = 0
                    · rw [if_pos (show (m7 == 0) = true from beq_iff_eq.mpr e6)]
                      exact wpS_pure (.inl ⟨_, rfl, P2.2.1 e6, hG4⟩)
                    · rw [if_neg (show ¬ (m7 == 0) = true from fun q => e6 (beq_iff_eq.mp q))]
                      exact H3 _ _ (P2.2.2 e5 e6) hk2
                · rw [if_neg e4]
                  exact H3 _ _ P fun l l1 l2 => hk2 l (by (exact Mine.Ar.lin 0 3 (.lt (.v 0) (.v 1)) [(.no (.lt (.k 0) (.s (.s (.v 2) (.k 1)) (.v 1)))), (.lt (.v 0) (.s (.v 2) (.k 1)))] (by kernel_rfl) [] [_, _, _] rfl rfl e4 l1)) l2
            clear_value jp2
            by_cases e4 : n3 - k > 0
            · rw [if_pos e4]
              extract_lets -underBinder -merge +onlyGivenNames o7 n7
              by_cases e5 : k = 0
              · rw [if_pos (show (n7 == 0) = true from beq_iff_eq.mpr e5)]
                exact wpS_pure (.inl ⟨_, rfl, P.1 e5, hG4⟩)
              · rw [if_neg (show ¬ (n7 == 0) = true from fun q => e5 (beq_iff_eq.mp q))]
                exact H2 _ _ (P.2 e5) hk2
            · rw [if_neg e4]
              exact H2 _ _ I fun q q1 q2 => hk2 q (by (exact Mine.Ar.lin 0 3 (.lt (.v 0) (.v 1)) [(.no (.lt (.k 0) (.s (.v 2) (.v 1)))), (.lt (.v 0) (.v 2))] (by kernel_rfl) [] [_, _, _] rfl rfl e4 q1)) q2
          clear_value jp
          split
          · exact wpS_mono (H (mg3 - 1)) fun r' st' q => by cases r' <;> exact q
          · exact wpS_mono (H mg3) fun r' st' q => by cases r' <;> exact q
        · rintro c2 st3 hor
          extract_lets -underBinder -merge +onlyGivenNames cr w1 n3 w2 m3 w3 o3 w4 mg3
          rcases hor with ⟨res, hc, hF, hG⟩ | ⟨hc, hG, I⟩
          · have hcr : cr = some res := hc
            clear_value cr
            subst hcr
            exact wpS_pure ⟨res, rfl, hF, hG⟩
          · have hcr : cr = none := hc
            clear_value cr
            subst hcr
            exact wpS_bind (wpS_modify (wpS_pure ⟨rfl, hG.gal _, I⟩))
  · rintro c st' ⟨_, _, I⟩
    have := I.n1
    have := I.n2
    have := I.pr
    exfalso; lia
  · exact ⟨rfl, .refl, M0, Nat.pos_of_ne_zero e1, by have := T.b0; show 1 < b.size; (exact Mine.Ar.lin 0 1 (.lt (.k 1) (.v 0)) [(.no (.eq (.v 0) (.k 1))), (.lt (.k 0) (.v 0))] (by kernel_rfl) [] [_] rfl rfl e2 this), Nat.sub_le _ _, Nat.le_refl _, by have := T.a0; show a.size - 1 + b.size + (0 + 1) ≤ _; (exact Mine.Ar.lin 0 2 (.le (.a (.a (.s (.v 0) (.k 1)) (.v 1)) (.a (.k 0) (.k 1))) (.a (.v 0) (.v 1))) [(.no (.eq (.s (.v 0) (.k 1)) (.k 0)))] (by kernel_rfl) [] [_, _] rfl rfl e1)⟩
  · rintro c st' ⟨res, hc, hF, hG⟩
    extract_lets -underBinder -merge +onlyGivenNames cr
    have hcr : cr = some res := hc
    clear_value cr
    subst hcr
    exact wpS_pure (h res st' hG hF)
end Tim
end Mine
end

section
set_option Elab.async false
set_option linter.unusedVariables false
set_option linter.unusedSimpArgs false
namespace Mine
namespace Tim
open PySem PyProof.Rows

variable {prog : Program} {w : World} {A : Around} {E : Value → Shared → Prop} {s : Shared} {κ : SortKind} {r : Keyed → Nat} {a₀ : Array Keyed}

noncomputable def writeAt (o : Nat) : List Keyed → Nat → Array Keyed → Array Keyed
  | [], _, a => a
  | p :: l, j, a => writeAt o l (j + 1) (a.setIfInBounds (o + j) p)
theorem writeAt_eq (o : Nat) : ∀ (l : List Keyed) (j : Nat) (a : Array Keyed), (l.zipIdx j).foldl (fun a x => a.setIfInBounds (o + x.2) x.1) a = writeAt o l j a
  | [], _, _ => rfl
  | p :: l, j, a => by rw [List.zipIdx_cons, List.foldl_cons]; exact writeAt_eq o l (j + 1) _
theorem writeAt_get (o : Nat) : ∀ (l : List Keyed) (j : Nat) (a : Array Keyed), o + j + l.length ≤ a.size → ∀ k, (writeAt o l j a)[k]? = if o + j ≤ k ∧ k < o + j + l.length then l[k - (o + j)]? else a[k]?
  | [], j, a, _, k => by
    show a[k]? = _
    rw [if_neg (by simp)]
  | p :: l, j, a, h, k => by
    show (writeAt o l (j + 1) (a.setIfInBounds (o + j) p))[k]? = _
    simp only [List.length_cons] at h ⊢
    rw [writeAt_get o l (j + 1) _ (by simp; (exact Mine.Ar.lin 0 4 (.le (.a (.a (.v 0) (.a (.v 1) (.k 1))) (.v 2)) (.v 3)) [(.le (.a (.a (.v 0) (.v 1)) (.a (.v 2) (.k 1))) (.v 3))] (by kernel_rfl) [] [_, _, _, _] rfl rfl h)) k]
    by_cases h1 : o + (j + 1) ≤ k ∧ k < o + (j + 1) + l.length
    · rw [if_pos h1, if_pos (by (exact Mine.Ar.lin 0 4 (.an (.le (.a (.v 0) (.v 1)) (.v 2)) (.lt (.v 2) (.a (.a (.v 0) (.v 1)) (.a (.v 3) (.k 1))))) [(.an (.le (.a (.v 0) (.a (.v 1) (.k 1))) (.v 2)) (.lt (.v 2) (.a (.a (.v 0) (.a (.v 1) (.k 1))) (.v 3))))] (by kernel_rfl) [] [_, _, _, _] rfl rfl h1)), show k - (o + j) = (k - (o + (j + 1))) + 1 by (exact Mine.Ar.lin 0 4 (.eq (.s (.v 0) (.a (.v 1) (.v 2))) (.a (.s (.v 0) (.a (.v 1) (.a (.v 2) (.k 1)))) (.k 1))) [(.an (.le (.a (.v 1) (.a (.v 2) (.k 1))) (.v 0)) (.lt (.v 0) (.a (.a (.v 1) (.a (.v 2) (.k 1))) (.v 3))))] (by kernel_rfl) [] [_, _, _, _] rfl rfl h1), List.getElem?_cons_succ]
    · rw [if_neg h1]
      by_cases h2 : k = o + j
      · subst h2
        rw [if_pos (by (exact Mine.Ar.lin 0 3 (.an (.le (.a (.v 0) (.v 1)) (.a (.v 0) (.v 1))) (.lt (.a (.v 0) (.v 1)) (.a (.a (.v 0) (.v 1)) (.a (.v 2) (.k 1))))) [] (by kernel_rfl) [] [_, _, _] rfl rfl )), show o + j - (o + j) = 0 by (exact Mine.Ar.lin 0 2 (.eq (.s (.a (.v 0) (.v 1)) (.a (.v 0) (.v 1))) (.k 0)) [] (by kernel_rfl) [] [_, _] rfl rfl )]
        simp [Array.getElem?_setIfInBounds_self_of_lt, show o + j < a.size by (exact Mine.Ar.lin 0 4 (.lt (.a (.v 0) (.v 1)) (.v 2)) [(.le (.a (.a (.v 0) (.v 1)) (.a (.v 3) (.k 1))) (.v 2))] (by kernel_rfl) [] [_, _, _, _] rfl rfl h)]
      · rw [if_neg (by (exact Mine.Ar.lin 0 4 (.no (.an (.le (.a (.v 0) (.v 1)) (.v 2)) (.lt (.v 2) (.a (.a (.v 0) (.v 1)) (.a (.v 3) (.k 1)))))) [(.no (.an (.le (.a (.v 0) (.a (.v 1) (.k 1))) (.v 2)) (.lt (.v 2) (.a (.a (.v 0) (.a (.v 1) (.k 1))) (.v 3))))), (.no (.eq (.v 2) (.a (.v 0) (.v 1))))] (by kernel_rfl) [] [_, _, _, _] rfl rfl h1 h2)), Array.getElem?_setIfInBounds_ne (fun q => h2 q.symm)]
theorem writeAt_list {o : Nat} {l : List Keyed} {a : Array Keyed} (h : o + l.length ≤ a.size) : (writeAt o l 0 a).toList = a.toList.take o ++ (l ++ a.toList.drop (o + l.length)) := by
  apply List.ext_getElem?
  intro k
  rw [Array.getElem?_toList, writeAt_get o l 0 a (by (exact Mine.Ar.lin 0 3 (.le (.a (.a (.v 0) (.k 0)) (.v 1)) (.v 2)) [(.le (.a (.v 0) (.v 1)) (.v 2))] (by kernel_rfl) [] [_, _, _] rfl rfl h))]
  by_cases h1 : k < o
  · rw [if_neg (by (exact Mine.Ar.lin 0 3 (.no (.an (.le (.a (.v 0) (.k 0)) (.v 1)) (.lt (.v 1) (.a (.a (.v 0) (.k 0)) (.v 2))))) [(.lt (.v 1) (.v 0))] (by kernel_rfl) [] [_, _, _] rfl rfl h1)), List.getElem?_append_left (by simp; lia), List.getElem?_take_of_lt h1, Array.getElem?_toList]
  · rw [List.getElem?_append_right (by simp; lia)]
    have e : (a.toList.take o).length = o := by simp; lia
    rw [e]
    by_cases h2 : k < o + l.length
    · rw [if_pos (by (exact Mine.Ar.lin 0 3 (.an (.le (.a (.v 0) (.k 0)) (.v 1)) (.lt (.v 1) (.a (.a (.v 0) (.k 0)) (.v 2)))) [(.no (.lt (.v 1) (.v 0))), (.lt (.v 1) (.a (.v 0) (.v 2)))] (by kernel_rfl) [] [_, _, _] rfl rfl h1 h2)), List.getElem?_append_left (by (exact Mine.Ar.lin 0 3 (.lt (.s (.v 0) (.v 1)) (.v 2)) [(.no (.lt (.v 0) (.v 1))), (.lt (.v 0) (.a (.v 1) (.v 2)))] (by kernel_rfl) [] [_, _, _] rfl rfl h1 h2))]; rfl
    · rw [if_neg (by (exact Mine.Ar.lin 0 3 (.no (.an (.le (.a (.v 0) (.k 0)) (.v 1)) (.lt (.v 1) (.a (.a (.v 0) (.k 0)) (.v 2))))) [(.no (.lt (.v 1) (.a (.v 0) (.v 2))))] (by kernel_rfl) [] [_, _, _] rfl rfl h2)), List.getElem?_append_right (by (exact Mine.Ar.lin 0 3 (.le (.v 0) (.s (.v 1) (.v 2))) [(.no (.lt (.v 1) (.a (.v 2) (.v 0))))] (by kernel_rfl) [] [_, _, _] rfl rfl h2)), List.getElem?_drop, ← Array.getElem?_toList]; congr 1; (exact Mine.Ar.lin 0 3 (.eq (.v 0) (.a (.a (.v 1) (.v 2)) (.s (.s (.v 0) (.v 1)) (.v 2)))) [(.no (.lt (.v 0) (.a (.v 1) (.v 2))))] (by kernel_rfl) [] [_, _, _] rfl rfl h2)

theorem wpS_set {M : Model} {σ : Type} {x : σ} {Q : PUnit → σ → Prop} {st : σ} (h : Q ⟨⟩ x) : wpS M A E s (set x : StateT σ Sem PUnit) Q st := by
  unfold wpS; rw [StateT.run_set]; exact wpAny_pure ⟨rfl, h⟩
theorem Asc.join {xs : Array Keyed} {lo mid hi : Nat} (h1 : Asc r xs lo mid) (h2 : Asc r xs mid hi) (h : ∀ i j, lo ≤ i → i < mid → mid ≤ j → j < hi → R r xs i ≤ R r xs j) : Asc r xs lo hi := by
  intro i j a b c
  by_cases q : j < mid
  · exact h1 i j a b q
  · by_cases q2 : i < mid
    · exact h i j a q2 (by (exact Mine.Ar.lin 0 2 (.le (.v 0) (.v 1)) [(.no (.lt (.v 1) (.v 0)))] (by kernel_rfl) [] [_, _] rfl rfl q)) c
    · exact h2 i j (by (exact Mine.Ar.lin 0 2 (.le (.v 0) (.v 1)) [(.no (.lt (.v 1) (.v 0)))] (by kernel_rfl) [] [_, _] rfl rfl q2)) b c
theorem R_extract {xs : Array Keyed} {i j k : Nat} (hj : j ≤ xs.size) (hk : k < j - i) : R r (xs.extract i j) k = R r xs (i + k) := by
  refine R_congr ?_
  rw [Array.getElem?_extract, if_pos (by lia)]
theorem size_extract' {xs : Array Keyed} {i j : Nat} (hj : j ≤ xs.size) : (xs.extract i j).size = j - i := by simp; lia
theorem Asc.extract {xs : Array Keyed} {i j : Nat} (hj : j ≤ xs.size) (h : Asc r xs i j) : Asc r (xs.extract i j) 0 (xs.extract i j).size := by
  intro p q _ b c
  rw [size_extract' hj] at c
  rw [R_extract hj (by (exact Mine.Ar.lin 0 4 (.lt (.v 0) (.s (.v 1) (.v 2))) [(.le (.v 0) (.v 3)), (.lt (.v 3) (.s (.v 1) (.v 2)))] (by kernel_rfl) [] [_, _, _, _] rfl rfl b c)), R_extract hj (by (exact Mine.Ar.lin 0 3 (.lt (.v 0) (.s (.v 1) (.v 2))) [(.lt (.v 0) (.s (.v 1) (.v 2)))] (by kernel_rfl) [] [_, _, _] rfl rfl c))]
  exact h _ _ (by (exact Mine.Ar.lin 0 2 (.le (.v 0) (.a (.v 0) (.v 1))) [] (by kernel_rfl) [] [_, _] rfl rfl )) (by (exact Mine.Ar.lin 0 3 (.le (.a (.v 0) (.v 1)) (.a (.v 0) (.v 2))) [(.le (.v 1) (.v 2))] (by kernel_rfl) [] [_, _, _] rfl rfl b)) (by (exact Mine.Ar.lin 0 3 (.lt (.a (.v 0) (.v 1)) (.v 2)) [(.lt (.v 1) (.s (.v 2) (.v 0)))] (by kernel_rfl) [] [_, _, _] rfl rfl c))

theorem laid {st : SortSt} {res : Array Keyed} {sa k sb k1 e : Nat} {y z : Keyed} (hB : TB κ a₀ st) (ha : Asc r (arrOf st) sa sb) (hb : Asc r (arrOf st) sb e) (hk : sa + k ≤ sb) (hk1 : sb + k1 ≤ e) (he : e ≤ a₀.size)
    (kA : ∀ i, i < k → R r (arrOf st) (sa + i) ≤ r y) (hy : ∀ j, sb ≤ j → j < e → r y ≤ R r (arrOf st) j) (kB : ∀ j, sb + k1 ≤ j → j < e → r z ≤ R r (arrOf st) j) (hz : ∀ i, sa ≤ i → i < sb → R r (arrOf st) i ≤ r z)
    (hF : Fin' r ((arrOf st).extract (sa + k) sb) ((arrOf st).extract sb (sb + k1)) res) :
    (writeAt (sa + k) res.toList 0 (arrOf st)).Perm (arrOf st) ∧ Asc r (writeAt (sa + k) res.toList 0 (arrOf st)) sa e ∧ ∀ i, i < sa ∨ e ≤ i → (writeAt (sa + k) res.toList 0 (arrOf st))[i]? = (arrOf st)[i]? := by
  have hsz := hB.size
  obtain ⟨hp, hs⟩ := hF
  have hlen : res.toList.length = sb + k1 - (sa + k) := by
    have := hp.length_eq
    rw [List.length_append, toList_ext, toList_ext] at this
    simp only [List.length_take, List.length_drop, Array.length_toList] at this
    rw [Array.length_toList]
    rw [Nat.min_eq_left (Nat.sub_le_sub_right (Nat.le_trans (Nat.le_trans (Nat.le_add_right _ _) hk1) (hsz.symm ▸ he)) _), Nat.min_eq_left (Nat.sub_le_sub_right (Nat.le_trans hk1 (hsz.symm ▸ he)) _)] at this
    exact Mine.Ar.lin 0 5 (.eq (.v 0) (.s (.a (.v 1) (.v 2)) (.a (.v 3) (.v 4)))) [(.eq (.v 0) (.a (.s (.v 1) (.a (.v 3) (.v 4))) (.s (.a (.v 1) (.v 2)) (.v 1)))), (.le (.a (.v 3) (.v 4)) (.v 1))] (by kernel_rfl) [] [_, _, _, _, _] rfl rfl this hk
  have hfit : sa + k + res.toList.length ≤ (arrOf st).size := by (exact Mine.Ar.lin 0 8 (.le (.a (.a (.v 0) (.v 1)) (.v 2)) (.v 3)) [(.le (.a (.v 0) (.v 1)) (.v 4)), (.le (.a (.v 4) (.v 5)) (.v 6)), (.le (.v 6) (.v 7)), (.eq (.v 3) (.v 7)), (.eq (.v 2) (.s (.a (.v 4) (.v 5)) (.a (.v 0) (.v 1))))] (by kernel_rfl) [] [_, _, _, _, _, _, _, _] rfl rfl hk hk1 he hsz hlen)
  have hg := writeAt_get (sa + k) res.toList 0 (arrOf st) (by (exact Mine.Ar.lin 0 4 (.le (.a (.a (.a (.v 0) (.v 1)) (.k 0)) (.v 2)) (.v 3)) [(.le (.a (.a (.v 0) (.v 1)) (.v 2)) (.v 3))] (by kernel_rfl) [] [_, _, _, _] rfl rfl hfit))
  have hnot : ∀ i, i < sa + k ∨ sb + k1 ≤ i → ¬ (sa + k + 0 ≤ i ∧ i < sa + k + 0 + res.toList.length) := fun i hi q => by
    rcases hi with hi | hi
    · exact absurd hi (Nat.not_lt.mpr q.1)
    · have q2 := q.2
      exact Mine.Ar.fls 0 6 [(.le (.a (.v 0) (.v 1)) (.v 2)), (.lt (.v 2) (.a (.a (.a (.v 3) (.v 4)) (.k 0)) (.v 5))), (.eq (.v 5) (.s (.a (.v 0) (.v 1)) (.a (.v 3) (.v 4)))), (.le (.a (.v 3) (.v 4)) (.v 0))] (by kernel_rfl) [] [_, _, _, _, _, _] rfl rfl hi q2 hlen hk
  have hout : ∀ i, i < sa + k ∨ sb + k1 ≤ i → R r (writeAt (sa + k) res.toList 0 (arrOf st)) i = R r (arrOf st) i := fun i hi => R_congr (by rw [hg, if_neg (hnot i hi)])
  have hmid : ∀ i, sa + k ≤ i → i < sb + k1 → ∃ x, x ∈ res.toList ∧ R r (writeAt (sa + k) res.toList 0 (arrOf st)) i = r x := fun i h1 h2 => by
    have hlt : i - (sa + k) < res.toList.length := by (exact Mine.Ar.lin 0 6 (.lt (.s (.v 0) (.a (.v 1) (.v 2))) (.v 3)) [(.eq (.v 3) (.s (.a (.v 4) (.v 5)) (.a (.v 1) (.v 2)))), (.le (.a (.v 1) (.v 2)) (.v 0)), (.lt (.v 0) (.a (.v 4) (.v 5)))] (by kernel_rfl) [] [_, _, _, _, _, _] rfl rfl hlen h1 h2)
    refine ⟨res.toList[i - (sa + k)], List.getElem_mem hlt, R_of ?_⟩
    rw [hg, if_pos (by (exact Mine.Ar.lin 0 4 (.an (.le (.a (.a (.v 0) (.v 1)) (.k 0)) (.v 2)) (.lt (.v 2) (.a (.a (.a (.v 0) (.v 1)) (.k 0)) (.v 3)))) [(.le (.a (.v 0) (.v 1)) (.v 2)), (.lt (.s (.v 2) (.a (.v 0) (.v 1))) (.v 3))] (by kernel_rfl) [] [_, _, _, _] rfl rfl h1 hlt))]
    simp only [Nat.add_zero]
    exact List.getElem?_eq_getElem hlt
  have hfrom : ∀ x, x ∈ res.toList → ∃ j, sa + k ≤ j ∧ j < sb + k1 ∧ R r (arrOf st) j = r x := fun x hx => by
    rcases List.mem_append.mp (hp.mem_iff.mp hx) with q | q
    · rw [toList_ext] at q
      obtain ⟨j, j1, j2, _, j4⟩ := mem_ext (r := r) q
      exact ⟨j, j1, by (exact Mine.Ar.lin 0 5 (.lt (.v 0) (.a (.v 1) (.v 2))) [(.le (.a (.v 3) (.v 4)) (.v 1)), (.lt (.v 0) (.a (.a (.v 3) (.v 4)) (.s (.v 1) (.a (.v 3) (.v 4)))))] (by kernel_rfl) [] [_, _, _, _, _] rfl rfl hk j2), j4⟩
    · rw [toList_ext] at q
      obtain ⟨j, j1, j2, _, j4⟩ := mem_ext (r := r) q
      exact ⟨j, by (exact Mine.Ar.lin 0 4 (.le (.a (.v 0) (.v 1)) (.v 2)) [(.le (.a (.v 0) (.v 1)) (.v 3)), (.le (.v 3) (.v 2))] (by kernel_rfl) [] [_, _, _, _] rfl rfl hk j1), by (exact Mine.Ar.lin 0 3 (.lt (.v 0) (.a (.v 1) (.v 2))) [(.lt (.v 0) (.a (.v 1) (.s (.a (.v 1) (.v 2)) (.v 1))))] (by kernel_rfl) [] [_, _, _] rfl rfl j2), j4⟩
  refine ⟨?_, ?_, fun i hi => by rw [hg, if_neg (hnot i (hi.imp (fun q => Nat.lt_of_lt_of_le q (Nat.le_add_right _ _)) (Nat.le_trans hk1)))]⟩
  · refine Array.perm_iff_toList_perm.mpr ?_
    rw [writeAt_list hfit]
    have e1 : (arrOf st).toList = (arrOf st).toList.take (sa + k) ++ (((arrOf st).extract (sa + k) sb).toList ++ ((arrOf st).extract sb (sb + k1)).toList ++ (arrOf st).toList.drop (sa + k + res.toList.length)) := by
      rw [toList_ext, toList_ext, hlen, show sa + k + (sb + k1 - (sa + k)) = sb + k1 by (exact Mine.Ar.lin 0 4 (.eq (.a (.a (.v 0) (.v 1)) (.s (.a (.v 2) (.v 3)) (.a (.v 0) (.v 1)))) (.a (.v 2) (.v 3))) [(.le (.a (.v 0) (.v 1)) (.v 2))] (by kernel_rfl) [] [_, _, _, _] rfl rfl hk)]
      conv => lhs; rw [← List.take_append_drop (sa + k) (arrOf st).toList]
      congr 1
      conv => lhs; rw [← List.take_append_drop (sb - (sa + k)) ((arrOf st).toList.drop (sa + k))]
      rw [List.append_assoc]
      congr 1
      rw [List.drop_drop, show sa + k + (sb - (sa + k)) = sb by (exact Mine.Ar.lin 0 3 (.eq (.a (.a (.v 0) (.v 1)) (.s (.v 2) (.a (.v 0) (.v 1)))) (.v 2)) [(.le (.a (.v 0) (.v 1)) (.v 2))] (by kernel_rfl) [] [_, _, _] rfl rfl hk)]
      conv => lhs; rw [← List.take_append_drop (sb + k1 - sb) ((arrOf st).toList.drop sb)]
      congr 1
      rw [List.drop_drop]; congr 1; (exact Mine.Ar.lin 0 2 (.eq (.a (.v 0) (.s (.a (.v 0) (.v 1)) (.v 0))) (.a (.v 0) (.v 1))) [] (by kernel_rfl) [] [_, _] rfl rfl )
    conv => rhs; rw [e1]
    exact List.Perm.append_left _ (List.Perm.append_right _ hp)
  · intro i j i1 i2 i3
    by_cases c1 : j < sa + k
    · rw [hout i (.inl (Nat.lt_of_le_of_lt i2 c1)), hout j (.inl c1)]; exact ha i j i1 i2 (by (exact Mine.Ar.lin 0 4 (.lt (.v 0) (.v 1)) [(.le (.a (.v 2) (.v 3)) (.v 1)), (.lt (.v 0) (.a (.v 2) (.v 3)))] (by kernel_rfl) [] [_, _, _, _] rfl rfl hk c1))
    · by_cases c2 : j < sb + k1
      · obtain ⟨x, hx, rx⟩ := hmid j (by (exact Mine.Ar.lin 0 3 (.le (.a (.v 0) (.v 1)) (.v 2)) [(.no (.lt (.v 2) (.a (.v 0) (.v 1))))] (by kernel_rfl) [] [_, _, _] rfl rfl c1)) c2
        obtain ⟨q, q1, q2, q3⟩ := hfrom x hx
        by_cases c3 : i < sa + k
        · rw [hout i (.inl c3), rx, ← q3]
          by_cases c4 : q < sb
          · exact ha i q i1 (by (exact Mine.Ar.lin 0 4 (.le (.v 0) (.v 1)) [(.le (.a (.v 2) (.v 3)) (.v 1)), (.lt (.v 0) (.a (.v 2) (.v 3)))] (by kernel_rfl) [] [_, _, _, _] rfl rfl q1 c3)) c4
          · have := kA (i - sa) (by (exact Mine.Ar.lin 0 3 (.lt (.s (.v 0) (.v 1)) (.v 2)) [(.le (.v 1) (.v 0)), (.lt (.v 0) (.a (.v 1) (.v 2)))] (by kernel_rfl) [] [_, _, _] rfl rfl i1 c3))
            rw [show sa + (i - sa) = i by (exact Mine.Ar.lin 0 2 (.eq (.a (.v 0) (.s (.v 1) (.v 0))) (.v 1)) [(.le (.v 0) (.v 1))] (by kernel_rfl) [] [_, _] rfl rfl i1)] at this
            exact Nat.le_trans this (hy q (by (exact Mine.Ar.lin 0 2 (.le (.v 0) (.v 1)) [(.no (.lt (.v 1) (.v 0)))] (by kernel_rfl) [] [_, _] rfl rfl c4)) (by (exact Mine.Ar.lin 0 4 (.lt (.v 0) (.v 1)) [(.le (.a (.v 2) (.v 3)) (.v 1)), (.lt (.v 0) (.a (.v 2) (.v 3)))] (by kernel_rfl) [] [_, _, _, _] rfl rfl hk1 q2)))
        · -- both inside
          have l1 : i - (sa + k) < res.toList.length := by (exact Mine.Ar.lin 0 7 (.lt (.s (.v 0) (.a (.v 1) (.v 2))) (.v 3)) [(.eq (.v 3) (.s (.a (.v 4) (.v 5)) (.a (.v 1) (.v 2)))), (.le (.v 0) (.v 6)), (.no (.lt (.v 6) (.a (.v 1) (.v 2)))), (.lt (.v 6) (.a (.v 4) (.v 5)))] (by kernel_rfl) [] [_, _, _, _, _, _, _] rfl rfl hlen i2 c1 c2)
          have l2 : j - (sa + k) < res.toList.length := by (exact Mine.Ar.lin 0 6 (.lt (.s (.v 0) (.a (.v 1) (.v 2))) (.v 3)) [(.eq (.v 3) (.s (.a (.v 4) (.v 5)) (.a (.v 1) (.v 2)))), (.no (.lt (.v 0) (.a (.v 1) (.v 2)))), (.lt (.v 0) (.a (.v 4) (.v 5)))] (by kernel_rfl) [] [_, _, _, _, _, _] rfl rfl hlen c1 c2)
          have e1 : R r (writeAt (sa + k) res.toList 0 (arrOf st)) i = r res.toList[i - (sa + k)] := R_of (by rw [hg, if_pos (by (exact Mine.Ar.lin 0 4 (.an (.le (.a (.a (.v 0) (.v 1)) (.k 0)) (.v 2)) (.lt (.v 2) (.a (.a (.a (.v 0) (.v 1)) (.k 0)) (.v 3)))) [(.no (.lt (.v 2) (.a (.v 0) (.v 1)))), (.lt (.s (.v 2) (.a (.v 0) (.v 1))) (.v 3))] (by kernel_rfl) [] [_, _, _, _] rfl rfl c3 l1))]; simp only [Nat.add_zero]; exact List.getElem?_eq_getElem l1)
          have e2 : R r (writeAt (sa + k) res.toList 0 (arrOf st)) j = r res.toList[j - (sa + k)] := R_of (by rw [hg, if_pos (by (exact Mine.Ar.lin 0 4 (.an (.le (.a (.a (.v 0) (.v 1)) (.k 0)) (.v 2)) (.lt (.v 2) (.a (.a (.a (.v 0) (.v 1)) (.k 0)) (.v 3)))) [(.no (.lt (.v 2) (.a (.v 0) (.v 1)))), (.lt (.s (.v 2) (.a (.v 0) (.v 1))) (.v 3))] (by kernel_rfl) [] [_, _, _, _] rfl rfl c1 l2))]; simp only [Nat.add_zero]; exact List.getElem?_eq_getElem l2)
          rw [e1, e2]
          by_cases q : i = j
          · subst q; exact Nat.le_refl _
          · exact (List.pairwise_iff_getElem.mp hs) _ _ l1 l2 (by (exact Mine.Ar.lin 0 4 (.lt (.s (.v 0) (.a (.v 1) (.v 2))) (.s (.v 3) (.a (.v 1) (.v 2)))) [(.le (.v 0) (.v 3)), (.no (.lt (.v 0) (.a (.v 1) (.v 2)))), (.no (.eq (.v 0) (.v 3)))] (by kernel_rfl) [] [_, _, _, _] rfl rfl i2 c3 q))
      · rw [hout j (.inr (Nat.not_lt.mp c2))]
        by_cases c3 : i < sa + k
        · rw [hout i (.inl c3)]
          have := kA (i - sa) (by (exact Mine.Ar.lin 0 3 (.lt (.s (.v 0) (.v 1)) (.v 2)) [(.le (.v 1) (.v 0)), (.lt (.v 0) (.a (.v 1) (.v 2)))] (by kernel_rfl) [] [_, _, _] rfl rfl i1 c3))
          rw [show sa + (i - sa) = i by (exact Mine.Ar.lin 0 2 (.eq (.a (.v 0) (.s (.v 1) (.v 0))) (.v 1)) [(.le (.v 0) (.v 1))] (by kernel_rfl) [] [_, _] rfl rfl i1)] at this
          exact Nat.le_trans this (hy j (by (exact Mine.Ar.lin 0 3 (.le (.v 0) (.v 1)) [(.no (.lt (.v 1) (.a (.v 0) (.v 2))))] (by kernel_rfl) [] [_, _, _] rfl rfl c2)) i3)
        · by_cases c4 : i < sb + k1
          · obtain ⟨x, hx, rx⟩ := hmid i (by (exact Mine.Ar.lin 0 3 (.le (.a (.v 0) (.v 1)) (.v 2)) [(.no (.lt (.v 2) (.a (.v 0) (.v 1))))] (by kernel_rfl) [] [_, _, _] rfl rfl c3)) c4
            obtain ⟨q, q1, q2, q3⟩ := hfrom x hx
            rw [rx, ← q3]
            by_cases c5 : q < sb
            · exact Nat.le_trans (hz q (by (exact Mine.Ar.lin 0 3 (.le (.v 0) (.v 1)) [(.le (.a (.v 0) (.v 2)) (.v 1))] (by kernel_rfl) [] [_, _, _] rfl rfl q1)) c5) (kB j (by (exact Mine.Ar.lin 0 3 (.le (.a (.v 0) (.v 1)) (.v 2)) [(.no (.lt (.v 2) (.a (.v 0) (.v 1))))] (by kernel_rfl) [] [_, _, _] rfl rfl c2)) i3)
            · exact hb q j (by (exact Mine.Ar.lin 0 2 (.le (.v 0) (.v 1)) [(.no (.lt (.v 1) (.v 0)))] (by kernel_rfl) [] [_, _] rfl rfl c5)) (by (exact Mine.Ar.lin 0 4 (.le (.v 0) (.v 1)) [(.no (.lt (.v 1) (.a (.v 2) (.v 3)))), (.lt (.v 0) (.a (.v 2) (.v 3)))] (by kernel_rfl) [] [_, _, _, _] rfl rfl c2 q2)) i3
          · rw [hout i (.inr (Nat.not_lt.mp c4))]; exact hb i j (by (exact Mine.Ar.lin 0 3 (.le (.v 0) (.v 1)) [(.no (.lt (.v 1) (.a (.v 0) (.v 2))))] (by kernel_rfl) [] [_, _, _] rfl rfl c4)) i2 i3

theorem wpS_mergeAt (hC : Ask prog w A s κ r a₀) {st : SortSt} {i sa na pa sb nb pb : Nat} {Q : Bool → SortSt → Prop} (hB : TB κ a₀ st) (hp1 : (pendingOf st)[i]? = some (sa, na, pa)) (hp2 : (pendingOf st)[i + 1]? = some (sb, nb, pb))
    (hsb : sb = sa + na) (hna : 0 < na) (hnb : 0 < nb) (hsz : sb + nb ≤ a₀.size) (ha : Asc r (arrOf st) sa sb) (hb : Asc r (arrOf st) sb (sb + nb))
    (h : ∀ st', TB κ a₀ st' → pendingOf st' = ((pendingOf st).setIfInBounds i (sa, na + nb, pa)).eraseIdxIfInBounds (i + 1) → Asc r (arrOf st') sa (sb + nb) → (∀ k, k < sa ∨ sb + nb ≤ k → (arrOf st')[k]? = (arrOf st)[k]?) → Q true st') :
    wpS (model prog w) A E s (mergeAt' i) Q st := by
  unfold mergeAt'
  refine wpS_bind (wpS_get ?_)
  dsimp only
  rw [show (sortPriv% PySem.Builtin.SortState.pending) st = pendingOf st from rfl, hp1, hp2]
  dsimp only
  refine wpS_bind (wpS_set ?_)
  have hsz0 := hB.size
  have hB1 : TB κ a₀ (SortSt.mk' (kindOf st) (arrOf st) (((pendingOf st).setIfInBounds i (sa, na + nb, pa)).eraseIdxIfInBounds (i + 1)) (gallopOf st) (failedOf st)) := ⟨hB.perm, hB.kind, hB.failed⟩
  obtain ⟨y, hy, my, ry⟩ := hB.at r (i := sb) (by (exact Mine.Ar.lin 0 3 (.lt (.v 0) (.v 1)) [(.lt (.k 0) (.v 2)), (.le (.a (.v 0) (.v 2)) (.v 1))] (by kernel_rfl) [] [_, _, _] rfl rfl hnb hsz))
  refine wpS_bind (wpS_elem hy ?_)
  refine wpS_bind (wpS_gallop hC hB1.kind my (fun q hq => let ⟨p, p1, p2, _⟩ := hB.at r (i := sa + q) (by (exact Mine.Ar.lin 0 6 (.lt (.a (.v 0) (.v 1)) (.v 2)) [(.eq (.v 3) (.a (.v 0) (.v 4))), (.le (.a (.v 3) (.v 5)) (.v 2)), (.lt (.v 1) (.v 4))] (by kernel_rfl) [] [_, _, _, _, _, _] rfl rfl hsb hsz hq)); ⟨p, p1, p2⟩) (by rw [← hsb]; exact ha) hna ?_)
  intro k hk1 hk2 hk3
  dsimp only
  have kA : ∀ q, q < k → R r (arrOf st) (sa + q) ≤ r y := fun q hq => by simpa [By] using hk2 q hq
  have kA' : ∀ q, k ≤ q → q < na → r y < R r (arrOf st) (sa + q) := fun q hq hn => by simpa [By] using hk3 q hq hn
  have hyb : ∀ j, sb ≤ j → j < sb + nb → r y ≤ R r (arrOf st) j := fun j h1 h2 => by rw [← ry]; exact hb sb j (Nat.le_refl _) h1 h2
  by_cases e1 : na - k = 0
  · rw [if_pos (by simpa using e1)]
    refine wpS_pure (h _ hB1 rfl (ha.join hb fun p q p1 p2 p3 p4 => ?_) fun z1 z2 => rfl)
    have := kA (p - sa) (by (exact Mine.Ar.lin 0 5 (.lt (.s (.v 0) (.v 1)) (.v 2)) [(.eq (.v 3) (.a (.v 1) (.v 4))), (.lt (.k 0) (.v 4)), (.eq (.s (.v 4) (.v 2)) (.k 0)), (.lt (.v 0) (.v 3))] (by kernel_rfl) [] [_, _, _, _, _] rfl rfl hsb hna e1 p2))
    rw [show sa + (p - sa) = p by (exact Mine.Ar.lin 0 2 (.eq (.a (.v 0) (.s (.v 1) (.v 0))) (.v 1)) [(.le (.v 0) (.v 1))] (by kernel_rfl) [] [_, _] rfl rfl p1)] at this
    exact Nat.le_trans this (hyb q p3 p4)
  · rw [if_neg (by simpa using e1)]
    obtain ⟨z, hz, mz, rz⟩ := hB.at r (i := sa + k + (na - k) - 1) (by (exact Mine.Ar.lin 0 6 (.lt (.s (.a (.a (.v 0) (.v 1)) (.s (.v 2) (.v 1))) (.k 1)) (.v 3)) [(.eq (.v 4) (.a (.v 0) (.v 2))), (.le (.a (.v 4) (.v 5)) (.v 3)), (.no (.eq (.s (.v 2) (.v 1)) (.k 0)))] (by kernel_rfl) [] [_, _, _, _, _, _] rfl rfl hsb hsz e1))
    have hza : ∀ p, sa ≤ p → p < sb → R r (arrOf st) p ≤ r z := fun p p1 p2 => by rw [← rz]; exact ha p _ p1 (by (exact Mine.Ar.lin 0 5 (.le (.v 0) (.s (.a (.a (.v 1) (.v 2)) (.s (.v 3) (.v 2))) (.k 1))) [(.eq (.v 4) (.a (.v 1) (.v 3))), (.lt (.v 0) (.v 4))] (by kernel_rfl) [] [_, _, _, _, _] rfl rfl hsb p2)) (by (exact Mine.Ar.lin 0 4 (.lt (.s (.a (.a (.v 0) (.v 1)) (.s (.v 2) (.v 1))) (.k 1)) (.v 3)) [(.eq (.v 3) (.a (.v 0) (.v 2))), (.no (.eq (.s (.v 2) (.v 1)) (.k 0)))] (by kernel_rfl) [] [_, _, _, _] rfl rfl hsb e1))
    refine wpS_bind (wpS_elem hz ?_)
    refine wpS_bind (wpS_gallop hC hB1.kind mz (fun q hq => let ⟨p, p1, p2, _⟩ := hB.at r (i := sb + q) (by (exact Mine.Ar.lin 0 4 (.lt (.a (.v 0) (.v 1)) (.v 2)) [(.le (.a (.v 0) (.v 3)) (.v 2)), (.lt (.v 1) (.v 3))] (by kernel_rfl) [] [_, _, _, _] rfl rfl hsz hq)); ⟨p, p1, p2⟩) hb (by (exact Mine.Ar.lin 0 1 (.lt (.s (.v 0) (.k 1)) (.v 0)) [(.lt (.k 0) (.v 0))] (by kernel_rfl) [] [_] rfl rfl hnb)) ?_)
    intro k1 hl1 hl2 hl3
    dsimp only
    have kB : ∀ j, sb + k1 ≤ j → j < sb + nb → r z ≤ R r (arrOf st) j := fun j h1 h2 => by
      have := hl3 (j - sb) (by (exact Mine.Ar.lin 0 3 (.le (.v 0) (.s (.v 1) (.v 2))) [(.le (.a (.v 2) (.v 0)) (.v 1))] (by kernel_rfl) [] [_, _, _] rfl rfl h1)) (by (exact Mine.Ar.lin 0 3 (.lt (.s (.v 0) (.v 1)) (.v 2)) [(.lt (.k 0) (.v 2)), (.lt (.v 0) (.a (.v 1) (.v 2)))] (by kernel_rfl) [] [_, _, _] rfl rfl hnb h2))
      rw [show sb + (j - sb) = j by (exact Mine.Ar.lin 0 3 (.eq (.a (.v 0) (.s (.v 1) (.v 0))) (.v 1)) [(.le (.a (.v 0) (.v 2)) (.v 1))] (by kernel_rfl) [] [_, _, _] rfl rfl h1)] at this
      simpa [By] using this
    have kB' : ∀ q, q < k1 → R r (arrOf st) (sb + q) < r z := fun q hq => by simpa [By] using hl2 q hq
    by_cases e2 : k1 = 0
    · rw [if_pos (by simpa using e2)]
      refine wpS_pure (h _ hB1 rfl (ha.join hb fun p q p1 p2 p3 p4 => ?_) fun z1 z2 => rfl)
      exact Nat.le_trans (hza p p1 p2) (kB q (by (exact Mine.Ar.lin 0 3 (.le (.a (.v 0) (.v 1)) (.v 2)) [(.eq (.v 1) (.k 0)), (.le (.v 0) (.v 2))] (by kernel_rfl) [] [_, _, _] rfl rfl e2 p3)) p4)
    · rw [if_neg (by simpa using e2)]
      have s1 : ((arrOf st).extract (sa + k) sb).size = sb - (sa + k) := size_extract' (by (exact Mine.Ar.lin 0 4 (.le (.v 0) (.v 1)) [(.le (.a (.v 0) (.v 2)) (.v 3)), (.eq (.v 1) (.v 3))] (by kernel_rfl) [] [_, _, _, _] rfl rfl hsz hsz0))
      have s2 : ((arrOf st).extract sb (sb + k1)).size = sb + k1 - sb := size_extract' (by (exact Mine.Ar.lin 0 5 (.le (.a (.v 0) (.v 1)) (.v 2)) [(.le (.a (.v 0) (.v 3)) (.v 4)), (.eq (.v 2) (.v 4)), (.le (.v 1) (.v 3))] (by kernel_rfl) [] [_, _, _, _, _] rfl rfl hsz hsz0 hl1))
      have sub : ∀ (p q : Nat), ∀ x ∈ ((arrOf st).extract p q).toList, x ∈ a₀.toList := fun p q x hx => by
        rw [toList_ext] at hx
        exact hB.mem.mp (List.mem_of_mem_drop (List.mem_of_mem_take hx))
      have f1 : ∀ p, p < ((arrOf st).extract (sa + k) sb).size → R r ((arrOf st).extract sb (sb + k1)) 0 ≤ R r ((arrOf st).extract (sa + k) sb) p := fun p hp => by
        rw [s1] at hp
        rw [R_extract (by (exact Mine.Ar.lin 0 5 (.le (.a (.v 0) (.v 1)) (.v 2)) [(.le (.a (.v 0) (.v 3)) (.v 4)), (.eq (.v 2) (.v 4)), (.le (.v 1) (.v 3))] (by kernel_rfl) [] [_, _, _, _, _] rfl rfl hsz hsz0 hl1)) (by (exact Mine.Ar.lin 0 2 (.lt (.k 0) (.s (.a (.v 0) (.v 1)) (.v 0))) [(.no (.eq (.v 1) (.k 0)))] (by kernel_rfl) [] [_, _] rfl rfl e2)), R_extract (by (exact Mine.Ar.lin 0 4 (.le (.v 0) (.v 1)) [(.le (.a (.v 0) (.v 2)) (.v 3)), (.eq (.v 1) (.v 3))] (by kernel_rfl) [] [_, _, _, _] rfl rfl hsz hsz0)) (by (exact Mine.Ar.lin 0 4 (.lt (.v 0) (.s (.v 1) (.a (.v 2) (.v 3)))) [(.lt (.v 0) (.s (.v 1) (.a (.v 2) (.v 3))))] (by kernel_rfl) [] [_, _, _, _] rfl rfl hp))]
        have := kA' (k + p) (by (exact Mine.Ar.lin 0 2 (.le (.v 0) (.a (.v 0) (.v 1))) [] (by kernel_rfl) [] [_, _] rfl rfl )) (by (exact Mine.Ar.lin 0 5 (.lt (.a (.v 0) (.v 1)) (.v 2)) [(.eq (.v 3) (.a (.v 4) (.v 2))), (.lt (.v 1) (.s (.v 3) (.a (.v 4) (.v 0))))] (by kernel_rfl) [] [_, _, _, _, _] rfl rfl hsb hp))
        rw [show sa + (k + p) = sa + k + p by (exact Mine.Ar.lin 0 3 (.eq (.a (.v 0) (.a (.v 1) (.v 2))) (.a (.a (.v 0) (.v 1)) (.v 2))) [] (by kernel_rfl) [] [_, _, _] rfl rfl )] at this
        rw [Nat.add_zero, ry]; (exact Mine.Ar.lin 0 2 (.le (.v 0) (.v 1)) [(.lt (.v 0) (.v 1))] (by kernel_rfl) [] [_, _] rfl rfl this)
      have f2 : ∀ p, p < ((arrOf st).extract sb (sb + k1)).size → R r ((arrOf st).extract sb (sb + k1)) p ≤ R r ((arrOf st).extract (sa + k) sb) (((arrOf st).extract (sa + k) sb).size - 1) := fun p hp => by
        rw [s2] at hp
        rw [s1, R_extract (by (exact Mine.Ar.lin 0 5 (.le (.a (.v 0) (.v 1)) (.v 2)) [(.le (.a (.v 0) (.v 3)) (.v 4)), (.eq (.v 2) (.v 4)), (.le (.v 1) (.v 3))] (by kernel_rfl) [] [_, _, _, _, _] rfl rfl hsz hsz0 hl1)) (by (exact Mine.Ar.lin 0 3 (.lt (.v 0) (.s (.a (.v 1) (.v 2)) (.v 1))) [(.lt (.v 0) (.s (.a (.v 1) (.v 2)) (.v 1)))] (by kernel_rfl) [] [_, _, _] rfl rfl hp)), R_extract (by (exact Mine.Ar.lin 0 4 (.le (.v 0) (.v 1)) [(.le (.a (.v 0) (.v 2)) (.v 3)), (.eq (.v 1) (.v 3))] (by kernel_rfl) [] [_, _, _, _] rfl rfl hsz hsz0)) (by (exact Mine.Ar.lin 0 4 (.lt (.s (.s (.v 0) (.a (.v 1) (.v 2))) (.k 1)) (.s (.v 0) (.a (.v 1) (.v 2)))) [(.eq (.v 0) (.a (.v 1) (.v 3))), (.no (.eq (.s (.v 3) (.v 2)) (.k 0)))] (by kernel_rfl) [] [_, _, _, _] rfl rfl hsb e1))]
        have := kB' p (by (exact Mine.Ar.lin 0 3 (.lt (.v 0) (.v 1)) [(.lt (.v 0) (.s (.a (.v 2) (.v 1)) (.v 2)))] (by kernel_rfl) [] [_, _, _] rfl rfl hp))
        rw [show sa + k + (sb - (sa + k) - 1) = sa + k + (na - k) - 1 by (exact Mine.Ar.lin 0 4 (.eq (.a (.a (.v 0) (.v 1)) (.s (.s (.v 2) (.a (.v 0) (.v 1))) (.k 1))) (.s (.a (.a (.v 0) (.v 1)) (.s (.v 3) (.v 1))) (.k 1))) [(.eq (.v 2) (.a (.v 0) (.v 3))), (.no (.eq (.s (.v 3) (.v 1)) (.k 0)))] (by kernel_rfl) [] [_, _, _, _] rfl rfl hsb e1), rz]; (exact Mine.Ar.lin 0 2 (.le (.v 0) (.v 1)) [(.lt (.v 0) (.v 1))] (by kernel_rfl) [] [_, _] rfl rfl this)
      have fin : ∀ (res : Array Keyed) (st2 : SortSt), Gs (SortSt.mk' (kindOf st) (arrOf st) (((pendingOf st).setIfInBounds i (sa, na + nb, pa)).eraseIdxIfInBounds (i + 1)) (gallopOf st) (failedOf st)) st2 → Fin' r ((arrOf st).extract (sa + k) sb) ((arrOf st).extract sb (sb + k1)) res →
          Q ((failedOf (setArr st2 (List.foldl (fun a x => a.setIfInBounds (sa + k + x.snd) x.fst) (arrOf st2) res.toList.zipIdx))).isNone) (setArr st2 (List.foldl (fun a x => a.setIfInBounds (sa + k + x.snd) x.fst) (arrOf st2) res.toList.zipIdx)) := fun res st2 hG hF => by
        have hfl : failedOf st2 = none := hG.failed.trans hB.failed
        have e : List.foldl (fun a x => a.setIfInBounds (sa + k + x.snd) x.fst) (arrOf st2) res.toList.zipIdx = writeAt (sa + k) res.toList 0 (arrOf st) := by
          rw [hG.arr]; exact writeAt_eq (sa + k) res.toList 0 (arrOf st)
        rw [e]
        show Q (failedOf st2).isNone _
        rw [hfl]
        obtain ⟨q1, q2, q3⟩ := laid (e := sb + nb) hB ha hb (by (exact Mine.Ar.lin 0 4 (.le (.a (.v 0) (.v 1)) (.v 2)) [(.eq (.v 2) (.a (.v 0) (.v 3))), (.le (.v 1) (.v 3))] (by kernel_rfl) [] [_, _, _, _] rfl rfl hsb hk1)) (by (exact Mine.Ar.lin 0 3 (.le (.a (.v 0) (.v 1)) (.a (.v 0) (.v 2))) [(.le (.v 1) (.v 2))] (by kernel_rfl) [] [_, _, _] rfl rfl hl1)) hsz kA hyb kB hza hF
        exact h _ ⟨q1.trans hB.perm, hG.kind.trans hB.kind, hfl⟩ hG.pend q2 q3
      have z1 : 0 < ((arrOf st).extract (sa + k) sb).size := by (exact Mine.Ar.lin 0 5 (.lt (.k 0) (.v 0)) [(.eq (.v 1) (.a (.v 2) (.v 3))), (.no (.eq (.s (.v 3) (.v 4)) (.k 0))), (.eq (.v 0) (.s (.v 1) (.a (.v 2) (.v 4))))] (by kernel_rfl) [] [_, _, _, _, _] rfl rfl hsb e1 s1)
      have z2 : 0 < ((arrOf st).extract sb (sb + k1)).size := by (exact Mine.Ar.lin 0 3 (.lt (.k 0) (.v 0)) [(.no (.eq (.v 1) (.k 0))), (.eq (.v 0) (.s (.a (.v 2) (.v 1)) (.v 2)))] (by kernel_rfl) [] [_, _, _] rfl rfl e2 s2)
      have c1 : Asc r ((arrOf st).extract (sa + k) sb) 0 ((arrOf st).extract (sa + k) sb).size := Asc.extract (by (exact Mine.Ar.lin 0 4 (.le (.v 0) (.v 1)) [(.le (.a (.v 0) (.v 2)) (.v 3)), (.eq (.v 1) (.v 3))] (by kernel_rfl) [] [_, _, _, _] rfl rfl hsz hsz0)) fun p q p1 p2 p3 => ha p q (by (exact Mine.Ar.lin 0 3 (.le (.v 0) (.v 1)) [(.le (.a (.v 0) (.v 2)) (.v 1))] (by kernel_rfl) [] [_, _, _] rfl rfl p1)) p2 p3
      have c2 : Asc r ((arrOf st).extract sb (sb + k1)) 0 ((arrOf st).extract sb (sb + k1)).size := Asc.extract (by (exact Mine.Ar.lin 0 5 (.le (.a (.v 0) (.v 1)) (.v 2)) [(.le (.a (.v 0) (.v 3)) (.v 4)), (.eq (.v 2) (.v 4)), (.le (.v 1) (.v 3))] (by kernel_rfl) [] [_, _, _, _, _] rfl rfl hsz hsz0 hl1)) fun p q p1 p2 p3 => hb p q p1 p2 (by (exact Mine.Ar.lin 0 4 (.lt (.v 0) (.a (.v 1) (.v 2))) [(.le (.v 3) (.v 2)), (.lt (.v 0) (.a (.v 1) (.v 3)))] (by kernel_rfl) [] [_, _, _, _] rfl rfl hl1 p3))
      have two : Two r a₀ ((arrOf st).extract (sa + k) sb) ((arrOf st).extract sb (sb + k1)) := ⟨sub _ _, sub _ _, z1, z2, c1, c2, f1, f2⟩
      by_cases e3 : na - k ≤ k1
      · rw [if_pos e3]
        refine wpS_bind (wpS_mergeLo hC hB1.kind two fun res st2 hG hF => ?_)
        exact wpS_bind (wpS_modify (wpS_bind (wpS_get (wpS_pure (fin res st2 hG hF)))))
      · rw [if_neg e3]
        refine wpS_bind (wpS_mergeHi hC hB1.kind two fun res st2 hG hF => ?_)
        exact wpS_bind (wpS_modify (wpS_bind (wpS_get (wpS_pure (fin res st2 hG hF)))))
end Tim
end Mine
end

section
set_option Elab.async false
set_option linter.unusedVariables false
set_option linter.unusedSimpArgs false
namespace Mine
namespace Tim
open PySem PyProof.Rows

variable {prog : Program} {w : World} {A : Around} {E : Value → Shared → Prop} {s : Shared} {κ : SortKind} {r : Keyed → Nat} {a₀ : Array Keyed}

noncomputable def Chain (r : Keyed → Nat) (xs : Array Keyed) : Nat → List (Nat × Nat × Nat) → Nat → Prop
  | o, [], e => o = e
  | o, x :: t, e => x.1 = o ∧ 1 ≤ x.2.1 ∧ Asc r xs o (o + x.2.1) ∧ Chain r xs (o + x.2.1) t e
theorem Chain.len {xs : Array Keyed} : ∀ {l : List (Nat × Nat × Nat)} {o e : Nat}, Chain r xs o l e → o + l.length ≤ e
  | [], o, e, h => by have : o = e := h; simp [this]
  | x :: t, o, e, h => by
    obtain ⟨_, h1, _, h2⟩ := h
    have := h2.len
    simp only [List.length_cons]; (exact Mine.Ar.lin 0 4 (.le (.a (.v 0) (.a (.v 1) (.k 1))) (.v 2)) [(.le (.k 1) (.v 3)), (.le (.a (.a (.v 0) (.v 3)) (.v 1)) (.v 2))] (by kernel_rfl) [] [_, _, _, _] rfl rfl h1 this)
theorem Chain.append {xs : Array Keyed} : ∀ {l l' : List (Nat × Nat × Nat)} {o m e : Nat}, Chain r xs o l m → Chain r xs m l' e → Chain r xs o (l ++ l') e
  | [], l', o, m, e, h, h' => by have : o = m := h; subst this; exact h'
  | x :: t, l', o, m, e, h, h' => by
    obtain ⟨a, b, c, d⟩ := h
    exact ⟨a, b, c, d.append h'⟩
theorem Chain.split {xs : Array Keyed} : ∀ {l l' : List (Nat × Nat × Nat)} {o e : Nat}, Chain r xs o (l ++ l') e → ∃ m, Chain r xs o l m ∧ Chain r xs m l' e
  | [], l', o, e, h => ⟨o, rfl, h⟩
  | x :: t, l', o, e, h => by
    obtain ⟨a, b, c, d⟩ := h
    obtain ⟨m, h1, h2⟩ := d.split
    exact ⟨m, ⟨a, b, c, h1⟩, h2⟩
theorem Chain.congr {xs ys : Array Keyed} : ∀ {l : List (Nat × Nat × Nat)} {o e : Nat}, (∀ k, o ≤ k → k < e → R r ys k = R r xs k) → Chain r xs o l e → Chain r ys o l e
  | [], o, e, _, h => h
  | x :: t, o, e, hk, h => by
    obtain ⟨a, b, c, d⟩ := h
    have hl := d.len
    refine ⟨a, b, fun i j h1 h2 h3 => ?_, d.congr fun k h1 h2 => hk k (by lia) h2⟩
    rw [hk i h1 (by lia), hk j (by lia) (by lia)]
    exact c i j h1 h2 h3
theorem Chain.power {xs : Array Keyed} {l : List (Nat × Nat × Nat)} {s n p q o e : Nat} (h : Chain r xs o (l ++ [(s, n, p)]) e) : Chain r xs o (l ++ [(s, n, q)]) e := by
  obtain ⟨m, h1, h2⟩ := h.split
  exact h1.append h2
theorem modify_last {α : Type} (f : α → α) (y : α) : ∀ (l : List α), (l ++ [y]).modify l.length f = l ++ [f y]
  | [] => rfl
  | x :: l => by simp [modify_last f y l]
theorem split_at {α : Type} {l : List α} {i : Nat} (h : i + 1 < l.length) : ∃ pre a b post, l = pre ++ a :: b :: post ∧ pre.length = i := by
  refine ⟨l.take i, l[i], l[i + 1], l.drop (i + 2), ?_, by simp; lia⟩
  conv => lhs; rw [← List.take_append_drop i l, List.drop_eq_getElem_cons (by lia), List.drop_eq_getElem_cons (by lia)]

theorem wpS_mergeC (hC : Ask prog w A s κ r a₀) {st : SortSt} {i e : Nat} {Q : Bool → SortSt → Prop} (hB : TB κ a₀ st) (hch : Chain r (arrOf st) 0 (pendingOf st).toList e) (he : e ≤ a₀.size) (hi : i + 1 < (pendingOf st).size)
    (h : ∀ st', TB κ a₀ st' → Chain r (arrOf st') 0 (pendingOf st').toList e → (pendingOf st').size + 1 = (pendingOf st).size → (∀ k, e ≤ k → (arrOf st')[k]? = (arrOf st)[k]?) → Q true st') :
    wpS (model prog w) A E s (mergeAt' i) Q st := by
  obtain ⟨pre, ⟨sa, na, pa⟩, ⟨sb, nb, pb⟩, post, hl, hlen⟩ := split_at (l := (pendingOf st).toList) (i := i) (by simpa using hi)
  have hch' := hch
  rw [hl] at hch'
  obtain ⟨m, c1, c2⟩ := hch'.split
  obtain ⟨d1, d2, d3, d4, d5, d6, d7⟩ := c2
  dsimp only at d1 d2 d3 d4 d5 d6 d7
  subst d1
  have hle := d7.len
  have g1 : (pendingOf st)[i]? = some (sa, na, pa) := by
    rw [← Array.getElem?_toList, hl, List.getElem?_append_right (by (exact Mine.Ar.lin 0 2 (.le (.v 0) (.v 1)) [(.eq (.v 0) (.v 1))] (by kernel_rfl) [] [_, _] rfl rfl hlen)), hlen]; simp
  have g2 : (pendingOf st)[i + 1]? = some (sb, nb, pb) := by
    rw [← Array.getElem?_toList, hl, List.getElem?_append_right (by (exact Mine.Ar.lin 0 2 (.le (.v 0) (.a (.v 1) (.k 1))) [(.eq (.v 0) (.v 1))] (by kernel_rfl) [] [_, _] rfl rfl hlen)), hlen, show i + 1 - i = 1 by (exact Mine.Ar.lin 0 1 (.eq (.s (.a (.v 0) (.k 1)) (.v 0)) (.k 1)) [] (by kernel_rfl) [] [_] rfl rfl )]; simp
  refine wpS_mergeAt hC hB g1 g2 d4 (by (exact Mine.Ar.lin 0 1 (.lt (.k 0) (.v 0)) [(.le (.k 1) (.v 0))] (by kernel_rfl) [] [_] rfl rfl d2)) (by (exact Mine.Ar.lin 0 1 (.lt (.k 0) (.v 0)) [(.le (.k 1) (.v 0))] (by kernel_rfl) [] [_] rfl rfl d5)) (by (exact Mine.Ar.lin 0 7 (.le (.a (.v 0) (.v 1)) (.v 2)) [(.le (.v 3) (.v 2)), (.eq (.v 0) (.a (.v 4) (.v 5))), (.le (.a (.a (.a (.v 4) (.v 5)) (.v 1)) (.v 6)) (.v 3))] (by kernel_rfl) [] [_, _, _, _, _, _, _] rfl rfl he d4 hle)) (by rw [d4]; exact d3) (by rw [d4]; exact d6) fun st' hB' hp' hA' hk' => ?_
  have hpl : (pendingOf st').toList = pre ++ (sa, na + nb, pa) :: post := by
    rw [hp', Array.toList_eraseIdxIfInBounds, Array.toList_setIfInBounds, hl, ← hlen]
    rw [List.set_append_right _ _ (Nat.le_refl _), Nat.sub_self, List.set_cons_zero, List.eraseIdx_append_of_length_le (by (exact Mine.Ar.lin 0 1 (.le (.v 0) (.a (.v 0) (.k 1))) [] (by kernel_rfl) [] [_] rfl rfl )), show pre.length + 1 - pre.length = 1 by (exact Mine.Ar.lin 0 1 (.eq (.s (.a (.v 0) (.k 1)) (.v 0)) (.k 1)) [] (by kernel_rfl) [] [_] rfl rfl )]
    rfl
  have hRo : ∀ k, k < sa ∨ sb + nb ≤ k → R r (arrOf st') k = R r (arrOf st) k := fun k hk => R_congr (hk' k hk)
  have cpre := c1.len
  refine h st' hB' ?_ ?_ fun k hk => hk' k (.inr (by (exact Mine.Ar.lin 0 7 (.le (.a (.v 0) (.v 1)) (.v 2)) [(.eq (.v 0) (.a (.v 3) (.v 4))), (.le (.a (.a (.a (.v 3) (.v 4)) (.v 1)) (.v 5)) (.v 6)), (.le (.v 6) (.v 2))] (by kernel_rfl) [] [_, _, _, _, _, _, _] rfl rfl d4 hle hk)))
  · rw [hpl]
    refine (c1.congr fun k z1 hk => hRo k (.inl hk)).append ⟨rfl, by dsimp only; (exact Mine.Ar.lin 0 2 (.le (.k 1) (.a (.v 0) (.v 1))) [(.le (.k 1) (.v 0))] (by kernel_rfl) [] [_, _] rfl rfl d2), ?_, ?_⟩
    · dsimp only; rw [show sa + (na + nb) = sb + nb by (exact Mine.Ar.lin 0 4 (.eq (.a (.v 0) (.a (.v 1) (.v 2))) (.a (.v 3) (.v 2))) [(.eq (.v 3) (.a (.v 0) (.v 1)))] (by kernel_rfl) [] [_, _, _, _] rfl rfl d4)]; exact hA'
    · dsimp only; rw [show sa + (na + nb) = sa + na + nb by (exact Mine.Ar.lin 0 3 (.eq (.a (.v 0) (.a (.v 1) (.v 2))) (.a (.a (.v 0) (.v 1)) (.v 2))) [] (by kernel_rfl) [] [_, _, _] rfl rfl )]
      exact d7.congr fun k hk z1 => hRo k (.inr (by (exact Mine.Ar.lin 0 5 (.le (.a (.v 0) (.v 1)) (.v 2)) [(.eq (.v 0) (.a (.v 3) (.v 4))), (.le (.a (.a (.v 3) (.v 4)) (.v 1)) (.v 2))] (by kernel_rfl) [] [_, _, _, _, _] rfl rfl d4 hk)))
  · rw [← Array.length_toList, hpl, ← Array.length_toList, hl]; simp; (exact Mine.Ar.lin 0 2 (.eq (.a (.a (.v 0) (.a (.v 1) (.k 1))) (.k 1)) (.a (.v 0) (.a (.a (.v 1) (.k 1)) (.k 1)))) [] (by kernel_rfl) [] [_, _] rfl rfl )

theorem wpS_sortRuns (hC : Ask prog w A s κ r a₀) {st : SortSt} {Q : Unit → SortSt → Prop} (hB : TB κ a₀ st) (hp : pendingOf st = #[])
    (h : ∀ st', TB κ a₀ st' → Asc r (arrOf st') 0 a₀.size → Q () st') : wpS (model prog w) A E s sortRuns' Q st := by
  rw [sortRuns'_eq]
  refine wpS_bind (wpS_get ?_)
  extract_lets -underBinder -merge +onlyGivenNames size mr
  have hsize : size = a₀.size := hB.size
  clear_value mr size
  subst hsize
  refine wpS_bind (wpS_mono (wpS_forRange
    (I := fun x c st' => ∃ lo, c = (none, lo) ∧ TB κ a₀ st' ∧ Chain r (arrOf st') 0 (pendingOf st').toList lo ∧ lo ≤ a₀.size ∧ x ≤ lo)
    (Q := fun c st' => c = (none, a₀.size) ∧ TB κ a₀ st' ∧ Chain r (arrOf st') 0 (pendingOf st').toList a₀.size) ?_ ?_ ?_) ?_)
  · rintro x c st' _ hx ⟨lo, rfl, hB', hch, hlo, hxl⟩
    extract_lets -underBinder -merge +onlyGivenNames lo'
    have hlo' : lo' = lo := rfl
    clear_value lo'
    subst hlo'
    by_cases hge : lo' ≥ a₀.size
    · rw [if_pos hge]
      have : lo' = a₀.size := by (exact Mine.Ar.lin 0 2 (.eq (.v 0) (.v 1)) [(.le (.v 0) (.v 1)), (.le (.v 1) (.v 0))] (by kernel_rfl) [] [_, _] rfl rfl hlo hge)
      subst this
      exact wpS_pure ⟨rfl, hB', hch⟩
    · rw [if_neg hge]
      refine wpS_bind (wpS_countRun hC hB' (by (exact Mine.Ar.lin 0 2 (.le (.a (.v 0) (.s (.v 1) (.v 0))) (.v 1)) [(.le (.v 0) (.v 1))] (by kernel_rfl) [] [_, _] rfl rfl hlo)) (by (exact Mine.Ar.lin 0 2 (.le (.k 1) (.s (.v 0) (.v 1))) [(.no (.le (.v 0) (.v 1)))] (by kernel_rfl) [] [_, _] rfl rfl hge)) fun n st2 hN2 hn1 hn2 hA2 => ?_)
      dsimp -zeta -zetaHave -zetaUnused only
      extract_lets -underBinder -merge +onlyGivenNames n' jp
      have H : ∀ u n st3, Nx κ a₀ lo' st' st3 → Asc r (arrOf st3) lo' (lo' + n) → 1 ≤ n → lo' + n ≤ a₀.size → wpS (model prog w) A E s (jp u n) (fun r' st' => match r' with | .done c' => c' = (none, a₀.size) ∧ TB κ a₀ st' ∧ Chain r (arrOf st') 0 (pendingOf st').toList a₀.size | .yield c' => ∃ lo, c' = (none, lo) ∧ TB κ a₀ st' ∧ Chain r (arrOf st') 0 (pendingOf st').toList lo ∧ lo ≤ a₀.size ∧ x + 1 ≤ lo) st3 := by
        clear hA2 hn2 hn1 hN2 n' n
        intro u n st3 hN3 hA3 hn1 hn2
        have hch3 : Chain r (arrOf st3) 0 (pendingOf st3).toList lo' := by rw [hN3.pend]; exact hch.congr fun k z1 hk => R_congr (hN3.low k hk)
        refine wpS_bind (wpS_get ?_)
        extract_lets -underBinder -merge +onlyGivenNames jp2
        have H2 : ∀ u st9, TB κ a₀ st9 → Chain r (arrOf st9) 0 (pendingOf st9).toList lo' → Asc r (arrOf st9) lo' (lo' + n) → wpS (model prog w) A E s (jp2 u) (fun r' st' => match r' with | .done c' => c' = (none, a₀.size) ∧ TB κ a₀ st' ∧ Chain r (arrOf st') 0 (pendingOf st').toList a₀.size | .yield c' => ∃ lo, c' = (none, lo) ∧ TB κ a₀ st' ∧ Chain r (arrOf st') 0 (pendingOf st').toList lo ∧ lo ≤ a₀.size ∧ x + 1 ≤ lo) st9 := by
          intro u st9 hB9 hch9 hA9
          refine wpS_bind (wpS_modify (wpS_pure ⟨lo' + n, rfl, ⟨hB9.perm, hB9.kind, hB9.failed⟩, ?_, hn2, by (exact Mine.Ar.lin 0 3 (.le (.a (.v 0) (.k 1)) (.a (.v 1) (.v 2))) [(.le (.v 0) (.v 1)), (.le (.k 1) (.v 2))] (by kernel_rfl) [] [_, _, _] rfl rfl hxl hn1)⟩))
          show Chain r (arrOf st9) 0 ((pendingOf st9).push (lo', n, 0)).toList (lo' + n)
          rw [Array.toList_push]
          exact hch9.append ⟨rfl, hn1, hA9, rfl⟩
        clear_value jp2
        cases hbk : (pendingOf st3).back? with
        | none => exact H2 _ _ hN3.tb hch3 hA3
        | some x =>
          obtain ⟨s1, n1, q1⟩ := x
          dsimp -zeta -zetaHave -zetaUnused only
          extract_lets -underBinder -merge +onlyGivenNames pw
          clear_value pw
          refine wpS_bind (wpS_mono (wpS_forRange (I := fun z1 c st4 => c = (none, ()) ∧ TB κ a₀ st4 ∧ Chain r (arrOf st4) 0 (pendingOf st4).toList lo' ∧ Asc r (arrOf st4) lo' (lo' + n))
            (Q := fun c st4 => c = (none, ()) ∧ TB κ a₀ st4 ∧ Chain r (arrOf st4) 0 (pendingOf st4).toList lo' ∧ Asc r (arrOf st4) lo' (lo' + n)) ?_ (fun z1 z2 q => q) ⟨rfl, hN3.tb, hch3, hA3⟩) ?_)
          · rintro x c st4 _ _ ⟨rfl, hB4, hch4, hA4⟩
            refine wpS_bind (wpS_get ?_)
            (try dsimp only)
            by_cases hs1 : (pendingOf st4).size > 1
            · rw [if_pos hs1]
              obtain ⟨⟨u1, u2, older⟩, hu⟩ : ∃ u, (pendingOf st4)[(pendingOf st4).size - 2]? = some u := ⟨_, getElem?_pos _ _ (by (exact Mine.Ar.lin 0 1 (.lt (.s (.v 0) (.k 2)) (.v 0)) [(.lt (.k 1) (.v 0))] (by kernel_rfl) [] [_] rfl rfl hs1))⟩
              rw [hu]
              dsimp only
              by_cases hold : older ≤ pw
              · rw [if_pos hold]
                exact wpS_pure ⟨rfl, hB4, hch4, hA4⟩
              · rw [if_neg hold]
                refine wpS_bind (wpS_mergeC hC hB4 hch4 (by (exact Mine.Ar.lin 0 2 (.le (.v 0) (.v 1)) [(.le (.v 0) (.v 1))] (by kernel_rfl) [] [_, _] rfl rfl hlo)) (by (exact Mine.Ar.lin 0 1 (.lt (.a (.s (.v 0) (.k 2)) (.k 1)) (.v 0)) [(.lt (.k 1) (.v 0))] (by kernel_rfl) [] [_] rfl rfl hs1)) fun st5 hB5 hch5 z1 hk5 => ?_)
                simp only [Bool.not_true, Bool.false_eq_true, if_false]
                refine wpS_pure ⟨rfl, hB5, hch5, fun i j i1 i2 i3 => ?_⟩
                rw [R_congr (hk5 i i1), R_congr (hk5 j (by (exact Mine.Ar.lin 0 3 (.le (.v 0) (.v 1)) [(.le (.v 0) (.v 2)), (.le (.v 2) (.v 1))] (by kernel_rfl) [] [_, _, _] rfl rfl i1 i2)))]; exact hA4 i j i1 i2 i3
            · rw [if_neg hs1]
              exact wpS_pure ⟨rfl, hB4, hch4, hA4⟩
          · rintro c st4 ⟨rfl, hB4, hch4, hA4⟩
            refine wpS_bind (wpS_modify (H2 _ _ ⟨hB4.perm, hB4.kind, hB4.failed⟩ ?_ hA4))
            show Chain r (arrOf st4) 0 ((pendingOf st4).modify ((pendingOf st4).size - 1) fun x => (x.1, x.2.1, pw)).toList lo'
            rw [Array.toList_modify]
            rcases List.eq_nil_or_concat (pendingOf st4).toList with q | ⟨l, y, q⟩
            · rw [q] at hch4 ⊢; simpa using hch4
            · have hz : (pendingOf st4).size = l.length + 1 := by rw [← Array.length_toList, q]; simp
              rw [q] at hch4 ⊢
              rw [hz, show l.length + 1 - 1 = l.length by (exact Mine.Ar.lin 0 1 (.eq (.s (.a (.v 0) (.k 1)) (.k 1)) (.v 0)) [] (by kernel_rfl) [] [_] rfl rfl ), List.concat_eq_append, modify_last]
              rw [List.concat_eq_append] at hch4
              obtain ⟨y1, y2, y3⟩ := y
              simpa using hch4.power (q := pw)
      clear_value jp
      have hnn : n' = n := rfl
      clear_value n'
      subst hnn
      by_cases hmr : n' < mr
      · rw [if_pos hmr]
        refine wpS_bind (wpS_lift (wpAny_rule ⟨rfl, ?_⟩))
        extract_lets -underBinder -merge +onlyGivenNames force
        refine wpS_bind (wpS_binarySort hC (show lo' + min (a₀.size - lo') mr ≤ a₀.size by lia) (by lia) hN2.tb hA2 fun st3 hN23 hA3 => ?_)
        simp only [Bool.not_true, Bool.false_eq_true, if_false]
        exact wpS_mono (H _ _ _ (hN2.trans hN23) hA3 (by lia) (by lia)) fun r' st' q => by cases r' <;> exact q
      · rw [if_neg hmr]
        exact wpS_mono (H _ _ _ hN2 hA2 hn1 (by (exact Mine.Ar.lin 0 3 (.le (.a (.v 0) (.v 1)) (.v 2)) [(.le (.v 0) (.v 2)), (.le (.v 1) (.s (.v 2) (.v 0)))] (by kernel_rfl) [] [_, _, _] rfl rfl hlo hn2))) fun r' st' q => by cases r' <;> exact q
  · rintro c st' ⟨lo, rfl, hB', hch, hlo, hxl⟩
    have : lo = a₀.size := by lia
    subst this
    exact ⟨rfl, hB', hch⟩
  · exact ⟨0, rfl, hB, by rw [hp]; rfl, by (exact Mine.Ar.lin 0 1 (.le (.k 0) (.v 0)) [] (by kernel_rfl) [] [_] rfl rfl ), by (exact Mine.Ar.lin 0 0 (.le (.k 0) (.k 0)) [] (by kernel_rfl) [] [] rfl rfl )⟩
  · rintro c st' ⟨rfl, hB', hch⟩
    dsimp only
    refine wpS_bind (wpS_mono (wpS_forRange (I := fun x c st'' => c = (none, ()) ∧ TB κ a₀ st'' ∧ Chain r (arrOf st'') 0 (pendingOf st'').toList a₀.size ∧ ((pendingOf st'').size + x ≤ a₀.size ∨ (pendingOf st'').size ≤ 1))
      (Q := fun c st'' => c = (none, ()) ∧ TB κ a₀ st'' ∧ Chain r (arrOf st'') 0 (pendingOf st'').toList a₀.size ∧ (pendingOf st'').size ≤ 1) ?_ ?_ ?_) ?_)
    · rintro x c st'' _ hx ⟨rfl, hB2, hch2, hor⟩
      refine wpS_bind (wpS_get ?_)
      (try dsimp only)
      by_cases h1 : (pendingOf st'').size ≤ 1
      · rw [if_pos h1]
        exact wpS_pure ⟨rfl, hB2, hch2, h1⟩
      · rw [if_neg h1]
        obtain ⟨i, hi, hi'⟩ : ∃ i, i + 1 < (pendingOf st'').size ∧ (if (Option.any (fun x => decide (x < (Option.elim (pendingOf st'')[(pendingOf st'').size - 2 + 1]? 0 fun x => x.2.1))) (if (pendingOf st'').size - 2 > 0 then Option.map (fun x => x.2.1) (pendingOf st'')[(pendingOf st'').size - 2 - 1]? else none)) = true then (pendingOf st'').size - 2 - 1 else (pendingOf st'').size - 2) = i := ⟨_, by (repeat' split) <;> lia, rfl⟩
        rw [hi']
        refine wpS_bind (wpS_mergeC hC hB2 hch2 (Nat.le_refl _) hi fun st5 hB5 hch5 hz5 z1 => ?_)
        simp only [Bool.not_true, Bool.false_eq_true, if_false]
        exact wpS_pure ⟨rfl, hB5, hch5, by lia⟩
    · rintro c st'' ⟨rfl, hB2, hch2, hor⟩
      exact ⟨rfl, hB2, hch2, by lia⟩
    · refine ⟨rfl, hB', hch, .inl ?_⟩
      have := hch.len
      rw [Array.length_toList] at this; (exact Mine.Ar.lin 0 2 (.le (.a (.v 0) (.k 0)) (.v 1)) [(.le (.a (.k 0) (.v 0)) (.v 1))] (by kernel_rfl) [] [_, _] rfl rfl this)
    · rintro c st'' ⟨rfl, hB2, hch2, h1⟩
      dsimp only
      refine wpS_pure (h st'' hB2 ?_)
      match hl : (pendingOf st'').toList, hch2 with
      | [], q => intro i j _ _ hj; have : 0 = a₀.size := q; (exact Mine.Ar.lin 0 4 (.le (.v 0) (.v 1)) [(.lt (.v 2) (.v 3)), (.eq (.k 0) (.v 3))] (by kernel_rfl) [] [_, _, _, _] rfl rfl hj this)
      | [y], q =>
        obtain ⟨_, _, q3, q4⟩ := q
        have : 0 + y.2.1 = a₀.size := q4
        rw [this] at q3; exact q3
      | _ :: _ :: _, _ => rw [← Array.length_toList, hl] at h1; simp at h1
end Tim
end Mine
end

section
set_option Elab.async false
set_option linter.unusedVariables false
set_option linter.unusedSimpArgs false
namespace Mine
namespace Tim
open PySem PyProof.Rows

variable {prog : Program} {w : World} {A : Around} {E : Value → Shared → Prop} {s : Shared}

theorem pairs_mem {vs : List Value} {p : Keyed} (h : p ∈ (pairsOf vs).toList) : p.1 = p.2 ∧ p.1 ∈ vs := by
  unfold pairsOf at h
  simp only [Array.toList_zip] at h
  rw [List.zip_eq_zipWith] at h
  obtain ⟨i, hi, rfl⟩ := List.mem_iff_getElem.mp h
  simp at hi
  simp
theorem pairs_map2 (vs : List Value) : (pairsOf vs).toList.map (·.2) = vs := by
  unfold pairsOf
  simp only [Array.toList_zip]
  exact List.map_snd_zip (by simp)

theorem out_of {vs : List Value} {r : Value → Nat} {xs : Array Keyed} (hp : xs.Perm (pairsOf vs)) (hs : Asc (fun p => r p.1) xs 0 (pairsOf vs).size) :
    (xs.map (·.2)).toList.Perm vs ∧ (xs.map (·.2)).toList.Pairwise fun x y => r x ≤ r y := by
  have hp' := Array.perm_iff_toList_perm.mp hp
  refine ⟨?_, ?_⟩
  · have := hp'.map (·.2)
    rw [pairs_map2] at this
    rw [Array.toList_map]; exact this
  · rw [Array.toList_map, List.pairwise_map]
    have h1 : Srt (fun p => r p.1) xs.toList := Asc.srt (by rw [hp.size_eq]; exact hs)
    refine List.Pairwise.imp_of_mem ?_ h1
    intro a b ha hb hab
    rw [← (pairs_mem (hp'.mem_iff.mp ha)).1, ← (pairs_mem (hp'.mem_iff.mp hb)).1]; exact hab

theorem list_sort_T {r : Value → Nat} {a : Addr} {vs : List Value} {n : Nat} {P : PySem.Fin → Shared → Prop} (ho : s.heap.get? a = some (seqObj "list" vs.toArray n)) (hz : vs.length ≤ 16777216)
    (hask : 2 ≤ vs.length → ∀ s' : Shared, (∀ b o, b ≠ a → s.heap.get? b = some o → s'.heap.get? b = some o) → ∃ κ, (∀ (E : Value → Shared → Prop) (Q : SortKind → Shared → Prop), Q κ s' → wpAny (model prog w) A (keyKind' vs.toArray) Q E s') ∧ Ask prog w A s' κ (fun p => r p.1) (pairsOf vs))
    (h : ∀ out : Array Value, out.toList.Perm vs → (out.toList.Pairwise fun x y => r x ≤ r y) → P (.done (.ret .none)) { s with heap := sortedHeap s.heap a vs out }) :
    wpAny (model prog w) A (Builtin.«list.sort» ⟨[.ref a], []⟩) P E s := by
  rw [list_sort_plain]
  have ha : a < s.heap.objs.size := Heap.lt_size ho
  have hz' : vs.toArray.size ≤ sizeLine := by rw [sizeLine_eq]; simpa using hz
  refine wpAny_bind (listItems_at ho rfl ?_)
  refine wpAny_bind (listUpdate_at ho rfl ?_ hz' (Nat.zero_le _))
  obtain ⟨e1, ho1⟩ : ∃ e1, (s.heap.update a (Obj.mapSeq fun z1 => #[])).get? a = some (seqObj "list" #[] e1) := ⟨_, get?_update_seq ho (fun z1 => #[])⟩
  refine wpAny_bind (seqEpoch_at ho1 rfl ?_)
  refine wpAny_bind (wpAny_newTuple ?_ (by simpa using hz'))
  refine wpAny_bind (wpAny_newList ?_ (Nat.zero_le _))
  refine wpAny_holding ?_
  have ho6 : (((s.heap.update a (Obj.mapSeq fun z1 => #[])).push (seqObj "tuple" vs.toArray 0)).push (seqObj "list" #[] 0)).get? a = some (seqObj "list" #[] e1) := by
    rw [Heap.get?_push_ne _ _ _ (by rw [size_push', Heap.size_update]; exact Nat.ne_of_lt (Nat.lt_succ_of_lt ha)), Heap.get?_push_ne _ _ _ (by rw [Heap.size_update]; exact Nat.ne_of_lt ha)]
    exact ho1
  have keep : ∀ b o, b ≠ a → s.heap.get? b = some o → (((s.heap.update a (Obj.mapSeq fun z1 => #[])).push (seqObj "tuple" vs.toArray 0)).push (seqObj "list" #[] 0)).get? b = some o := fun b o hb e => by
    have hlt : b < s.heap.objs.size := Heap.lt_size e
    rw [Heap.get?_push_ne _ _ _ (by rw [size_push', Heap.size_update]; exact Nat.ne_of_lt (Nat.lt_succ_of_lt hlt)), Heap.get?_push_ne _ _ _ (by rw [Heap.size_update]; exact Nat.ne_of_lt hlt), Heap.get?_update_ne _ _ _ _ hb]
    exact e
  show wpAny (model prog w) A _ P E { s with heap := ((s.heap.update a (Obj.mapSeq fun z1 => #[])).push (seqObj "tuple" vs.toArray 0)).push (seqObj "list" #[] 0) }
  dsimp only
  have fin : ∀ xs : Array Keyed, xs.Perm (pairsOf vs) → Asc (fun p => r p.1) xs 0 (pairsOf vs).size → P (.done (.ret .none)) { s with heap := sortedHeap s.heap a vs (xs.map (·.2)) } := fun xs h1 h2 => by
    obtain ⟨q1, q2⟩ := out_of h1 h2
    exact h _ q1 q2
  by_cases h2 : vs.toArray.size < 2
  · rw [if_pos h2, if_pos h2]
    refine wpAny_bind (wpAny_pure ?_)
    rw [StateT.run_pure]
    refine wpAny_bind (wpAny_pure ?_)
    dsimp only
    refine wpAny_bind (seqEpoch_at ho6 rfl ?_)
    refine wpAny_bind (listUpdate_at ho6 rfl ?_ (Nat.zero_le _) (by rw [Array.size_map]; show (pairsOf vs).size ≤ _; rw [pairsOf_size, sizeLine_eq]; lia))
    simp only [bne_self_eq_false, Bool.false_eq_true, if_false]
    refine wpAny_pure (fin (vs.toArray.zip vs.toArray) (Array.Perm.refl _) ?_)
    intro i j _ hij hj
    have : i = j := by rw [pairsOf_size] at hj; simp at h2; lia
    subst this; exact Nat.le_refl _
  · rw [if_neg h2, if_neg h2]
    obtain ⟨κ, hk, hC⟩ := hask (by simp at h2; lia) { s with heap := ((s.heap.update a (Obj.mapSeq fun z1 => #[])).push (seqObj "tuple" vs.toArray 0)).push (seqObj "list" #[] 0) } keep
    refine wpAny_bind (hk _ _ ?_)
    refine wpAny_bind (wpAny_mono (wpS_sortRuns hC (a₀ := pairsOf vs) (st := SortSt.mk' κ (vs.toArray.zip vs.toArray) #[] 7 none)
      (Q := fun z1 st' => (arrOf st').Perm (pairsOf vs) ∧ failedOf st' = none ∧ Asc (fun p => r p.1) (arrOf st') 0 (pairsOf vs).size) ⟨Array.Perm.refl _, rfl, rfl⟩ rfl fun st' a1 a2 => ⟨a1.perm, a1.failed, a2⟩) ?_ fun z1 z2 e => e)
    rintro ⟨⟨⟩, st'⟩ s' ⟨rfl, hp, hf, hs⟩
    dsimp only
    refine wpAny_bind (seqEpoch_at ho6 rfl ?_)
    refine wpAny_bind (listUpdate_at ho6 rfl ?_ (Nat.zero_le _) (by refine Nat.le_trans (Nat.le_of_eq ((Array.size_map ..).trans (hp.size_eq.trans (pairsOf_size _)))) ?_; rw [sizeLine_eq]; lia))
    rw [hf]
    simp only [bne_self_eq_false, Bool.false_eq_true, if_false]
    exact wpAny_pure (fin _ hp hs)

theorem sorted_T {r : Value → Nat} {l : Addr} {vs : List Value} {Q : Value → Shared → Prop} (hl : s.heap.IsList l vs.toArray) (hz : vs.length ≤ 16777216)
    (hask : 2 ≤ vs.length → ∀ (A' : Around) (s' : Shared), (∀ b o, s.heap.get? b = some o → s'.heap.get? b = some o) → ∃ κ, (∀ (E : Value → Shared → Prop) (Q : SortKind → Shared → Prop), Q κ s' → wpAny (model prog w) A' (keyKind' vs.toArray) Q E s') ∧ Ask prog w A' s' κ (fun p => r p.1) (pairsOf vs))
    (h : ∀ out : Array Value, out.toList.Perm vs → (out.toList.Pairwise fun x y => r x ≤ r y) → Q (.ref (s.heap.objs.size + 1)) { s with heap := sortedAll s.heap vs out }) :
    wpAny (model prog w) A (call (.builtin "sorted") [.ref l]) Q E s := by
  have hz' : vs.length ≤ sizeLine := by rw [sizeLine_eq]; exact hz
  refine Calls.call_function_entry kind_sorted plain_sorted entry_sorted (args_sorted1 _) ?_
  unfold Builtin.«sorted»
  refine wpAny_bind (m := checkCount "sorted" 1 1 _) (wpAny_pure ?_)
  refine wpAny_bind (collect_list hl ?_ hz')
  refine wpAny_bind (wpAny_newList ?_ hz')
  have hsz : ((s.heap.push (seqObj "list" #[] 0)).update s.heap.objs.size (Obj.mapSeq (· ++ vs.toArray))).objs.size = s.heap.objs.size + 1 := by
    rw [Heap.size_update, size_push']
  have hoL : (((s.heap.push (seqObj "list" #[] 0)).update s.heap.objs.size (Obj.mapSeq (· ++ vs.toArray))).push (seqObj "list" vs.toArray 0)).get? (s.heap.objs.size + 1) = some (seqObj "list" vs.toArray 0) := by
    rw [← hsz]; exact Heap.get?_push_size _ rfl
  have keep : ∀ b o, s.heap.get? b = some o → (((s.heap.push (seqObj "list" #[] 0)).update s.heap.objs.size (Obj.mapSeq (· ++ vs.toArray))).push (seqObj "list" vs.toArray 0)).get? b = some o := fun b o q => by
    have hlt : b < s.heap.objs.size := Heap.lt_size q
    rw [Heap.get?_push_ne _ _ _ (by rw [hsz]; exact Nat.ne_of_lt (Nat.lt_succ_of_lt hlt)), Heap.get?_update_ne _ _ _ _ (Nat.ne_of_lt hlt), Heap.get?_push_ne _ _ _ (Nat.ne_of_lt hlt)]
    exact q
  show wpAny _ _ _ _ _ { s with heap := ((s.heap.push (seqObj "list" #[] 0)).update s.heap.objs.size (Obj.mapSeq (· ++ vs.toArray))).push (seqObj "list" vs.toArray 0) }
  rw [hsz]
  refine wpAny_bind (wpAny_holding (wpAny_call_entry slot_list_sort ⟨_, hoL, rfl⟩ entry_list_sort (list_sort_T (r := r) hoL hz (fun h2 s' hk' => hask h2 _ s' fun b o e => ?_) fun out a1 a2 => ⟨_, rfl, ?_⟩) (args_list_sort _)))
  · exact hk' b o (Nat.ne_of_lt (Nat.lt_succ_of_lt (Heap.lt_size e))) (keep b o e)
  · exact wpAny_pure ⟨_, rfl, h out a1 a2⟩
end Tim
end Mine
end

section
set_option Elab.async false
set_option linter.unusedVariables false
set_option linter.unusedSimpArgs false
namespace Mine
open PySem PyProof.Rows

variable {c : Cx} {d : Nat} {sc : Scope} {m : AEnv} {σ : Led} {P : V → Led → Prop} {X : XP} {K : Fl → AEnv → Led → Prop}

structure Lin {κ : Type} (lt : κ → κ → Bool) : Prop where
  irrefl : ∀ a, lt a a = false
  trans : ∀ a b c, lt a b = true → lt b c = true → lt a c = true
  tot : ∀ a b, lt a b = false → lt b a = false → a = b
theorem filter_le {α : Type} {p q : α → Bool} : ∀ {l : List α}, (∀ x ∈ l, p x = true → q x = true) → (l.filter p).length ≤ (l.filter q).length
  | [], _ => Nat.le_refl _
  | x :: l, h => by
    have ih := filter_le fun y hy => h y (List.mem_cons_of_mem _ hy)
    have h0 := h x (List.mem_cons_self ..)
    by_cases hp : p x = true
    · simp [hp, h0 hp]; exact ih
    · by_cases hq : q x = true
      · simp [hp, hq]; (exact Mine.Ar.lin 0 2 (.le (.v 0) (.a (.v 1) (.k 1))) [(.le (.v 0) (.v 1))] (by kernel_rfl) [] [_, _] rfl rfl ih)
      · simp [hp, hq]; exact ih
theorem filter_lt {α : Type} {p q : α → Bool} : ∀ {l : List α}, (∀ x ∈ l, p x = true → q x = true) → (∃ x ∈ l, p x = false ∧ q x = true) → (l.filter p).length < (l.filter q).length
  | [], _, h => by obtain ⟨_, h, _⟩ := h; cases h
  | x :: l, h, ⟨y, hy, h1, h2⟩ => by
    have h0 := h x (List.mem_cons_self ..)
    have hl : ∀ y ∈ l, p y = true → q y = true := fun y hy => h y (List.mem_cons_of_mem _ hy)
    rcases List.mem_cons.mp hy with e | hy
    · subst e
      have := filter_le hl
      simp [h1, h2]; (exact Mine.Ar.lin 0 2 (.lt (.v 0) (.a (.v 1) (.k 1))) [(.le (.v 0) (.v 1))] (by kernel_rfl) [] [_, _] rfl rfl this)
    · have ih := filter_lt hl ⟨y, hy, h1, h2⟩
      by_cases hp : p x = true
      · simp [hp, h0 hp]; exact ih
      · by_cases hq : q x = true
        · simp [hp, hq]; (exact Mine.Ar.lin 0 2 (.lt (.v 0) (.a (.v 1) (.k 1))) [(.lt (.v 0) (.v 1))] (by kernel_rfl) [] [_, _] rfl rfl ih)
        · simp [hp, hq]; exact ih
noncomputable def rank {κ : Type} (lt : κ → κ → Bool) (kv : Value → κ) (vs : List Value) (v : Value) : Nat := (vs.filter fun u => lt (kv u) (kv v)).length
theorem rank_lt {κ : Type} {lt : κ → κ → Bool} (L : Lin lt) {kv : Value → κ} {vs : List Value} {u v : Value} (hu : u ∈ vs) : decide (rank lt kv vs u < rank lt kv vs v) = lt (kv u) (kv v) := by
  unfold rank
  cases h : lt (kv u) (kv v) with
  | true =>
    rw [decide_eq_true_eq]
    exact filter_lt (fun x z1 hx => L.trans _ _ _ hx h) ⟨u, hu, L.irrefl _, h⟩
  | false =>
    rw [decide_eq_false_iff_not, Nat.not_lt]
    refine filter_le fun x z1 hx => ?_
    cases h2 : lt (kv v) (kv u) with
    | true => exact L.trans _ _ _ hx h2
    | false => rw [L.tot _ _ h h2]; exact hx

theorem VRels.perm {h : Heap} {own : List Addr} {α : Type} {e : α → V} {cs ds : List Value} (p : ds.Perm cs) : ∀ {xs : List α}, VRels h own (xs.map e) cs → ∃ ys : List α, ys.Perm xs ∧ VRels h own (ys.map e) ds := by
  induction p with
  | nil => intro xs r; exact ⟨xs, .refl _, r⟩
  | cons x _ ih =>
    intro xs r
    cases xs with
    | nil => simp only [List.map_nil, VRels] at r; cases r
    | cons a xs =>
      simp only [List.map_cons, VRels] at r
      obtain ⟨cv, cs', e', r1, r2⟩ := r
      cases e'
      obtain ⟨ys, hp, hr⟩ := ih r2
      exact ⟨a :: ys, hp.cons a, by simp only [List.map_cons, VRels]; exact ⟨_, _, rfl, r1, hr⟩⟩
  | swap x y l =>
    intro xs r
    match xs, r with
    | [], r => simp only [List.map_nil, VRels] at r; cases r
    | [a], r => simp only [List.map_cons, List.map_nil, VRels] at r; obtain ⟨_, _, e', _, e2⟩ := r; cases e'; cases e2
    | a :: b :: xs, r =>
      simp only [List.map_cons, VRels] at r
      obtain ⟨cv, cs', e', r1, cv2, cs2, e2, r2, r3⟩ := r
      cases e'; cases e2
      exact ⟨b :: a :: xs, List.Perm.swap a b xs, by simp only [List.map_cons, VRels]; exact ⟨_, _, rfl, r2, _, _, rfl, r1, r3⟩⟩
  | trans _ _ h1 h2 =>
    intro xs r
    obtain ⟨ys, hp, hr⟩ := h2 r
    obtain ⟨zs, hp', hr'⟩ := h1 hr
    exact ⟨zs, hp'.trans hp, hr'⟩
theorem VRels.mem {h : Heap} {own : List Addr} {α : Type} {e : α → V} : ∀ {xs : List α} {cs : List Value} {cv : Value}, VRels h own (xs.map e) cs → cv ∈ cs → ∃ a ∈ xs, VRel h own (e a) cv
  | [], cs, cv, r, hm => by simp only [List.map_nil, VRels] at r; subst r; cases hm
  | a :: xs, cs, cv, r, hm => by
    simp only [List.map_cons, VRels] at r
    obtain ⟨c1, cs', rfl, r1, r2⟩ := r
    rcases List.mem_cons.mp hm with rfl | hm
    · exact ⟨a, List.mem_cons_self .., r1⟩
    · obtain ⟨b, hb, q⟩ := VRels.mem r2 hm
      exact ⟨b, List.mem_cons_of_mem _ hb, q⟩
theorem VRels.pairwise {h : Heap} {own : List Addr} {α : Type} {e : α → V} {S : Value → Value → Prop} {T : α → α → Prop} {L : List α} (hST : ∀ a b ca cb, a ∈ L → b ∈ L → VRel h own (e a) ca → VRel h own (e b) cb → S ca cb → T a b) :
    ∀ {xs : List α} {cs : List Value}, (∀ a ∈ xs, a ∈ L) → VRels h own (xs.map e) cs → cs.Pairwise S → xs.Pairwise T
  | [], _, _, _, _ => .nil
  | a :: xs, cs, hL, r, hp => by
    simp only [List.map_cons, VRels] at r
    obtain ⟨c1, cs', rfl, r1, r2⟩ := r
    obtain ⟨h1, h2⟩ := List.pairwise_cons.mp hp
    refine List.pairwise_cons.mpr ⟨fun b hb => ?_, VRels.pairwise hST (fun b hb => hL b (List.mem_cons_of_mem _ hb)) r2 h2⟩
    obtain ⟨i, hi, rfl⟩ := List.mem_iff_getElem.mp hb
    obtain ⟨cb, hcb, rb⟩ := r2.get (i := i) (v := e xs[i]) (by simp [hi])
    exact hST _ _ _ _ (hL a (List.mem_cons_self ..)) (hL _ (List.mem_cons_of_mem _ hb)) r1 rb (h1 cb (List.mem_of_getElem? hcb))

theorem Call_sorted {loc : Bool} {κ : Type} {lt : κ → κ → Bool} (L : Lin lt) {α : Type} (e : α → V) (key : α → κ) (kv : Heap → Value → κ) {xs : List α} {lv : V} (hl : IsLst σ lv (xs.map e))
    (hkv : ∀ h own a cv, a ∈ xs → VRel h own (e a) cv → kv h cv = key a)
    (hask : ∀ (prog : Program) (w : World) (A : Around) (s : Shared) (own : List Addr) (vs : List Value), 2 ≤ vs.length → VRels s.heap own (xs.map e) vs → ∃ k, (∀ (E : Value → Shared → Prop) (Q : SortKind → Shared → Prop), Q k s → wpAny (model prog w) A (keyKind' vs.toArray) Q E s) ∧
      ∀ x ∈ vs, ∀ y ∈ vs, ∀ (E : Value → Shared → Prop) (Q : Bool → Shared → Prop), Q (lt (kv s.heap x) (kv s.heap y)) s → wpAny (model prog w) A (keyLt' k x y) Q E s)
    (h : ∀ ys : List α, ys.Perm xs → (ys.Pairwise fun a b => lt (key b) (key a) = false) → Made c.F loc P (ys.map e) σ) : CallS c d (.builtin "sorted") [lv] σ P X := by
  intro A s E cs hA st rs _
  obtain ⟨x, rfl, r⟩ := rs.un1
  obtain ⟨a, vs, rfl, p, hsz, rs⟩ := hl.plain st r
  have hkvs : ∀ v ∈ vs, ∀ h', Ext s.heap h' → kv h' v = kv s.heap v := fun v hv h' hx => by
    obtain ⟨b, hb, rb⟩ := VRels.mem rs hv
    rw [hkv _ _ b v hb rb, hkv h' (ownS c σ) b v hb (VRel.mono hx.kept .refl _ _ rb)]
  refine Tim.sorted_T (r := rank lt (kv s.heap) vs) p.isList (by rw [sizeLine_eq] at hsz; exact hsz) (fun h2 A' s' hk' => ?_) fun out hp hs => ?_
  · obtain ⟨k, h1, h3⟩ := hask c.k.prog c.k.w A' s' (ownS c σ) vs h2 (VRels.mono (Ext.kept hk') .refl _ _ rs)
    refine ⟨k, h1, fun x hx y hy E' Q hQ => h3 x.1 (Tim.pairs_mem hx).2 y.1 (Tim.pairs_mem hy).2 E' Q ?_⟩
    rw [hkvs _ (Tim.pairs_mem hx).2 _ hk', hkvs _ (Tim.pairs_mem hy).2 _ hk', ← rank_lt L (Tim.pairs_mem hx).2]
    exact hQ
  · have hx : Ext s.heap (sortedAll s.heap vs out) := fun b o e => sortedAll_old e
    obtain ⟨ep, he⟩ := sortedAll_at s.heap vs out
    obtain ⟨ys, hy, hr⟩ := VRels.perm hp rs
    have hlen : out.toList.length = vs.length := hp.length_eq
    have hnew : s.heap.get? (s.heap.objs.size + 1) = none := Heap.get?_none_of_le (Nat.le_succ _)
    have hno : s.heap.objs.size + 1 ∉ ownS c σ := fun hm => by
      rcases List.mem_append.mp hm with q | q
      · obtain ⟨_, o, e⟩ := st.hid _ q; rw [hnew] at e; cases e
      · obtain ⟨o, e⟩ := st.there q; rw [hnew] at e; cases e
    have hpw : out.toList.Pairwise fun x y => lt (kv s.heap y) (kv s.heap x) = false := by
      refine List.Pairwise.imp_of_mem ?_ hs
      intro u v hu hv huv
      have hv' := hp.mem_iff.mp hv
      have := rank_lt (u := v) (v := u) L (kv := kv s.heap) hv'
      rw [← this, decide_eq_false_iff_not]; exact Nat.not_lt.mpr huv
    have hm := h ys hy (VRels.pairwise (L := xs) (by
      intro a b ca cb ha hb ra rb hq
      rw [hkv _ _ a ca ha ra, hkv _ _ b cb hb rb] at hq; exact hq) (fun b hb => hy.mem_iff.mp hb) hr hpw)
    have hpl : PlainSeq (sortedAll s.heap vs out) "list" (s.heap.objs.size + 1) out.toList := ⟨ep, by simpa using he⟩
    have hl2 : out.toList.length ≤ sizeLine := by rw [hlen]; exact hsz
    cases loc with
    | false =>
      refine ⟨.lst (ys.map e), σ, hm, .ext hx rfl rfl, st.ext hx, ?_⟩
      simp only [VRel]
      exact ⟨_, out.toList, rfl, hno, hpl, hl2, VRels.mono hx.kept .refl _ _ hr⟩
    | true =>
      have hn : ∀ b ∈ (O.list (ys.map e)).addrs (s.heap.objs.size + 1), s.heap.get? b = none := fun b hb => by
        rw [List.mem_singleton.mp hb]; exact hnew
      refine ⟨.ref (s.heap.objs.size + 1), _, hm _ (fun q => hno (List.mem_append_right _ q)) (fun q => ?_), ⟨hx.kept, fun b o e => ⟨o, hx b o e⟩, fun b z1 o e => hx b o e, .alloc hn, rfl, rfl⟩, st.alloc hx hn (by simp [O.addrs]) ?_, by simp only [VRel]⟩
      · obtain ⟨o, e⟩ := st.prot _ q; rw [hnew] at e; cases e
      · exact ⟨_, hpl, hl2, VRels.mono hx.kept (Grow.alloc hn).wider _ _ hr⟩

noncomputable def ltL : List Int → List Int → Bool
  | [], [] => false
  | [], _ :: _ => true
  | _ :: _, [] => false
  | x :: xs, y :: ys => if x = y then ltL xs ys else decide (x < y)
theorem ltL_lin : Lin ltL := by
  refine ⟨fun a => ?_, ?_, ?_⟩
  · induction a with
    | nil => rfl
    | cons x a ih => simp [ltL, ih]
  · intro a
    induction a with
    | nil =>
      intro b c h1 h2
      cases b with
      | nil => cases h1
      | cons y b => cases c with
        | nil => cases h2
        | cons z c => rfl
    | cons x a ih =>
      intro b c h1 h2
      cases b with
      | nil => cases h1
      | cons y b => cases c with
        | nil => cases h2
        | cons z c =>
          simp only [ltL] at h1 h2 ⊢
          by_cases e1 : x = y
          · subst e1
            rw [if_pos rfl] at h1
            by_cases e2 : x = z
            · rw [if_pos e2] at h2 ⊢; exact ih b c h1 h2
            · rw [if_neg e2] at h2 ⊢; exact h2
          · rw [if_neg e1] at h1
            simp only [decide_eq_true_eq] at h1
            by_cases e2 : y = z
            · subst e2; rw [if_neg e1]; simpa using h1
            · rw [if_neg e2] at h2
              simp only [decide_eq_true_eq] at h2
              rw [if_neg (by (exact Mine.Ar.lin 3 0 (.no (.ieq (.v 0) (.v 1))) [(.ilt (.v 0) (.v 2)), (.ilt (.v 2) (.v 1))] (by kernel_rfl) [_, _, _] [] rfl rfl h1 h2))]; simp only [decide_eq_true_eq]; (exact Mine.Ar.lin 3 0 (.ilt (.v 0) (.v 1)) [(.ilt (.v 0) (.v 2)), (.ilt (.v 2) (.v 1))] (by kernel_rfl) [_, _, _] [] rfl rfl h1 h2)
  · intro a
    induction a with
    | nil =>
      intro b h1 h2
      cases b with
      | nil => rfl
      | cons y b => cases h1
    | cons x a ih =>
      intro b h1 h2
      cases b with
      | nil => cases h2
      | cons y b =>
        simp only [ltL] at h1 h2
        by_cases e : x = y
        · subst e
          rw [if_pos rfl] at h1 h2
          rw [ih b h1 h2]
        · rw [if_neg e] at h1
          rw [if_neg (fun q => e q.symm)] at h2
          simp only [decide_eq_false_iff_not] at h1 h2
          lia
noncomputable def intV : Value → Int
  | .int n _ => n
  | _ => 0
noncomputable def kvT (h : Heap) : Value → List Int
  | .ref a => match h.get? a with
    | some o => (match o.data with | .seq xs _ => xs.toList.map intV | _ => [])
    | none => []
  | _ => []
theorem VRels.intV {h : Heap} {own : List Addr} : ∀ {ns : List Int} {cs : List Value}, VRels h own (ns.map .int) cs → cs.map Mine.intV = ns
  | [], cs, r => by simp only [List.map_nil, VRels] at r; subst r; rfl
  | n :: ns, cs, r => by
    simp only [List.map_cons, VRels, VRel] at r
    obtain ⟨_, _, rfl, ⟨t, rfl⟩, rs⟩ := r
    simp [Mine.intV, VRels.intV rs]
theorem kvT_of {h : Heap} {own : List Addr} {ns : List Int} {cv : Value} (r : VRel h own (.tup (ns.map .int)) cv) : ∃ a cs n, cv = .ref a ∧ h.get? a = some { cls := .type "tuple", data := .seq cs.toArray n } ∧ VRels h own (ns.map .int) cs ∧ kvT h cv = ns := by
  simp only [VRel] at r
  obtain ⟨a, cs, rfl, _, ⟨n, e⟩, _, rs⟩ := r
  refine ⟨a, cs, n, rfl, e, rs, ?_⟩
  show (match h.get? a with
    | some o => (match o.data with | .seq xs _ => xs.toList.map Mine.intV | _ => [])
    | none => []) = ns
  rw [e]
  exact rs.intV
section
variable {prog : Program} {w : World} {A : Around} {E : Value → Shared → Prop} {s : Shared}
theorem oneLt_ints {b : Bool} {x y : Int} {t u : Tok} {Q : Bool → Shared → Prop} (h : Q (decide (x < y)) s) : wpAny (model prog w) A (oneLt' b (.int x t) (.int y u)) Q E s := by
  cases b with
  | true => exact oneLt_int h
  | false =>
    rw [oneLt'_eq]
    simp only [Bool.false_eq_true, if_false]
    refine wpAny_bind (wpAny_mono (show wpAny (model prog w) A (richCompare .Lt (.int x t) (.int y u)) (fun v s' => v = .bool (decide (x < y)) ∧ s' = s) E s from PySem.P.lt_int ⟨rfl, rfl⟩) ?_ fun z1 z2 x => x)
    rintro v s' ⟨rfl, rfl⟩
    exact wpAny_truthy_bool h
theorem lex_loop {own : List Addr} {R : Option Bool × Unit → Shared → Prop} {body : (Value × Value) × Nat → Option Bool × Unit → Sem (ForInStep (Option Bool × Unit))}
    (hb : ∀ x t y u i (R' : ForInStep (Option Bool × Unit) → Shared → Prop), R' (if x = y then .yield (none, ()) else .done (some (decide (x < y)), ())) s → wpAny (model prog w) A (body ((.int x t, .int y u), i) (none, ())) R' E s) :
    ∀ (ns ks : List Int) (cs ds : List Value) (i : Nat), VRels s.heap own (ns.map .int) cs → VRels s.heap own (ks.map .int) ds → (∀ r, (∀ b, r = some b → b = ltL ns ks) → (r = none → decide (cs.length < ds.length) = ltL ns ks) → R (r, ()) s) →
      wpAny (model prog w) A (forIn ((cs.zip ds).zipIdx i) (none, ()) body) R E s
  | [], ks, cs, ds, i, r1, r2, h => by
    simp only [List.map_nil, VRels] at r1; subst r1
    simp only [List.zip_nil_left, List.zipIdx_nil, List.forIn_nil]
    refine wpAny_pure (h none (by simp) fun z1 => ?_)
    have := r2.length
    cases ks with
    | nil => simp at this; simp [ltL, this]
    | cons k ks => simp at this; simp [ltL]; (exact Mine.Ar.lin 0 2 (.lt (.k 0) (.v 0)) [(.eq (.v 0) (.a (.v 1) (.k 1)))] (by kernel_rfl) [] [_, _] rfl rfl this)
  | n :: ns, [], cs, ds, i, r1, r2, h => by
    simp only [List.map_nil, VRels] at r2; subst r2
    simp only [List.zip_nil_right, List.zipIdx_nil, List.forIn_nil]
    refine wpAny_pure (h none (by simp) fun z1 => ?_)
    simp [ltL]
  | n :: ns, k :: ks, cs, ds, i, r1, r2, h => by
    simp only [List.map_cons, VRels, VRel] at r1 r2
    obtain ⟨_, cs', rfl, ⟨t, rfl⟩, r1⟩ := r1
    obtain ⟨_, ds', rfl, ⟨u, rfl⟩, r2⟩ := r2
    rw [List.zip_cons_cons, List.zipIdx_cons, List.forIn_cons]
    refine wpAny_bind (hb n t k u i _ ?_)
    by_cases e : n = k
    · rw [if_pos e]
      refine lex_loop hb ns ks cs' ds' (i + 1) r1 r2 fun r hr1 hr2 => h r ?_ ?_
      · intro b hrb; rw [hr1 b hrb]; simp [ltL, e]
      · intro hrn; have := hr2 hrn; simp only [List.length_cons, ltL, if_pos e]; rw [← this]; simp
    · rw [if_neg e]
      refine wpAny_pure (h _ ?_ (by simp))
      intro b hrb; cases hrb; simp [ltL, e]
theorem lt_tups {own : List Addr} {a b : Addr} {cs ds : List Value} {n k : Nat} {ns ks : List Int} {fl : Bool} {Q : Bool → Shared → Prop} (h1 : s.heap.get? a = some { cls := .type "tuple", data := .seq cs.toArray n }) (h2 : s.heap.get? b = some { cls := .type "tuple", data := .seq ds.toArray k })
    (r1 : VRels s.heap own (ns.map .int) cs) (r2 : VRels s.heap own (ks.map .int) ds) (h : Q (ltL ns ks) s) : wpAny (model prog w) A (keyLt' (tuples' fl) (.ref a) (.ref b)) Q E s := by
  unfold keyLt'
  refine wpAny_bind (listItems_at h1 rfl (wpAny_bind (listItems_at h2 rfl ?_)))
  dsimp only
  refine wpAny_bind (lex_loop (own := own) ?_ ns ks cs ds 0 r1 r2 fun r hr1 hr2 => ?_)
  · intro x t y u i R' hR
    refine wpAny_bind (wpAny_eqBool_int ?_)
    by_cases e : x = y
    · rw [if_pos e] at hR
      rw [beq_iff_eq.mpr e]
      simp only [Bool.not_true, Bool.false_eq_true, if_false]
      exact wpAny_pure hR
    · rw [if_neg e] at hR
      rw [beq_eq_false_iff_ne.mpr e]
      simp only [Bool.not_false, if_true]
      exact wpAny_bind (oneLt_ints (wpAny_pure hR))
  · cases r with
    | none => dsimp only; refine wpAny_pure ?_; have := hr2 rfl; simp only [List.size_toArray]; rw [this]; exact h
    | some b => dsimp only; refine wpAny_pure ?_; rw [hr1 b rfl]; exact h
theorem firsts_tups {own : List Addr} {α : Type} {e : α → V} {key : α → List Int} (he : ∀ a, e a = .tup ((key a).map .int)) (hne : ∀ a, key a ≠ []) : ∀ (xs : List α) (vs : List Value) {Q : List (Option Value) → Shared → Prop}, VRels s.heap own (xs.map e) vs →
    (∀ fs : List Value, fs.length = vs.length → (∀ f ∈ fs, ∃ n t, f = .int n t) → Q (fs.map some) s) → wpAny (model prog w) A (vs.mapM firstOfTuple') Q E s
  | [], vs, Q, r, h => by
    simp only [List.map_nil, VRels] at r; subst r
    rw [List.mapM_nil]; exact wpAny_pure (h [] rfl (by simp))
  | x :: xs, vs, Q, r, h => by
    simp only [List.map_cons, VRels] at r
    obtain ⟨v, vs', rfl, r1, r2⟩ := r
    rw [he x] at r1
    obtain ⟨a, cs, n, rfl, ha, rs, _⟩ := kvT_of r1
    obtain ⟨k, ks, hk⟩ : ∃ k ks, key x = k :: ks := by
      cases q : key x with
      | nil => exact absurd q (hne x)
      | cons k ks => exact ⟨k, ks, rfl⟩
    rw [hk] at rs
    simp only [List.map_cons, VRels, VRel] at rs
    obtain ⟨_, cs', rfl, ⟨t, rfl⟩, _⟩ := rs
    rw [List.mapM_cons]
    refine wpAny_bind ?_
    unfold firstOfTuple'
    refine wpAny_bind (wpAny_typeOf (T := "tuple") ⟨_, ha, rfl⟩ ?_)
    rw [if_neg (by decide)]
    refine wpAny_bind (listItems_at ha rfl (wpAny_pure ?_))
    refine wpAny_bind (firsts_tups he hne xs vs' r2 fun fs hl hf => wpAny_pure ?_)
    have := h (.int k t :: fs) (by simp [hl]) (by
      intro f hf'
      rcases List.mem_cons.mp hf' with rfl | q
      · exact ⟨_, _, rfl⟩
      · exact hf f q)
    simpa using this
theorem mapM_types : ∀ (fs : List Value) {Q : List Value → Shared → Prop}, (∀ f ∈ fs, ∃ n t, f = Value.int n t) → Q (fs.map fun z1 => Value.type "int") s → wpAny (model prog w) A (fs.mapM typeOf) Q E s
  | [], Q, _, h => by rw [List.mapM_nil]; exact wpAny_pure h
  | f :: fs, Q, hf, h => by
    obtain ⟨n, t, rfl⟩ := hf f (List.mem_cons_self ..)
    rw [List.mapM_cons]
    refine wpAny_bind (wpAny_typeOf (typeIs_int s n t) ?_)
    exact wpAny_bind (mapM_types fs (fun f hf' => hf f (List.mem_cons_of_mem _ hf')) (wpAny_pure h))
theorem kind_tups {own : List Addr} {α : Type} {e : α → V} {key : α → List Int} (he : ∀ a, e a = .tup ((key a).map .int)) (hne : ∀ a, key a ≠ []) {xs : List α} {vs : List Value} {Q : SortKind → Shared → Prop} (r : VRels s.heap own (xs.map e) vs) (h2 : 2 ≤ vs.length) (h : Q (tuples' true) s) :
    wpAny (model prog w) A (keyKind' vs.toArray) Q E s := by
  rw [keyKind'_eq, List.mapM_toArray, map_eq_pure_bind]
  refine wpAny_bind (wpAny_bind (firsts_tups he hne xs vs r fun fs hl hf => wpAny_pure ?_))
  obtain ⟨f₁, fr, rfl⟩ : ∃ f₁ fr, fs = f₁ :: fr := by
    cases fs with
    | nil => simp at hl; lia
    | cons a b => exact ⟨a, b, rfl⟩
  have hall : (((f₁ :: fr).map some).toArray.all fun x => x.isSome) = true := by simp
  rw [if_pos hall]
  refine wpAny_bind (wpAny_rule ?_)
  have hfm : (((f₁ :: fr).map some).toArray.filterMap id) = (f₁ :: fr).toArray := by simp
  rw [hfm, oneTypeOnly'_eq, List.mapM_toArray, map_eq_pure_bind]
  refine wpAny_bind (wpAny_bind (wpAny_bind (mapM_types _ hf (wpAny_pure ?_))))
  have hall2 : ((List.map (fun z1 => Value.type "int") (f₁ :: fr)).toArray.all fun x => x == Value.type "int") = true := by
    simp only [List.all_toArray, List.all_map, List.all_eq_true]
    intro _ _
    rfl
  have h0 : (List.map (fun z1 => Value.type "int") (f₁ :: fr)).toArray[0]? = some (Value.type "int") := by simp
  rw [h0]
  simp only [hall2, if_true]
  exact wpAny_pure (wpAny_pure h)
end
theorem Call_sorted_tupL {loc : Bool} {α : Type} (e : α → V) (key : α → List Int) (he : ∀ a, e a = .tup ((key a).map .int)) (hne : ∀ a, key a ≠ []) {xs : List α} {lv : V} (hl : IsLst σ lv (xs.map e))
    (h : ∀ ys : List α, ys.Perm xs → (ys.Pairwise fun a b => ltL (key b) (key a) = false) → Made c.F loc P (ys.map e) σ) : CallS c d (.builtin "sorted") [lv] σ P X := by
  refine Call_sorted ltL_lin e key kvT hl (fun h own a cv z1 r => ?_) (fun prog w A s own vs h2 r => ⟨tuples' true, fun E Q hQ => kind_tups he hne r h2 hQ, fun x hx y hy E Q hQ => ?_⟩) h
  · rw [he a] at r
    obtain ⟨_, _, _, _, _, _, q⟩ := kvT_of r
    exact q
  · obtain ⟨a, _, ra⟩ := VRels.mem r hx
    obtain ⟨b, _, rb⟩ := VRels.mem r hy
    rw [he a] at ra
    rw [he b] at rb
    obtain ⟨a1, cs, n, rfl, q1, q2, q3⟩ := kvT_of ra
    obtain ⟨b1, ds, k, rfl, p1, p2, p3⟩ := kvT_of rb
    rw [q3, p3] at hQ
    exact lt_tups q1 p1 q2 p2 hQ

theorem Call_sorted_tup {α : Type} (e : α → V) (key : α → List Int) (he : ∀ a, e a = .tup ((key a).map .int)) (hne : ∀ a, key a ≠ []) {xs : List α} {lv : V} (hl : IsLst σ lv (xs.map e))
    (h : ∀ ys : List α, ys.Perm xs → (ys.Pairwise fun a b => ltL (key b) (key a) = false) → P (.lst (ys.map e)) σ) : CallS c d (.builtin "sorted") [lv] σ P X := Call_sorted_tupL (loc := false) e key he hne hl h

theorem ltI_lin : Lin (fun a b : Int => decide (a < b)) := ⟨fun a => by simp, fun a b c h1 h2 => by simp at *; (exact Mine.Ar.lin 3 0 (.ilt (.v 0) (.v 1)) [(.ilt (.v 0) (.v 2)), (.ilt (.v 2) (.v 1))] (by kernel_rfl) [_, _, _] [] rfl rfl h1 h2), fun a b h1 h2 => by simp at *; (exact Mine.Ar.lin 2 0 (.ieq (.v 0) (.v 1)) [(.ile (.v 1) (.v 0)), (.ile (.v 0) (.v 1))] (by kernel_rfl) [_, _] [] rfl rfl h1 h2)⟩
theorem VRels.intsAre {h : Heap} {own : List Addr} : ∀ {ns : List Int} {cs : List Value}, VRels h own (ns.map .int) cs → IntsAre cs ns
  | [], cs, r => by simp only [List.map_nil, VRels] at r; subst r; exact .nil
  | n :: ns, cs, r => by
    simp only [List.map_cons, VRels, VRel] at r
    obtain ⟨_, _, rfl, ⟨t, rfl⟩, rs⟩ := r
    exact .cons _ _ (VRels.intsAre rs)
theorem Call_sorted_int {xs : List Int} {lv : V} (hl : IsLst σ lv (xs.map .int)) (h : ∀ ys : List Int, ys.Perm xs → (ys.Pairwise fun a b => a ≤ b) → P (.lst (ys.map .int)) σ) : CallS c d (.builtin "sorted") [lv] σ P X := by
  refine Call_sorted (loc := false) ltI_lin V.int id (fun z1 v => intV v) hl (fun h own a cv z1 r => ?_) (fun prog w A s own vs h2 r => ⟨oneType', fun E Q hQ => ?_, fun x hx y hy E Q hQ => ?_⟩) fun ys hp hs => h ys hp ?_
  · simp only [VRel] at r; obtain ⟨t, rfl⟩ := r; rfl
  · obtain ⟨v₁, v₂, vr, rfl⟩ : ∃ v₁ v₂ vr, vs = v₁ :: v₂ :: vr := by
      match vs, h2 with
      | v₁ :: v₂ :: vr, _ => exact ⟨_, _, _, rfl⟩
    rw [keyKind_ints (VRels.intsAre r)]; exact wpAny_pure hQ
  · obtain ⟨a, _, ra⟩ := VRels.mem r hx
    obtain ⟨b, _, rb⟩ := VRels.mem r hy
    simp only [VRel] at ra rb
    obtain ⟨t, rfl⟩ := ra
    obtain ⟨u, rfl⟩ := rb
    exact oneLt_int hQ
  · refine List.Pairwise.imp ?_ hs
    intro a b hab; simp at hab; exact hab

noncomputable def strV : Value → List Nat
  | .str x _ => x.cps.toList
  | _ => []
theorem ltS_lin : Lin strKind.blt := ⟨strKind.irrefl, strKind.trans, strKind.total⟩
end Mine
end

section
set_option Elab.async false
set_option linter.unusedVariables false
set_option linter.unusedSimpArgs false
namespace Mine
open PySem

theorem perm_unmap {α β : Type} {f : α → β} {xs ys : List β} (p : xs.Perm ys) : ∀ {l : List α}, ys = l.map f → ∃ m : List α, m.Perm l ∧ xs = m.map f := by
  induction p with
  | nil => intro l e; exact ⟨l, .refl _, e⟩
  | cons x _ ih =>
    intro l e
    cases l with
    | nil => cases e
    | cons a l =>
      rw [List.map_cons] at e
      injection e with e1 e2
      obtain ⟨m, hm, e3⟩ := ih e2
      exact ⟨a :: m, hm.cons a, by rw [List.map_cons, e3, e1]⟩
  | swap x y l0 =>
    intro l e
    match l, e with
    | [], e => cases e
    | [_], e => simp at e
    | a :: b :: l, e =>
      simp only [List.map_cons, List.cons.injEq] at e
      exact ⟨b :: a :: l, .swap .., by simp only [List.map_cons, e.1, e.2.1, e.2.2]⟩
  | trans _ _ h1 h2 =>
    intro l e
    obtain ⟨m, hm, e'⟩ := h2 e
    obtain ⟨m', hm', e''⟩ := h1 e'
    exact ⟨m', hm'.trans hm, e''⟩

section
variable {prog : Program} {w : World} {K : Type} [DecidableEq K] {knd : KeyKind prog w K} {A : Around} {E : Value → Shared → Prop} {s : Shared}

structure SetL (knd : KeyKind prog w K) (led : Bool) (l : List (K × Value)) (es : Array (Int × Value)) (t : SetTable) : Prop where
  ent : es.toList = l.map fun kv => (knd.hash kv.1, kv.2)
  is : ∀ kv ∈ l, knd.is kv.1 kv.2 = true ∧ kv.2.scannable = true
  nodup : (l.map (·.1)).Nodup
  size : es.size < scanBound
  fits : t.fits es.size = true
  led : t.led = led
  plain : t.plain = false ∨ l = []
noncomputable def setObj (es : Array (Int × Value)) (ep : Nat) (t : SetTable) : Obj := { cls := .type "set", data := .set es ep t }
noncomputable def SetR (knd : KeyKind prog w K) (led : Bool) (l : List (K × Value)) (h : Heap) (a : Addr) : Prop := ∃ es ep t, h.get? a = some (setObj es ep t) ∧ SetL knd led l es t
theorem SetL.len {led : Bool} {l : List (K × Value)} {es : Array (Int × Value)} {t : SetTable} (S : SetL knd led l es t) : es.size = l.length := by rw [← Array.length_toList, S.ent, List.length_map]
theorem SetL.elems {led : Bool} {l : List (K × Value)} {es : Array (Int × Value)} {t : SetTable} (S : SetL knd led l es t) : ElemsOf knd es.toList := fun e he => by
  rw [S.ent] at he
  obtain ⟨kv, hk, rfl⟩ := List.mem_map.mp he
  exact ⟨⟨kv.1, (S.is kv hk).1, rfl⟩, (S.is kv hk).2⟩

theorem lay_led (t : SetTable) (es : Array (Int × Value)) (h : Int) (x : Value) : (layNew t es h x).2.1.led = t.led := by
  unfold layNew
  split
  · dsimp only
    unfold SetTable.orStandIn
    split <;> rfl
  · rfl
set_option tactic.hygienic true in
theorem relay_led (t : SetTable) (es : Array (Int × Value)) (n : Nat) : (relayAll t es n).2.1.led = t.led ∧ (t.plain = false → (relayAll t es n).2.1.plain = false) := by
  unfold relayAll
  split
  · rename_i t' order hr
    dsimp only
    split
    · unfold SetTable.relaid SetTable.laid at hr
      simp only [Option.bind_eq_bind, Option.bind_eq_some_iff, Option.pure_def, Option.some.injEq, Prod.mk.injEq] at hr
      obtain ⟨_, _, rfl, _⟩ := hr
      exact ⟨rfl, id⟩
    · exact ⟨rfl, fun z1 => rfl⟩
  · exact ⟨rfl, fun z1 => rfl⟩

theorem store_set {a : Addr} {es es' : Array (Int × Value)} {ep : Nat} {t t' : SetTable} {Q : Unit → Shared → Prop} (ho : s.heap.get? a = some (setObj es ep t)) (hb : es'.size < scanBound)
    (h : ∀ h', Heap.SameBut a s.heap h' → h'.get? a = some (setObj es' (ep + 1) t') → Q () { s with heap := h' }) : wpAny (model prog w) A (storeSet a es' t') Q E s := by
  refine wpAny_storeSet_of ho rfl (h _ (Heap.SameBut.update ..) ?_) (fits_of_scanBound hb)
  have := Heap.get?_update_self (Obj.putSet es' t') ho (by rw [putSet_of es' t' rfl]; rfl)
  rw [putSet_of es' t' rfl] at this; exact this

set_option tactic.hygienic true in
theorem setAdd_R {a : Addr} {led : Bool} {l : List (K × Value)} {k : K} {x : Value} {Q : Bool → Shared → Prop} (hkey : knd.is k x = true) (hsc : x.scannable = true) (hpl : plainKind x = false) (hS : SetR knd led l s.heap a) (hroom : l.length + 1 < scanBound)
    (h : ∀ h' l' b, Heap.SameBut a s.heap h' → SetR knd led l' h' a → l'.Perm (if k ∈ l.map (·.1) then l else l ++ [(k, x)]) → Q b { s with heap := h' }) :
    wpAny (model prog w) A (setAddHashed a x (knd.hash k)) Q E s := by
  obtain ⟨es, ep, t, ho, S⟩ := hS
  have hel := S.elems
  have hd : (setObj es ep t).data = .set es ep t := rfl
  unfold setAddHashed setAddHashedIn
  refine wpAny_holding (wpAny_bind (wpAny_setState_of ho hd S.fits ?_))
  dsimp only
  rw [byScan_of hsc S.size hel]
  simp only [↓reduceIte]
  unfold setAddByScan
  refine wpAny_bind ?_
  refine wpAny_bind (wpAny_rule ?_)
  refine wpAny_bind (wpAny_setScan_of hkey ho hd S.fits hel ?_)
  have hmem : (∃ e ∈ es.toList, knd.is k e.2 = true) ↔ k ∈ l.map (·.1) := by
    rw [S.ent]
    constructor
    · rintro ⟨e, he, hp⟩
      obtain ⟨kv, hk, rfl⟩ := List.mem_map.mp he
      exact List.mem_map.mpr ⟨kv, hk, knd.inj _ _ _ (S.is kv hk).1 hp⟩
    · intro hm
      obtain ⟨kv, hk, rfl⟩ := List.mem_map.mp hm
      exact ⟨_, List.mem_map.mpr ⟨kv, hk, rfl⟩, (S.is kv hk).1⟩
  cases hr : List.findIdx? (fun e => knd.is k e.2) es.toList with
  | some j =>
    dsimp only
    obtain ⟨hj, hpj, _⟩ := List.findIdx?_eq_some_iff_getElem.mp hr
    refine wpAny_pure (wpAny_pure ?_)
    have e : s = { s with heap := s.heap } := by cases s; rfl
    rw [e]
    refine h s.heap l _ (Heap.SameBut.refl a s.heap) ⟨es, ep, t, ho, S⟩ ?_
    rw [if_pos (hmem.mp ⟨_, List.getElem_mem hj, hpj⟩)]
  | none =>
    dsimp only
    have hno : k ∉ l.map (·.1) := fun hm => by
      obtain ⟨e, he, hp⟩ := hmem.mpr hm
      have := List.findIdx?_eq_none_iff.mp hr e he
      rw [hp] at this; exact Bool.noConfusion this
    have hgw : ∀ (b : Bool) {s₁ : Shared} {Q' : Unit → Shared → Prop}, Q' () s₁ → wpAny (model prog w) A (match b with | true => rule "set.scan.the-table-gave-way" | false => pure ()) Q' E s₁ :=
      fun b s₁ Q' hq => by cases b <;> first | exact wpAny_pure hq | exact wpAny_rule hq
    have hperm := layNew_perm t es (knd.hash k) x
    have hfits := layNew_fits t es (knd.hash k) x
    have hled := (lay_led t es (knd.hash k) x).trans S.led
    generalize hL : layNew t es (knd.hash k) x = L at hperm hfits hled ⊢
    obtain ⟨es1, t1, wasDummy, gave⟩ := L
    dsimp only at hperm hfits hled ⊢
    obtain ⟨l1, hl1, e1⟩ := perm_unmap (f := fun kv : K × Value => (knd.hash kv.1, kv.2)) (l := l ++ [(k, x)]) hperm (by rw [Array.toList_push, S.ent, List.map_append]; rfl)
    have hlen : es1.size = l.length + 1 := by rw [← Array.length_toList, e1, List.length_map, hl1.length_eq, List.length_append]; rfl
    have mk : ∀ (es2 : Array (Int × Value)) (t2 : SetTable), List.Perm es2.toList es1.toList → t2.fits es2.size = true → t2.led = led → t2.plain = false → ∃ l2, l2.Perm (l ++ [(k, x)]) ∧ SetL knd led l2 es2 t2 := fun es2 t2 p f hl hp => by
      obtain ⟨l2, h2, e2⟩ := perm_unmap p e1
      have p2 := h2.trans hl1
      refine ⟨l2, p2, ⟨e2, fun kv hkv => ?_, ?_, ?_, f, hl, .inl hp⟩⟩
      · rcases List.mem_append.mp (p2.mem_iff.mp hkv) with q | q
        · exact S.is kv q
        · rw [List.mem_singleton.mp q]; exact ⟨hkey, hsc⟩
      · rw [(p2.map (·.1)).nodup_iff, List.map_append, List.nodup_append]
        refine ⟨S.nodup, by simp, fun u hu v hv q => ?_⟩
        simp only [List.map_cons, List.map_nil, List.mem_singleton] at hv
        rw [q, hv] at hu; exact hno hu
      · rw [← Array.length_toList, p.length_eq, Array.length_toList, hlen]; exact hroom
    refine wpAny_bind (hgw _ ?_)
    have hend : ∀ h' es2 ep2 t2 l2 b, Heap.SameBut a s.heap h' → h'.get? a = some (setObj es2 ep2 t2) → l2.Perm (l ++ [(k, x)]) → SetL knd led l2 es2 t2 → Q b { s with heap := h' } := fun h' es2 ep2 t2 l2 b sb e p S2 => h h' l2 b sb ⟨es2, ep2, t2, e, S2⟩ (by rw [if_neg hno]; exact p)
    have fin : ∀ t2 : SetTable, t2.fits es1.size = true → t2.led = led → t2.plain = false → wpAny (model prog w) A (do
        storeSet a es1 t2
        if (!wasDummy && t2.tooFull) = true then do
            (match (relayAll t2 es1 (SetTable.grown es1.size)).2.2 with | true => rule "set.scan.the-table-gave-way" | false => pure ())
            storeSet a (relayAll t2 es1 (SetTable.grown es1.size)).1 (relayAll t2 es1 (SetTable.grown es1.size)).2.1
            pure (some true)
          else pure (some true)) (fun r s' => match r with | some b => Q b s' | none => False) E s := by
      intro t2 f1 f2 f3
      refine wpAny_bind (store_set ho (by rw [hlen]; exact hroom) fun h1 sb1 g1 => ?_)
      split
      · have hp := relayAll_perm t2 es1 (SetTable.grown es1.size)
        have hf := relayAll_fits t2 es1 (SetTable.grown es1.size)
        obtain ⟨q1, q2⟩ := relay_led t2 es1 (SetTable.grown es1.size)
        generalize relayAll t2 es1 (SetTable.grown es1.size) = R at hp hf q1 q2 ⊢
        obtain ⟨l2, p2, S2⟩ := mk R.1 R.2.1 hp hf (q1.trans f2) (q2 f3)
        refine wpAny_bind (hgw _ ?_)
        refine wpAny_bind (store_set (s := { s with heap := h1 }) g1 S2.size fun h2 sb2 g2 => wpAny_pure ?_)
        exact hend h2 _ _ _ l2 true (sb1.trans sb2) g2 p2 S2
      · obtain ⟨l2, p2, S2⟩ := mk es1 t2 (.refl _) f1 f2 f3
        exact wpAny_pure (hend h1 _ _ _ l2 true sb1 g1 p2 S2)
    split
    · refine wpAny_bind ?_
      rw [hashByValue_scannable 8 hsc, hpl]
      refine wpAny_pure ?_
      refine wpAny_mono (fin { t1 with plain := false } (SetTable.fits_plain_off hfits) hled rfl) (fun r s' q => ?_) fun z1 z2 q => q
      cases r with
      | none => exact q.elim
      | some b => exact wpAny_pure q
    · rename_i hp1
      refine wpAny_bind (wpAny_pure ?_)
      simp only [↓reduceIte]
      refine wpAny_mono (fin t1 hfits hled (by simpa using hp1)) (fun r s' q => ?_) fun z1 z2 q => q
      cases r with
      | none => exact q.elim
      | some b => exact wpAny_pure q
end
end Mine
end

section
set_option Elab.async false
set_option linter.unusedVariables false
set_option linter.unusedSimpArgs false
set_option maxRecDepth 100000
namespace Mine
open PySem PySem.Spec

section
variable {prog : Program} {w : World} {K : Type} [DecidableEq K] {knd : KeyKind prog w K} {A : Around} {E : Value → Shared → Prop} {s : Shared}

theorem SetR.at {led : Bool} {l : List (K × Value)} {h h' : Heap} {a : Addr} (x : SetR knd led l h a) (k : ∀ o, h.get? a = some o → h'.get? a = some o) : SetR knd led l h' a :=
  let ⟨es, ep, t, e, S⟩ := x; ⟨es, ep, t, k _ e, S⟩

theorem set_loop {R : Result → Shared → Prop} {I : Addr} {fp wr : List Addr} {G : Array GenState → Array GenState → Prop} {n : Nat} {P : Nat → Value → Prop} {St : Nat → Shared → Prop} (W : WalksS prog w A.in1 I fp wr G n P St) (S : Addr) (hSf : S ∉ fp) {led : Bool} (key : Nat → K)
    (hval : ∀ i v, P i v → knd.is (key i) v = true ∧ v.scannable = true ∧ plainKind v = false) (hb : n + 1 < scanBound) :
    ∀ (k i : Nat) (s : Shared) (l : List (K × Value)), n - i = k → i ≤ n → St i s → SetR knd led l s.heap S → l.length ≤ i → (∀ q, q ∈ l.map (·.1) ↔ ∃ j, j < i ∧ key j = q) →
      (∀ s' l', Moved (S :: wr) G s s' → SetR knd led l' s'.heap S → (∀ q, q ∈ l'.map (·.1) ↔ ∃ j, j < n ∧ key j = q) → R (.ok (.ret .none)) s') →
      codeAny (model prog w) A (.builtin "set.update.loop" ⟨[.ref S, .ref I], []⟩) R s := by
  have hSw : S ∉ wr := fun h => hSf (W.sub _ h)
  have hsub : ∀ b ∈ wr, b ∈ S :: wr := fun b hb => List.mem_cons_of_mem _ hb
  intro k
  induction k with
  | zero =>
    intro i s l hk hi hst hS hl hm hR
    have hin : i = n := Nat.le_antisymm hi (Nat.sub_eq_zero_iff_le.mp hk)
    subst hin
    refine codeAny_builtin PyProof.Rows.F.entry_set_update_loop ?_
    rw [Around.under_plainId PyProof.Rows.F.plain_set_update_loop _]
    show wpAny _ A.in1 (pyNext (.ref I) >>= _) _ _ s
    refine wpAny_bind (W.done s _ _ hst fun s' hm' => ?_)
    show wpAny _ A.in1 (ret Value.none) _ _ s'
    exact wpAny_pure (hR s' l (hm'.mono hsub) (hS.at fun o e => hm'.heap S _ hSw e) hm)
  | succ k ih =>
    intro i s l hk hi hst hS hl hm hR
    have hlt : i < n := by (exact Mine.Ar.lin 0 3 (.lt (.v 0) (.v 1)) [(.eq (.s (.v 1) (.v 0)) (.a (.v 2) (.k 1)))] (by kernel_rfl) [] [_, _, _] rfl rfl hk)
    refine codeAny_builtin PyProof.Rows.F.entry_set_update_loop ?_
    rw [Around.under_plainId PyProof.Rows.F.plain_set_update_loop _]
    show wpAny _ A.in1 (pyNext (.ref I) >>= _) _ _ s
    refine wpAny_bind (W.item i s _ _ hlt hst fun v s' hP hst' hm' => ?_)
    obtain ⟨v1, v2, v3⟩ := hval i v hP
    have hS' : SetR knd led l s'.heap S := hS.at fun o e => hm'.heap S _ hSw e
    show wpAny _ A.in1 (holding [v] (setAdd S v) >>= _) _ _ s'
    refine wpAny_bind (wpAny_holding ?_)
    unfold setAdd
    refine wpAny_holding ?_
    refine wpAny_bind (knd.pyHash (k := key i) v1 ?_)
    refine setAdd_R (s := { s' with toks := s'.toks + 1 }) v1 v2 v3 hS' (by (exact Mine.Ar.lin 0 5 (.lt (.a (.v 0) (.k 1)) (.v 1)) [(.lt (.a (.v 2) (.k 1)) (.v 1)), (.eq (.s (.v 2) (.v 3)) (.a (.v 4) (.k 1))), (.le (.v 0) (.v 3))] (by kernel_rfl) [] [_, _, _, _, _] rfl rfl hb hk hl)) fun h' l' b hsb hS2 hp => ?_
    refine wpAny_pure ⟨plainId_quiet PyProof.Rows.F.plain_set_update_loop _, ih (i + 1) _ l' (by (exact Mine.Ar.lin 0 3 (.eq (.s (.v 0) (.a (.v 1) (.k 1))) (.v 2)) [(.eq (.s (.v 0) (.v 1)) (.a (.v 2) (.k 1)))] (by kernel_rfl) [] [_, _, _] rfl rfl hk)) hlt (W.frame _ s' _ _ hst' (Nat.le_succ _) fun b hb o e => ?_) hS2 ?_ (fun q => ?_) fun s'' l'' hm'' hS'' hq => ?_⟩
    · rw [hsb.2 b (fun h : b = S => hSf (by rw [← h]; exact hb))]; exact e
    · rw [hp.length_eq]
      split
      · (exact Mine.Ar.lin 0 2 (.le (.v 0) (.a (.v 1) (.k 1))) [(.le (.v 0) (.v 1))] (by kernel_rfl) [] [_, _] rfl rfl hl)
      · rw [List.length_append]; simp; (exact Mine.Ar.lin 0 2 (.le (.v 0) (.v 1)) [(.le (.v 0) (.v 1))] (by kernel_rfl) [] [_, _] rfl rfl hl)
    · rw [(hp.map (·.1)).mem_iff]
      constructor
      · intro hq
        split at hq
        · obtain ⟨j, j1, j2⟩ := (hm q).mp hq; exact ⟨j, Nat.lt_succ_of_lt j1, j2⟩
        · rw [List.map_append, List.mem_append] at hq
          rcases hq with hq | hq
          · obtain ⟨j, j1, j2⟩ := (hm q).mp hq; exact ⟨j, Nat.lt_succ_of_lt j1, j2⟩
          · simp only [List.map_cons, List.map_nil, List.mem_singleton] at hq; exact ⟨i, Nat.lt_succ_self _, hq.symm⟩
      · rintro ⟨j, j1, rfl⟩
        rcases Nat.lt_or_eq_of_le (Nat.le_of_lt_succ j1) with j1 | rfl
        · have := (hm (key j)).mpr ⟨j, j1, rfl⟩
          split
          · exact this
          · rw [List.map_append]; exact List.mem_append_left _ this
        · split
          · assumption
          · rw [List.map_append]; exact List.mem_append_right _ (by simp)
    · refine hR s'' l'' (Moved.trans W.gtrans ((hm'.mono hsub).then_heap (Nat.le_succ _) fun b o hb e => ?_) hm'') hS'' hq
      rw [hsb.2 b (fun h : b = S => hb (by rw [h]; exact List.mem_cons_self))]; exact e

theorem set_new (a : Value) {Q₁ : Value → Shared → Prop}
    (h : Q₁ (.ref s.heap.objs.size) { s with heap := s.heap.push (setObj #[] 0 (.fresh 0 0 !(w.params.followText "set-order"))) }) :
    codeAny (model prog w) A (.call (.builtin "set.__new__") ⟨[.type "set", a], []⟩) (wants Q₁ E) s := by
  refine codeAny_of_tree ?_
  show wpAny _ A.in1 (do checkBuiltinCall "set.__new__" ⟨[.type "set", a], []⟩; again (.builtin "set.__new__" ⟨[.type "set", a], []⟩)) _ _ s
  refine wpAny_bind (wpAny_of_eq (F.newCall_set_1 a) (wpAny_pure ⟨plainId_quiet F.plain_set_new _, codeAny_builtin F.entry_set_new ?_⟩))
  rw [Around.under_plainId F.plain_set_new _]
  unfold Builtin.«set.__new__» Builtin.Frozenset.newClass
  have hsub := sub_set_self
  obtain ⟨hp, g, d, tk, os⟩ := s
  dsimp only
  wp_walk
  refine wpAny_askSetting (wpAny_pure ?_)
  dsimp only
  simp only [newObj]
  refine wpAny_bind (wpAny_alloc (wpAny_pure ?_))
  exact wpAny_pure h

set_option maxHeartbeats 3200000 in
theorem set_init {S l : Addr} {items : Array Value} {led : Bool} (key : Nat → K) {R : Result → Shared → Prop} (hh : A.handled = none) (hS : s.heap.get? S = some (setObj #[] 0 (.fresh 0 0 led))) (hl : s.heap.IsList l items) (hne0 : l ≠ S)
    (hi : ∀ i v, items[i]? = some v → knd.is (key i) v = true ∧ v.scannable = true ∧ plainKind v = false) (hb : items.size + 1 < scanBound)
    (hR : ∀ (h' : Heap) (tk : Nat) (kvs : List (K × Value)), SetR knd led kvs h' S → (∀ q, q ∈ kvs.map (·.1) ↔ ∃ j, j < items.size ∧ key j = q) → (∀ b o, b ≠ S → s.heap.get? b = some o → h'.get? b = some o) → R (.ok (.ret .none)) { s with heap := h', toks := tk }) :
    codeAny (model prog w) A (.call (.builtin "set.__init__") ⟨[.ref S, .ref l], []⟩) R s := by
  have hT : s.TypeIs (.ref S) "set" := ⟨_, hS, rfl⟩
  refine codeAny_call_builtin F.called_set.init.plain F.entry_set_init (check_set_init_1 hT ?_)
  have hl1 := hl
  obtain ⟨ol, hol, hcl, nl, hdl⟩ := hl
  obtain ⟨ocls, odict, odata, oslots⟩ := ol
  simp only at hcl hdl
  subst hcl; subst hdl
  have hsls := F.sub_list_set
  have hslf := F.sub_list_frozenset
  have hne : (Value.type "list" == Value.type "dict") = false := by decide
  unfold Builtin.«set.__init__» noKeywords Builtin.Frozenset.updateFrom
  generalize hPI : pyIter = PI
  wp_walk
  subst hPI
  refine wpAny_pyIter_list hl1 ?_
  refine wpAny_bind (wpAny_runValue ?_)
  have hh3 : A.in1.in1.handled = none := by simp [hh]
  have hlS : l < s.heap.objs.size := Heap.lt_size hol
  have hSlt : S < s.heap.objs.size := Heap.lt_size hS
  have hSf : S ∉ [s.heap.objs.size, l] := by
    simp only [List.mem_cons, List.not_mem_nil, or_false, not_or]
    exact ⟨Nat.ne_of_lt hSlt, hne0.symm⟩
  refine set_loop (knd := knd) ((Walks.list hh3 _ l (Nat.ne_of_lt hlS) items).toS) S hSf key hi hb (items.size - 0) 0 _ [] (by (exact Mine.Ar.lin 0 1 (.eq (.s (.v 0) (.k 0)) (.s (.v 0) (.k 0))) [] (by kernel_rfl) [] [_] rfl rfl )) (Nat.zero_le _)
    ⟨⟨_, Heap.get?_push_size _ rfl, rfl, rfl⟩, (hl1.push _)⟩ ⟨#[], 0, _, Heap.get?_push_of_some _ hS, ⟨rfl, by simp, by simp, by decide, rfl, rfl, .inr rfl⟩⟩ (Nat.le_refl _) (fun q => by simp) fun s' kvs hm hS' hq => ?_
  obtain ⟨h', g', d', tk', os'⟩ := s'
  have eg : g' = s.gens := hm.gens
  have ed : d' = s.drawn := hm.drawn
  have eo : os' = s.os := hm.os
  subst eg; subst ed; subst eo
  show wpAny _ _ _ _ _ _
  refine wpAny_pure ?_
  show wpAny _ _ (ret Value.none) _ _ _
  refine wpAny_pure (hR h' tk' kvs hS' hq fun b o hbS e => hm.heap b o ?_ (Heap.get?_push_of_some _ e))
  simp only [List.mem_cons, List.not_mem_nil, or_false, not_or]
  exact ⟨hbS, Nat.ne_of_lt (Heap.lt_size e)⟩

set_option maxHeartbeats 3200000 in
theorem call_set {l : Addr} {items : Array Value} (key : Nat → K) {Q : Value → Shared → Prop} (hh : A.handled = none) (hl : s.heap.IsList l items)
    (hi : ∀ i v, items[i]? = some v → knd.is (key i) v = true ∧ v.scannable = true ∧ plainKind v = false) (hb : items.size + 1 < scanBound)
    (h : ∀ (h' : Heap) (tk : Nat) (kvs : List (K × Value)), SetR knd (!(w.params.followText "set-order")) kvs h' s.heap.objs.size → (∀ q, q ∈ kvs.map (·.1) ↔ ∃ j, j < items.size ∧ key j = q) →
      (∀ b o, s.heap.get? b = some o → h'.get? b = some o) → Q (.ref s.heap.objs.size) { s with heap := h', toks := tk }) :
    wpAny (model prog w) A (call (.type "set") [.ref l]) Q E s := by
  obtain ⟨c, tl, hmro⟩ := F.called_set.mro
  have hmade := F.called_set.made
  have hsub := F.called_set.sub
  refine wpAny_call (codeAny_of_tree ?_)
  show wpAny _ _ (callAny (.type "set") _) _ _ _
  refine wpAny_pure ⟨Code.quiet_builtin _ (by decide +kernel), codeAny_builtin F.entry_type_call ?_⟩
  rw [Around.under_plain (weight_type_call_type "set" [.ref l] []) rfl]
  have h1 := F.called_set.notType
  have h2 := F.called_set.canCreate
  have hct := F.typeCall_set_1 (.ref l)
  repeat (any_goals (first | assumption | wp_step))
  obtain ⟨S, hSe⟩ : ∃ S, s.heap.objs.size = S := ⟨_, rfl⟩
  rw [hSe] at h
  refine codeAny_mono (set_new (.ref l) (E := E) (Q₁ := fun obj s₁ => obj = .ref S ∧ ∃ h1 : Heap, s₁ = { s with heap := h1 } ∧ h1.get? S = some (setObj #[] 0 (.fresh 0 0 !(w.params.followText "set-order"))) ∧ ∀ b o, s.heap.get? b = some o → h1.get? b = some o) ⟨by rw [hSe], _, rfl, by rw [← hSe]; exact Heap.get?_push_size _ rfl, fun b o e => Heap.get?_push_of_some _ e⟩) fun r s₁ hr => ?_
  cases r with
  | error e => exact hr
  | ok fl =>
    cases fl with
    | ret obj =>
      obtain ⟨rfl, h1, rfl, hS, hk⟩ := hr
      have hT : Shared.TypeIs { s with heap := h1 } (.ref S) "set" := ⟨_, hS, rfl⟩
      have hli := F.called_set.init.lookup
      have hbi := F.called_set.init.bind (.ref S)
      repeat (any_goals (first | assumption | wp_step))
      obtain ⟨ol, hol, hol2⟩ := hl
      have hlS : l ≠ S := fun q => absurd (Heap.lt_size hol) (by rw [q, hSe]; exact Nat.lt_irrefl _)
      refine codeAny_mono (set_init (s := { s with heap := h1 }) (R := wants (fun r s₂ => r = .none ∧ ∃ h' tk kvs, s₂ = { s with heap := h', toks := tk } ∧
          SetR knd (!(w.params.followText "set-order")) kvs h' S ∧ (∀ q, q ∈ kvs.map (·.1) ↔ ∃ j, j < items.size ∧ key j = q) ∧
          (∀ b o, s.heap.get? b = some o → h'.get? b = some o)) E) key (by simp [hh]) hS ⟨ol, hk _ _ hol, hol2⟩ hlS hi hb fun h' tk kvs q1 q2 q3 => ⟨rfl, h', tk, kvs, rfl, q1, q2, fun b o e => q3 b o (fun q => absurd (Heap.lt_size e) (by rw [q, hSe]; exact Nat.lt_irrefl _)) (hk b o e)⟩) fun r₂ s₂ hr₂ => ?_
      cases r₂ with
      | error e => exact hr₂
      | ok fl₂ =>
        cases fl₂ with
        | ret r =>
          obtain ⟨rfl, h', tk, kvs, rfl, hS', hq, hk'⟩ := hr₂
          repeat (any_goals (first | assumption | wp_step))
          exact h _ _ kvs hS' hq hk'
        | _ => exact hr₂.elim
    | _ => exact hr.elim
end
end Mine
end

section
set_option Elab.async false
set_option linter.unusedVariables false
set_option linter.unusedSimpArgs false
set_option maxRecDepth 100000
namespace Mine
open PySem

theorem perm_erase {α : Type} : ∀ {l : List α} {i : Nat} {x : α}, l[i]? = some x → (x :: l.eraseIdx i).Perm l
  | [], i, x, h => by cases h
  | y :: l, 0, x, h => by cases h; exact .refl _
  | y :: l, i + 1, x, h => (List.Perm.swap ..).trans ((perm_erase (l := l) (i := i) h).cons y)
theorem pick_go {α : Type} (next : Nat → Nat) : ∀ (fuel k : Nat) (left : List α) (out : Array α), left.length = fuel → (pickOrder.go next fuel k left out).toList.Perm (out.toList ++ left)
  | 0, k, left, out, e => by
    rw [List.eq_nil_of_length_eq_zero e, List.append_nil]; exact .refl _
  | fuel + 1, k, left, out, e => by
    have hlt : next k % left.length < left.length := Nat.mod_lt _ (by rw [e]; exact Nat.succ_pos _)
    have hx : left[next k % left.length]? = some left[next k % left.length] := List.getElem?_eq_getElem hlt
    unfold pickOrder.go
    rw [hx]
    dsimp only
    refine (pick_go next fuel (k + 1) _ _ (by rw [List.length_eraseIdx_of_lt hlt, e]; rfl)).trans ?_
    rw [Array.toList_push, List.append_assoc]
    exact List.Perm.append_left _ (perm_erase hx)
theorem pick_perm {α : Type} (next : Nat → Nat) (xs : Array α) : (pickOrder next xs).toList.Perm xs.toList := pick_go next xs.size 0 xs.toList #[] (Array.length_toList ..)

section
variable {prog : Program} {w : World} {A : Around} {E : Value → Shared → Prop} {s : Shared}
theorem choose_any {src : Source} {n : Nat} {Q : Nat → Shared → Prop} (hn : n ≠ 0) (h : ∀ i d, i < n → Q i { s with drawn := d }) : wpAny (model prog w) A (choose src n) Q E s :=
  fun Γ p z1 => ⟨hn, h _ _ (Nat.mod_lt _ (Nat.pos_of_ne_zero hn))⟩
theorem draw_any {α : Type} : ∀ (n : Nat) (xs : List α) (s : Shared) {Q : List α → Shared → Prop}, xs.length = n → (∀ ys d, ys.Perm xs → Q ys { s with drawn := d }) → wpAny (model prog w) A (drawOrder n xs) Q E s
  | 0, xs, s, Q, e, h => by
    have := h [] s.drawn (by rw [List.eq_nil_of_length_eq_zero e])
    unfold drawOrder
    exact wpAny_pure this
  | n + 1, [], s, Q, e, h => by cases e
  | n + 1, x :: xs, s, Q, e, h => by
    unfold drawOrder
    refine wpAny_bind (choose_any (by simp) fun i d hi => ?_)
    have hx : (x :: xs)[i]? = some (x :: xs)[i] := List.getElem?_eq_getElem hi
    rw [hx]
    dsimp only
    refine wpAny_bind (draw_any n _ _ (by rw [List.length_eraseIdx_of_lt hi, e]; rfl) fun ys d' hp => wpAny_pure (h _ _ ((hp.cons _).trans (perm_erase hx))))
end

theorem below_go {xs : Array Nat} {j : Nat} (hs : xs.toList.Pairwise (· < ·)) : ∀ (fuel lo hi : Nat), hi - lo ≤ fuel → lo ≤ hi → hi ≤ xs.size → (∀ p v, p < lo → xs[p]? = some v → v < j) → (∀ p v, hi ≤ p → xs[p]? = some v → j ≤ v) →
    (∀ p v, p < SetTable.below.go xs j fuel lo hi → xs[p]? = some v → v < j) ∧ (∀ p v, SetTable.below.go xs j fuel lo hi ≤ p → xs[p]? = some v → j ≤ v) ∧ SetTable.below.go xs j fuel lo hi ≤ xs.size
  | 0, lo, hi, hf, h1, h2, a, b => by
    have : lo = hi := by (exact Mine.Ar.lin 0 2 (.eq (.v 0) (.v 1)) [(.le (.s (.v 1) (.v 0)) (.k 0)), (.le (.v 0) (.v 1))] (by kernel_rfl) [] [_, _] rfl rfl hf h1)
    subst this
    unfold SetTable.below.go
    exact ⟨a, b, h2⟩
  | fuel + 1, lo, hi, hf, h1, h2, a, b => by
    unfold SetTable.below.go
    have mono : ∀ p q v u, p ≤ q → xs[p]? = some v → xs[q]? = some u → v ≤ u := fun p q v u hpq e1 e2 => by
      rcases Nat.lt_or_eq_of_le hpq with hpq | rfl
      · rw [← Array.getElem?_toList] at e1 e2
        obtain ⟨q1, rfl⟩ := List.getElem?_eq_some_iff.mp e1
        obtain ⟨q2, rfl⟩ := List.getElem?_eq_some_iff.mp e2
        exact Nat.le_of_lt (List.pairwise_iff_getElem.mp hs p q q1 q2 hpq)
      · rw [e1] at e2; cases e2; exact Nat.le_refl _
    by_cases hlt : lo < hi
    · rw [if_pos hlt]
      have hm : (lo + hi) / 2 < hi := by omega
      have hm0 : lo ≤ (lo + hi) / 2 := by omega
      obtain ⟨v, hv⟩ : ∃ v, xs[(lo + hi) / 2]? = some v := ⟨_, getElem?_pos xs _ (by (exact Mine.Ar.lin 0 3 (.lt (.v 0) (.v 1)) [(.le (.v 2) (.v 1)), (.lt (.v 0) (.v 2))] (by kernel_rfl) [] [_, _, _] rfl rfl h2 hm))⟩
      have hg : xs.getD ((lo + hi) / 2) j = v := by rw [Array.getD_eq_getD_getElem?, hv]; rfl
      simp only [hg]
      by_cases hvj : v < j
      · rw [if_pos hvj]
        exact below_go hs fuel _ hi (by (exact Mine.Ar.lin 0 4 (.le (.s (.v 0) (.a (.v 1) (.k 1))) (.v 2)) [(.le (.s (.v 0) (.v 3)) (.a (.v 2) (.k 1))), (.le (.v 3) (.v 1))] (by kernel_rfl) [] [_, _, _, _] rfl rfl hf hm0)) (by (exact Mine.Ar.lin 0 2 (.le (.a (.v 0) (.k 1)) (.v 1)) [(.lt (.v 0) (.v 1))] (by kernel_rfl) [] [_, _] rfl rfl hm)) h2 (fun p u hp e => Nat.lt_of_le_of_lt (mono p _ u v (by (exact Mine.Ar.lin 0 2 (.le (.v 0) (.v 1)) [(.lt (.v 0) (.a (.v 1) (.k 1)))] (by kernel_rfl) [] [_, _] rfl rfl hp)) e hv) hvj) b
      · rw [if_neg hvj]
        exact below_go hs fuel lo _ (by (exact Mine.Ar.lin 0 4 (.le (.s (.v 0) (.v 1)) (.v 2)) [(.le (.s (.v 3) (.v 1)) (.a (.v 2) (.k 1))), (.lt (.v 0) (.v 3))] (by kernel_rfl) [] [_, _, _, _] rfl rfl hf hm)) hm0 (by (exact Mine.Ar.lin 0 3 (.le (.v 0) (.v 1)) [(.le (.v 2) (.v 1)), (.lt (.v 0) (.v 2))] (by kernel_rfl) [] [_, _, _] rfl rfl h2 hm)) a (fun p u hp e => Nat.le_trans (Nat.not_lt.mp hvj) (mono _ p v u hp hv e))
    · rw [if_neg hlt]
      have : lo = hi := by (exact Mine.Ar.lin 0 2 (.eq (.v 0) (.v 1)) [(.le (.v 0) (.v 1)), (.no (.lt (.v 0) (.v 1)))] (by kernel_rfl) [] [_, _] rfl rfl h1 hlt)
      subst this
      exact ⟨a, b, h2⟩
theorem below_spec {xs : Array Nat} (hs : xs.toList.Pairwise (· < ·)) (j : Nat) : (∀ p v, p < SetTable.below xs j → xs[p]? = some v → v < j) ∧ (∀ p v, SetTable.below xs j ≤ p → xs[p]? = some v → j ≤ v) ∧ SetTable.below xs j ≤ xs.size :=
  below_go hs xs.size 0 xs.size (by (exact Mine.Ar.lin 0 1 (.le (.s (.v 0) (.k 0)) (.v 0)) [] (by kernel_rfl) [] [_] rfl rfl )) (Nat.zero_le _) (Nat.le_refl _) (fun p v h => absurd h (Nat.not_lt_zero _)) fun p v h e => by
    rw [Array.getElem?_eq_none h] at e; cases e
theorem below_zero {xs : Array Nat} (hs : xs.toList.Pairwise (· < ·)) : SetTable.below xs 0 = 0 := by
  obtain ⟨a, b, c⟩ := below_spec hs 0
  rcases Nat.eq_zero_or_pos (SetTable.below xs 0) with q | q
  · exact q
  · exact absurd (a 0 _ q (getElem?_pos xs 0 (Nat.lt_of_lt_of_le q c))) (Nat.not_lt_zero _)
theorem below_next {xs : Array Nat} (hs : xs.toList.Pairwise (· < ·)) {i j : Nat} (h : xs[i]? = some j) : SetTable.below xs (j + 1) = i + 1 := by
  obtain ⟨a, b, c⟩ := below_spec hs (j + 1)
  have hlt := (Array.getElem?_eq_some_iff.mp h).1
  have h1 : i < SetTable.below xs (j + 1) := Nat.lt_of_not_le fun q => absurd (b i j q h) (Nat.not_succ_le_self _)
  refine Nat.le_antisymm (Nat.le_of_not_lt fun q => ?_) h1
  have h2 : i + 1 < xs.size := Nat.lt_of_lt_of_le q c
  have e2 := getElem?_pos xs (i + 1) h2
  have := a (i + 1) _ q e2
  rw [← Array.getElem?_toList] at h
  obtain ⟨q1, q2⟩ := List.getElem?_eq_some_iff.mp h
  have h3 := List.pairwise_iff_getElem.mp hs i (i + 1) q1 (by simpa using h2) (Nat.lt_succ_self _)
  rw [q2] at h3
  simp at h3 this
  omega
end Mine
end

section
set_option Elab.async false
set_option linter.unusedVariables false
set_option linter.unusedSimpArgs false
set_option maxRecDepth 100000
namespace Mine
open PySem

theorem slot_si_next : Slot "set_iterator" "__next__" "set_iterator.__next__" :=
  .of (owner := "set_iterator") (n := "__next__") (by rw [typeLookup_type, builtinLookup_eq_fast]; kernel_rfl) (by decide +kernel) (by decide +kernel) (by decide +kernel)
    (by first | exact .inl (by decide +kernel) | exact .inr (by decide +kernel)) (by rw [isSubtype_type]; kernel_rfl)
theorem entry_si_next : entryFor table "set_iterator.__next__" = some Builtin.«set_iterator.__next__» := entryFor_of_tree (by kernel_rfl)
theorem owner_si : Manifest.owners.lookup (String.ofList ['r', 'o', 't', 'a', 'r', 'e', 't', 'i', '_', 't', 'e', 's'].reverse) = some Manifest.sig_set_iterator := by kernel_rfl
theorem args_si_next (a : Value) : argsOk "set_iterator.__next__" ⟨[a], []⟩ := by
  unfold argsOk; rw [signature?_of (id := "set_iterator.__next__") (n := ['_', '_', 't', 'x', 'e', 'n', '_', '_']) (o := ['r', 'o', 't', 'a', 'r', 'e', 't', 'i', '_', 't', 'e', 's']) (by kernel_rfl) owner_si]; kernel_rfl
theorem entry_set_iter : entryFor table "set.__iter__" = some Builtin.«frozenset.__iter__» := entryFor_alias (id' := "frozenset.__iter__") (by kernel_rfl) rfl (by decide +kernel) (by kernel_rfl)
theorem slot_si_iter : Slot "set_iterator" "__iter__" "set_iterator.__iter__" :=
  .of (owner := "set_iterator") (n := "__iter__") (by rw [typeLookup_type, builtinLookup_eq_fast]; kernel_rfl) (by decide +kernel) (by decide +kernel) (by decide +kernel)
    (by first | exact .inl (by decide +kernel) | exact .inr (by decide +kernel)) (by rw [isSubtype_type]; kernel_rfl)
theorem entry_si_iter : entryFor table "set_iterator.__iter__" = some Builtin.«dict_keyiterator.__iter__» := entryFor_alias (id' := "dict_keyiterator.__iter__") (by kernel_rfl) rfl (by decide +kernel) (by kernel_rfl)
theorem args_si_iter (a : Value) : argsOk "set_iterator.__iter__" ⟨[a], []⟩ := by
  unfold argsOk; rw [signature?_of (id := "set_iterator.__iter__") (n := ['_', '_', 'r', 'e', 't', 'i', '_', '_']) (o := ['r', 'o', 't', 'a', 'r', 'e', 't', 'i', '_', 't', 'e', 's']) (by kernel_rfl) owner_si]; kernel_rfl

section
variable {prog : Program} {w : World} {A : Around} {E : Value → Shared → Prop} {s : Shared}

inductive Mode (w : World) (a T : Addr) (es : Array (Int × Value)) (ep : Nat) (t : SetTable) (vs : List Value) (i : Nat) (h : Heap) : Value → Prop
  | drawn (ps : List Nat) (n : Nat) : h.get? T = some { cls := .type "tuple", data := .seq (ps.map fun p : Nat => rawInt p).toArray n } → vs = ps.map (fun p => (es.toList.getD p (0, .none)).2) → (∀ p ∈ ps, p < es.size) → Mode w a T es ep t vs i h (.ref T)
  | text (k : Nat) : w.params.followText "set-order" = true → vs = (pickOrder (w.params.setOrder a ep) es).toList.map (·.2) → Mode w a T es ep t vs i h (rawInt k)
  | led (k : Nat) : w.params.followText "set-order" = false → (!t.plain && decide (es.size > 1)) = false → (!t.led && !es.isEmpty) = false → t.place.toList.Pairwise (· < ·) → SetTable.below t.place k = i → vs = es.toList.map (·.2) → Mode w a T es ep t vs i h (rawInt k)
theorem Mode.at {a T : Addr} {es : Array (Int × Value)} {ep : Nat} {t : SetTable} {vs : List Value} {i : Nat} {h h' : Heap} {v : Value} (x : Mode w a T es ep t vs i h v) (k : ∀ o, h.get? T = some o → h'.get? T = some o) : Mode w a T es ep t vs i h' v := by
  cases x with
  | drawn ps n e e1 e2 => exact .drawn ps n (k _ e) e1 e2
  | text k e e1 => exact .text k e e1
  | led k e e1 e2 e3 e4 e5 => exact .led k e e1 e2 e3 e4 e5
noncomputable def itObj (first : Value) (i : Nat) (a : Addr) (n ep : Nat) : Obj := { cls := .type "set_iterator", data := .fields #[first, .int i 0, .ref a, .int n 0, .int ep 0] }
structure SIt (w : World) (a T I : Addr) (es : Array (Int × Value)) (ep : Nat) (t : SetTable) (vs : List Value) (i : Nat) (h : Heap) : Prop where
  set : h.get? a = some (setObj es ep t)
  fits : t.fits es.size = true
  len : vs.length = es.size
  it : ∃ first, h.get? I = some (itObj first i a es.size ep) ∧ Mode w a T es ep t vs i h first

theorem pyIter_si {a T I : Addr} {es : Array (Int × Value)} {ep : Nat} {t : SetTable} {vs : List Value} {i : Nat} {Q : Value → Shared → Prop} (st : SIt w a T I es ep t vs i s.heap) (h : Q (.ref I) s) : wpAny (model prog w) A (pyIter (.ref I)) Q E s := by
  obtain ⟨first, e, _⟩ := st.it
  have hT : s.TypeIs (.ref I) "set_iterator" := ⟨_, e, rfl⟩
  refine wpAny_pyIter_slot hT slot_si_iter (wpAny_call_entry slot_si_iter hT entry_si_iter ?_ (args_si_iter _))
  show wpAny _ _ (ret (.ref I)) _ _ s
  exact wpAny_pure ⟨_, rfl, "set_iterator", _, hT, slot_si_next.lookup, h⟩

theorem it_upd {I a : Addr} {first x : Value} {i n ep j : Nat} {h : Heap} (e : h.get? I = some (itObj first i a n ep)) : (h.update I (Obj.mapFields (·.setIfInBounds j x))).get? I = some { cls := .type "set_iterator", data := .fields (#[first, .int i 0, .ref a, .int n 0, .int ep 0].setIfInBounds j x) } :=
  Heap.get?_update_self (Obj.mapFields (·.setIfInBounds j x)) e rfl

theorem setNext_any {a T : Addr} {es : Array (Int × Value)} {ep : Nat} {t : SetTable} {vs : List Value} {i k : Nat} {Q : Option (Value × Nat) → Shared → Prop} (hset : s.heap.get? a = some (setObj es ep t)) (hf : t.fits es.size = true) (M : Mode w a T es ep t vs i s.heap (rawInt k))
    (h : ∀ k', (∀ v, vs[i]? = some v → ∀ h', Mode w a T es ep t vs (i + 1) h' (rawInt ((k' : Nat) : Int))) → Q ((vs[i]?).map fun v => (v, k')) s) : wpAny (model prog w) A (setNext a k i ep) Q E s := by
  have hd : (setObj es ep t).data = .set es ep t := rfl
  unfold setNext setsByText
  refine wpAny_bind (wpAny_setState_of hset hd hf (wpAny_bind (wpAny_bind (wpAny_askSetting (wpAny_pure ?_)))))
  show wpAny _ _ (if w.params.followText "set-order" = true then _ else _) _ _ _
  generalize hr : rawInt (k : Int) = first at M
  cases M with
  | drawn ps n => cases hr
  | text k' e1 e2 =>
    rw [if_pos e1, if_neg (by simp)]
    unfold setWalk setsByText
    refine wpAny_bind (wpAny_bind (wpAny_setState_of hset hd hf (wpAny_bind (wpAny_bind (wpAny_askSetting (wpAny_pure ?_))))))
    show wpAny _ _ (if w.params.followText "set-order" = true then _ else _) _ _ _
    rw [if_pos e1]
    refine wpAny_bind (wpAny_askSetting (wpAny_pure (wpAny_pure ?_)))
    have hg : ((pickOrder (w.params.setOrder a ep) es)[i]?).map (fun e => (e.2, k)) = (vs[i]?).map fun v => (v, k) := by
      rw [e2, List.getElem?_map, Array.getElem?_toList, Option.map_map]; rfl
    show Q (((pickOrder (w.params.setOrder a ep) es)[i]?).map (fun e => (e.2, k))) s
    rw [hg]
    exact h k fun v z1 h' => .text k e1 e2
  | led k' e1 e2 e3 e4 e5 e6 =>
    obtain rfl : k' = k := by
      have : ((k : Nat) : Int) = k' := (Value.int.inj hr).1
      omega
    rw [if_neg (by rw [e1]; exact Bool.false_ne_true)]
    show wpAny _ _ (if (!t.plain && decide (es.size > 1)) = true then _ else _) _ _ _
    rw [if_neg (by rw [e2]; exact Bool.false_ne_true)]
    refine wpAny_bind ?_
    show wpAny _ _ (if (!t.led && !es.isEmpty) = true then _ else _) _ _ _
    rw [if_neg (by rw [e3]; exact Bool.false_ne_true)]
    refine wpAny_pure (wpAny_pure ?_)
    have hpz : t.place.size = es.size := by
      simp only [SetTable.fits, Bool.and_eq_true, beq_iff_eq] at hf; exact hf.1
    have hg : (match es[SetTable.below t.place k']?, t.place[SetTable.below t.place k']? with | some (_, x), some j => some (x, j + 1) | _, _ => (none : Option (Value × Nat))) = (vs[i]?).map fun v => (v, t.place.getD i 0 + 1) := by
      rw [e5, e6, List.getElem?_map, Array.getElem?_toList]
      cases hq : es[i]? with
      | none => rfl
      | some q =>
        have hpl : t.place[i]? = some (t.place.getD i 0) := by
          have := (Array.getElem?_eq_some_iff.mp hq).1
          simp [hpz, this]
        rw [hpl]; rfl
    show Q (match es[SetTable.below t.place k']?, t.place[SetTable.below t.place k']? with | some (_, x), some j => some (x, j + 1) | _, _ => (none : Option (Value × Nat))) s
    rw [hg]
    refine h _ fun v hv h' => .led _ e1 e2 e3 e4 (below_next e4 ?_) e6
    rw [e6, List.getElem?_map] at hv
    obtain ⟨q, hq, _⟩ := Option.map_eq_some_iff.mp hv
    rw [Array.getElem?_toList] at hq
    have := (Array.getElem?_eq_some_iff.mp hq).1
    simp [hpz, this]

theorem stop_any (hh : A.handled = none) {E' : Value → Shared → Prop} {P : PySem.Fin → Shared → Prop}
    (hE : ∀ e h', (∀ b o, s.heap.get? b = some o → h'.get? b = some o) → Shared.TypeIs { s with heap := h' } e "StopIteration" → E' e { s with heap := h' }) :
    wpAny (model prog w) A.in1 (newExc (.type "StopIteration") [] >>= fun e => (raiseNew e : Sem PySem.Fin)) P E' s := by
  refine wpAny_bind ?_
  simp only [newExc, newTuple]
  refine wpAny_bind (wpAny_newObj_type ?_ (by size_fits))
  refine wpAny_bind (m := firstArgMember _ _) (wpAny_of_eq (a := Value.none) (by first | rfl | (simp only [firstArgMember]; rfl)) ?_)
  refine wpAny_newObj_type ?_ (by size_fits)
  simp only [raiseNew]
  refine wpAny_bind (wpAny_handled ?_)
  rw [show A.in1.handled = none from hh]
  refine wpAny_bind (wpAny_pure (wpAny_throw ?_))
  exact hE _ _ (fun b o e => Heap.get?_push_of_some _ (Heap.get?_push_of_some _ e)) ⟨_, Heap.get?_push_size _ rfl, rfl⟩

theorem si_next {a T I : Addr} {es : Array (Int × Value)} {ep : Nat} {t : SetTable} {vs : List Value} {i : Nat} {Q : Option Value → Shared → Prop} (hh : A.handled = none) (hI : I ≠ a) (hTI : T ≠ I) (st : SIt w a T I es ep t vs i s.heap)
    (hQ1 : ∀ v h', vs[i]? = some v → SIt w a T I es ep t vs (i + 1) h' → Heap.SameBut I s.heap h' → Q (some v) { s with heap := h' })
    (hQ0 : ∀ h', vs[i]? = none → (∀ b o, b ≠ I → s.heap.get? b = some o → h'.get? b = some o) → Q none { s with heap := h' }) : wpAny (model prog w) A (pyNext (.ref I)) Q E s := by
  obtain ⟨hset, hf, hlen, first, e, M⟩ := st
  have hT : s.TypeIs (.ref I) "set_iterator" := ⟨_, e, rfl⟩
  unfold pyNext
  refine wpAny_bind (wpAny_attempt (wpAny_callSpecial?_slot (name := Str.ofString "__next__") hT slot_si_next (wpAny_call_entry slot_si_next hT entry_si_next ?_ (args_si_next _))))
  have item : ∀ (v : Value) (first' : Value) (h1 : Heap) (R : PySem.Fin → Shared → Prop) (E' : Value → Shared → Prop), vs[i]? = some v → h1.get? I = some (itObj first' i a es.size ep) → Heap.SameBut I s.heap h1 → (∀ h', (∀ o, s.heap.get? T = some o → h'.get? T = some o) → Mode w a T es ep t vs (i + 1) h' first') →
      (∀ h', Q (some v) { s with heap := h' } → R (.done (.ret v)) { s with heap := h' }) → wpAny (model prog w) A.in1 (setField (.ref I) 1 (rawInt ((i : Int) + 1)) >>= fun z1 => ret v) R E' { s with heap := h1 } := by
    intro v first' h1 R E' hv e1 sb1 M1 hR
    refine wpAny_bind (wpAny_setField (s := { s with heap := h1 }) e1 rfl (by simp [itObj]) ?_)
    have sb2 : Heap.SameBut I s.heap (h1.update I (Obj.mapFields (·.setIfInBounds 1 (rawInt ((i : Int) + 1))))) := sb1.trans (Heap.SameBut.update ..)
    refine wpAny_pure (hR _ (hQ1 v _ hv ⟨(sb2.2 a hI.symm).trans hset, hf, hlen, first', ?_, M1 _ fun o q => (sb2.2 T hTI).trans q⟩ sb2))
    rw [it_upd e1]
    rfl
  have fin : ∀ (h1 : Heap) (R : PySem.Fin → Shared → Prop) (E' : Value → Shared → Prop), vs[i]? = none → Heap.SameBut I s.heap h1 → (∀ x h', Q none { s with heap := h' } → Shared.TypeIs { s with heap := h' } x "StopIteration" → E' x { s with heap := h' }) →
      (∃ o f, h1.get? I = some o ∧ o.data = .fields f ∧ f.size = 5) → wpAny (model prog w) A.in1 (setField (.ref I) 2 .none >>= fun z1 => newExc (.type "StopIteration") [] >>= fun e => (raiseNew e : Sem PySem.Fin)) R E' { s with heap := h1 } := by
    intro h1 R E' hv sb hE ⟨o, f, e1, e2, e3⟩
    refine wpAny_bind (wpAny_setField (s := { s with heap := h1 }) e1 e2 (by rw [e3]; decide) ?_)
    refine stop_any hh fun x h' k q => hE x h' (hQ0 h' hv fun b o hb eb => k b o ?_) q
    have sb2 := sb.trans (Heap.SameBut.update h1 I (Obj.mapFields (·.setIfInBounds 2 Value.none)))
    exact (sb2.2 b hb).trans eb
  have last : ∀ x h', Q none { s with heap := h' } → Shared.TypeIs { s with heap := h' } x "StopIteration" →
      wpAny (model prog w) A (match (Except.error x : Except Value (Option Value)) with
        | .ok (some v) => pure (some v)
        | .ok none => unsupported "iter:the-iterator's-class-has-lost-its-__next__-amid-the-walk"
        | .error e => do if ← isInstance e (.type "StopIteration") then pure none else throw e) Q E { s with heap := h' } :=
    fun x h' k q => wpAny_bind (wpAny_isInstance (T := "StopIteration") (b := true) q isSubtype_stop (wpAny_pure k))
  unfold Builtin.«set_iterator.__next__»
  refine wpAny_bind (wpAny_pure ?_)
  refine wpAny_bind (wpAny_fieldsOf e rfl ?_)
  show wpAny _ _ (setEntries a >>= _) _ _ s
  refine wpAny_bind (wpAny_setEntries_of hset rfl hf ?_)
  rw [if_neg (by simp)]
  have go : ∀ k : Nat, first = rawInt k → ∀ (R : PySem.Fin → Shared → Prop) (E' : Value → Shared → Prop), (∀ v h', Q (some v) { s with heap := h' } → R (.done (.ret v)) { s with heap := h' }) → (∀ x h', Q none { s with heap := h' } → Shared.TypeIs { s with heap := h' } x "StopIteration" → E' x { s with heap := h' }) →
      wpAny (model prog w) A.in1 (setNext a k i ep >>= fun r => match r with
        | some (x, next) => setField (.ref I) 0 (rawInt next) >>= fun z1 => setField (.ref I) 1 (rawInt ((i : Int) + 1)) >>= fun z1 => ret x
        | none => setField (.ref I) 2 .none >>= fun z1 => newExc (.type "StopIteration") [] >>= fun e => (raiseNew e : Sem PySem.Fin)) R E' s := by
    intro k hk R E' h1 h2
    refine wpAny_bind (setNext_any hset hf (hk ▸ M) fun k' hk' => ?_)
    cases hv : vs[i]? with
    | some v =>
      refine wpAny_bind (wpAny_setField e rfl (by simp [itObj]) ?_)
      refine item v (rawInt ((k' : Nat) : Int)) _ R E' hv ?_ (Heap.SameBut.update ..) (fun h' z1 => hk' v hv h') (h1 v)
      rw [it_upd e]; rfl
    | none => exact fin s.heap R E' hv (Heap.SameBut.refl ..) h2 ⟨_, _, e, rfl, rfl⟩
  cases M with
  | drawn ps n hTt e1 e2 =>
    clear go
    show wpAny _ _ (seqItems? (.ref T) >>= _) _ _ s
    refine wpAny_bind (wpAny_seqItems hTt rfl ?_)
    dsimp only
    have hpi : (ps.map fun p : Nat => rawInt p).toArray[(i : Int).toNat]? = (ps[i]?).map fun p : Nat => rawInt p := by simp
    rw [hpi]
    cases hp : ps[i]? with
    | none =>
      refine wpAny_bind (wpAny_setField e rfl (by simp [itObj]) ?_)
      exact fin _ _ _ (by rw [e1, List.getElem?_map, hp]; rfl) (Heap.SameBut.update ..) last ⟨_, _, it_upd e, rfl, rfl⟩
    | some p =>
      have hpl := e2 p (List.mem_of_getElem? hp)
      show wpAny _ _ (setNextDrawn a (p : Int).toNat (ep : Int).toNat >>= _) _ _ s
      refine wpAny_bind ?_
      unfold setNextDrawn
      refine wpAny_bind (wpAny_setState_of hset rfl hf ?_)
      dsimp only
      rw [if_neg (by simp)]
      have hes : es[(p : Int).toNat]? = some ((es.toList.getD p (0, .none)).1, (es.toList.getD p (0, .none)).2) := by simp [hpl]
      rw [hes]
      refine wpAny_pure ?_
      exact item _ (.ref T) s.heap _ _ (by rw [e1, List.getElem?_map, hp]; rfl) e (Heap.SameBut.refl I s.heap) (fun h' k => .drawn ps n (k _ hTt) e1 e2) fun h' q => ⟨_, rfl, wpAny_pure q⟩
  | text k e1 e2 => exact go k rfl _ _ (fun v h' q => ⟨_, rfl, wpAny_pure q⟩) last
  | led k e1 e2 e3 e4 e5 e6 => exact go k rfl _ _ (fun v h' q => ⟨_, rfl, wpAny_pure q⟩) last

theorem Walks.setIt (hh : A.handled = none) {a T I : Addr} (hI : I ≠ a) (hTI : T ≠ I) {es : Array (Int × Value)} {ep : Nat} {t : SetTable} {vs : List Value} :
    Walks prog w A I [I, a, T] [I] es.size (fun i v => vs[i]? = some v) (fun i h => SIt w a T I es ep t vs i h) where
  sub := fun b hb => by simp at hb; simp [hb]
  frame := fun i h h' st hk => by
    obtain ⟨hset, hf, hlen, first, e, M⟩ := st
    exact ⟨hk a (by simp) _ hset, hf, hlen, first, hk I (by simp) _ e, M.at fun o q => hk T (by simp) o q⟩
  item := fun i s Q E hi st hQ => si_next hh hI hTI st (fun v h' hv st' sb => hQ v h' s.toks hv st' fun b o hb e => (sb.2 b (fun q => hb (by simp [q]))).trans e) fun h' hv z1 => by
    rw [List.getElem?_eq_none_iff, st.len] at hv; exact absurd hi (Nat.not_lt.mpr hv)
  done := fun s Q E st hQ => si_next hh hI hTI st (fun v h' hv z1 z2 => by
    have := (List.getElem?_eq_some_iff.mp hv).1
    rw [st.len] at this; exact absurd this (Nat.lt_irrefl _)) fun h' z1 k => hQ h' s.toks fun b o hb e => k b o (fun q => hb (by simp [q])) e
  self := fun i s Q E st hQ => pyIter_si st hQ
end
end Mine
end

section
set_option Elab.async false
set_option linter.unusedVariables false
set_option linter.unusedSimpArgs false
set_option maxRecDepth 100000
namespace Mine
open PySem

section
variable {prog : Program} {w : World} {A : Around} {E : Value → Shared → Prop} {s : Shared}

theorem pyIter_set {a : Addr} {es : Array (Int × Value)} {ep : Nat} {t : SetTable} {Q : Value → Shared → Prop} (ho : s.heap.get? a = some (setObj es ep t)) (hf : t.fits es.size = true) (hz : es.size ≤ sizeLine)
    (hled : t.led = !(w.params.followText "set-order")) (hr : t.plain = false ∨ t.place.toList.Pairwise (· < ·))
    (hQ : ∀ I T vs h' d, I ≠ a → T ≠ I → s.heap.get? I = none → (∀ b o, s.heap.get? b = some o → h'.get? b = some o) → (T = a ∨ s.heap.get? T = none) → vs.Perm (es.toList.map (·.2)) → SIt w a T I es ep t vs 0 h' → Q (.ref I) { s with heap := h', drawn := d }) :
    wpAny (model prog w) A (pyIter (.ref a)) Q E s := by
  have hT : s.TypeIs (.ref a) "set" := ⟨_, ho, rfl⟩
  have hd : (setObj es ep t).data = .set es ep t := rfl
  have hlt := Heap.lt_size ho
  refine wpAny_pyIter_slot hT F.slot_set_iter (wpAny_call_entry F.slot_set_iter hT entry_set_iter ?_ (F.args_set_iter_1 _))
  unfold Builtin.«frozenset.__iter__» Builtin.Frozenset.slot0 Builtin.Frozenset.sizeOf setDrawn setsByText
  refine wpAny_bind (wpAny_bind (wpAny_pure (wpAny_pure ?_)))
  refine wpAny_bind (wpAny_bind (wpAny_setEntries_of ho hd hf (wpAny_pure ?_)))
  refine wpAny_bind (wpAny_bind (wpAny_setState_of ho hd hf ?_))
  refine wpAny_bind (wpAny_bind (wpAny_askSetting (wpAny_pure ?_)))
  refine wpAny_pure ?_
  show wpAny _ _ (if (!w.params.followText "set-order" && (!t.plain && decide (es.size > 1))) = true then _ else _) _ _ _
  have none_of : ∀ (h : Heap) (o : Obj) b, h.objs.size ≤ b → h.get? b = none := fun h z1 b q => Heap.get?_none_of_le q
  cases hc : (!w.params.followText "set-order" && (!t.plain && decide (es.size > 1))) with
  | true =>
    rw [if_pos rfl]
    refine wpAny_bind (draw_any es.size _ s (List.length_range ..) fun ps d hp => ?_)
    refine wpAny_bind (wpAny_newTuple ?_ (by rw [List.length_map, hp.length_eq, List.length_range]; exact hz))
    have hTn : (s.heap.push { cls := .type "tuple", data := .seq (ps.map fun i : Nat => rawInt i).toArray }).get? s.heap.objs.size = some { cls := .type "tuple", data := .seq (ps.map fun i : Nat => rawInt i).toArray } := Heap.get?_push_size _ rfl
    have ho2 := Heap.get?_push_of_some (h := s.heap) { cls := .type "tuple", data := .seq (ps.map fun i : Nat => rawInt i).toArray } ho
    refine wpAny_bind (wpAny_setEpoch_of (s := { s with heap := s.heap.push { cls := .type "tuple", data := .seq (ps.map fun i : Nat => rawInt i).toArray }, drawn := d }) ho2 hd hf ?_)
    refine wpAny_bind (wpAny_newObj_type ?_)
    refine wpAny_pure ⟨_, rfl, "set_iterator", _, ⟨_, Heap.get?_push_size _ rfl, rfl⟩, slot_si_next.lookup, ?_⟩
    have hsz : (s.heap.push { cls := .type "tuple", data := .seq (ps.map fun i : Nat => rawInt i).toArray }).objs.size = s.heap.objs.size + 1 := Heap.size_push ..
    refine hQ _ s.heap.objs.size (ps.map fun p => (es.toList.getD p (0, .none)).2) _ d ?_ ?_ ?_ (fun b o e => Heap.get?_push_of_some _ (Heap.get?_push_of_some _ e)) (.inr (Heap.get?_none_of_le (Nat.le_refl _))) ?_ ⟨Heap.get?_push_of_some _ ho2, hf, by rw [List.length_map, hp.length_eq, List.length_range], .ref s.heap.objs.size, ?_, .drawn ps 0 (Heap.get?_push_of_some _ hTn) rfl fun p hpp => List.mem_range.mp (hp.mem_iff.mp hpp)⟩
    · rw [hsz]; exact Nat.ne_of_gt (Nat.lt_succ_of_lt hlt)
    · rw [hsz]; exact Nat.ne_of_lt (Nat.lt_succ_self _)
    · rw [hsz]; exact Heap.get?_none_of_le (Nat.le_succ _)
    · refine (hp.map _).trans (List.Perm.of_eq ?_)
      apply List.ext_getElem
      · simp
      · intro i h1 h2
        simp at h1
        simp [h1]
    · exact Heap.get?_push_size _ rfl
  | false =>
    rw [if_neg Bool.false_ne_true]
    refine wpAny_bind (wpAny_pure ?_)
    refine wpAny_bind (wpAny_setEpoch_of ho hd hf ?_)
    refine wpAny_bind (wpAny_newObj_type ?_)
    refine wpAny_pure ⟨_, rfl, "set_iterator", _, ⟨_, Heap.get?_push_size _ rfl, rfl⟩, slot_si_next.lookup, ?_⟩
    have key : ∀ vs : List Value, vs.Perm (es.toList.map (·.2)) → (∀ h', Mode w a a es ep t vs 0 h' (rawInt ((0 : Nat) : Int))) → Q (.ref s.heap.objs.size) { s with heap := s.heap.push { cls := .type "set_iterator", data := .fields [rawInt 0, rawInt 0, .ref a, rawInt es.size, rawInt ep].toArray } } := fun vs p M => by
      refine hQ _ a vs _ s.drawn (Nat.ne_of_gt hlt) (Nat.ne_of_lt hlt) (Heap.get?_none_of_le (Nat.le_refl _)) (fun b o e => Heap.get?_push_of_some _ e) (.inl rfl) p ⟨Heap.get?_push_of_some _ ho, hf, by rw [p.length_eq, List.length_map, Array.length_toList], rawInt ((0 : Nat) : Int), Heap.get?_push_size _ rfl, M _⟩
    cases hw : w.params.followText "set-order" with
    | true => exact key _ ((pick_perm _ es).map (·.2)) fun h' => .text 0 hw rfl
    | false =>
      rw [hw] at hc hled
      simp only [Bool.not_false, Bool.true_and] at hc hled
      have hs : t.place.toList.Pairwise (· < ·) := hr.elim (fun q => by
        rw [q] at hc
        simp only [Bool.not_false, Bool.true_and, decide_eq_false_iff_not] at hc
        have hpz : t.place.size = es.size := by
          simp only [SetTable.fits, Bool.and_eq_true, beq_iff_eq] at hf; exact hf.1
        rw [List.pairwise_iff_getElem]
        intro i j hi hj hij
        simp at hi hj
        omega) id
      exact key _ (.refl _) fun h' => .led 0 hw hc (by rw [hled]; rfl) hs (below_zero hs) rfl

theorem hint_set {a : Addr} {Q : Bool → Shared → Prop} (hT : s.TypeIs (.ref a) "set") (h : Q false s) : wpAny (model prog w) A (Builtin.List.listLengthHint (.ref a)) Q E s := by
  unfold Builtin.List.listLengthHint
  refine wpAny_bind (wpAny_specialOf hT F.slot_set_len.lookup ?_)
  generalize hid : ("set.__len__" : String) = id0
  wp_delta
  rw [show splitId id0 = some ("set", "__len__") from by subst hid; decide +kernel]
  subst hid
  refine wpAny_bind (wpAny_isInstance (T := "set") (b := true) hT (by rw [isSubtype_type]; kernel_rfl) ?_)
  refine wpAny_ite_split (fun hab => absurd hab (by decide)) (fun z1 => ?_)
  refine wpAny_ite_split (fun z1 => ?_) (fun hab => absurd (by decide +kernel) hab)
  exact wpAny_bind (wpAny_typeOf hT (wpAny_pure h))
theorem hint_dict {a : Addr} {Q : Bool → Shared → Prop} (hT : s.TypeIs (.ref a) "dict") (h : Q false s) : wpAny (model prog w) A (Builtin.List.listLengthHint (.ref a)) Q E s := by
  unfold Builtin.List.listLengthHint
  refine wpAny_bind (wpAny_specialOf hT F.slot_dict_len.lookup ?_)
  generalize hid : ("dict.__len__" : String) = id0
  wp_delta
  rw [show splitId id0 = some ("dict", "__len__") from by subst hid; decide +kernel]
  subst hid
  refine wpAny_bind (wpAny_isInstance (T := "dict") (b := true) hT (by rw [isSubtype_type]; kernel_rfl) ?_)
  refine wpAny_ite_split (fun hab => absurd hab (by decide)) (fun z1 => ?_)
  refine wpAny_ite_split (fun z1 => ?_) (fun hab => absurd (by decide +kernel) hab)
  exact wpAny_bind (wpAny_typeOf hT (wpAny_pure h))

theorem collect_src {D : Addr} {T : String} (hTt : T = "dict" ∨ T = "set") (hT : ∀ h', (∀ b o, s.heap.get? b = some o → h'.get? b = some o) → Shared.TypeIs { s with heap := h' } (.ref D) T) {n : Nat} (hn : n ≤ sizeLine) {Good : (Nat → Value → Prop) → Prop} {Q : List Value → Shared → Prop}
    (hint : ∀ (s1 : Shared) (Q' : Bool → Shared → Prop) (E' : Value → Shared → Prop), s1.TypeIs (.ref D) T → Q' false s1 → wpAny (model prog w) A.in1 (Builtin.List.listLengthHint (.ref D)) Q' E' s1)
    (iter : ∀ (h1 : Heap) (Q' : Value → Shared → Prop) (E' : Value → Shared → Prop), (∀ b o, s.heap.get? b = some o → h1.get? b = some o) → (∀ (I : Addr) (fp : List Addr) (P : Nat → Value → Prop) (St : Nat → Heap → Prop) (h2 : Heap) (d : Drawn), Walks prog w A.in1 I fp [I] n P St → St 0 h2 → (∀ b ∈ fp, (∃ o, s.heap.get? b = some o) ∨ h1.get? b = none) → h1.get? I = none → (∀ b o, h1.get? b = some o → h2.get? b = some o) → Good P → Q' (.ref I) { s with heap := h2, drawn := d }) →
      wpAny (model prog w) A.in1 (pyIter (.ref D)) Q' E' { s with heap := h1 })
    (hQ : ∀ h' d tk acc P, Good P → (∀ b o, s.heap.get? b = some o → h'.get? b = some o) → ItemsOf P acc n → Q acc.toList { s with heap := h', drawn := d, toks := tk }) : wpAny (model prog w) A (collect (.ref D)) Q E s := by
  unfold collect
  refine wpAny_bind (wpAny_runValue (codeAny_builtin F.entry_proto_collect ?_))
  rw [Around.under_plainId F.plain_proto_collect _]
  show wpAny _ A.in1 (newList [] >>= fun l => again (.builtin "list.__iadd__" ⟨[l, .ref D], []⟩)) _ _ s
  refine wpAny_bind (wpAny_newObj_type ?_)
  refine wpAny_pure ⟨plainId_quiet F.plain_list_iadd _, codeAny_builtin F.entry_list_iadd ?_⟩
  rw [Around.under_plainId F.plain_list_iadd _]
  show wpAny _ A.in1 (Builtin.List.listExtendWith (.ref s.heap.objs.size) (.ref D) (.ref s.heap.objs.size)) _ _ _
  unfold Builtin.List.listExtendWith
  have hx1 : ∀ b o, s.heap.get? b = some o → (s.heap.push { cls := .type "list", data := .seq ([] : List Value).toArray }).get? b = some o := fun b o e => Heap.get?_push_of_some _ e
  have hT1 := hT _ hx1
  refine wpAny_bind (wpAny_typeOf hT1 ?_)
  have hDlt : D < s.heap.objs.size := by
    obtain ⟨o, e, _⟩ := hT s.heap fun z1 z2 e => e
    exact Heap.lt_size e
  have h1 : Builtin.List.listSameRef (.ref s.heap.objs.size) (.ref D) = false := beq_eq_false_iff_ne.mpr (Nat.ne_of_gt hDlt)
  have h2 : (Value.type T == Value.type "list") = false ∧ (Value.type T == Value.type "tuple") = false := by rcases hTt with rfl | rfl <;> decide
  simp only [h1, h2.1, h2.2, Bool.or_false, Bool.false_eq_true, if_false]
  refine wpAny_bind (iter _ _ _ hx1 fun I fp P St h2 d W st hfp hI hx2 good => ?_)
  have hx12 : ∀ b o, s.heap.get? b = some o → h2.get? b = some o := fun b o e => hx2 b o (hx1 b o e)
  refine wpAny_bind (wpAny_holding (hint { s with heap := h2, drawn := d } _ _ ?_ ?_))
  · obtain ⟨o, e, c⟩ := hT h2 hx12
    exact ⟨o, e, c⟩
  have hS0 : (s.heap.push { cls := .type "list", data := .seq ([] : List Value).toArray }).get? s.heap.objs.size = some { cls := .type "list", data := .seq ([] : List Value).toArray } := Heap.get?_push_size _ rfl
  have hS₁ := hx2 _ _ hS0
  have hSf : s.heap.objs.size ∉ fp := fun hm => by
    rcases hfp _ hm with ⟨o, e⟩ | e
    · exact absurd (Heap.lt_size e) (Nat.lt_irrefl _)
    · rw [hS0] at e; cases e
  have hSI : s.heap.objs.size ≠ I := fun q => by rw [q] at hS0; rw [hS0] at hI; cases hI
  have hany : (["set", "frozenset", "dict", "dict_keys", "dict_values", "dict_items"].any fun x => Value.type T == Value.type x) = true := by rcases hTt with rfl | rfl <;> decide
  show wpAny _ A.in1 (if (false || (["set", "frozenset", "dict", "dict_keys", "dict_values", "dict_items"].any fun x => Value.type T == Value.type x)) = true then _ else _) _ _ _
  rw [if_pos (by rw [hany]; rfl)]
  refine wpAny_bind (wpAny_rule ?_)
  refine wpAny_bind ?_
  show wpAny _ A.in1 (updateSeq s.heap.objs.size (·.push .none) >>= fun z1 => updateSeq s.heap.objs.size (·.pop)) _ _ _
  refine wpAny_bind (wpAny_updateSeq hS₁ rfl ?_)
  have hS₂ := Heap.get?_update_self (Obj.mapSeq (·.push Value.none)) hS₁ rfl
  refine wpAny_updateSeq hS₂ rfl ?_
  have hS₃ := Heap.get?_update_self (Obj.mapSeq (·.pop)) hS₂ rfl
  have oth : ∀ b o, b ≠ s.heap.objs.size → h2.get? b = some o → ((h2.update s.heap.objs.size (Obj.mapSeq (·.push Value.none))).update s.heap.objs.size (Obj.mapSeq (·.pop))).get? b = some o :=
    fun b o hb e => (Heap.get?_update_other _ _ (Ne.symm hb)).trans ((Heap.get?_update_other _ _ (Ne.symm hb)).trans e)
  refine wpAny_pure ⟨plainId_quiet F.plain_extend_loop _, codeAny_extend_loopS W.toS hn _ hSf _ n 0 _ _ _ rfl (Nat.zero_le _) (W.frame 0 h2 _ st fun b hb o e => oth b o (fun h => hSf (h ▸ hb)) e) hS₃ (ItemsOf.nil P) fun s' acc' c' hm hS' hacc => ?_⟩
  show wpAny _ A (load s.heap.objs.size >>= _) _ _ s'
  refine wpAny_bind (wpAny_load hS' ?_)
  obtain ⟨h', g', d', tk', os'⟩ := s'
  have eg : g' = s.gens := hm.gens
  have eo : os' = s.os := hm.os
  subst eg; subst eo
  refine wpAny_pure (hQ h' d' tk' acc' P good (fun b o e => ?_) hacc)
  have hb1 : b ≠ s.heap.objs.size := Nat.ne_of_lt (Heap.lt_size e)
  refine hm.heap b o (by
    simp only [List.mem_cons, List.not_mem_nil, or_false, not_or]
    exact ⟨hb1, fun q => by rw [← q, hx1 b o e] at hI; cases hI⟩) (oth b o hb1 (hx12 b o e))
end
end Mine
end

section
set_option Elab.async false
set_option linter.unusedVariables false
set_option linter.unusedSimpArgs false
namespace Mine
open PySem PyProof.Rows

namespace Tim
section
variable {prog : Program} {w : World} {A : Around} {E : Value → Shared → Prop} {s : Shared}
theorem sorted_C {x : Value} {Ok : Heap → List Value → Prop} {r : Heap → List Value → Value → Nat} {Q : Value → Shared → Prop}
    (hcol : ∀ (Q' : List Value → Shared → Prop) (E' : Value → Shared → Prop), (∀ h' d tk vs, Ok h' vs → Q' vs { s with heap := h', drawn := d, toks := tk }) → wpAny (model prog w) A.in1 (collect x) Q' E' s)
    (hz : ∀ h' vs, Ok h' vs → vs.length ≤ 16777216)
    (hask : ∀ h' vs, Ok h' vs → 2 ≤ vs.length → ∀ (A' : Around) (s' : Shared), (∀ b o, h'.get? b = some o → s'.heap.get? b = some o) → ∃ κ, (∀ (E : Value → Shared → Prop) (Q : SortKind → Shared → Prop), Q κ s' → wpAny (model prog w) A' (keyKind' vs.toArray) Q E s') ∧ Ask prog w A' s' κ (fun p => r h' vs p.1) (pairsOf vs))
    (h : ∀ h' d tk vs (out : Array Value) h'' L, Ok h' vs → out.toList.Perm vs → (out.toList.Pairwise fun x y => r h' vs x ≤ r h' vs y) → (∀ b o, h'.get? b = some o → h''.get? b = some o) → h'.get? L = none → PlainSeq h'' "list" L out.toList → Q (.ref L) { s with heap := h'', drawn := d, toks := tk }) :
    wpAny (model prog w) A (call (.builtin "sorted") [x]) Q E s := by
  refine Calls.call_function_entry kind_sorted plain_sorted entry_sorted (args_sorted1 _) ?_
  unfold Builtin.«sorted»
  refine wpAny_bind (m := checkCount "sorted" 1 1 _) (wpAny_pure ?_)
  refine wpAny_bind (hcol _ _ fun h' d tk vs hok => ?_)
  have hz1 := hz h' vs hok
  have hz' : vs.length ≤ sizeLine := by rw [sizeLine_eq]; exact hz1
  refine wpAny_bind (wpAny_newList ?_ hz')
  have hoL : (h'.push (seqObj "list" vs.toArray 0)).get? h'.objs.size = some (seqObj "list" vs.toArray 0) := Heap.get?_push_size _ rfl
  have keep : ∀ b o, h'.get? b = some o → (h'.push (seqObj "list" vs.toArray 0)).get? b = some o := fun b o e => Heap.get?_push_of_some _ e
  show wpAny _ _ _ _ _ { s with heap := h'.push (seqObj "list" vs.toArray 0), drawn := d, toks := tk }
  refine wpAny_bind (wpAny_holding (wpAny_call_entry slot_list_sort ⟨_, hoL, rfl⟩ entry_list_sort (list_sort_T (s := { s with heap := h'.push (seqObj "list" vs.toArray 0), drawn := d, toks := tk }) (r := r h' vs) hoL hz1 (fun h2 s' hk' => hask h' vs hok h2 _ s' fun b o e => ?_) fun out a1 a2 => ⟨_, rfl, ?_⟩) (args_list_sort _)))
  · exact hk' b o (Nat.ne_of_lt (Heap.lt_size e)) (keep b o e)
  · obtain ⟨ep, he⟩ := sortedHeap_at (out := out) hoL
    refine wpAny_pure ⟨_, rfl, h h' d tk vs out _ h'.objs.size hok a1 a2 (fun b o e => ?_) (Heap.get?_none_of_le (Nat.le_refl _)) ⟨ep, by simpa using he⟩⟩
    have hlt := Heap.lt_size e
    rw [sortedHeap_old (Nat.ne_of_lt hlt) (by rw [size_push']; exact Nat.lt_succ_of_lt hlt)]
    exact keep b o e
end
end Tim

variable {c : Cx} {d : Nat} {sc : Scope} {m : AEnv} {σ : Led} {P : V → Led → Prop} {X : XP} {K : Fl → AEnv → Led → Prop}

theorem sorted_strs {x : Value} {xs : List Str} {A : Around} {s : Shared} {E : Value → Shared → Prop} (st : St c A σ s.heap) (hxs : xs.length ≤ sizeLine)
    (hcol : ∀ (Q' : List Value → Shared → Prop) (E' : Value → Shared → Prop), (∀ h' d tk vs (us : List Str), (∀ b o, s.heap.get? b = some o → h'.get? b = some o) → us.Perm xs → VRels h' (ownS c σ) (us.map .str) vs → Q' vs { s with heap := h', drawn := d, toks := tk }) → wpAny c.M A.in1 (collect x) Q' E' s)
    (h : ∀ ys : List Str, ys.Perm xs → (ys.Pairwise fun a b => decide (b.cps.toList < a.cps.toList) = false) → P (.lst (ys.map .str)) σ) : wpAny c.M A (call (.builtin "sorted") [x]) (Post c A σ s P) E s := by
  refine Tim.sorted_C (Ok := fun h' vs => (∀ b o, s.heap.get? b = some o → h'.get? b = some o) ∧ ∃ us : List Str, us.Perm xs ∧ VRels h' (ownS c σ) (us.map .str) vs) (r := fun z1 vs => rank PyProof.Rows.strKind.blt strV vs) (fun Q' E' hq => hcol Q' E' fun h' d tk vs us h1 h2 h3 => hq h' d tk vs ⟨h1, us, h2, h3⟩) ?_ ?_ ?_
  · rintro h' vs ⟨_, us, h2, h3⟩
    have := h3.length
    rw [List.length_map, h2.length_eq] at this
    rw [this, ← sizeLine_eq]; exact hxs
  · rintro h' vs ⟨h1, us, h2, h3⟩ hl A' s' hx
    refine ⟨oneType', fun E' Q hQ => ?_, fun x hx y hy E' Q hQ => ?_⟩
    · obtain ⟨v₁, v₂, vr, rfl⟩ : ∃ v₁ v₂ vr, vs = v₁ :: v₂ :: vr := by
        match vs, hl with
        | v₁ :: v₂ :: vr, _ => exact ⟨_, _, _, rfl⟩
      rw [keyKind_strs (VRels.strs h3)]; exact wpAny_pure hQ
    · have hx' := (Tim.pairs_mem hx).2
      have hy' := (Tim.pairs_mem hy).2
      rw [rank_lt ltS_lin hx'] at hQ
      obtain ⟨a, _, ra⟩ := VRels.mem h3 hx'
      obtain ⟨b, _, rb⟩ := VRels.mem h3 hy'
      simp only [VRel] at ra rb
      obtain ⟨t, ea⟩ := ra
      obtain ⟨u, eb⟩ := rb
      rw [ea, eb] at hQ ⊢
      exact oneLt_str hQ
  · rintro h' d tk vs out h'' L ⟨h1, us, h2, h3⟩ hp hs hx hL pl
    obtain ⟨ys, hy, hr⟩ := VRels.perm hp h3
    have hx2 : Ext s.heap h'' := fun b o e => hx b o (h1 b o e)
    have hno : L ∉ ownS c σ := fun hm => by
      rcases List.mem_append.mp hm with q | q
      · obtain ⟨_, o, e⟩ := st.hid _ q; rw [h1 _ _ e] at hL; cases hL
      · obtain ⟨o, e⟩ := st.there q; rw [h1 _ _ e] at hL; cases hL
    have hpw : out.toList.Pairwise fun x y => PyProof.Rows.strKind.blt (strV y) (strV x) = false := by
      refine List.Pairwise.imp_of_mem ?_ hs
      intro u v hu hv huv
      have := rank_lt (u := v) (v := u) ltS_lin (kv := strV) (hp.mem_iff.mp hv)
      rw [← this, decide_eq_false_iff_not]; exact Nat.not_lt.mpr huv
    have hm := h ys (hy.trans h2) (VRels.pairwise (L := ys) (by
      intro a b ca cb ha hb ra rb hq
      simp only [VRel] at ra rb
      obtain ⟨t, rfl⟩ := ra
      obtain ⟨u, rfl⟩ := rb
      exact hq) (fun b hb => hb) hr hpw)
    refine ⟨.lst (ys.map .str), σ, hm, .ext hx2 rfl rfl, st.ext hx2, ?_⟩
    simp only [VRel]
    refine ⟨L, out.toList, rfl, hno, pl, ?_, VRels.mono (Ext.kept hx) .refl _ _ hr⟩
    have := hr.length
    rw [List.length_map, (hy.trans h2).length_eq] at this
    rw [this]; exact hxs

theorem Call_sorted_set (hh : c.k.hd = true) {ks : List Str} (h : ∀ ys : List Str, ys.Perm ks → (ys.Pairwise fun a b => decide (b.cps.toList < a.cps.toList) = false) → P (.lst (ys.map .str)) σ) :
    CallS c d (.builtin "sorted") [.set (!(c.k.w.params.followText "set-order")) (ks.map .str)] σ P X := by
  intro A s E cs hA st rs _
  obtain ⟨x, rfl, r⟩ := rs.un1
  simp only [VRel] at r
  obtain ⟨a, es, ep, t, rfl, ha, ho, ⟨q1, q2, q3, q4⟩, rs⟩ := r
  have hks : ks.length ≤ sizeLine := by
    have := rs.length
    rw [List.length_map, List.length_map, Array.length_toList] at this
    rw [← this]; exact q2
  refine sorted_strs (xs := ks) st hks (fun Q' E' hq => ?_) h
  refine collect_src (D := a) (T := "set") (n := es.size) (Good := fun P => ∃ vs : List Value, vs.Perm (es.toList.map (·.2)) ∧ P = fun i v => vs[i]? = some v) (.inr rfl) (fun h' hx => ⟨_, hx _ _ ho, rfl⟩) q2 (fun s1 Q1 E1 hT q => hint_set hT q) (fun h1 Q1 E1 hx k => ?_) (fun h' d tk acc P' hg hx hacc => ?_)
  · refine pyIter_set (s := { s with heap := h1 }) (hx _ _ ho) q1 q2 q3 q4 fun I T vs h' d hI hTI hn hx2 hT hp S => ?_
    refine k I [I, a, T] (fun i v => vs[i]? = some v) _ h' d (Walks.setIt (by simp [hA.handled hh]) hI hTI) S (fun b hb => ?_) hn hx2 ⟨vs, hp, rfl⟩
    simp only [List.mem_cons, List.not_mem_nil, or_false] at hb
    rcases hb with rfl | rfl | rfl
    · exact .inr hn
    · exact .inl ⟨_, ho⟩
    · rcases hT with rfl | hT
      · exact .inl ⟨_, ho⟩
      · exact .inr hT
  · obtain ⟨vs, hp, rfl⟩ := hg
    have hv : acc.toList = vs := by
      apply List.ext_getElem?
      intro i
      have hlen : vs.length = es.size := by rw [hp.length_eq, List.length_map, Array.length_toList]
      rw [Array.getElem?_toList]
      cases e : acc[i]? with
      | some v => exact (hacc.2 i v e).symm
      | none =>
        rw [Array.getElem?_eq_none_iff, hacc.1] at e
        rw [List.getElem?_eq_none (by rw [hlen]; exact e)]
    obtain ⟨us, hu, hr⟩ := VRels.perm hp rs
    rw [hv]
    exact hq h' d tk vs us hx hu (VRels.mono (Ext.kept hx) .refl _ _ hr)

theorem Call_set_str (hh : c.k.hd = true) {xs : List Str} {lv : V} (hl : IsLst σ lv (xs.map .str)) (hz : xs.length ≤ 1000) (h : ∀ ks : List Str, ks.Nodup → (∀ k, k ∈ ks ↔ k ∈ xs) → P (.set (!(c.k.w.params.followText "set-order")) (ks.map .str)) σ) : CallS c d (.type "set") [lv] σ P X := by
  intro A s E cs hA st rs _
  obtain ⟨x, rfl, r⟩ := rs.un1
  obtain ⟨a, vs, rfl, p, hsz, rs⟩ := hl.plain st r
  have hlen := rs.length
  rw [List.length_map] at hlen
  have hat : ∀ i v, vs.toArray[i]? = some v → ∃ t, v = .str (xs.getD i ⟨#[]⟩) t ∧ i < xs.length := fun i v e => by
    have hi : i < xs.length := by
      rw [List.getElem?_toArray] at e
      rw [← hlen]; exact (List.getElem?_eq_some_iff.mp e).1
    obtain ⟨cb, hcb, rb⟩ := rs.get (i := i) (v := .str xs[i]) (by simp [hi])
    rw [List.getElem?_toArray, hcb] at e
    cases e
    simp only [VRel] at rb
    obtain ⟨t, rfl⟩ := rb
    exact ⟨t, by simp [hi], hi⟩
  refine call_set (knd := PySem.strKind c.k.prog c.k.w) (fun i => xs.getD i ⟨#[]⟩) (hA.handled hh) p.isList (fun i v e => ?_) (by rw [List.size_toArray, hlen]; unfold scanBound; omega) fun h' tk kvs hS hq hx => ?_
  · obtain ⟨t, rfl, _⟩ := hat i v e
    exact ⟨strKind_is _ _ _ t, rfl, rfl⟩
  obtain ⟨es, ep, t, ho, S⟩ := hS
  have hno : s.heap.objs.size ∉ ownS c σ := st.newS
  have hmem : ∀ k, k ∈ kvs.map (·.1) ↔ k ∈ xs := fun k => by
    rw [hq k, List.size_toArray, hlen]
    constructor
    · rintro ⟨j, hj, rfl⟩
      exact List.mem_of_getElem? (i := j) (by simp [hj])
    · intro hk
      obtain ⟨j, hj, rfl⟩ := List.mem_iff_getElem.mp hk
      exact ⟨j, hj, by simp [hj]⟩
  refine ⟨_, σ, h (kvs.map (·.1)) S.nodup hmem, .ext hx rfl rfl, st.ext hx, ?_⟩
  simp only [VRel]
  refine ⟨_, es, ep, t, rfl, hno, ho, ⟨S.fits, fits_of_scanBound S.size, S.led, ?_⟩, ?_⟩
  · rcases S.plain with q | q
    · exact .inl q
    · refine .inr ?_
      have : t.place.size = 0 := by
        have := S.fits
        rw [S.len, q] at this
        simp only [SetTable.fits, Bool.and_eq_true, beq_iff_eq] at this
        exact this.1
      rw [Array.size_eq_zero_iff.mp this]; exact .nil
  · rw [S.ent, List.map_map]
    have hk := S.is
    clear S hmem hq ho
    induction kvs with
    | nil => rfl
    | cons kv kvs ih =>
      simp only [List.map_cons, VRels]
      refine ⟨_, _, rfl, ?_, ih fun kv' q => hk kv' (.tail _ q)⟩
      have := (hk kv (.head _)).1
      show VRel _ _ (.str kv.1) kv.2
      simp only [VRel]
      exact Value.isStrOf_shape this

theorem Call_sorted_dict (hh : c.k.hd = true) {a : Addr} {kvs : List (Str × V)} (hl : σ.lookup a = some (.dictS kvs)) (hz : kvs.length ≤ 1000) (h : ∀ ys : List Str, ys.Perm (kvs.map (·.1)) → (ys.Pairwise fun a b => decide (b.cps.toList < a.cps.toList) = false) → P (.lst (ys.map .str)) σ) :
    CallS c d (.builtin "sorted") [.ref a] σ P X := by
  intro A s E cs hA st rs _
  obtain ⟨x, rfl, r⟩ := rs.un1
  simp only [VRel] at r
  subst r
  obtain ⟨cs, hs, p, e, rs⟩ := st.objs _ _ (lookup_mem hl)
  obtain ⟨ep, hD⟩ : ∃ ep, s.heap.DictAt (PySem.strKind c.k.prog c.k.w) a cs ep := by
    obtain ⟨o, es, ep, q⟩ := p
    exact ⟨ep, o, es, q⟩
  have hlen : cs.length = kvs.length := by rw [← List.length_map (f := fun x : Str × Value => x.1), e, List.length_map]
  refine sorted_strs (xs := kvs.map (·.1)) st (by rw [List.length_map, sizeLine_eq]; omega) (fun Q' E' hq => ?_) h
  refine collect_src (D := a) (T := "dict") (n := cs.length) (Good := fun P => P = fun i v => ∃ k x, cs[i]? = some (k, x) ∧ (PySem.strKind c.k.prog c.k.w).is k v = true) (.inl rfl) (fun h' hx => ?_) (by rw [hlen, sizeLine_eq]; omega) (fun s1 Q1 E1 hT q => hint_dict hT q) (fun h1 Q1 E1 hx k => ?_) (fun h' d tk acc P' hg hx hacc => ?_)
  · obtain ⟨o, es, ho, hc, _⟩ := hD
    exact ⟨o, hx _ _ ho, hc.1⟩
  · have hD1 := hD.at' (h' := h1) fun o e => hx _ _ e
    refine wpAny_pyIter_dict (s := { s with heap := h1 }) hs hD1 ?_
    have hne : a ≠ h1.objs.size := Nat.ne_of_lt hD1.lt_size
    refine k h1.objs.size [h1.objs.size, a] _ _ _ s.drawn (Walks.dictKeys (knd := PySem.strKind c.k.prog c.k.w) (by simp [hA.handled hh]) _ a hne cs ep) ⟨⟨_, Heap.get?_push_size _ rfl, rfl, rfl⟩, hD1.push _⟩ (fun b hb => ?_) (Heap.get?_none_of_le (Nat.le_refl _)) (fun b o e => Heap.get?_push_of_some _ e) rfl
    simp only [List.mem_cons, List.not_mem_nil, or_false] at hb
    rcases hb with rfl | rfl
    · exact .inr (Heap.get?_none_of_le (Nat.le_refl _))
    · obtain ⟨o, es, ho, _⟩ := hD
      exact .inl ⟨o, ho⟩
  · subst hg
    refine hq h' d tk acc.toList (kvs.map (·.1)) hx (.refl _) ?_
    rw [← e]
    have key : ∀ (n : Nat) (cs : List (Str × Value)) (l : List Value), l.length = cs.length → (∀ (j : Nat) v, l[j]? = some v → ∃ k x, cs[j]? = some (k, x) ∧ (PySem.strKind c.k.prog c.k.w).is k v = true) → VRels h' (ownS c σ) ((cs.map (·.1)).map .str) l := by
      intro n cs
      induction cs with
      | nil => intro l hl _; rw [List.eq_nil_of_length_eq_zero hl]; rfl
      | cons kv cs ih =>
        intro l hl hk
        cases l with
        | nil => cases hl
        | cons v l =>
          simp only [List.map_cons, VRels]
          refine ⟨v, l, rfl, ?_, ih l (Nat.succ.inj hl) fun j v' e => hk (j + 1) v' e⟩
          obtain ⟨k, x, e, q⟩ := hk 0 v rfl
          cases e
          simp only [VRel]
          exact Value.isStrOf_shape q
    exact key 0 cs acc.toList (by rw [Array.length_toList, hacc.1]) fun j v e => hacc.2 j v (by rw [← Array.getElem?_toList]; exact e)
end Mine
end

section
set_option Elab.async false
set_option linter.unusedVariables false
set_option linter.unusedSimpArgs false
namespace Mine
namespace Deal

noncomputable abbrev Row := Nat × Nat × Int

noncomputable def sumR (p : Row → Bool) (D : List Row) : Int := ((D.filter p).map (·.2.2)).sum
theorem sumR_nil (p : Row → Bool) : sumR p [] = 0 := rfl
theorem sumR_cons (p : Row → Bool) (x : Row) (D : List Row) : sumR p (x :: D) = (if p x then x.2.2 else 0) + sumR p D := by
  unfold sumR
  by_cases h : p x = true
  · simp [List.filter_cons, h]
  · simp [List.filter_cons, h]
theorem sumR_append (p : Row → Bool) (D D' : List Row) : sumR p (D ++ D') = sumR p D + sumR p D' := by
  unfold sumR; rw [List.filter_append, List.map_append, List.sum_append]
theorem sumR_perm (p : Row → Bool) {D D' : List Row} (h : D.Perm D') : sumR p D = sumR p D' := by
  induction h with
  | nil => rfl
  | cons x _ ih => rw [sumR_cons, sumR_cons, ih]
  | swap x y l => simp only [sumR_cons]; (exact Mine.Ar.lin 3 0 (.ieq (.a (.v 0) (.a (.v 1) (.v 2))) (.a (.v 1) (.a (.v 0) (.v 2)))) [] (by kernel_rfl) [_, _, _] [] rfl rfl )
  | trans _ _ h1 h2 => rw [h1, h2]
theorem sumR_split (p c : Row → Bool) (D : List Row) : sumR p D = sumR (fun x => p x && c x) D + sumR (fun x => p x && !c x) D := by
  induction D with
  | nil => rfl
  | cons x D ih =>
    rw [sumR_cons, sumR_cons, sumR_cons, ih]
    by_cases h1 : p x = true <;> by_cases h2 : c x = true <;> simp [h1, h2] <;> lia
theorem sumR_mono {p q : Row → Bool} {D : List Row} (hpos : ∀ x ∈ D, 0 ≤ x.2.2) (h : ∀ x ∈ D, p x = true → q x = true) : sumR p D ≤ sumR q D := by
  induction D with
  | nil => exact Int.le_refl _
  | cons x D ih =>
    rw [sumR_cons, sumR_cons]
    have i := ih (fun y hy => hpos y (.tail _ hy)) (fun y hy => h y (.tail _ hy))
    have h0 := hpos x (.head _)
    have hh := h x (.head _)
    by_cases h1 : p x = true
    · rw [if_pos h1, if_pos (hh h1)]; (exact Mine.Ar.lin 3 0 (.ile (.a (.v 0) (.v 1)) (.a (.v 0) (.v 2))) [(.ile (.v 1) (.v 2))] (by kernel_rfl) [_, _, _] [] rfl rfl i)
    · rw [if_neg h1]; split <;> lia
theorem sumR_congr {p q : Row → Bool} {D : List Row} (h : ∀ x ∈ D, p x = q x) : sumR p D = sumR q D := by
  induction D with
  | nil => rfl
  | cons x D ih => rw [sumR_cons, sumR_cons, ih (fun y hy => h y (.tail _ hy)), h x (.head _)]
theorem sumR_zero {p : Row → Bool} {D : List Row} (h : ∀ x ∈ D, p x = false) : sumR p D = 0 := by
  induction D with
  | nil => rfl
  | cons x D ih => rw [sumR_cons, ih fun y hy => h y (.tail _ hy), h x (.head _)]; rfl
theorem sumR_nonneg {p : Row → Bool} {D : List Row} (hpos : ∀ x ∈ D, 0 ≤ x.2.2) : 0 ≤ sumR p D := by
  have := sumR_mono (p := fun z1 => false) (q := p) hpos (by simp)
  rw [sumR_zero (p := fun z1 => false) (by simp)] at this
  exact this

noncomputable def sumN (q : Nat → Bool) (f : Nat → Int) (n : Nat) : Int := (((List.range n).filter q).map f).sum
theorem sumN_succ (q : Nat → Bool) (f : Nat → Int) (n : Nat) : sumN q f (n + 1) = sumN q f n + (if q n then f n else 0) := by
  unfold sumN
  rw [List.range_succ, List.filter_append, List.map_append, List.sum_append]
  by_cases h : q n = true <;> simp [h]
theorem sumN_congr {q q' : Nat → Bool} {f f' : Nat → Int} {n : Nat} (hq : ∀ i, i < n → q i = q' i) (hf : ∀ i, i < n → q i = true → f i = f' i) : sumN q f n = sumN q' f' n := by
  induction n with
  | zero => rfl
  | succ n ih =>
    rw [sumN_succ, sumN_succ, ih (fun i h => hq i (by (exact Mine.Ar.lin 0 2 (.lt (.v 0) (.a (.v 1) (.k 1))) [(.lt (.v 0) (.v 1))] (by kernel_rfl) [] [_, _] rfl rfl h))) (fun i h => hf i (by (exact Mine.Ar.lin 0 2 (.lt (.v 0) (.a (.v 1) (.k 1))) [(.lt (.v 0) (.v 1))] (by kernel_rfl) [] [_, _] rfl rfl h))), hq n (by (exact Mine.Ar.lin 0 1 (.lt (.v 0) (.a (.v 0) (.k 1))) [] (by kernel_rfl) [] [_] rfl rfl ))]
    by_cases h : q' n = true
    · rw [if_pos h, if_pos h, hf n (by (exact Mine.Ar.lin 0 1 (.lt (.v 0) (.a (.v 0) (.k 1))) [] (by kernel_rfl) [] [_] rfl rfl )) (by rw [hq n (by (exact Mine.Ar.lin 0 1 (.lt (.v 0) (.a (.v 0) (.k 1))) [] (by kernel_rfl) [] [_] rfl rfl ))]; exact h)]
    · rw [if_neg h, if_neg h]
theorem sumN_le {q q' : Nat → Bool} {f f' : Nat → Int} {n : Nat} (h0 : ∀ i, i < n → 0 ≤ f' i) (hq : ∀ i, i < n → q i = true → q' i = true) (hf : ∀ i, i < n → q i = true → f i ≤ f' i) : sumN q f n ≤ sumN q' f' n := by
  induction n with
  | zero => exact Int.le_refl _
  | succ n ih =>
    rw [sumN_succ, sumN_succ]
    have i := ih (fun i h => h0 i (by (exact Mine.Ar.lin 0 2 (.lt (.v 0) (.a (.v 1) (.k 1))) [(.lt (.v 0) (.v 1))] (by kernel_rfl) [] [_, _] rfl rfl h))) (fun i h => hq i (by (exact Mine.Ar.lin 0 2 (.lt (.v 0) (.a (.v 1) (.k 1))) [(.lt (.v 0) (.v 1))] (by kernel_rfl) [] [_, _] rfl rfl h))) (fun i h => hf i (by (exact Mine.Ar.lin 0 2 (.lt (.v 0) (.a (.v 1) (.k 1))) [(.lt (.v 0) (.v 1))] (by kernel_rfl) [] [_, _] rfl rfl h)))
    have z := h0 n (by (exact Mine.Ar.lin 0 1 (.lt (.v 0) (.a (.v 0) (.k 1))) [] (by kernel_rfl) [] [_] rfl rfl ))
    by_cases h : q n = true
    · rw [if_pos h, if_pos (hq n (by (exact Mine.Ar.lin 0 1 (.lt (.v 0) (.a (.v 0) (.k 1))) [] (by kernel_rfl) [] [_] rfl rfl )) h)]
      have := hf n (by (exact Mine.Ar.lin 0 1 (.lt (.v 0) (.a (.v 0) (.k 1))) [] (by kernel_rfl) [] [_] rfl rfl )) h
      (exact Mine.Ar.lin 4 0 (.ile (.a (.v 0) (.v 1)) (.a (.v 2) (.v 3))) [(.ile (.v 0) (.v 2)), (.ile (.v 1) (.v 3))] (by kernel_rfl) [_, _, _, _] [] rfl rfl i this)
    · rw [if_neg h]; split <;> lia
theorem sumR_places (D : List Row) (f : Row → Nat) : ∀ (n : Nat) (p : Row → Bool) (q : Nat → Bool), (∀ x ∈ D, p x = true → f x < n ∧ q (f x) = true) → (∀ x ∈ D, f x < n → q (f x) = true → p x = true) →
    sumR p D = sumN q (fun i => sumR (fun x => f x == i) D) n := by
  intro n
  induction n with
  | zero =>
    intro p q hp _
    rw [sumR_zero fun x hx => ?_]
    · rfl
    · cases h : p x with
      | false => rfl
      | true => exact absurd (hp x hx h).1 (by (exact Mine.Ar.lin 0 1 (.no (.lt (.v 0) (.k 0))) [] (by kernel_rfl) [] [_] rfl rfl ))
  | succ n ih =>
    intro p q hp hq
    rw [sumN_succ, sumR_split p (fun x => f x != n)]
    rw [ih (fun x => p x && (f x != n)) q]
    · have e : sumR (fun x => p x && !(f x != n)) D = if q n = true then sumR (fun x => f x == n) D else 0 := by
        by_cases h : q n = true
        · rw [if_pos h]
          refine sumR_congr fun x hx => ?_
          by_cases e : f x = n
          · have := hq x hx (by (exact Mine.Ar.lin 0 2 (.lt (.v 0) (.a (.v 1) (.k 1))) [(.eq (.v 0) (.v 1))] (by kernel_rfl) [] [_, _] rfl rfl e)) (by rw [e]; exact h)
            simp [e, this]
          · have e' : (f x == n) = false := by simpa using e
            have e'' : (f x != n) = true := by simpa using e
            rw [e', e'']; simp
        · rw [if_neg h]
          refine sumR_zero fun x hx => ?_
          by_cases e : f x = n
          · cases hpx : p x with
            | false => rfl
            | true => exact absurd (e ▸ (hp x hx hpx).2) h
          · have e'' : (f x != n) = true := by simpa using e
            rw [e'']; simp
      rw [e]
    · intro x hx h
      simp only [Bool.and_eq_true, bne_iff_ne, ne_eq] at h
      have := hp x hx h.1
      exact ⟨by lia, this.2⟩
    · intro x hx h1 h2
      simp only [Bool.and_eq_true, bne_iff_ne, ne_eq]
      exact ⟨hq x hx (by (exact Mine.Ar.lin 0 2 (.lt (.v 0) (.a (.v 1) (.k 1))) [(.lt (.v 0) (.v 1))] (by kernel_rfl) [] [_, _] rfl rfl h1)) h2, by (exact Mine.Ar.lin 0 2 (.no (.eq (.v 0) (.v 1))) [(.lt (.v 0) (.v 1))] (by kernel_rfl) [] [_, _] rfl rfl h1)⟩
theorem flow_le {D : List Row} {cap : Nat → Int} {f : Row → Nat} {p : Row → Bool} {q : Nat → Bool} {n : Nat} (hcap : ∀ i, i < n → sumR (fun x => f x == i) D ≤ cap i) (h0 : ∀ i, i < n → 0 ≤ cap i) (hpos : ∀ x ∈ D, 0 ≤ x.2.2)
    (hp : ∀ x ∈ D, p x = true → f x < n ∧ q (f x) = true) : sumR p D ≤ sumN q cap n := by
  refine Int.le_trans (sumR_mono hpos (q := fun x => decide (f x < n) && q (f x)) ?_) ?_
  · intro x hx h
    have := hp x hx h
    simp [this.1, this.2]
  · rw [sumR_places D f n _ q (by intro x _ h; simpa using h) (by intro x _ h1 h2; simp [h1, h2])]
    exact sumN_le h0 (fun z1 z2 h => h) (fun i hi z1 => hcap i hi)

structure Stock (W : Type) where
  nL : Nat
  nN : Nat
  wl : Nat → W
  last : Nat → Int
  cl : Nat → Int
  wn : Nat → W
  need : Nat → Int
  cn : Nat → Int
variable {W : Type} [DecidableEq W]
noncomputable def Stock.good (S : Stock W) (t l : Nat) : Bool := decide (S.wl t = S.wn l) && decide (S.need l ≤ S.last t)
structure Fits (S : Stock W) (D : List Row) : Prop where
  line : ∀ x ∈ D, x.1 < S.nN
  lot : ∀ x ∈ D, x.2.1 < S.nL
  pos : ∀ x ∈ D, 1 ≤ x.2.2
  good : ∀ x ∈ D, S.good x.2.1 x.1 = true
  capN : ∀ l, l < S.nN → sumR (fun x => x.1 == l) D ≤ S.cn l
  capL : ∀ t, t < S.nL → sumR (fun x => x.2.1 == t) D ≤ S.cl t
noncomputable def Stock.limit (S : Stock W) (w : W) (day : Int) : Int := sumN (fun l => decide (S.wn l = w) && decide (S.need l < day)) S.cn S.nN + sumN (fun t => decide (S.wl t = w) && decide (day ≤ S.last t)) S.cl S.nL
noncomputable def Stock.dealt (S : Stock W) (w : W) (D : List Row) : Int := sumR (fun x => decide (S.wl x.2.1 = w)) D
structure Stock.Ok (S : Stock W) : Prop where
  cl : ∀ t, t < S.nL → 0 ≤ S.cl t
  cn : ∀ l, l < S.nN → 0 ≤ S.cn l
theorem dealt_le (S : Stock W) (ok : S.Ok) {D : List Row} (h : Fits S D) (w : W) (day : Int) : S.dealt w D ≤ S.limit w day := by
  have hpos : ∀ x ∈ D, 0 ≤ x.2.2 := fun x hx => by have := h.pos x hx; (exact Mine.Ar.lin 1 0 (.ile (.k 0) (.v 0)) [(.ile (.k 1) (.v 0))] (by kernel_rfl) [_] [] rfl rfl this)
  unfold Stock.dealt Stock.limit
  rw [sumR_split _ (fun x => decide (S.need x.1 < day))]
  refine Int.add_le_add (flow_le (f := fun x => x.1) h.capN ok.cn hpos fun x hx hp => ?_) (flow_le (f := fun x => x.2.1) h.capL ok.cl hpos fun x hx hp => ?_)
  · have g := h.good x hx
    simp only [Stock.good, Bool.and_eq_true, decide_eq_true_eq] at g hp ⊢
    exact ⟨h.line x hx, by rw [← g.1]; exact hp.1, hp.2⟩
  · have g := h.good x hx
    simp only [Stock.good, Bool.and_eq_true, decide_eq_true_eq, Bool.not_eq_true', decide_eq_false_iff_not] at g hp ⊢
    exact ⟨h.lot x hx, hp.1, by lia⟩

structure BS where
  want : Int
  rest : List Int
  found : List Row
noncomputable def bStep (gd : Nat → Bool) (li : Nat) (s : BS) (t : Nat) : BS :=
  if 0 < min s.want (s.rest.getD t 0) ∧ gd t = true then
    ⟨s.want - min s.want (s.rest.getD t 0), s.rest.set t (s.rest.getD t 0 - min s.want (s.rest.getD t 0)), s.found ++ [(li, t, min s.want (s.rest.getD t 0))]⟩
  else s

theorem getD_set (l : List Int) (i j : Nat) (v : Int) : (l.set i v).getD j 0 = if i = j ∧ i < l.length then v else l.getD j 0 := by
  rw [List.getD_eq_getElem?_getD, List.getD_eq_getElem?_getD, List.getElem?_set]
  by_cases h : i = j
  · subst h
    by_cases h2 : i < l.length
    · simp [h2]
    · simp [h2]
  · simp [h]

theorem emptied {w r q x : Int} (hq : q = r - min w r) (hx : 0 ≤ x) (hp : 0 < w - min w r - x) : q = 0 := by
  rw [hq]
  rcases Int.le_total w r with h | h
  · rw [Int.min_eq_left h] at hp
    exact (Mine.Ar.fls 2 0 [(.ilt (.k 0) (.s (.s (.v 0) (.v 0)) (.v 1))), (.ile (.k 0) (.v 1))] (by kernel_rfl) [_, _] [] rfl rfl hp hx).elim
  · rw [Int.min_eq_right h]; exact Int.sub_self _
theorem dry {w r : Int} (h : ¬ 0 < min w r) (hw : 0 < w) (hr : 0 ≤ r) : r = 0 := by
  rcases Int.le_total w r with q | q
  · rw [Int.min_eq_left q] at h; exact absurd hw h
  · rw [Int.min_eq_right q] at h; exact Int.le_antisymm (Int.not_lt.mp h) hr
structure Inner (gd : Nat → Bool) (li : Nat) (ts : List Nat) (s s' : BS) (new : List Row) : Prop where
  found : s'.found = s.found ++ new
  row : ∀ x ∈ new, x.1 = li ∧ x.2.1 ∈ ts ∧ gd x.2.1 = true ∧ 0 < x.2.2 ∧ 0 < s.rest.getD x.2.1 0
  len : s'.rest.length = s.rest.length
  rest : ∀ t, s'.rest.getD t 0 = s.rest.getD t 0 - sumR (fun x => x.2.1 == t) new
  pos : ∀ t, 0 ≤ s'.rest.getD t 0
  want : s'.want = s.want - sumR (fun z1 => true) new
  wpos : 0 ≤ s'.want
  lots : (new.map fun x => x.2.1).Sublist ts
  done : 0 < s'.want → ∀ t ∈ ts, gd t = true → s'.rest.getD t 0 = 0
  ahead : ∀ x ∈ new, ∀ pre post, ts = pre ++ x.2.1 :: post → ∀ t ∈ pre, gd t = true → s'.rest.getD t 0 = 0
theorem inner (gd : Nat → Bool) (li : Nat) : ∀ (ts : List Nat) (s : BS), ts.Nodup → (∀ t ∈ ts, t < s.rest.length) → (∀ t, 0 ≤ s.rest.getD t 0) → 0 ≤ s.want → ∃ new, Inner gd li ts s (ts.foldl (bStep gd li) s) new
  | [], s, _, _, hr, hw => ⟨[], by simp, by simp, rfl, by simp [sumR_nil], hr, by simp [sumR_nil], hw, by simp, by simp, by simp⟩
  | t :: ts, s, hnd, hlt, hr, hw => by
    obtain ⟨hnt, hnd'⟩ := List.nodup_cons.mp hnd
    rw [List.foldl_cons]
    by_cases hc : 0 < min s.want (s.rest.getD t 0) ∧ gd t = true
    · have e : bStep gd li s t = ⟨s.want - min s.want (s.rest.getD t 0), s.rest.set t (s.rest.getD t 0 - min s.want (s.rest.getD t 0)), s.found ++ [(li, t, min s.want (s.rest.getD t 0))]⟩ := by unfold bStep; rw [if_pos hc]
      have htl : t < s.rest.length := hlt t (.head _)
      have hset : ∀ j, (s.rest.set t (s.rest.getD t 0 - min s.want (s.rest.getD t 0))).getD j 0 = if t = j then s.rest.getD t 0 - min s.want (s.rest.getD t 0) else s.rest.getD j 0 := by
        intro j
        rw [getD_set]
        by_cases q : t = j
        · simp [q, q ▸ htl]
        · simp [q]
      have hrt := hr t
      obtain ⟨new, I⟩ := inner gd li ts (bStep gd li s t) hnd' (by rw [e]; simp; exact fun u hu => hlt u (.tail _ hu)) (by
        rw [e]; intro u; show 0 ≤ (s.rest.set t _).getD u 0; rw [hset]; split
        · exact Int.sub_nonneg.mpr (Int.min_le_right _ _)
        · exact hr u) (by rw [e]; exact Int.sub_nonneg.mpr (Int.min_le_left _ _))
      rw [e] at I ⊢
      have hno : ∀ x ∈ new, x.2.1 ≠ t := fun x hx q => hnt (q ▸ (I.row x hx).2.1)
      have hz : sumR (fun x => x.2.1 == t) new = 0 := sumR_zero fun x hx => by simpa using hno x hx
      have ht' := I.rest t
      have hg : (s.rest.set t (s.rest.getD t 0 - min s.want (s.rest.getD t 0))).getD t 0 = s.rest.getD t 0 - min s.want (s.rest.getD t 0) := by rw [hset, if_pos rfl]
      simp only [hg, hz] at ht'
      refine ⟨(li, t, min s.want (s.rest.getD t 0)) :: new, ⟨by rw [I.found]; simp, ?_, by rw [I.len]; simp, ?_, I.pos, ?_, I.wpos, by simpa using I.lots, ?_, ?_⟩⟩
      · intro x hx
        rcases List.mem_cons.mp hx with rfl | hx
        · exact ⟨rfl, .head _, hc.2, hc.1, (Int.lt_min.mp hc.1).2⟩
        · obtain ⟨a1, a2, a3, a4, a5⟩ := I.row x hx
          refine ⟨a1, .tail _ a2, a3, a4, ?_⟩
          have : (s.rest.set t (s.rest.getD t 0 - min s.want (s.rest.getD t 0))).getD x.2.1 0 = s.rest.getD x.2.1 0 := by rw [hset, if_neg (fun q => hno x hx q.symm)]
          simp only [this] at a5; exact a5
      · intro u
        rw [I.rest u, sumR_cons]
        show (s.rest.set t _).getD u 0 - _ = _
        rw [hset]
        by_cases q : t = u
        · subst q; simp; (exact Mine.Ar.lin 3 0 (.ieq (.s (.s (.v 0) (.v 1)) (.v 2)) (.s (.v 0) (.a (.v 1) (.v 2)))) [] (by kernel_rfl) [_, _, _] [] rfl rfl )
        · simp [q]
      · rw [I.want, sumR_cons]; simp; (exact Mine.Ar.lin 3 0 (.ieq (.s (.s (.v 0) (.v 1)) (.v 2)) (.s (.v 0) (.a (.v 1) (.v 2)))) [] (by kernel_rfl) [_, _, _] [] rfl rfl )
      · intro hpos u hu hgu
        rcases List.mem_cons.mp hu with rfl | hu
        · have : s.want - min s.want (s.rest.getD u 0) - sumR (fun z1 => true) new = (List.foldl (bStep gd li) ⟨s.want - min s.want (s.rest.getD u 0), s.rest.set u (s.rest.getD u 0 - min s.want (s.rest.getD u 0)), s.found ++ [(li, u, min s.want (s.rest.getD u 0))]⟩ ts).want := I.want.symm
          have hnn : 0 ≤ sumR (fun z1 => true) new := sumR_nonneg fun x hx => by have := (I.row x hx).2.2.2.1; (exact Mine.Ar.lin 1 0 (.ile (.k 0) (.v 0)) [(.ilt (.k 0) (.v 0))] (by kernel_rfl) [_] [] rfl rfl this)
          exact emptied (w := s.want) (r := s.rest.getD u 0) (x := sumR (fun z1 => true) new) (by rw [ht', Int.sub_zero]) hnn (by rw [this]; exact hpos)
        · exact I.done hpos u hu hgu
      · intro x hx₀ pre post hts u hu hgu
        rcases List.mem_cons.mp hx₀ with rfl | hx
        · cases pre with
          | nil => simp at hu
          | cons p pre =>
            simp only [List.cons_append, List.cons.injEq] at hts
            exfalso
            apply hnt
            rw [hts.2]; simp
        · cases pre with
          | nil => simp at hu
          | cons p pre =>
            simp only [List.cons_append, List.cons.injEq] at hts
            obtain ⟨q1, q2⟩ := hts
            subst q1
            rcases List.mem_cons.mp hu with rfl | hu
            · -- a later row stands: the line still wanted, so this lot was emptied
              have hx4 := (I.row x hx).2.2.2.1
              have hsum : x.2.2 ≤ sumR (fun z1 => true) new := by
                have := sumR_mono (p := fun y => decide (y = x)) (q := fun z1 => true) (D := new) (fun y hy => by have := (I.row y hy).2.2.2.1; (exact Mine.Ar.lin 1 0 (.ile (.k 0) (.v 0)) [(.ilt (.k 0) (.v 0))] (by kernel_rfl) [_] [] rfl rfl this)) (by simp)
                have h2 : x.2.2 ≤ sumR (fun y => decide (y = x)) new := by
                  obtain ⟨l1, l2, rfl⟩ := List.append_of_mem hx
                  rw [sumR_append, sumR_cons]
                  have n1 : 0 ≤ sumR (fun y => decide (y = x)) l1 := sumR_nonneg fun y hy => by have := (I.row y (by simp [hy])).2.2.2.1; (exact Mine.Ar.lin 1 0 (.ile (.k 0) (.v 0)) [(.ilt (.k 0) (.v 0))] (by kernel_rfl) [_] [] rfl rfl this)
                  have n2 : 0 ≤ sumR (fun y => decide (y = x)) l2 := sumR_nonneg fun y hy => by have := (I.row y (by simp [hy])).2.2.2.1; (exact Mine.Ar.lin 1 0 (.ile (.k 0) (.v 0)) [(.ilt (.k 0) (.v 0))] (by kernel_rfl) [_] [] rfl rfl this)
                  simp; (exact Mine.Ar.lin 3 0 (.ile (.v 0) (.a (.v 1) (.a (.v 0) (.v 2)))) [(.ile (.k 0) (.v 1)), (.ile (.k 0) (.v 2))] (by kernel_rfl) [_, _, _] [] rfl rfl n1 n2)
                (exact Mine.Ar.lin 3 0 (.ile (.v 0) (.v 1)) [(.ile (.v 2) (.v 1)), (.ile (.v 0) (.v 2))] (by kernel_rfl) [_, _, _] [] rfl rfl this h2)
              have hw' := I.want
              have hw2 := I.wpos
              rw [hw'] at hw2
              have hw3 : 0 ≤ s.want - min s.want (s.rest.getD u 0) - sumR (fun z1 => true) new := hw2
              exact emptied (w := s.want) (r := s.rest.getD u 0) (x := 0) (by rw [ht', Int.sub_zero]) (Int.le_refl 0) (Mine.Ar.lin 4 0 (.ilt (.k 0) (.s (.s (.v 0) (.v 1)) (.k 0))) [(.ile (.k 0) (.s (.s (.v 0) (.v 1)) (.v 2))), (.ile (.v 3) (.v 2)), (.ilt (.k 0) (.v 3))] (by kernel_rfl) [_, _, _, _] [] rfl rfl hw3 hsum hx4)
            · exact I.ahead x hx pre post q2 u hu hgu
    · have e : bStep gd li s t = s := by unfold bStep; rw [if_neg hc]
      rw [e]
      obtain ⟨new, I⟩ := inner gd li ts s hnd' (fun u hu => hlt u (.tail _ hu)) hr hw
      have hno : ∀ x ∈ new, x.2.1 ≠ t := fun x hx q => hnt (q ▸ (I.row x hx).2.1)
      have hz : sumR (fun x => x.2.1 == t) new = 0 := sumR_zero fun x hx => by simpa using hno x hx
      have ht' := I.rest t
      rw [hz] at ht'
      have hnn : 0 ≤ sumR (fun z1 => true) new := sumR_nonneg fun x hx => by have := (I.row x hx).2.2.2.1; (exact Mine.Ar.lin 1 0 (.ile (.k 0) (.v 0)) [(.ilt (.k 0) (.v 0))] (by kernel_rfl) [_] [] rfl rfl this)
      have hrt := hr t
      have hwt := I.want
      refine ⟨new, ⟨I.found, fun x hx => ?_, I.len, I.rest, I.pos, I.want, I.wpos, I.lots.cons _, ?_, ?_⟩⟩
      · obtain ⟨a1, a2, a3, a4, a5⟩ := I.row x hx
        exact ⟨a1, .tail _ a2, a3, a4, a5⟩
      · intro hpos u hu hgu
        rcases List.mem_cons.mp hu with rfl | hu
        · have : ¬ 0 < min s.want (s.rest.getD u 0) := fun q => hc ⟨q, hgu⟩
          rw [ht', Int.sub_zero]; exact dry this (Mine.Ar.lin 3 0 (.ilt (.k 0) (.v 0)) [(.ieq (.v 1) (.s (.v 0) (.v 2))), (.ile (.k 0) (.v 2)), (.ilt (.k 0) (.v 1))] (by kernel_rfl) [_, _, _] [] rfl rfl hwt hnn hpos) hrt
        · exact I.done hpos u hu hgu
      · intro x hx pre post hts u hu hgu
        cases pre with
        | nil => simp at hu
        | cons p pre =>
          simp only [List.cons_append, List.cons.injEq] at hts
          obtain ⟨q1, q2⟩ := hts
          subst q1
          rcases List.mem_cons.mp hu with rfl | hu
          · have : ¬ 0 < min s.want (s.rest.getD u 0) := fun q => hc ⟨q, hgu⟩
            have hx4 := (I.row x hx).2.2.2.1
            have hsum : x.2.2 ≤ sumR (fun z1 => true) new := by
              obtain ⟨l1, l2, rfl⟩ := List.append_of_mem hx
              rw [sumR_append, sumR_cons]
              have n1 : 0 ≤ sumR (fun z1 => true) l1 := sumR_nonneg fun y hy => by have := (I.row y (by simp [hy])).2.2.2.1; (exact Mine.Ar.lin 1 0 (.ile (.k 0) (.v 0)) [(.ilt (.k 0) (.v 0))] (by kernel_rfl) [_] [] rfl rfl this)
              have n2 : 0 ≤ sumR (fun z1 => true) l2 := sumR_nonneg fun y hy => by have := (I.row y (by simp [hy])).2.2.2.1; (exact Mine.Ar.lin 1 0 (.ile (.k 0) (.v 0)) [(.ilt (.k 0) (.v 0))] (by kernel_rfl) [_] [] rfl rfl this)
              simp; (exact Mine.Ar.lin 3 0 (.ile (.v 0) (.a (.v 1) (.a (.v 0) (.v 2)))) [(.ile (.k 0) (.v 1)), (.ile (.k 0) (.v 2))] (by kernel_rfl) [_, _, _] [] rfl rfl n1 n2)
            have hw2 := I.wpos
            rw [ht', Int.sub_zero]; exact dry this (Mine.Ar.lin 4 0 (.ilt (.k 0) (.v 0)) [(.ile (.k 0) (.v 1)), (.ieq (.v 1) (.s (.v 0) (.v 2))), (.ile (.v 3) (.v 2)), (.ilt (.k 0) (.v 3))] (by kernel_rfl) [_, _, _, _] [] rfl rfl hw2 hwt hsum hx4) hrt
          · exact I.ahead x hx pre post q2 u hu hgu

structure Greedy (S : Stock W) (dn : List Nat) (rest : List Int) (found : List Row) : Prop where
  row : ∀ x ∈ found, x.1 ∈ dn ∧ x.2.1 < S.nL ∧ S.good x.2.1 x.1 = true ∧ 0 < x.2.2
  nodup : (found.map fun x => (x.1, x.2.1)).Nodup
  len : rest.length = S.nL
  restEq : ∀ t, t < S.nL → rest.getD t 0 = S.cl t - sumR (fun x => x.2.1 == t) found
  pos : ∀ t, 0 ≤ rest.getD t 0
  line : ∀ l ∈ dn, sumR (fun x => x.1 == l) found ≤ S.cn l
  short : ∀ l ∈ dn, sumR (fun x => x.1 == l) found < S.cn l → ∀ t, t < S.nL → S.good t l = true → rest.getD t 0 = 0 ∧ ∀ x ∈ found, x.2.1 = t → S.need l ≤ S.need x.1
  ahead : ∀ x ∈ found, ∀ t, t < S.nL → S.good t x.1 = true → S.last t < S.last x.2.1 → rest.getD t 0 = 0
noncomputable def bLine (S : Stock W) (ts : List Nat) (s : List Int × List Row) (l : Nat) : List Int × List Row :=
  ((ts.foldl (bStep (fun t => S.good t l) l) ⟨S.cn l, s.1, s.2⟩).rest, (ts.foldl (bStep (fun t => S.good t l) l) ⟨S.cn l, s.1, s.2⟩).found)
structure LotsOrder (S : Stock W) (ts : List Nat) : Prop where
  nodup : ts.Nodup
  mem : ∀ t, t ∈ ts ↔ t < S.nL
  asc : ts.Pairwise fun a b => S.last a ≤ S.last b

theorem greedy_step {S : Stock W} {ts : List Nat} (hts : LotsOrder S ts) {dn : List Nat} {rest : List Int} {found : List Row} (G : Greedy S dn rest found) {l : Nat} (hl : l ∉ dn) (hn : ∀ k ∈ dn, S.need l ≤ S.need k) (h0 : 0 ≤ S.cn l) :
    Greedy S (dn ++ [l]) (bLine S ts (rest, found) l).1 (bLine S ts (rest, found) l).2 := by
  obtain ⟨new, I⟩ := inner (fun t => S.good t l) l ts ⟨S.cn l, rest, found⟩ hts.nodup (fun t ht => by rw [G.len]; exact (hts.mem t).mp ht) G.pos h0
  unfold bLine
  dsimp only
  generalize ts.foldl (bStep (fun t => S.good t l) l) ⟨S.cn l, rest, found⟩ = s' at I
  have hf := I.found
  dsimp only at hf
  rw [hf]
  have hpos : ∀ x ∈ new, 0 ≤ x.2.2 := fun x hx => by have := (I.row x hx).2.2.2.1; (exact Mine.Ar.lin 1 0 (.ile (.k 0) (.v 0)) [(.ilt (.k 0) (.v 0))] (by kernel_rfl) [_] [] rfl rfl this)
  have hle : ∀ t, s'.rest.getD t 0 ≤ rest.getD t 0 := fun t => by
    have := I.rest t
    have h1 : 0 ≤ sumR (fun x => x.2.1 == t) new := sumR_nonneg hpos
    dsimp only at this; (exact Mine.Ar.lin 3 0 (.ile (.v 0) (.v 1)) [(.ieq (.v 0) (.s (.v 1) (.v 2))), (.ile (.k 0) (.v 2))] (by kernel_rfl) [_, _, _] [] rfl rfl this h1)
  have hstay : ∀ t, rest.getD t 0 = 0 → s'.rest.getD t 0 = 0 := fun t h => by have := hle t; have := I.pos t; lia
  have hnl : ∀ x ∈ found, x.1 ≠ l := fun x hx q => hl (q ▸ (G.row x hx).1)
  have hfl : sumR (fun x => x.1 == l) found = 0 := sumR_zero fun x hx => by simpa using hnl x hx
  have hnew : ∀ k ∈ dn, sumR (fun x => x.1 == k) new = 0 := fun k hk => sumR_zero fun x hx => by
    have : x.1 = l := (I.row x hx).1
    rw [this]
    have : l ≠ k := fun q => hl (q ▸ hk)
    simpa using this
  have hnewl : sumR (fun x => x.1 == l) new = sumR (fun z1 => true) new := sumR_congr fun x hx => by rw [(I.row x hx).1]; simp
  have hw := I.want
  have hw0 := I.wpos
  dsimp only at hw
  refine ⟨fun x hx => ?_, ?_, by rw [I.len]; exact G.len, fun t ht => ?_, I.pos, fun k hk => ?_, fun k hk hs t ht hg => ?_, fun x hx t ht hg hlt => ?_⟩
  · rcases List.mem_append.mp hx with hx | hx
    · have := G.row x hx
      exact ⟨List.mem_append_left _ this.1, this.2⟩
    · obtain ⟨a1, a2, a3, a4, _⟩ := I.row x hx
      exact ⟨by rw [a1]; simp, (hts.mem _).mp a2, by rw [a1]; exact a3, a4⟩
  · rw [List.map_append]
    refine List.nodup_append.mpr ⟨G.nodup, ?_, ?_⟩
    · have hl2 : (new.map fun x => x.2.1).Nodup := I.lots.nodup hts.nodup
      refine List.Pairwise.of_map (S := fun a b : Nat => a ≠ b) (fun p : Nat × Nat => p.2) (fun a b h q => h (by rw [q])) ?_
      rw [List.map_map]; exact hl2
    · intro a ha b hb q
      obtain ⟨x, hx, rfl⟩ := List.mem_map.mp ha
      obtain ⟨y, hy, rfl⟩ := List.mem_map.mp hb
      have := (I.row y hy).1
      exact hnl x hx (by have := congrArg Prod.fst q; dsimp only at this; lia)
  · have := I.rest t
    dsimp only at this
    rw [this, G.restEq t ht, sumR_append]; (exact Mine.Ar.lin 3 0 (.ieq (.s (.s (.v 0) (.v 1)) (.v 2)) (.s (.v 0) (.a (.v 1) (.v 2)))) [] (by kernel_rfl) [_, _, _] [] rfl rfl )
  · rw [sumR_append]
    rcases List.mem_append.mp hk with hk | hk
    · rw [hnew k hk]; have := G.line k hk; (exact Mine.Ar.lin 2 0 (.ile (.a (.v 0) (.k 0)) (.v 1)) [(.ile (.v 0) (.v 1))] (by kernel_rfl) [_, _] [] rfl rfl this)
    · have : k = l := by simpa using hk
      subst this
      rw [hfl, hnewl]; (exact Mine.Ar.lin 3 0 (.ile (.a (.k 0) (.v 0)) (.v 1)) [(.ile (.k 0) (.v 2)), (.ieq (.v 2) (.s (.v 1) (.v 0)))] (by kernel_rfl) [_, _, _] [] rfl rfl hw0 hw)
  · rw [sumR_append] at hs
    rcases List.mem_append.mp hk with hk | hk
    · rw [hnew k hk] at hs
      obtain ⟨h1, h2⟩ := G.short k hk (by (exact Mine.Ar.lin 2 0 (.ilt (.v 0) (.v 1)) [(.ilt (.a (.v 0) (.k 0)) (.v 1))] (by kernel_rfl) [_, _] [] rfl rfl hs)) t ht hg
      refine ⟨hstay t h1, fun x hx hxt => ?_⟩
      rcases List.mem_append.mp hx with hx | hx
      · exact h2 x hx hxt
      · have := (I.row x hx).2.2.2.2
        dsimp only at this
        rw [hxt, h1] at this; (exact Mine.Ar.lin 2 0 (.ile (.v 0) (.v 1)) [(.ilt (.k 0) (.k 0))] (by kernel_rfl) [_, _] [] rfl rfl this)
    · have : k = l := by simpa using hk
      subst this
      rw [hfl, hnewl] at hs
      refine ⟨I.done (by (exact Mine.Ar.lin 3 0 (.ilt (.k 0) (.v 0)) [(.ilt (.a (.k 0) (.v 1)) (.v 2)), (.ieq (.v 0) (.s (.v 2) (.v 1)))] (by kernel_rfl) [_, _, _] [] rfl rfl hs hw)) t ((hts.mem t).mpr ht) hg, fun x hx hxt => ?_⟩
      rcases List.mem_append.mp hx with hx | hx
      · exact hn _ (G.row x hx).1
      · rw [(I.row x hx).1]; exact Int.le_refl _
  · rcases List.mem_append.mp hx with hx | hx
    · exact hstay t (G.ahead x hx t ht hg hlt)
    · obtain ⟨a1, a2, a3, a4, _⟩ := I.row x hx
      rw [a1] at hg
      obtain ⟨pre, post, e⟩ := List.append_of_mem a2
      refine I.ahead x hx pre post e t ?_ hg
      have hmem := (hts.mem t).mpr ht
      have hasc := hts.asc
      rw [e] at hmem hasc
      rcases List.mem_append.mp hmem with q | q
      · exact q
      · exfalso
        rcases List.mem_cons.mp q with q | q
        · rw [q] at hlt; (exact Mine.Ar.fls 1 0 [(.ilt (.v 0) (.v 0))] (by kernel_rfl) [_] [] rfl rfl hlt)
        · have := (List.pairwise_cons.mp (List.pairwise_append.mp hasc).2.1).1 t q
          lia

noncomputable def bestOf (S : Stock W) (ts ls : List Nat) : List Row := (ls.foldl (bLine S ts) ((List.range S.nL).map S.cl, [])).2
structure LinesOrder (S : Stock W) (ls : List Nat) : Prop where
  nodup : ls.Nodup
  mem : ∀ l, l ∈ ls ↔ l < S.nN
  desc : ls.Pairwise fun a b => S.need b ≤ S.need a
theorem greedy_all {S : Stock W} {ts : List Nat} (hts : LotsOrder S ts) : ∀ (ls dn : List Nat) (rest : List Int) (found : List Row), (dn ++ ls).Nodup → (dn ++ ls).Pairwise (fun a b => S.need b ≤ S.need a) → (∀ l ∈ ls, 0 ≤ S.cn l) → Greedy S dn rest found →
    Greedy S (dn ++ ls) (ls.foldl (bLine S ts) (rest, found)).1 (ls.foldl (bLine S ts) (rest, found)).2
  | [], dn, rest, found, _, _, _, G => by simpa using G
  | l :: ls, dn, rest, found, hnd, hp, h0, G => by
    rw [List.foldl_cons]
    have hl : l ∉ dn := fun q => (List.nodup_append.mp hnd).2.2 l q l (.head _) rfl
    have hn : ∀ k ∈ dn, S.need l ≤ S.need k := fun k hk => (List.pairwise_append.mp hp).2.2 k hk l (.head _)
    have G' := greedy_step hts G hl hn (h0 l (.head _))
    have := greedy_all hts ls (dn ++ [l]) _ _ (by simpa using hnd) (by simpa using hp) (fun k hk => h0 k (.tail _ hk)) G'
    simpa using this
theorem getD_rangeMap (f : Nat → Int) (n t : Nat) (h : t < n) : ((List.range n).map f).getD t 0 = f t := by
  rw [List.getD_eq_getElem?_getD]; simp [h]
theorem greedy {S : Stock W} (ok : S.Ok) {ts ls : List Nat} (hts : LotsOrder S ts) (hls : LinesOrder S ls) : ∃ rest, Greedy S ls rest (bestOf S ts ls) := by
  have := greedy_all hts ls [] ((List.range S.nL).map S.cl) [] (by simpa using hls.nodup) (by simpa using hls.desc) (fun l hl => ok.cn l ((hls.mem l).mp hl)) ⟨by simp, by simp, by simp, fun t ht => by rw [getD_rangeMap _ _ _ ht, sumR_nil]; (exact Mine.Ar.lin 1 0 (.ieq (.v 0) (.s (.v 0) (.k 0))) [] (by kernel_rfl) [_] [] rfl rfl ), fun t => ?_, by simp, by simp, by simp⟩
  · exact ⟨_, by simpa [bestOf] using this⟩
  · by_cases ht : t < S.nL
    · rw [getD_rangeMap _ _ _ ht]; exact ok.cl t ht
    · rw [List.getD_eq_getElem?_getD]; simp [ht]
theorem Greedy.fits {S : Stock W} {ls : List Nat} (hls : ∀ l, l ∈ ls ↔ l < S.nN) {rest : List Int} {found : List Row} (G : Greedy S ls rest found) : Fits S found :=
  ⟨fun x hx => (hls _).mp (G.row x hx).1, fun x hx => (G.row x hx).2.1, fun x hx => by have := (G.row x hx).2.2.2; (exact Mine.Ar.lin 1 0 (.ile (.k 1) (.v 0)) [(.ilt (.k 0) (.v 0))] (by kernel_rfl) [_] [] rfl rfl this), fun x hx => (G.row x hx).2.2.1, fun l hl => G.line l ((hls l).mpr hl),
    fun t ht => by have := G.restEq t ht; have := G.pos t; lia⟩
theorem exists_least (p : Nat → Prop) (f : Nat → Int) : ∀ n, (∃ l, l < n ∧ p l) → ∃ l, l < n ∧ p l ∧ ∀ k, k < n → p k → f l ≤ f k := by
  intro n
  induction n with
  | zero => rintro ⟨l, h, _⟩; lia
  | succ n ih =>
    rintro ⟨l, hl, hp⟩
    by_cases h : ∃ l, l < n ∧ p l
    · obtain ⟨m, hm, pm, hmin⟩ := ih h
      by_cases hn : p n ∧ f n < f m
      · refine ⟨n, by (exact Mine.Ar.lin 0 1 (.lt (.v 0) (.a (.v 0) (.k 1))) [] (by kernel_rfl) [] [_] rfl rfl ), hn.1, fun k hk pk => ?_⟩
        by_cases q : k = n
        · subst q; exact Int.le_refl _
        · have := hmin k (by (exact Mine.Ar.lin 0 2 (.lt (.v 0) (.v 1)) [(.lt (.v 0) (.a (.v 1) (.k 1))), (.no (.eq (.v 0) (.v 1)))] (by kernel_rfl) [] [_, _] rfl rfl hk q)) pk; lia
      · refine ⟨m, by (exact Mine.Ar.lin 0 2 (.lt (.v 0) (.a (.v 1) (.k 1))) [(.lt (.v 0) (.v 1))] (by kernel_rfl) [] [_, _] rfl rfl hm), pm, fun k hk pk => ?_⟩
        by_cases q : k = n
        · subst q
          have : ¬ f k < f m := fun q => hn ⟨pk, q⟩
          (exact Mine.Ar.lin 2 0 (.ile (.v 0) (.v 1)) [(.no (.ilt (.v 1) (.v 0)))] (by kernel_rfl) [_, _] [] rfl rfl this)
        · exact hmin k (by (exact Mine.Ar.lin 0 2 (.lt (.v 0) (.v 1)) [(.lt (.v 0) (.a (.v 1) (.k 1))), (.no (.eq (.v 0) (.v 1)))] (by kernel_rfl) [] [_, _] rfl rfl hk q)) pk
    · have : l = n := by
        rcases Nat.lt_or_ge l n with q | q
        · exact absurd ⟨l, q, hp⟩ h
        · (exact Mine.Ar.lin 0 2 (.eq (.v 0) (.v 1)) [(.lt (.v 0) (.a (.v 1) (.k 1))), (.le (.v 1) (.v 0))] (by kernel_rfl) [] [_, _] rfl rfl hl q)
      subst this
      refine ⟨l, hl, hp, fun k hk pk => ?_⟩
      by_cases q : k = l
      · subst q; exact Int.le_refl _
      · exact absurd ⟨k, by (exact Mine.Ar.lin 0 2 (.lt (.v 0) (.v 1)) [(.lt (.v 0) (.a (.v 1) (.k 1))), (.no (.eq (.v 0) (.v 1)))] (by kernel_rfl) [] [_, _] rfl rfl hk q), pk⟩ h
theorem Greedy.bar {S : Stock W} (ok : S.Ok) (hneed : ∀ l, l < S.nN → 0 ≤ S.need l) {ls : List Nat} (hls : ∀ l, l ∈ ls ↔ l < S.nN) {rest : List Int} {found : List Row} (G : Greedy S ls rest found) (w : W) :
    ∃ day, (day = 0 ∨ ∃ t, t < S.nL ∧ S.wl t = w ∧ day = S.last t + 1) ∧ S.limit w day = S.dealt w found := by
  have F := G.fits hls
  suffices h : ∃ day, (day = 0 ∨ ∃ t, t < S.nL ∧ S.wl t = w ∧ day = S.last t + 1) ∧ S.limit w day ≤ S.dealt w found by
    obtain ⟨day, h1, h2⟩ := h
    exact ⟨day, h1, Int.le_antisymm h2 (dealt_le S ok F w day)⟩
  have hg : ∀ x ∈ found, S.wl x.2.1 = S.wn x.1 ∧ S.need x.1 ≤ S.last x.2.1 := fun x hx => by
    have := F.good x hx
    simpa [Stock.good] using this
  by_cases hsh : ∃ l, l < S.nN ∧ (S.wn l = w ∧ sumR (fun x => x.1 == l) found < S.cn l)
  · obtain ⟨l, hl, ⟨hwl, hshl⟩, hmin⟩ := exists_least _ S.need _ hsh
    have hG := G.short l ((hls l).mpr hl) hshl
    have gd : ∀ t, S.wl t = w → S.need l ≤ S.last t → S.good t l = true := fun t h1 h2 => by simp [Stock.good, h1, hwl, h2]
    have heq : S.limit w (S.need l) = S.dealt w found := by
      unfold Stock.limit Stock.dealt
      rw [sumR_split _ (fun x => decide (S.need x.1 < S.need l))]
      congr 1
      · rw [sumR_places found (fun x => x.1) S.nN _ (fun k => decide (S.wn k = w) && decide (S.need k < S.need l))]
        · refine sumN_congr (fun z1 z2 => rfl) fun k hk hq => ?_
          simp only [Bool.and_eq_true, decide_eq_true_eq] at hq
          have h1 := F.capN k hk
          have h2 : ¬ sumR (fun x => x.1 == k) found < S.cn k := fun q => by have := hmin k hk ⟨hq.1, q⟩; lia
          (exact Mine.Ar.lin 2 0 (.ieq (.v 0) (.v 1)) [(.ile (.v 1) (.v 0)), (.no (.ilt (.v 1) (.v 0)))] (by kernel_rfl) [_, _] [] rfl rfl h1 h2)
        · intro x hx hp
          simp only [Bool.and_eq_true, decide_eq_true_eq] at hp ⊢
          exact ⟨F.line x hx, by rw [← (hg x hx).1]; exact hp.1, hp.2⟩
        · intro x hx _ hp
          simp only [Bool.and_eq_true, decide_eq_true_eq] at hp ⊢
          exact ⟨by rw [(hg x hx).1]; exact hp.1, hp.2⟩
      · rw [sumR_places found (fun x => x.2.1) S.nL _ (fun t => decide (S.wl t = w) && decide (S.need l ≤ S.last t))]
        · refine sumN_congr (fun z1 z2 => rfl) fun t ht hq => ?_
          simp only [Bool.and_eq_true, decide_eq_true_eq] at hq
          have h1 := G.restEq t ht
          have h2 := (hG t ht (gd t hq.1 hq.2)).1
          (exact Mine.Ar.lin 3 0 (.ieq (.v 0) (.v 1)) [(.ieq (.v 2) (.s (.v 0) (.v 1))), (.ieq (.v 2) (.k 0))] (by kernel_rfl) [_, _, _] [] rfl rfl h1 h2)
        · intro x hx hp
          simp only [Bool.and_eq_true, decide_eq_true_eq, Bool.not_eq_true', decide_eq_false_iff_not] at hp ⊢
          have := (hg x hx).2
          exact ⟨F.lot x hx, hp.1, by lia⟩
        · intro x hx _ hp
          simp only [Bool.and_eq_true, decide_eq_true_eq, Bool.not_eq_true', decide_eq_false_iff_not] at hp ⊢
          have := (hG x.2.1 (F.lot x hx) (gd _ hp.1 hp.2)).2 x hx rfl
          exact ⟨hp.1, by (exact Mine.Ar.lin 2 0 (.no (.ilt (.v 0) (.v 1))) [(.ile (.v 1) (.v 0))] (by kernel_rfl) [_, _] [] rfl rfl this)⟩
    by_cases hlow : ∃ t, t < S.nL ∧ (S.wl t = w ∧ S.last t < S.need l)
    · obtain ⟨t, ht, ⟨hwt, hlt⟩, hmax⟩ := exists_least _ (fun t => - S.last t) _ hlow
      refine ⟨S.last t + 1, .inr ⟨t, ht, hwt, rfl⟩, ?_⟩
      rw [← heq]
      unfold Stock.limit
      refine Int.add_le_add (sumN_le ok.cn (fun k z1 hk => ?_) (fun z1 z2 z3 => Int.le_refl _)) (sumN_le ok.cl (fun k hk hq => ?_) (fun z1 z2 z3 => Int.le_refl _))
      · simp only [Bool.and_eq_true, decide_eq_true_eq] at hk ⊢
        exact ⟨hk.1, by lia⟩
      · simp only [Bool.and_eq_true, decide_eq_true_eq] at hq ⊢
        refine ⟨hq.1, ?_⟩
        rcases Int.lt_or_le (S.last k) (S.need l) with q | q
        · have := hmax k hk ⟨hq.1, q⟩; lia
        · exact q
    · refine ⟨0, .inl rfl, ?_⟩
      rw [← heq]
      have := hneed l hl
      unfold Stock.limit
      refine Int.add_le_add (sumN_le ok.cn (fun k z1 hk => ?_) (fun z1 z2 z3 => Int.le_refl _)) (sumN_le ok.cl (fun k hk hq => ?_) (fun z1 z2 z3 => Int.le_refl _))
      · simp only [Bool.and_eq_true, decide_eq_true_eq] at hk ⊢
        exact ⟨hk.1, by lia⟩
      · simp only [Bool.and_eq_true, decide_eq_true_eq] at hq ⊢
        refine ⟨hq.1, ?_⟩
        rcases Int.lt_or_le (S.last k) (S.need l) with q | q
        · exact absurd ⟨k, hk, hq.1, q⟩ hlow
        · exact q
  · have hall : S.dealt w found = sumN (fun l => decide (S.wn l = w)) S.cn S.nN := by
      unfold Stock.dealt
      rw [sumR_places found (fun x => x.1) S.nN _ (fun k => decide (S.wn k = w))]
      · refine sumN_congr (fun z1 z2 => rfl) fun k hk hq => ?_
        have h1 := F.capN k hk
        have h2 : ¬ sumR (fun x => x.1 == k) found < S.cn k := fun q => hsh ⟨k, hk, by simpa using hq, q⟩
        (exact Mine.Ar.lin 2 0 (.ieq (.v 0) (.v 1)) [(.ile (.v 0) (.v 1)), (.no (.ilt (.v 0) (.v 1)))] (by kernel_rfl) [_, _] [] rfl rfl h1 h2)
      · intro x hx hp
        simp only [decide_eq_true_eq] at hp ⊢
        exact ⟨F.line x hx, by rw [← (hg x hx).1]; exact hp⟩
      · intro x hx _ hp
        simp only [decide_eq_true_eq] at hp ⊢
        rw [(hg x hx).1]; exact hp
    have hz : ∀ (q : Nat → Bool) (n : Nat), (∀ i, i < n → q i = false) → sumN q S.cl n = 0 := by
      intro q n hq
      induction n with
      | zero => rfl
      | succ n ih => rw [sumN_succ, ih (fun i hi => hq i (by (exact Mine.Ar.lin 0 2 (.lt (.v 0) (.a (.v 1) (.k 1))) [(.lt (.v 0) (.v 1))] (by kernel_rfl) [] [_, _] rfl rfl hi))), hq n (by (exact Mine.Ar.lin 0 1 (.lt (.v 0) (.a (.v 0) (.k 1))) [] (by kernel_rfl) [] [_] rfl rfl ))]; rfl
    have fin : ∀ day, (∀ t, t < S.nL → S.wl t = w → S.last t < day) → S.limit w day ≤ S.dealt w found := by
      intro day hd
      rw [hall]
      unfold Stock.limit
      rw [hz _ _ fun t ht => ?_]
      · rw [Int.add_zero]
        exact sumN_le ok.cn (fun k z1 hk => by simp only [Bool.and_eq_true] at hk; exact hk.1) (fun z1 z2 z3 => Int.le_refl _)
      · by_cases q : S.wl t = w
        · have := hd t ht q
          simp [q]; (exact Mine.Ar.lin 2 0 (.ilt (.v 0) (.v 1)) [(.ilt (.v 0) (.v 1))] (by kernel_rfl) [_, _] [] rfl rfl this)
        · simp [q]
    by_cases hlots : ∃ t, t < S.nL ∧ S.wl t = w
    · obtain ⟨t, ht, hwt, hmax⟩ := exists_least _ (fun t => - S.last t) _ hlots
      refine ⟨S.last t + 1, .inr ⟨t, ht, hwt, rfl⟩, fin _ fun k hk hkw => ?_⟩
      have := hmax k hk hkw; (exact Mine.Ar.lin 2 0 (.ilt (.v 0) (.a (.v 1) (.k 1))) [(.ile (.g (.v 1)) (.g (.v 0)))] (by kernel_rfl) [_, _] [] rfl rfl this)
    · exact ⟨0, .inl rfl, fin _ fun k hk hkw => absurd ⟨k, hk, hkw⟩ hlots⟩

noncomputable def takeRow (s : List Int × List Int) (x : Row) : List Int × List Int := (s.1.set x.1 (s.1.getD x.1 0 - x.2.2), s.2.set x.2.1 (s.2.getD x.2.1 0 - x.2.2))
structure Taken (s : List Int × List Int) (D : List Row) (r : List Int × List Int) : Prop where
  l1 : r.1.length = s.1.length
  l2 : r.2.length = s.2.length
  e1 : ∀ i, r.1.getD i 0 = s.1.getD i 0 - sumR (fun x => x.1 == i) D
  e2 : ∀ i, r.2.getD i 0 = s.2.getD i 0 - sumR (fun x => x.2.1 == i) D
theorem taken : ∀ (D : List Row) (s : List Int × List Int), (∀ x ∈ D, x.1 < s.1.length ∧ x.2.1 < s.2.length) → Taken s D (D.foldl takeRow s)
  | [], s, _ => ⟨rfl, rfl, by simp [sumR_nil], by simp [sumR_nil]⟩
  | x :: D, s, h => by
    obtain ⟨h1, h2⟩ := h x (.head _)
    have T := taken D (takeRow s x) (fun y hy => by simpa [takeRow] using h y (.tail _ hy))
    rw [List.foldl_cons]
    refine ⟨by rw [T.l1]; simp [takeRow], by rw [T.l2]; simp [takeRow], fun i => ?_, fun i => ?_⟩
    · rw [T.e1, sumR_cons]
      show (s.1.set x.1 _).getD i 0 - _ = _
      rw [getD_set]
      by_cases q : x.1 = i
      · subst q; simp [h1]; (exact Mine.Ar.lin 3 0 (.ieq (.s (.s (.v 0) (.v 1)) (.v 2)) (.s (.v 0) (.a (.v 1) (.v 2)))) [] (by kernel_rfl) [_, _, _] [] rfl rfl )
      · simp [q]
    · rw [T.e2, sumR_cons]
      show (s.2.set x.2.1 _).getD i 0 - _ = _
      rw [getD_set]
      by_cases q : x.2.1 = i
      · subst q; simp [h2]; (exact Mine.Ar.lin 3 0 (.ieq (.s (.s (.v 0) (.v 1)) (.v 2)) (.s (.v 0) (.a (.v 1) (.v 2)))) [] (by kernel_rfl) [_, _, _] [] rfl rfl )
      · simp [q]
theorem Fits.perm {S : Stock W} {D D' : List Row} (h : Fits S D) (p : D'.Perm D) : Fits S D' :=
  ⟨fun x hx => h.line x (p.mem_iff.mp hx), fun x hx => h.lot x (p.mem_iff.mp hx), fun x hx => h.pos x (p.mem_iff.mp hx), fun x hx => h.good x (p.mem_iff.mp hx), fun l hl => by rw [sumR_perm _ p]; exact h.capN l hl, fun t ht => by rw [sumR_perm _ p]; exact h.capL t ht⟩
end Deal
end Mine
end

section
set_option Elab.async false
set_option linter.unusedVariables false
set_option linter.unusedSimpArgs false
namespace Mine
open PySem PyProof.Rows

variable {c : Cx} {d : Nat} {sc : Scope} {m : AEnv} {σ : Led} {P : V → Led → Prop} {X : XP} {K : Fl → AEnv → Led → Prop}

section
variable {prog : Program} {w : World} {A : Around} {E : Value → Shared → Prop} {s : Shared}
theorem le_loop {own : List Addr} {R : Option Fin × Unit → Shared → Prop} {body : Value × Value → Option Fin × Unit → Sem (ForInStep (Option Fin × Unit))}
    (hb : ∀ x t y u (R' : ForInStep (Option Fin × Unit) → Shared → Prop), R' (if x = y then .yield (none, ()) else .done (some (.done (.ret (.bool (decide (x ≤ y))))), ())) s → wpAny (model prog w) A (body (.int x t, .int y u) (none, ())) R' E s) :
    ∀ (ns ks : List Int) (cs ds : List Value), ns.length = ks.length → VRels s.heap own (ns.map .int) cs → VRels s.heap own (ks.map .int) ds → (∀ r, (∀ b, r = some b → b = .done (.ret (.bool (!ltL ks ns)))) → (r = none → ltL ks ns = false) → R (r, ()) s) →
      wpAny (model prog w) A (forIn (cs.zip ds) (none, ()) body) R E s
  | [], ks, cs, ds, hl, r1, r2, h => by
    simp only [List.map_nil, VRels] at r1; subst r1
    simp only [List.zip_nil_left, List.forIn_nil]
    refine wpAny_pure (h none (by simp) fun z1 => ?_)
    cases ks with
    | nil => rfl
    | cons k ks => simp at hl
  | n :: ns, [], cs, ds, hl, r1, r2, h => by simp at hl
  | n :: ns, k :: ks, cs, ds, hl, r1, r2, h => by
    simp only [List.map_cons, VRels, VRel] at r1 r2
    obtain ⟨_, cs', rfl, ⟨t, rfl⟩, r1⟩ := r1
    obtain ⟨_, ds', rfl, ⟨u, rfl⟩, r2⟩ := r2
    rw [List.zip_cons_cons, List.forIn_cons]
    refine wpAny_bind (hb n t k u _ ?_)
    by_cases e : n = k
    · rw [if_pos e]
      refine le_loop hb ns ks cs' ds' (by simpa using hl) r1 r2 fun r hr1 hr2 => h r ?_ ?_
      · intro b hrb; rw [hr1 b hrb]; simp [ltL, e]
      · intro hrn; rw [← hr2 hrn]; simp [ltL, e]
    · rw [if_neg e]
      refine wpAny_pure (h _ ?_ (by simp))
      intro b hrb; cases hrb
      have e' : ¬ k = n := fun q => e q.symm
      simp only [ltL, if_neg e']
      congr 3
      by_cases q : k < n
      · simp [q]
      · simp [q]; lia
end
theorem Cmp_le_tup {ns ks : List Int} (hl : ns.length = ks.length) (h : P (.bool (!ltL ks ns)) σ) : Op2 c d (compareOp .LtE) (.tup (ns.map .int)) (.tup (ks.map .int)) σ P := by
  intro A s E ca cb hA st ra rb
  obtain ⟨a, cs, n, rfl, ea, rs, _⟩ := kvT_of ra
  obtain ⟨b, ds, k, rfl, eb, rs', _⟩ := kvT_of rb
  have hTa : s.TypeIs (.ref a) "tuple" := ⟨_, ea, rfl⟩
  have hTb : s.TypeIs (.ref b) "tuple" := ⟨_, eb, rfl⟩
  have hu : A.units < cLine := by have := units_ok hA; lia
  refine wpAny_richCompare_same_room (op := .LtE) hTa hTb F.slot_tuple_le (wpAny_call_entry F.slot_tuple_le hTa F.entry_tuple_le ?_ (F.args_tuple_le_2 _ _)) hu
  show wpAny _ _ (isInstance (.ref b) (.type "tuple") >>= _) _ _ s
  refine wpAny_bind (wpAny_isInstance hTb isSubtype_tuple_tuple ?_)
  simp only [Bool.not_true, Bool.false_eq_true, if_false]
  refine wpAny_bind (wpAny_tupleItemsOf ea rfl ?_)
  refine wpAny_bind (wpAny_tupleItemsOf eb rfl ?_)
  have hfin : ∃ v, Fin.done (.ret (.bool (!ltL ks ns))) = .done (.ret v) ∧ v ≠ .notImplemented ∧ Post c A σ s P v s := ⟨_, rfl, (fun e => nomatch e), Post.same' st h (by simp only [VRel])⟩
  refine wpAny_bind (le_loop (own := ownS c σ) ?_ ns ks cs ds hl rs rs' fun r hr1 hr2 => ?_)
  · intro x t y u R' hR
    refine wpAny_bind (wpAny_eqBool_int ?_)
    by_cases e : x = y
    · rw [if_pos e] at hR
      rw [beq_iff_eq.mpr e]
      simp only [Bool.not_true, Bool.false_eq_true, if_false]
      exact wpAny_pure hR
    · rw [if_neg e] at hR
      rw [beq_eq_false_iff_ne.mpr e]
      simp only [Bool.not_false, if_true]
      refine wpAny_bind (wpAny_rule (wpAny_bind (wpAny_mono (show wpAny _ _ (richCompare .LtE (.int x t) (.int y u)) (fun v s' => v = .bool (decide (x ≤ y)) ∧ s' = s) E s from PySem.P.le_int ⟨rfl, rfl⟩) ?_ fun z1 z2 q => q)))
      rintro v s' ⟨rfl, rfl⟩
      exact wpAny_bind (wpAny_pure (wpAny_pure hR))
  · cases r with
    | none =>
      have e := hr2 rfl
      have e2 : cs.toArray.size = ds.toArray.size := by simp [rs.length, rs'.length, hl]
      rw [e] at hfin
      dsimp only
      rw [e2]
      refine wpAny_pure ?_
      have e3 : Builtin.Tuple.tupleCompareSizes CmpOp.LtE ds.toArray.size ds.toArray.size = .bool true := by simp [Builtin.Tuple.tupleCompareSizes]
      rw [e3]
      exact hfin
    | some b =>
      dsimp only
      refine wpAny_pure ?_
      rw [hr1 b rfl]; exact hfin
end Mine
end

section
set_option Elab.async false
set_option linter.unusedVariables false
set_option linter.unusedSimpArgs false
set_option genSizeOf false
set_option genInjectivity false
namespace Mine
open PySem

inductive Bf where
  | len | isinstance | int | bool | str | tuple | list | dict | set | range | max | min | sum | all | sorted
noncomputable def Bf.name : Bf → Str
  | .len => "len" | .isinstance => "isinstance" | .int => "int" | .bool => "bool" | .str => "str" | .tuple => "tuple" | .list => "list" | .dict => "dict" | .set => "set"
  | .range => "range" | .max => "max" | .min => "min" | .sum => "sum" | .all => "all" | .sorted => "sorted"
noncomputable def Bf.val : Bf → Value
  | .len => .builtin "len" | .isinstance => .builtin "isinstance" | .int => .type "int" | .bool => .type "bool" | .str => .type "str" | .tuple => .type "tuple" | .list => .type "list" | .dict => .type "dict" | .set => .type "set"
  | .range => .type "range" | .max => .builtin "max" | .min => .builtin "min" | .sum => .builtin "sum" | .all => .builtin "all" | .sorted => .builtin "sorted"

inductive T where
  | nil | cons (e r : T)
  | int (i : Int) | str (x : Str) | bool (b : Bool) | none
  | var (i : Nat)
  | bin (op : Operator) (l r : T) | un (op : UnaryOp) (e : T)
  | cmp (op : CmpOp) (l r : T) | cmp2 (l : T) (o₁ : CmpOp) (a : T) (o₂ : CmpOp) (b : T)
  | bo (op : BoolOp) (es : T) | ife (t a b : T)
  | tup (es : T) | lst (loc : Bool) (es : T)
  | call (f : Str) (es : T) | blt (f : Bf) (es : T) | isi (e : T) (f : Bf) | meth (o : T) (x : Str) (es : T)
  | item (v i : T) | slice (v lo hi : T)
  | comp (loc hc : Bool) (elt t it cond : T)
  | attr (o : T) (x : Str) | dict (ks vs : T) | cut (q : T)
  | ret (e : T) | ret0 | pass | brk | cont | expr (e : T)
  | asgn (t e : T) | asgnC (i : Nat) (loc hc : Bool) (elt t it cond : T)
  | ite (t a b : T) | for_ (t it body : T) | while_ (t body : T)
  | raise (x : Str) (es : T) | try_ (body hs : T) | handler (x : Str) (v : Option Nat) (body : T)
  | isx (a : T) (tp : Bool) (xs : List Str)

noncomputable abbrev Rho := List (Nat × V)

structure Glob where
  gInts : List (Str × Int)
  gStrs : List (Str × Str)
  gDefs : List Str
structure GlobOk (k : Base) (G : Glob) : Prop where
  ok : k.OK
  hInts : ∀ x i, G.gInts.lookup x = some i → Const k x (.int i)
  hStrs : ∀ x y, G.gStrs.lookup x = some y → Const k x (.str y)
  hDefs : ∀ x, G.gDefs.contains x = true → Def k x
  hBlts : ∀ f : Bf, Blt k f.name f.val
  hd : k.hd = true

noncomputable def gi (sc : Scope) (x : Str) : Bool := sc.names.lookup x == some .globalImplicit
theorem gi_of {sc : Scope} {x : Str} (h : gi sc x = true) : sc.names.lookup x = some .globalImplicit := by simpa [gi] using h

noncomputable def noStar (e : Expr) : Bool := e.ctorIdx != 22
noncomputable def noSet (e : Expr) : Bool := e.ctorIdx != 7
noncomputable def noComp (e : Expr) : Bool := e.ctorIdx != 8 && e.ctorIdx != 9 && e.ctorIdx != 10
noncomputable def noSlice (e : Expr) : Bool := e.ctorIdx != 26

noncomputable def onCst (e : Expr) (f : PySem.Const → Bool) : Bool := if h : e.ctorIdx = 19 then Expr.Constant.elim (motive_1 := fun z1 => Bool) e h (fun k z1 z2 => f k) else false
set_option tactic.hygienic true in
theorem onCst_inv {e : Expr} {f : PySem.Const → Bool} (h : onCst e f = true) : ∃ k n p, e = .Constant k n p ∧ f k = true := by
  unfold onCst at h
  split at h
  · rename_i q; revert h; exact Expr.Constant.elim (motive_1 := fun e => ∀ h : e.ctorIdx = 19, Expr.Constant.elim (motive_1 := fun z1 => Bool) e h (fun k z1 z2 => f k) = true → ∃ k n p, e = .Constant k n p ∧ f k = true) e q (fun k n p z1 hk => ⟨k, n, p, rfl, hk⟩) q
  · cases h
noncomputable def onNm (e : Expr) (f : Str → Bool) : Bool := if h : e.ctorIdx = 23 then Expr.Name.elim (motive_1 := fun z1 => Bool) e h (fun x z1 => f x) else false
set_option tactic.hygienic true in
theorem onNm_inv {e : Expr} {f : Str → Bool} (h : onNm e f = true) : ∃ x p, e = .Name x p ∧ f x = true := by
  unfold onNm at h
  split at h
  · rename_i q; revert h; exact Expr.Name.elim (motive_1 := fun e => ∀ h : e.ctorIdx = 23, Expr.Name.elim (motive_1 := fun z1 => Bool) e h (fun x z1 => f x) = true → ∃ x p, e = .Name x p ∧ f x = true) e q (fun x p z1 hk => ⟨x, p, rfl, hk⟩) q
  · cases h
noncomputable def onNmp (e : Expr) (f : Str → Pos → Bool) : Bool := if h : e.ctorIdx = 23 then Expr.Name.elim (motive_1 := fun z1 => Bool) e h (fun x p => f x p) else false
set_option tactic.hygienic true in
theorem onNmp_inv {e : Expr} {f : Str → Pos → Bool} (h : onNmp e f = true) : ∃ x p, e = .Name x p ∧ f x p = true := by
  unfold onNmp at h
  split at h
  · rename_i q; revert h; exact Expr.Name.elim (motive_1 := fun e => ∀ h : e.ctorIdx = 23, Expr.Name.elim (motive_1 := fun z1 => Bool) e h (fun x p => f x p) = true → ∃ x p, e = .Name x p ∧ f x p = true) e q (fun x p z1 hk => ⟨x, p, rfl, hk⟩) q
  · cases h
noncomputable def onBin (e : Expr) (f : Expr → Operator → Expr → Bool) : Bool := if h : e.ctorIdx = 2 then Expr.BinOp.elim (motive_1 := fun z1 => Bool) e h (fun l o r z1 => f l o r) else false
set_option tactic.hygienic true in
theorem onBin_inv {e : Expr} {f : Expr → Operator → Expr → Bool} (h : onBin e f = true) : ∃ l o r p, e = .BinOp l o r p ∧ f l o r = true := by
  unfold onBin at h
  split at h
  · rename_i q; revert h; exact Expr.BinOp.elim (motive_1 := fun e => ∀ h : e.ctorIdx = 2, Expr.BinOp.elim (motive_1 := fun z1 => Bool) e h (fun l o r z1 => f l o r) = true → ∃ l o r p, e = .BinOp l o r p ∧ f l o r = true) e q (fun l o r p z1 hk => ⟨l, o, r, p, rfl, hk⟩) q
  · cases h
noncomputable def onUn (e : Expr) (f : UnaryOp → Expr → Bool) : Bool := if h : e.ctorIdx = 3 then Expr.UnaryOp.elim (motive_1 := fun z1 => Bool) e h (fun o l z1 => f o l) else false
set_option tactic.hygienic true in
theorem onUn_inv {e : Expr} {f : UnaryOp → Expr → Bool} (h : onUn e f = true) : ∃ o l p, e = .UnaryOp o l p ∧ f o l = true := by
  unfold onUn at h
  split at h
  · rename_i q; revert h; exact Expr.UnaryOp.elim (motive_1 := fun e => ∀ h : e.ctorIdx = 3, Expr.UnaryOp.elim (motive_1 := fun z1 => Bool) e h (fun o l z1 => f o l) = true → ∃ o l p, e = .UnaryOp o l p ∧ f o l = true) e q (fun o l p z1 hk => ⟨o, l, p, rfl, hk⟩) q
  · cases h
noncomputable def onCmp (e : Expr) (f : Expr → List CmpOp → List Expr → Bool) : Bool := if h : e.ctorIdx = 15 then Expr.Compare.elim (motive_1 := fun z1 => Bool) e h (fun l os rs z1 => f l os rs) else false
set_option tactic.hygienic true in
theorem onCmp_inv {e : Expr} {f : Expr → List CmpOp → List Expr → Bool} (h : onCmp e f = true) : ∃ l os rs p, e = .Compare l os rs p ∧ f l os rs = true := by
  unfold onCmp at h
  split at h
  · rename_i q; revert h; exact Expr.Compare.elim (motive_1 := fun e => ∀ h : e.ctorIdx = 15, Expr.Compare.elim (motive_1 := fun z1 => Bool) e h (fun l os rs z1 => f l os rs) = true → ∃ l os rs p, e = .Compare l os rs p ∧ f l os rs = true) e q (fun l os rs p z1 hk => ⟨l, os, rs, p, rfl, hk⟩) q
  · cases h
noncomputable def onBo (e : Expr) (f : BoolOp → List Expr → Bool) : Bool := if h : e.ctorIdx = 0 then Expr.BoolOp.elim (motive_1 := fun z1 => Bool) e h (fun o es z1 => f o es) else false
set_option tactic.hygienic true in
theorem onBo_inv {e : Expr} {f : BoolOp → List Expr → Bool} (h : onBo e f = true) : ∃ o es p, e = .BoolOp o es p ∧ f o es = true := by
  unfold onBo at h
  split at h
  · rename_i q; revert h; exact Expr.BoolOp.elim (motive_1 := fun e => ∀ h : e.ctorIdx = 0, Expr.BoolOp.elim (motive_1 := fun z1 => Bool) e h (fun o es z1 => f o es) = true → ∃ o es p, e = .BoolOp o es p ∧ f o es = true) e q (fun o es p z1 hk => ⟨o, es, p, rfl, hk⟩) q
  · cases h
noncomputable def onIf (e : Expr) (f : Expr → Expr → Expr → Bool) : Bool := if h : e.ctorIdx = 5 then Expr.IfExp.elim (motive_1 := fun z1 => Bool) e h (fun t a b z1 => f t a b) else false
set_option tactic.hygienic true in
theorem onIf_inv {e : Expr} {f : Expr → Expr → Expr → Bool} (h : onIf e f = true) : ∃ t a b p, e = .IfExp t a b p ∧ f t a b = true := by
  unfold onIf at h
  split at h
  · rename_i q; revert h; exact Expr.IfExp.elim (motive_1 := fun e => ∀ h : e.ctorIdx = 5, Expr.IfExp.elim (motive_1 := fun z1 => Bool) e h (fun t a b z1 => f t a b) = true → ∃ t a b p, e = .IfExp t a b p ∧ f t a b = true) e q (fun t a b p z1 hk => ⟨t, a, b, p, rfl, hk⟩) q
  · cases h
noncomputable def onTup (e : Expr) (f : List Expr → Bool) : Bool := if h : e.ctorIdx = 25 then Expr.Tuple.elim (motive_1 := fun z1 => Bool) e h (fun es z1 z2 => f es) else false
set_option tactic.hygienic true in
theorem onTup_inv {e : Expr} {f : List Expr → Bool} (h : onTup e f = true) : ∃ es k p, e = .Tuple es k p ∧ f es = true := by
  unfold onTup at h
  split at h
  · rename_i q; revert h; exact Expr.Tuple.elim (motive_1 := fun e => ∀ h : e.ctorIdx = 25, Expr.Tuple.elim (motive_1 := fun z1 => Bool) e h (fun es z1 z2 => f es) = true → ∃ es k p, e = .Tuple es k p ∧ f es = true) e q (fun es k p z1 hk => ⟨es, k, p, rfl, hk⟩) q
  · cases h
noncomputable def onLs (e : Expr) (f : List Expr → Bool) : Bool := if h : e.ctorIdx = 24 then Expr.List.elim (motive_1 := fun z1 => Bool) e h (fun es z1 => f es) else false
set_option tactic.hygienic true in
theorem onLs_inv {e : Expr} {f : List Expr → Bool} (h : onLs e f = true) : ∃ es p, e = .List es p ∧ f es = true := by
  unfold onLs at h
  split at h
  · rename_i q; revert h; exact Expr.List.elim (motive_1 := fun e => ∀ h : e.ctorIdx = 24, Expr.List.elim (motive_1 := fun z1 => Bool) e h (fun es z1 => f es) = true → ∃ es p, e = .List es p ∧ f es = true) e q (fun es p z1 hk => ⟨es, p, rfl, hk⟩) q
  · cases h
noncomputable def onDict (e : Expr) (f : List (Option Expr) → List Expr → Bool) : Bool := if h : e.ctorIdx = 6 then Expr.Dict.elim (motive_1 := fun z1 => Bool) e h (fun ks vs z1 => f ks vs) else false
set_option tactic.hygienic true in
theorem onDict_inv {e : Expr} {f : List (Option Expr) → List Expr → Bool} (h : onDict e f = true) : ∃ ks vs p, e = .Dict ks vs p ∧ f ks vs = true := by
  unfold onDict at h
  split at h
  · rename_i q; revert h; exact Expr.Dict.elim (motive_1 := fun e => ∀ h : e.ctorIdx = 6, Expr.Dict.elim (motive_1 := fun z1 => Bool) e h (fun ks vs z1 => f ks vs) = true → ∃ ks vs p, e = .Dict ks vs p ∧ f ks vs = true) e q (fun ks vs p z1 hk => ⟨ks, vs, p, rfl, hk⟩) q
  · cases h
noncomputable def onCall (e : Expr) (f : Expr → List Expr → List Keyword → Pos → Bool) : Bool := if h : e.ctorIdx = 16 then Expr.Call.elim (motive_1 := fun z1 => Bool) e h (fun g es ks p => f g es ks p) else false
set_option tactic.hygienic true in
theorem onCall_inv {e : Expr} {f : Expr → List Expr → List Keyword → Pos → Bool} (h : onCall e f = true) : ∃ g es ks p, e = .Call g es ks p ∧ f g es ks p = true := by
  unfold onCall at h
  split at h
  · rename_i q; revert h; exact Expr.Call.elim (motive_1 := fun e => ∀ h : e.ctorIdx = 16, Expr.Call.elim (motive_1 := fun z1 => Bool) e h (fun g es ks p => f g es ks p) = true → ∃ g es ks p, e = .Call g es ks p ∧ f g es ks p = true) e q (fun g es ks p z1 hk => ⟨g, es, ks, p, rfl, hk⟩) q
  · cases h
noncomputable def onAttr (e : Expr) (f : Expr → Str → Pos → Bool) : Bool := if h : e.ctorIdx = 20 then Expr.Attribute.elim (motive_1 := fun z1 => Bool) e h (fun o y p => f o y p) else false
set_option tactic.hygienic true in
theorem onAttr_inv {e : Expr} {f : Expr → Str → Pos → Bool} (h : onAttr e f = true) : ∃ o y p, e = .Attribute o y p ∧ f o y p = true := by
  unfold onAttr at h
  split at h
  · rename_i q; revert h; exact Expr.Attribute.elim (motive_1 := fun e => ∀ h : e.ctorIdx = 20, Expr.Attribute.elim (motive_1 := fun z1 => Bool) e h (fun o y p => f o y p) = true → ∃ o y p, e = .Attribute o y p ∧ f o y p = true) e q (fun o y p z1 hk => ⟨o, y, p, rfl, hk⟩) q
  · cases h
noncomputable def onSub (e : Expr) (f : Expr → Expr → Bool) : Bool := if h : e.ctorIdx = 21 then Expr.Subscript.elim (motive_1 := fun z1 => Bool) e h (fun v i z1 => f v i) else false
set_option tactic.hygienic true in
theorem onSub_inv {e : Expr} {f : Expr → Expr → Bool} (h : onSub e f = true) : ∃ v i p, e = .Subscript v i p ∧ f v i = true := by
  unfold onSub at h
  split at h
  · rename_i q; revert h; exact Expr.Subscript.elim (motive_1 := fun e => ∀ h : e.ctorIdx = 21, Expr.Subscript.elim (motive_1 := fun z1 => Bool) e h (fun v i z1 => f v i) = true → ∃ v i p, e = .Subscript v i p ∧ f v i = true) e q (fun v i p z1 hk => ⟨v, i, p, rfl, hk⟩) q
  · cases h
noncomputable def onSl (e : Expr) (f : Option Expr → Option Expr → Option Expr → Bool) : Bool := if h : e.ctorIdx = 26 then Expr.Slice.elim (motive_1 := fun z1 => Bool) e h (fun lo hi st z1 => f lo hi st) else false
set_option tactic.hygienic true in
theorem onSl_inv {e : Expr} {f : Option Expr → Option Expr → Option Expr → Bool} (h : onSl e f = true) : ∃ lo hi st p, e = .Slice lo hi st p ∧ f lo hi st = true := by
  unfold onSl at h
  split at h
  · rename_i q; revert h; exact Expr.Slice.elim (motive_1 := fun e => ∀ h : e.ctorIdx = 26, Expr.Slice.elim (motive_1 := fun z1 => Bool) e h (fun lo hi st z1 => f lo hi st) = true → ∃ lo hi st p, e = .Slice lo hi st p ∧ f lo hi st = true) e q (fun lo hi st p z1 hk => ⟨lo, hi, st, p, rfl, hk⟩) q
  · cases h
noncomputable def onComp (e : Expr) (f : Expr → List Comprehension → Scope → Pos → Bool) : Bool := if h : e.ctorIdx = 8 then Expr.ListComp.elim (motive_1 := fun z1 => Bool) e h (fun elt gs scope p => f elt gs scope p) else false
set_option tactic.hygienic true in
theorem onComp_inv {e : Expr} {f : Expr → List Comprehension → Scope → Pos → Bool} (h : onComp e f = true) : ∃ elt gs scope p, e = .ListComp elt gs scope p ∧ f elt gs scope p = true := by
  unfold onComp at h
  split at h
  · rename_i q; revert h; exact Expr.ListComp.elim (motive_1 := fun e => ∀ h : e.ctorIdx = 8, Expr.ListComp.elim (motive_1 := fun z1 => Bool) e h (fun elt gs scope p => f elt gs scope p) = true → ∃ elt gs scope p, e = .ListComp elt gs scope p ∧ f elt gs scope p = true) e q (fun elt gs scope p z1 hk => ⟨elt, gs, scope, p, rfl, hk⟩) q
  · cases h
noncomputable def onRet (e : Stmt) (f : Option Expr → Bool) : Bool := if h : e.ctorIdx = 3 then Stmt.Return.elim (motive_2 := fun z1 => Bool) e h (fun o z1 => f o) else false
set_option tactic.hygienic true in
theorem onRet_inv {e : Stmt} {f : Option Expr → Bool} (h : onRet e f = true) : ∃ o p, e = .Return o p ∧ f o = true := by
  unfold onRet at h
  split at h
  · rename_i q; revert h; exact Stmt.Return.elim (motive_2 := fun e => ∀ h : e.ctorIdx = 3, Stmt.Return.elim (motive_2 := fun z1 => Bool) e h (fun o z1 => f o) = true → ∃ o p, e = .Return o p ∧ f o = true) e q (fun o p z1 hk => ⟨o, p, rfl, hk⟩) q
  · cases h
noncomputable def onAsgn (e : Stmt) (f : List Expr → Expr → Bool) : Bool := if h : e.ctorIdx = 5 then Stmt.Assign.elim (motive_2 := fun z1 => Bool) e h (fun ts v z1 => f ts v) else false
set_option tactic.hygienic true in
theorem onAsgn_inv {e : Stmt} {f : List Expr → Expr → Bool} (h : onAsgn e f = true) : ∃ ts v p, e = .Assign ts v p ∧ f ts v = true := by
  unfold onAsgn at h
  split at h
  · rename_i q; revert h; exact Stmt.Assign.elim (motive_2 := fun e => ∀ h : e.ctorIdx = 5, Stmt.Assign.elim (motive_2 := fun z1 => Bool) e h (fun ts v z1 => f ts v) = true → ∃ ts v p, e = .Assign ts v p ∧ f ts v = true) e q (fun ts v p z1 hk => ⟨ts, v, p, rfl, hk⟩) q
  · cases h
noncomputable def onFor (e : Stmt) (f : Expr → Expr → List Stmt → List Stmt → Bool) : Bool := if h : e.ctorIdx = 9 then Stmt.For.elim (motive_2 := fun z1 => Bool) e h (fun t it b o z1 => f t it b o) else false
set_option tactic.hygienic true in
theorem onFor_inv {e : Stmt} {f : Expr → Expr → List Stmt → List Stmt → Bool} (h : onFor e f = true) : ∃ t it b o p, e = .For t it b o p ∧ f t it b o = true := by
  unfold onFor at h
  split at h
  · rename_i q; revert h; exact Stmt.For.elim (motive_2 := fun e => ∀ h : e.ctorIdx = 9, Stmt.For.elim (motive_2 := fun z1 => Bool) e h (fun t it b o z1 => f t it b o) = true → ∃ t it b o p, e = .For t it b o p ∧ f t it b o = true) e q (fun t it b o p z1 hk => ⟨t, it, b, o, p, rfl, hk⟩) q
  · cases h
noncomputable def onIte (e : Stmt) (f : Expr → List Stmt → List Stmt → Bool) : Bool := if h : e.ctorIdx = 12 then Stmt.If.elim (motive_2 := fun z1 => Bool) e h (fun t a b z1 => f t a b) else false
set_option tactic.hygienic true in
theorem onIte_inv {e : Stmt} {f : Expr → List Stmt → List Stmt → Bool} (h : onIte e f = true) : ∃ t a b p, e = .If t a b p ∧ f t a b = true := by
  unfold onIte at h
  split at h
  · rename_i q; revert h; exact Stmt.If.elim (motive_2 := fun e => ∀ h : e.ctorIdx = 12, Stmt.If.elim (motive_2 := fun z1 => Bool) e h (fun t a b z1 => f t a b) = true → ∃ t a b p, e = .If t a b p ∧ f t a b = true) e q (fun t a b p z1 hk => ⟨t, a, b, p, rfl, hk⟩) q
  · cases h
noncomputable def onExpr (e : Stmt) (f : Expr → Bool) : Bool := if h : e.ctorIdx = 24 then Stmt.Expr.elim (motive_2 := fun z1 => Bool) e h (fun v z1 => f v) else false
set_option tactic.hygienic true in
theorem onExpr_inv {e : Stmt} {f : Expr → Bool} (h : onExpr e f = true) : ∃ v p, e = .Expr v p ∧ f v = true := by
  unfold onExpr at h
  split at h
  · rename_i q; revert h; exact Stmt.Expr.elim (motive_2 := fun e => ∀ h : e.ctorIdx = 24, Stmt.Expr.elim (motive_2 := fun z1 => Bool) e h (fun v z1 => f v) = true → ∃ v p, e = .Expr v p ∧ f v = true) e q (fun v p z1 hk => ⟨v, p, rfl, hk⟩) q
  · cases h
noncomputable def onRaise (e : Stmt) (f : Option Expr → Option Expr → Bool) : Bool := if h : e.ctorIdx = 16 then Stmt.Raise.elim (motive_2 := fun z1 => Bool) e h (fun x c z1 => f x c) else false
set_option tactic.hygienic true in
theorem onRaise_inv {e : Stmt} {f : Option Expr → Option Expr → Bool} (h : onRaise e f = true) : ∃ x c p, e = .Raise x c p ∧ f x c = true := by
  unfold onRaise at h
  split at h
  · rename_i q; revert h; exact Stmt.Raise.elim (motive_2 := fun e => ∀ h : e.ctorIdx = 16, Stmt.Raise.elim (motive_2 := fun z1 => Bool) e h (fun x c z1 => f x c) = true → ∃ x c p, e = .Raise x c p ∧ f x c = true) e q (fun x c p z1 hk => ⟨x, c, p, rfl, hk⟩) q
  · cases h
noncomputable def onTry (e : Stmt) (f : List Stmt → List ExceptHandler → List Stmt → List Stmt → Bool) : Bool := if h : e.ctorIdx = 17 then Stmt.Try.elim (motive_2 := fun z1 => Bool) e h (fun b hs o z z1 => f b hs o z) else false
set_option tactic.hygienic true in
theorem onTry_inv {e : Stmt} {f : List Stmt → List ExceptHandler → List Stmt → List Stmt → Bool} (h : onTry e f = true) : ∃ b hs o z p, e = .Try b hs o z p ∧ f b hs o z = true := by
  unfold onTry at h
  split at h
  · rename_i q; revert h; exact Stmt.Try.elim (motive_2 := fun e => ∀ h : e.ctorIdx = 17, Stmt.Try.elim (motive_2 := fun z1 => Bool) e h (fun b hs o z z1 => f b hs o z) = true → ∃ b hs o z p, e = .Try b hs o z p ∧ f b hs o z = true) e q (fun b hs o z p z1 hk => ⟨b, hs, o, z, p, rfl, hk⟩) q
  · cases h
noncomputable def onPass (e : Stmt) : Bool := e.ctorIdx == 25
theorem onPass_inv {e : Stmt} (h : onPass e = true) : ∃ p, e = .Pass p := by
  exact Stmt.Pass.elim (motive_2 := fun e => ∃ p, e = .Pass p) e (by simpa [onPass] using h) (fun p => ⟨p, rfl⟩)
noncomputable def onBrk (e : Stmt) : Bool := e.ctorIdx == 26
theorem onBrk_inv {e : Stmt} (h : onBrk e = true) : ∃ p, e = .Break p := by
  exact Stmt.Break.elim (motive_2 := fun e => ∃ p, e = .Break p) e (by simpa [onBrk] using h) (fun p => ⟨p, rfl⟩)
noncomputable def onCont (e : Stmt) : Bool := e.ctorIdx == 27
theorem onCont_inv {e : Stmt} (h : onCont e = true) : ∃ p, e = .Continue p := by
  exact Stmt.Continue.elim (motive_2 := fun e => ∃ p, e = .Continue p) e (by simpa [onCont] using h) (fun p => ⟨p, rfl⟩)

noncomputable def on1 {α : Type} (l : List α) (f : α → Bool) : Bool := match l with
  | [a] => f a
  | _ => false
theorem on1_inv {α : Type} {l : List α} {f : α → Bool} (h : on1 l f = true) : ∃ a, l = [a] ∧ f a = true := by
  match l, h with
  | [a], h => exact ⟨a, rfl, h⟩
noncomputable def on2 {α : Type} (l : List α) (f : α → α → Bool) : Bool := match l with
  | [a, b] => f a b
  | _ => false
theorem on2_inv {α : Type} {l : List α} {f : α → α → Bool} (h : on2 l f = true) : ∃ a b, l = [a, b] ∧ f a b = true := by
  match l, h with
  | [a, b], h => exact ⟨a, b, rfl, h⟩
noncomputable def on0 {α : Type} (l : List α) : Bool := l.isEmpty
theorem on0_inv {α : Type} {l : List α} (h : on0 l = true) : l = [] := List.isEmpty_iff.mp h
noncomputable def onSome {α : Type} (o : Option α) (f : α → Bool) : Bool := match o with
  | some a => f a
  | none => false
theorem onSome_inv {α : Type} {o : Option α} {f : α → Bool} (h : onSome o f = true) : ∃ a, o = some a ∧ f a = true := by
  match o, h with
  | some a, h => exact ⟨a, rfl, h⟩
noncomputable def onCons {α : Type} (l : List α) (f : α → List α → Bool) : Bool := match l with
  | a :: r => f a r
  | [] => false
theorem onCons_inv {α : Type} {l : List α} {f : α → List α → Bool} (h : onCons l f = true) : ∃ a r, l = a :: r ∧ f a r = true := by
  match l, h with
  | a :: r, h => exact ⟨a, r, rfl, h⟩

inductive Nd where
  | e (x : Expr) | q (x : Expr) | t (x : Expr)
  | l (x : List Expr) | ql (x : List Expr) | tl (x : List Expr)
  | o (x : Option Expr)
  | s (x : Stmt) | b (x : List Stmt)
  | hl (x : List ExceptHandler) | hd (x : ExceptHandler)
noncomputable def onHd (h : ExceptHandler) (f : Option Expr → Option Str → List Stmt → Bool) : Bool := match h with
  | .ExceptHandler t n b _ => f t n b
noncomputable def ndE (n : Nd) (f : Expr → Bool) : Bool := match n with
  | .e x => f x
  | .o (some x) => f x
  | _ => false
noncomputable def ndEQ (n : Nd) (f : Expr → Bool) : Bool := match n with
  | .e x | .q x => f x
  | .o (some x) => f x
  | _ => false
noncomputable def ndS (n : Nd) (f : Stmt → Bool) : Bool := match n with
  | .s x => f x
  | _ => false

noncomputable def isCst (e : Expr) (k : PySem.Const) : Bool := onCst e fun k' => k' == k
noncomputable def isCall (e : Expr) (f : Str → List Expr → Bool) : Bool := onCall e fun g es ks z1 => on0 ks && onNm g fun x => f x es
noncomputable def isMeth (e : Expr) (x : Str) (f : Expr → List Expr → Bool) : Bool := onCall e fun g es ks p => on0 ks && onAttr g fun o y ap => y == x && plainBase o && ap.endLine == p.line && es.all noStar && decide (es.length < 30) && f o es
noncomputable def onVar (t : T) (f : Nat → Bool) : Bool := if h : t.ctorIdx = T.ctorIdx (.var 0) then T.var.elim (motive := fun z1 => Bool) t h f else false
set_option tactic.hygienic true in
theorem onVar_inv {t : T} {f : Nat → Bool} (h : onVar t f = true) : ∃ i, t = .var i ∧ f i = true := by
  unfold onVar at h
  split at h
  · rename_i q; revert h; exact T.var.elim (motive := fun t => ∀ h : t.ctorIdx = T.ctorIdx (.var 0), T.var.elim (motive := fun z1 => Bool) t h f = true → ∃ i, t = .var i ∧ f i = true) t q (fun i z1 hk => ⟨i, rfl, hk⟩) q
  · cases h
noncomputable def isComp (e : Expr) (sc : Scope) (t : T) (N : List Str) (f : Expr → Expr → List Expr → Scope → Bool) : Bool :=
  onComp e fun elt gs scope z1 => on1 gs fun g => g.is_async == 0 && onNmp g.target fun x z1 => onVar t fun i => N[i]? == some x && compOk scope sc x && noSet g.iter && f elt g.iter g.ifs (relabelS scope sc)
noncomputable def lc (hc : Bool) (ifs : List Expr) (f : Expr → Bool) : Bool := match hc with
  | false => on0 ifs
  | true => on1 ifs f
noncomputable def isAsgnC (s : Stmt) (sc : Scope) (x : Str) (f : Expr → Bool) : Bool := onAsgn s fun ts e => on1 ts fun t => onNmp t fun y px => y == x && isLoc sc x &&
  (onComp e fun z1 z2 scope pos => !(sc.names.lookup x == some .local) || (px.line == pos.line && !(scope.names.any fun (n, k) => n == x && (k == .local || k == .cell)))) && f e

noncomputable def nmIs (N : List Str) (sc : Scope) (v : Option Nat) (nm : Option Str) : Bool := match v with
  | none => nm.isNone
  | some i => onSome nm fun y => N[i]? == some y && sc.names.lookup y == some .local
noncomputable def nmsAre (sc : Scope) : List Str → List Expr → Bool
  | [], es => on0 es
  | x :: xs, es => onCons es fun e r => onNm e (fun y => y == x && gi sc x) && nmsAre sc xs r
noncomputable def clsIs (sc : Scope) (tp : Bool) (xs : List Str) (z : Expr) : Bool := match tp with
  | true => onTup z fun es => decide (es.length ≤ 1000) && nmsAre sc xs es
  | false => nmsAre sc xs [z]
section
variable (G : Glob) (N : List Str)
noncomputable def chk : T → Scope → Nd → Bool
  | .nil, sc, n => (match n with
    | .l x | .ql x | .tl x => on0 x
    | .b x => on0 x
    | .hl x => on0 x
    | .o x => x.isNone
    | _ => false)
  | .cons a r, sc, n => (match n with
    | .l x => onCons x fun e es => noStar e && es.all noStar && chk a sc (.e e) && chk r sc (.l es)
    | .ql x => onCons x fun e es => chk a sc (.q e) && chk r sc (.ql es)
    | .tl x => onCons x fun e es => noStar e && es.all noStar && chk a sc (.t e) && chk r sc (.tl es)
    | .b x => onCons x fun s ss => chk a sc (.s s) && chk r sc (.b ss)
    | .hl x => onCons x fun h hs => chk a sc (.hd h) && chk r sc (.hl hs)
    | _ => false)
  | .int i, sc, n => ndE n fun e => isCst e (.int i) || onNm e (fun x => gi sc x && G.gInts.lookup x == some i)
  | .str y, sc, n => ndE n fun e => isCst e (.str y) || onNm e (fun x => gi sc x && G.gStrs.lookup x == some y)
  | .bool b, sc, n => ndE n fun e => isCst e (.bool b)
  | .none, sc, n => ndE n fun e => isCst e .none
  | .var i, sc, n => (match n with
    | .t e => onNm e (fun x => isLoc sc x && N[i]? == some x)
    | n => ndEQ n fun e => onNm e (fun x => isVar sc x && N[i]? == some x))
  | .bin op a b, sc, n => ndE n fun e => onBin e (fun l o r => o == op && chk a sc (.e l) && chk b sc (.e r))
  | .un op a, sc, n => (match n with
    | .q e => onUn e (fun o l => o == op && op == .Not && chk a sc (.q l))
    | n => ndE n fun e => onUn e (fun o l => o == op && chk a sc (.e l)))
  | .cmp op a b, sc, n => ndEQ n fun e => onCmp e fun l os rs => os == [op] && on1 rs fun r => !behindInMarks op r && chk a sc (.e l) && chk b sc (.e r)
  | .cmp2 a o₁ b o₂ b', sc, n => ndEQ n fun e => onCmp e fun l os rs => os == [o₁, o₂] && on2 rs fun r r' => !behindInMarks o₂ r' && chk a sc (.e l) && chk b sc (.e r) && chk b' sc (.e r')
  | .bo op es, sc, n => (match n with
    | .q e => onBo e (fun o xs => o == op && chk es sc (.ql xs))
    | n => ndE n fun e => onBo e (fun o xs => o == op && chk es sc (.l xs)))
  | .ife t a b, sc, n => ndE n fun e => onIf e (fun x y z => chk t sc (.q x) && chk a sc (.e y) && chk b sc (.e z))
  | .tup es, sc, n => (match n with
    | .t e => onTup e (fun xs => chk es sc (.tl xs))
    | n => ndE n fun e => onTup e (fun xs => decide (xs.length ≤ 1000) && chk es sc (.l xs)))
  | .lst _ es, sc, n => ndE n fun e => onLs e (fun xs => decide (xs.length ≤ 1000) && chk es sc (.l xs))
  | .call f es, sc, n => ndEQ n fun e => isCall e (fun x xs => x == f && gi sc f && G.gDefs.contains f && chk es sc (.l xs))
  | .blt f es, sc, n => ndEQ n fun e => isCall e (fun x xs => x == f.name && gi sc f.name && true && chk es sc (.l xs))
  | .isi a f, sc, n => ndEQ n fun e => isCall e (fun x xs => x == Bf.isinstance.name && gi sc Bf.isinstance.name && on2 xs fun y z => noStar y && onNm z (fun x => x == f.name && gi sc f.name) && chk a sc (.e y))
  | .meth o x es, sc, n => ndEQ n fun e => isMeth e x (fun p xs => chk o sc (.e p) && chk es sc (.l xs))
  | .item a b, sc, n => (match n with
    | .t e => onSub e (fun v i => noSlice i && chk a sc (.e v) && chk b sc (.e i))
    | n => ndEQ n fun e => onSub e (fun v i => noSlice i && chk a sc (.e v) && chk b sc (.e i)))
  | .slice a lo hi, sc, n => ndE n fun e => onSub e (fun v s => onSl s fun l h st => st.isNone && chk a sc (.e v) && chk lo sc (.o l) && chk hi sc (.o h))
  | .comp _ hc elt t it cond, sc, n => ndE n fun e => isComp e sc t N (fun e it' ifs sc' => chk it sc (.e it') && chk elt sc' (.e e) && lc hc ifs (fun q => chk cond sc' (.q q)))
  | .cut q, sc, n => (match n with
    | .q e => chk q sc (.q e)
    | .e e => chk q sc (.e e)
    | _ => false)
  | .ret e, sc, n => ndS n fun s => onRet s fun o => onSome o fun x => chk e sc (.e x)
  | .ret0, sc, n => ndS n fun s => onRet s fun o => o.isNone
  | .pass, sc, n => ndS n onPass
  | .brk, sc, n => ndS n onBrk
  | .cont, sc, n => ndS n onCont
  | .expr e, sc, n => ndS n fun s => onExpr s (fun x => noComp x && chk e sc (.e x))
  | .asgn t e, sc, n => ndS n fun s => onAsgn s (fun ts y => on1 ts fun x => noComp y && noStar x && chk t sc (.t x) && chk e sc (.e y))
  | .asgnC i _ hc elt t it cond, sc, n => ndS n fun s => onSome N[i]? fun x => isAsgnC s sc x (fun e => isComp e sc t N (fun e it' ifs sc' => chk it sc (.e it') && chk elt sc' (.e e) && lc hc ifs (fun q => chk cond sc' (.q q))))
  | .ite t a b, sc, n => ndS n fun s => onIte s (fun x y z => chk t sc (.q x) && chk a sc (.b y) && chk b sc (.b z))
  | .for_ t it body, sc, n => ndS n fun s => onFor s (fun x y z o => on0 o && noSet y && chk t sc (.t x) && chk it sc (.e y) && chk body sc (.b z))
  | .dict _ _, sc, n => ndE n fun e => onDict e (fun ks vs => on0 ks && on0 vs)
  | .raise x es, sc, n => ndS n fun s => onRaise s fun o c => c.isNone && onSome o fun e => isCall e (fun y xs => y == x && gi sc x && decide (xs.length ≤ 1000) && chk es sc (.l xs))
  | _, _, _ => false
end
end Mine
end

section
set_option Elab.async false
set_option linter.unusedVariables false
set_option linter.unusedSimpArgs false
namespace Mine
open PySem
variable {c : Cx} {d : Nat} {sc : Scope} {σ : Led} {P P' : V → Led → Prop} {X : XP} {G : Glob} {N : List Str} {ρ : Rho}

noncomputable def Nm (N : List Str) (ρ : Rho) : AEnv := ρ.filterMap fun p => N[p.1]?.map (·, p.2)
structure NmOk (N : List Str) : Prop where
  nd : N.Nodup
  dot : (".0" : Str) ∉ N
theorem nm_cons {i : Nat} {x : Str} {v : V} (hx : N[i]? = some x) : Nm N ((i, v) :: ρ) = (x, v) :: Nm N ρ := by
  unfold Nm; rw [List.filterMap_cons, hx]; rfl
theorem nm_lookup (ok : NmOk N) {i : Nat} {x : Str} (hx : N[i]? = some x) : ∀ ρ : Rho, (Nm N ρ).lookup x = ρ.lookup i
  | [] => rfl
  | (j, w) :: ρ => by
    have ih := nm_lookup ok hx ρ
    rw [List.lookup_cons]
    cases hj : N[j]? with
    | none =>
      have hne : (i == j) = false := by
        rw [beq_eq_false_iff_ne]; rintro rfl; rw [hx] at hj; cases hj
      rw [hne]
      unfold Nm at ih ⊢
      rw [List.filterMap_cons, hj]
      exact ih
    | some y =>
      rw [nm_cons hj, List.lookup_cons]
      by_cases e : i = j
      · subst e
        rw [hx] at hj; cases hj
        rw [beq_self_eq_true, beq_self_eq_true]
      · have hxy : (x == y) = false := by
          rw [beq_eq_false_iff_ne]; rintro rfl
          obtain ⟨hi, e1⟩ := List.getElem?_eq_some_iff.mp hx
          obtain ⟨hj', e2⟩ := List.getElem?_eq_some_iff.mp hj
          exact e ((List.getElem_inj ok.nd).mp (e1.trans e2.symm))
        have hij : (i == j) = false := by simpa using e
        rw [hxy, hij]; exact ih
theorem nm_mem {x : Str} {v : V} : ∀ {ρ : Rho}, (Nm N ρ).lookup x = some v → ∃ i : Nat, N[i]? = some x
  | [], h => by cases h
  | (j, w) :: ρ, h => by
    cases hj : N[j]? with
    | none => unfold Nm at h; rw [List.filterMap_cons, hj] at h; exact nm_mem (ρ := ρ) h
    | some y =>
      rw [nm_cons hj, List.lookup_cons] at h
      cases e : x == y with
      | true => rw [eq_of_beq e]; exact ⟨j, hj⟩
      | false => rw [e] at h; exact nm_mem (ρ := ρ) h
theorem nm_dot (ok : NmOk N) : (Nm N ρ).lookup (".0" : Str) = none := by
  cases h : (Nm N ρ).lookup (".0" : Str) with
  | none => rfl
  | some v => obtain ⟨i, hi⟩ := nm_mem h; exact absurd (List.mem_of_getElem? hi) ok.dot
noncomputable def RSub (ρ' ρ : Rho) : Prop := ∀ i v, ρ'.lookup i = some v → ρ.lookup i = some v
theorem nm_sub (ok : NmOk N) {ρ' : Rho} (h : RSub ρ' ρ) : Sub (Nm N ρ') (Nm N ρ) := fun x v e => by
  obtain ⟨i, hi⟩ := nm_mem e
  rw [nm_lookup ok hi] at e ⊢
  exact h i v e
theorem Sub.refl' {m : AEnv} : Sub m m := fun z1 z2 h => h
noncomputable def After (N : List Str) (K : Rho → Led → Prop) (m : AEnv) (σ : Led) : Prop := ∃ ρ, Sub (Nm N ρ) m ∧ K ρ σ
noncomputable def AfterF (N : List Str) (K : Fl → Rho → Led → Prop) (f : Fl) (m : AEnv) (σ : Led) : Prop := ∃ ρ, Sub (Nm N ρ) m ∧ K f ρ σ

noncomputable def JE (c : Cx) (d : Nat) (X : XP) (t : T) (ρ : Rho) (σ : Led) (P : V → Led → Prop) : Prop := ∀ G N sc e, GlobOk c.k G → NmOk N → chk G N t sc (.e e) = true → WE c d sc e (Nm N ρ) σ P X
noncomputable def JT (c : Cx) (d : Nat) (X : XP) (t : T) (ρ : Rho) (σ : Led) (P : Bool → Led → Prop) : Prop := ∀ G N sc e, GlobOk c.k G → NmOk N → chk G N t sc (.q e) = true → WT c d sc e (Nm N ρ) σ P X
noncomputable def JTs (c : Cx) (d : Nat) (X : XP) (op : BoolOp) (t : T) (ρ : Rho) (σ : Led) (P : Bool → Led → Prop) : Prop := ∀ G N sc es, GlobOk c.k G → NmOk N → chk G N t sc (.ql es) = true → WTs c d sc op es (Nm N ρ) σ P X
noncomputable def JBo (c : Cx) (d : Nat) (X : XP) (op : BoolOp) (t : T) (ρ : Rho) (σ : Led) (P : V → Led → Prop) : Prop := ∀ G N sc es, GlobOk c.k G → NmOk N → chk G N t sc (.l es) = true → WEb c d sc op es (Nm N ρ) σ P X
noncomputable def JL (c : Cx) (d : Nat) (X : XP) (t : T) (ρ : Rho) (σ : Led) (P : List V → Led → Prop) : Prop := ∀ G N sc es, GlobOk c.k G → NmOk N → chk G N t sc (.l es) = true → WEs c d sc es (Nm N ρ) σ P X
noncomputable def JO (c : Cx) (d : Nat) (X : XP) (t : T) (ρ : Rho) (σ : Led) (P : Option Int → Led → Prop) : Prop := ∀ G N sc o, GlobOk c.k G → NmOk N → chk G N t sc (.o o) = true → WEo c d sc o (Nm N ρ) σ P X
noncomputable def JA (c : Cx) (d : Nat) (X : XP) (t : T) (v : V) (ρ : Rho) (σ : Led) (K : Rho → Led → Prop) : Prop := ∀ G N sc e, GlobOk c.k G → NmOk N → chk G N t sc (.t e) = true → WA c d sc e v (Nm N ρ) σ (After N K) X
noncomputable def JAs (c : Cx) (d : Nat) (X : XP) (t : T) (vs : List V) (ρ : Rho) (σ : Led) (K : Rho → Led → Prop) : Prop := ∀ G N sc es, GlobOk c.k G → NmOk N → chk G N t sc (.tl es) = true → WAs c d sc es vs (Nm N ρ) σ (After N K) X
noncomputable def JS (c : Cx) (d : Nat) (X : XP) (t : T) (ρ : Rho) (σ : Led) (K : Fl → Rho → Led → Prop) : Prop := ∀ G N sc s, GlobOk c.k G → NmOk N → chk G N t sc (.s s) = true → WS c d sc s (Nm N ρ) σ (AfterF N K) X
noncomputable def JB (c : Cx) (d : Nat) (X : XP) (t : T) (ρ : Rho) (σ : Led) (K : Fl → Rho → Led → Prop) : Prop := ∀ G N sc ss, GlobOk c.k G → NmOk N → chk G N t sc (.b ss) = true → WSs c d sc ss (Nm N ρ) σ (AfterF N K) X

-- small facts on trees
theorem and_tt {a b : Bool} (h : (a && b) = true) : a = true ∧ b = true := Bool.and_eq_true_iff.mp h
theorem star_cons {e : Expr} (h : noStar e = true) (es : List Expr) (env : Env) : starEach (e :: es) env = (false, eval e env) :: starEach es env := by
  cases e with
  | Starred => cases h
  | _ => rfl
theorem star_all : ∀ {es : List Expr}, es.all noStar = true → ∀ env, (starEach es env).any (·.1) = false
  | [], _, _ => rfl
  | e :: es, h, env => by
    obtain ⟨h1, h2⟩ := and_tt h
    rw [star_cons h1, List.any_cons, star_all h2 env]; rfl
theorem asg_cons {e : Expr} (h : noStar e = true) (es : List Expr) (env : Env) : assignEach (e :: es) env = (false, assign e env) :: assignEach es env := by
  cases e with
  | Starred => cases h
  | _ => rfl
theorem asg_all : ∀ {es : List Expr}, es.all noStar = true → ∀ env, (assignEach es env).findIdx? (·.1) = none ∧ (assignEach es env).length = es.length
  | [], _, _ => ⟨rfl, rfl⟩
  | e :: es, h, env => by
    obtain ⟨h1, h2⟩ := and_tt h
    obtain ⟨i1, i2⟩ := asg_all h2 env
    rw [asg_cons h1]
    exact ⟨by rw [List.findIdx?_cons]; simp [i1], by simp [i2]⟩
theorem fold_no {e : Expr} (h : noSet e = true) (env : Env) (x : Value) : foldedSetIterable e env x = pure x := by
  cases e with
  | Set => cases h
  | _ => rfl
theorem index_no {e : Expr} (h : noSlice e = true) (o i : Value) : subscripted e false o i = operate [o, i] (getItem o i) := by
  cases e with
  | Slice => cases h
  | _ => rfl
theorem swaps_no {e : Expr} (h : noComp e = true) (t : Option Expr) (line : Nat) (env : Env) : swapsWith e t line env = pure false := by
  cases e with
  | ListComp => cases h
  | SetComp => cases h
  | DictComp => cases h
  | _ => rfl
theorem stores_nm {x : Str} {p : Pos} {e : Expr} (env : Env) : swappedStores [.Name x p] e env = pure none := rfl
theorem stores_sub {o i : Expr} {p : Pos} {e : Expr} (env : Env) : swappedStores [.Subscript o i p] e env = pure none := rfl
theorem stores_tup {ts : List Expr} {k : Nat} {p q : Pos} {o i : Expr} (env : Env) : swappedStores [.Tuple ts k p] (.Subscript o i q) env = pure none := rfl
end Mine
end

section
set_option Elab.async false
set_option linter.unusedVariables false
set_option linter.unusedSimpArgs false
namespace Mine
open PySem
variable {c : Cx} {d : Nat} {sc : Scope} {σ : Led} {P P' : V → Led → Prop} {X : XP} {G : Glob} {N : List Str} {ρ : Rho}

theorem JE.mono {t : T} (h : JE c d X t ρ σ P) (k : ∀ v σ', P v σ' → P' v σ') : JE c d X t ρ σ P' := fun G N sc e hG hN hc => (h G N sc e hG hN hc).mono k
theorem WEs.mono {es : List Expr} {m : AEnv} {P P' : List V → Led → Prop} (h : WEs c d sc es m σ P X) (k : ∀ v σ', P v σ' → P' v σ') : WEs c d sc es m σ P' X := fun env A s E pos r =>
  ⟨(h env A s E pos r).1, wpAny_mono (h env A s E pos r).2 (fun _ _ ⟨vs, σ', ⟨q1, q2⟩, w⟩ => ⟨vs, σ', ⟨q1, k _ _ q2⟩, w⟩) fun z1 z2 x => x⟩
theorem WEo.mono {o : Option Expr} {m : AEnv} {P P' : Option Int → Led → Prop} (h : WEo c d sc o m σ P X) (k : ∀ v σ', P v σ' → P' v σ') : WEo c d sc o m σ P' X := fun env A s E r =>
  wpAny_mono (h env A s E r) (fun _ _ ⟨o, σ', q1, q2, w⟩ => ⟨o, σ', q1, k _ _ q2, w⟩) fun z1 z2 x => x
theorem WS.mono {st : Stmt} {m : AEnv} {K K' : Fl → AEnv → Led → Prop} (h : WS c d sc st m σ K X) (k : ∀ f m' σ', K f m' σ' → K' f m' σ') : WS c d sc st m σ K' X := fun env A s E r =>
  wpAny_mono (h env A s E r) (fun _ _ ⟨fl, m', σ', q1, w⟩ => ⟨fl, m', σ', k _ _ _ q1, w⟩) fun z1 z2 x => x
theorem WAs_sub {ts : List Expr} {vs : List V} {m m' : AEnv} {K : AEnv → Led → Prop} (k : Sub m' m) (h : WAs c d sc ts vs m' σ K X) : WAs c d sc ts vs m σ K X := fun env A s E cvs r rv =>
  h env A s E cvs ⟨r.sc, r.ok, r.fr, r.a, r.st, r.er.sub k, r.e⟩ rv

-- leaves
theorem JE_int {i : Int} (h : P (.int i) σ) : JE c d X (.int i) ρ σ P := fun G N sc e hG hN hc => by
  rcases (Bool.or_eq_true _ _).mp (show (isCst e (.int i) || onNm e (fun x => gi sc x && G.gInts.lookup x == some i)) = true from hc) with q | q
  · obtain ⟨k, n, p, rfl, e⟩ := onCst_inv q
    rw [eq_of_beq e]; exact WE_int h
  · obtain ⟨x, p, rfl, e⟩ := onNm_inv q
    obtain ⟨e1, e2⟩ := and_tt e
    exact WE_const hG.ok (hG.hInts x i (eq_of_beq e2)) h (gi_of e1)
theorem JE_str {y : Str} (h : P (.str y) σ) : JE c d X (.str y) ρ σ P := fun G N sc e hG hN hc => by
  rcases (Bool.or_eq_true _ _).mp (show (isCst e (.str y) || onNm e (fun x => gi sc x && G.gStrs.lookup x == some y)) = true from hc) with q | q
  · obtain ⟨k, n, p, rfl, e⟩ := onCst_inv q
    rw [eq_of_beq e]; exact WE_str h
  · obtain ⟨x, p, rfl, e⟩ := onNm_inv q
    obtain ⟨e1, e2⟩ := and_tt e
    exact WE_const hG.ok (hG.hStrs x y (eq_of_beq e2)) h (gi_of e1)
theorem JE_bool {b : Bool} (h : P (.bool b) σ) : JE c d X (.bool b) ρ σ P := fun G N sc e hG hN hc => by
  obtain ⟨k, n, p, rfl, e⟩ := onCst_inv (show isCst e (.bool b) = true from hc)
  rw [eq_of_beq e]; exact WE_bool h
theorem JE_none (h : P .none σ) : JE c d X .none ρ σ P := fun G N sc e hG hN hc => by
  obtain ⟨k, n, p, rfl, e⟩ := onCst_inv (show isCst e .none = true from hc)
  rw [eq_of_beq e]; exact WE_none h
theorem JE_var {i : Nat} {v : V} (hv : ρ.lookup i = some v) (h : P v σ) : JE c d X (.var i) ρ σ P := fun G N sc e hG hN hc => by
  obtain ⟨x, p, rfl, e⟩ := onNm_inv (show onNm e (fun x => isVar sc x && N[i]? == some x) = true from hc)
  obtain ⟨e1, e2⟩ := and_tt e
  exact WE_name ((nm_lookup hN (eq_of_beq e2) ρ).trans hv) h e1
theorem JE_bin {op : Operator} {a b : T} (h : JE c d X a ρ σ (fun x σ₁ => JE c d X b ρ σ₁ (fun y σ₂ => Op2 c d (binaryOp op) x y σ₂ P))) : JE c d X (.bin op a b) ρ σ P := fun G N sc e hG hN hc => by
  obtain ⟨l, o, r, p, rfl, e⟩ := onBin_inv (show onBin e (fun l o r => o == op && chk G N a sc (.e l) && chk G N b sc (.e r)) = true from hc)
  obtain ⟨e1, e3⟩ := and_tt e
  obtain ⟨e1, e2⟩ := and_tt e1
  rw [eq_of_beq e1]
  exact WE_binop ((h G N sc l hG hN e2).mono fun x σ₁ q => q G N sc r hG hN e3)
theorem JE_un {op : UnaryOp} {a : T} (h : JE c d X a ρ σ (fun x σ₁ => Op1 c d (unaryOp op) x σ₁ P)) : JE c d X (.un op a) ρ σ P := fun G N sc e hG hN hc => by
  obtain ⟨o, l, p, rfl, e⟩ := onUn_inv (show onUn e (fun o l => o == op && chk G N a sc (.e l)) = true from hc)
  obtain ⟨e1, e2⟩ := and_tt e
  rw [eq_of_beq e1]
  exact WE_unary (h G N sc l hG hN e2)
theorem cmp_inv {op : CmpOp} {a b : T} {e : Expr} (hc : onCmp e (fun l os rs => os == [op] && on1 rs fun r => !behindInMarks op r && chk G N a sc (.e l) && chk G N b sc (.e r)) = true) :
    ∃ l r p, e = .Compare l [op] [r] p ∧ behindInMarks op r = false ∧ chk G N a sc (.e l) = true ∧ chk G N b sc (.e r) = true := by
  obtain ⟨l, os, rs, p, rfl, e⟩ := onCmp_inv hc
  obtain ⟨e1, e2⟩ := and_tt e
  obtain ⟨r, rfl, e3⟩ := on1_inv e2
  obtain ⟨e3, e5⟩ := and_tt e3
  obtain ⟨e3, e4⟩ := and_tt e3
  rw [eq_of_beq e1]
  exact ⟨l, r, p, rfl, by simpa using e3, e4, e5⟩
theorem JE_cmp {op : CmpOp} {a b : T} (h : JE c d X a ρ σ (fun x σ₁ => JE c d X b ρ σ₁ (fun y σ₂ => Op2 c d (compareOp op) x y σ₂ P))) : JE c d X (.cmp op a b) ρ σ P := fun G N sc e hG hN hc => by
  obtain ⟨l, r, p, rfl, e1, e2, e3⟩ := cmp_inv hc
  exact WE_cmp ((h G N sc l hG hN e2).mono fun x σ₁ q => q G N sc r hG hN e3) e1
theorem JT_cmp {op : CmpOp} {a b : T} {P : Bool → Led → Prop} (h : JE c d X a ρ σ (fun x σ₁ => JE c d X b ρ σ₁ (fun y σ₂ => Op2 c d (compareOp op) x y σ₂ (fun v σ₃ => ∃ t, v = .bool t ∧ P t σ₃)))) : JT c d X (.cmp op a b) ρ σ P := fun G N sc e hG hN hc => by
  obtain ⟨l, r, p, rfl, e1, e2, e3⟩ := cmp_inv hc
  exact WT_cmp ((h G N sc l hG hN e2).mono fun x σ₁ q => q G N sc r hG hN e3) e1
theorem cmp2_inv {o₁ o₂ : CmpOp} {a b b' : T} {e : Expr} (hc : onCmp e (fun l os rs => os == [o₁, o₂] && on2 rs fun r r' => !behindInMarks o₂ r' && chk G N a sc (.e l) && chk G N b sc (.e r) && chk G N b' sc (.e r')) = true) :
    ∃ l r r' p, e = .Compare l [o₁, o₂] [r, r'] p ∧ behindInMarks o₂ r' = false ∧ chk G N a sc (.e l) = true ∧ chk G N b sc (.e r) = true ∧ chk G N b' sc (.e r') = true := by
  obtain ⟨l, os, rs, p, rfl, e⟩ := onCmp_inv hc
  obtain ⟨e1, e2⟩ := and_tt e
  obtain ⟨r, r', rfl, e3⟩ := on2_inv e2
  obtain ⟨e3, e6⟩ := and_tt e3
  obtain ⟨e3, e5⟩ := and_tt e3
  obtain ⟨e3, e4⟩ := and_tt e3
  rw [eq_of_beq e1]
  exact ⟨l, r, r', p, rfl, by simpa using e3, e4, e5, e6⟩
theorem Op2.mono {t : Value → Value → Sem Value} {a b : V} (h : Op2 c d t a b σ P) (k : ∀ v σ', P v σ' → P' v σ') : Op2 c d t a b σ P' := fun A s E ca cb ha hs ra rb =>
  wpAny_mono (h A s E ca cb ha hs ra rb) (fun _ _ ⟨v, σ', q, w⟩ => ⟨v, σ', k _ _ q, w⟩) fun z1 z2 x => x
theorem JE_cmp2 {o₁ o₂ : CmpOp} {a b b' : T} (h : JE c d X a ρ σ (fun x σ₁ => JE c d X b ρ σ₁ (fun y σ₂ => Op2 c d (compareOp o₁) x y σ₂ (fun v σ₃ => ∃ t, v = .bool t ∧ if t = true then JE c d X b' ρ σ₃ (fun z σ₄ => Op2 c d (compareOp o₂) y z σ₄ P) else P (.bool false) σ₃)))) :
    JE c d X (.cmp2 a o₁ b o₂ b') ρ σ P := fun G N sc e hG hN hc => by
  obtain ⟨l, r, r', p, rfl, e1, e2, e3, e4⟩ := cmp2_inv hc
  refine WE_cmp2 ((h G N sc l hG hN e2).mono fun x σ₁ q => (q G N sc r hG hN e3).mono fun y σ₂ q => q.mono fun v σ₃ q => ?_) e1
  obtain ⟨t, q1, q2⟩ := q
  refine ⟨t, q1, ?_⟩
  cases t with
  | true => exact q2 G N sc r' hG hN e4
  | false => exact q2
theorem JT_cmp2 {o₁ o₂ : CmpOp} {a b b' : T} {P : Bool → Led → Prop} (h : JE c d X a ρ σ (fun x σ₁ => JE c d X b ρ σ₁ (fun y σ₂ => Op2 c d (compareOp o₁) x y σ₂ (fun v σ₃ => ∃ t, v = .bool t ∧ if t = true then JE c d X b' ρ σ₃ (fun z σ₄ => Op2 c d (compareOp o₂) y z σ₄ (fun v σ₅ => ∃ t, v = .bool t ∧ P t σ₅)) else P false σ₃)))) :
    JT c d X (.cmp2 a o₁ b o₂ b') ρ σ P := fun G N sc e hG hN hc => by
  obtain ⟨l, r, r', p, rfl, e1, e2, e3, e4⟩ := cmp2_inv hc
  refine WT_cmp2 ((h G N sc l hG hN e2).mono fun x σ₁ q => (q G N sc r hG hN e3).mono fun y σ₂ q => q.mono fun v σ₃ q => ?_) e1
  obtain ⟨t, q1, q2⟩ := q
  refine ⟨t, q1, ?_⟩
  cases t with
  | true => exact q2 G N sc r' hG hN e4
  | false => exact q2
-- truth
theorem JT_not {a : T} {P : Bool → Led → Prop} (h : JT c d X a ρ σ (fun b σ₁ => P (!b) σ₁)) : JT c d X (.un .Not a) ρ σ P := fun G N sc e hG hN hc => by
  obtain ⟨o, l, p, rfl, e⟩ := onUn_inv (show onUn e (fun o l => o == .Not && UnaryOp.Not == .Not && chk G N a sc (.q l)) = true from hc)
  obtain ⟨e1, e2⟩ := and_tt e
  obtain ⟨e1, _⟩ := and_tt e1
  rw [eq_of_beq e1]
  exact WT_not (h G N sc l hG hN e2)
theorem JT_bo {op : BoolOp} {es : T} {P : Bool → Led → Prop} (h : JTs c d X op es ρ σ P) : JT c d X (.bo op es) ρ σ P := fun G N sc e hG hN hc => by
  obtain ⟨o, l, p, rfl, e⟩ := onBo_inv (show onBo e (fun o xs => o == op && chk G N es sc (.ql xs)) = true from hc)
  obtain ⟨e1, e2⟩ := and_tt e
  rw [eq_of_beq e1]
  exact WT_bool (h G N sc l hG hN e2)
theorem JTs_and_nil {P : Bool → Led → Prop} (h : P true σ) : JTs c d X .And .nil ρ σ P := fun G N sc es hG hN hc => by
  rw [on0_inv (show on0 es = true from hc)]; exact WTs_and_nil h
theorem JTs_or_nil {P : Bool → Led → Prop} (h : P false σ) : JTs c d X .Or .nil ρ σ P := fun G N sc es hG hN hc => by
  rw [on0_inv (show on0 es = true from hc)]; exact WTs_or_nil h
theorem JTs_and {a r : T} {P : Bool → Led → Prop} (h : JT c d X a ρ σ (fun b σ₁ => if b = true then JTs c d X .And r ρ σ₁ P else P false σ₁)) : JTs c d X .And (.cons a r) ρ σ P := fun G N sc es hG hN hc => by
  obtain ⟨e, es, rfl, q⟩ := onCons_inv (show onCons es (fun e es => chk G N a sc (.q e) && chk G N r sc (.ql es)) = true from hc)
  obtain ⟨e1, e2⟩ := and_tt q
  refine WTs_and ((h G N sc e hG hN e1).mono fun b σ₁ q => ?_)
  cases b with
  | true => exact q G N sc es hG hN e2
  | false => exact q
theorem JTs_or {a r : T} {P : Bool → Led → Prop} (h : JT c d X a ρ σ (fun b σ₁ => if b = true then P true σ₁ else JTs c d X .Or r ρ σ₁ P)) : JTs c d X .Or (.cons a r) ρ σ P := fun G N sc es hG hN hc => by
  obtain ⟨e, es, rfl, q⟩ := onCons_inv (show onCons es (fun e es => chk G N a sc (.q e) && chk G N r sc (.ql es)) = true from hc)
  obtain ⟨e1, e2⟩ := and_tt q
  refine WTs_or ((h G N sc e hG hN e1).mono fun b σ₁ q => ?_)
  cases b with
  | true => exact q
  | false => exact q G N sc es hG hN e2
theorem JT_var {i : Nat} {P : Bool → Led → Prop} (h : JE c d X (.var i) ρ σ (fun v σ₁ => ∃ b, v = .bool b ∧ P b σ₁)) : JT c d X (.var i) ρ σ P := fun G N sc e hG hN hc => by
  have h1 := h G N sc e hG hN hc
  obtain ⟨x, p, rfl, _⟩ := onNm_inv hc
  exact WT_value h1 (fun z1 z2 => rfl)
theorem JT_call {f : Str} {es : T} {P : Bool → Led → Prop} (h : JE c d X (.call f es) ρ σ (fun v σ₁ => ∃ b, v = .bool b ∧ P b σ₁)) : JT c d X (.call f es) ρ σ P := fun G N sc e hG hN hc => by
  have h1 := h G N sc e hG hN hc
  obtain ⟨g, xs, ks, p, rfl, _⟩ := onCall_inv hc
  exact WT_value h1 (fun z1 z2 => rfl)
theorem JT_blt {f : Bf} {es : T} {P : Bool → Led → Prop} (h : JE c d X (.blt f es) ρ σ (fun v σ₁ => ∃ b, v = .bool b ∧ P b σ₁)) : JT c d X (.blt f es) ρ σ P := fun G N sc e hG hN hc => by
  have h1 := h G N sc e hG hN hc
  obtain ⟨g, xs, ks, p, rfl, _⟩ := onCall_inv hc
  exact WT_value h1 (fun z1 z2 => rfl)
theorem JT_isi {a : T} {f : Bf} {P : Bool → Led → Prop} (h : JE c d X (.isi a f) ρ σ (fun v σ₁ => ∃ b, v = .bool b ∧ P b σ₁)) : JT c d X (.isi a f) ρ σ P := fun G N sc e hG hN hc => by
  have h1 := h G N sc e hG hN hc
  obtain ⟨g, xs, ks, p, rfl, _⟩ := onCall_inv hc
  exact WT_value h1 (fun z1 z2 => rfl)
theorem JT_meth {o es : T} {x : Str} {P : Bool → Led → Prop} (h : JE c d X (.meth o x es) ρ σ (fun v σ₁ => ∃ b, v = .bool b ∧ P b σ₁)) : JT c d X (.meth o x es) ρ σ P := fun G N sc e hG hN hc => by
  have h1 := h G N sc e hG hN hc
  obtain ⟨g, xs, ks, p, rfl, _⟩ := onCall_inv hc
  exact WT_value h1 (fun z1 z2 => rfl)
theorem JT_item {a b : T} {P : Bool → Led → Prop} (h : JE c d X (.item a b) ρ σ (fun v σ₁ => ∃ b, v = .bool b ∧ P b σ₁)) : JT c d X (.item a b) ρ σ P := fun G N sc e hG hN hc => by
  have h1 := h G N sc e hG hN hc
  obtain ⟨v, i, p, rfl, _⟩ := onSub_inv hc
  exact WT_value h1 (fun z1 z2 => rfl)
theorem JE_cut {q : T} {v : V} (h : ∀ Q : V → Led → Prop, Q v σ → JE c d X q ρ σ Q) (k : P v σ) : JE c d X (.cut q) ρ σ P := fun G N sc e hG hN hc => h P k G N sc e hG hN hc
theorem JT_cut {q : T} {b : Bool} {P : Bool → Led → Prop} (h : ∀ Q : Bool → Led → Prop, Q b σ → JT c d X q ρ σ Q) (k : P b σ) : JT c d X (.cut q) ρ σ P := fun G N sc e hG hN hc => h P k G N sc e hG hN hc
theorem JE_ife {t a b : T} (h : JT c d X t ρ σ (fun k σ₁ => if k = true then JE c d X a ρ σ₁ P else JE c d X b ρ σ₁ P)) : JE c d X (.ife t a b) ρ σ P := fun G N sc e hG hN hc => by
  obtain ⟨x, y, z, p, rfl, e⟩ := onIf_inv (show onIf e (fun x y z => chk G N t sc (.q x) && chk G N a sc (.e y) && chk G N b sc (.e z)) = true from hc)
  obtain ⟨e1, e3⟩ := and_tt e
  obtain ⟨e1, e2⟩ := and_tt e1
  refine WE_ifexp ((h G N sc x hG hN e1).mono fun k σ₁ q => ?_)
  cases k with
  | true => exact q G N sc y hG hN e2
  | false => exact q G N sc z hG hN e3
theorem JE_bo {op : BoolOp} {es : T} (h : JBo c d X op es ρ σ P) : JE c d X (.bo op es) ρ σ P := fun G N sc e hG hN hc => by
  obtain ⟨o, l, p, rfl, e⟩ := onBo_inv (show onBo e (fun o xs => o == op && chk G N es sc (.l xs)) = true from hc)
  obtain ⟨e1, e2⟩ := and_tt e
  rw [eq_of_beq e1]
  exact WE_boolop (h G N sc l hG hN e2)
theorem cons_inv {a r : T} {es : List Expr} (hc : chk G N (.cons a r) sc (.l es) = true) : ∃ e es', es = e :: es' ∧ noStar e = true ∧ es'.all noStar = true ∧ chk G N a sc (.e e) = true ∧ chk G N r sc (.l es') = true := by
  obtain ⟨e, es', rfl, q⟩ := onCons_inv (show onCons es (fun e es => noStar e && es.all noStar && chk G N a sc (.e e) && chk G N r sc (.l es)) = true from hc)
  obtain ⟨e1, e4⟩ := and_tt q
  obtain ⟨e1, e3⟩ := and_tt e1
  obtain ⟨e1, e2⟩ := and_tt e1
  exact ⟨e, es', rfl, e1, e2, e3, e4⟩
theorem JBo_one {op : BoolOp} {a : T} (h : JE c d X a ρ σ P) : JBo c d X op (.cons a .nil) ρ σ P := fun G N sc es hG hN hc => by
  obtain ⟨e, es', rfl, _, _, e1, e2⟩ := cons_inv hc
  rw [on0_inv (show on0 es' = true from e2)]
  exact WEb_one (h G N sc e hG hN e1)
theorem JBo_and {a b r : T} (h : JE c d X a ρ σ (fun v σ₁ => ∃ t, v = .bool t ∧ if t = true then JBo c d X .And (.cons b r) ρ σ₁ P else P (.bool false) σ₁)) : JBo c d X .And (.cons a (.cons b r)) ρ σ P := fun G N sc es hG hN hc => by
  obtain ⟨e, es', rfl, _, _, e1, e2⟩ := cons_inv hc
  obtain ⟨e', es'', rfl, _⟩ := cons_inv e2
  refine WEb_and ((h G N sc e hG hN e1).mono fun v σ₁ ⟨t, q1, q2⟩ => ⟨t, q1, ?_⟩)
  cases t with
  | true => exact q2 G N sc _ hG hN e2
  | false => exact q2
theorem JBo_or {a b r : T} (h : JE c d X a ρ σ (fun v σ₁ => ∃ t, v = .bool t ∧ if t = true then P (.bool true) σ₁ else JBo c d X .Or (.cons b r) ρ σ₁ P)) : JBo c d X .Or (.cons a (.cons b r)) ρ σ P := fun G N sc es hG hN hc => by
  obtain ⟨e, es', rfl, _, _, e1, e2⟩ := cons_inv hc
  obtain ⟨e', es'', rfl, _⟩ := cons_inv e2
  refine WEb_or ((h G N sc e hG hN e1).mono fun v σ₁ ⟨t, q1, q2⟩ => ⟨t, q1, ?_⟩)
  cases t with
  | true => exact q2
  | false => exact q2 G N sc _ hG hN e2
-- lists of expressions
theorem JL_nil {P : List V → Led → Prop} (h : P [] σ) : JL c d X .nil ρ σ P := fun G N sc es hG hN hc => by
  rw [on0_inv (show on0 es = true from hc)]; exact WEs_nil h
theorem JL_cons {a r : T} {P : List V → Led → Prop} (h : JE c d X a ρ σ (fun v σ₁ => JL c d X r ρ σ₁ (fun vs σ₂ => P (v :: vs) σ₂))) : JL c d X (.cons a r) ρ σ P := fun G N sc es hG hN hc => by
  obtain ⟨e, es', rfl, e1, e2, e3, e4⟩ := cons_inv hc
  exact WEs_cons ((h G N sc e hG hN e3).mono fun v σ₁ q => q G N sc es' hG hN e4) (star_cons e1 es') (star_all e2)
theorem JE_tup {es : T} (h : JL c d X es ρ σ (fun vs σ₁ => P (.tup vs) σ₁)) : JE c d X (.tup es) ρ σ P := fun G N sc e hG hN hc => by
  obtain ⟨xs, k, p, rfl, e⟩ := onTup_inv (show onTup e (fun xs => decide (xs.length ≤ 1000) && chk G N es sc (.l xs)) = true from hc)
  obtain ⟨e1, e2⟩ := and_tt e
  exact WE_tuple (h G N sc xs hG hN e2) (of_decide_eq_true e1)
theorem JE_lst {es : T} (h : JL c d X es ρ σ (fun vs σ₁ => P (.lst vs) σ₁)) : JE c d X (.lst false es) ρ σ P := fun G N sc e hG hN hc => by
  obtain ⟨xs, p, rfl, e⟩ := onLs_inv (show onLs e (fun xs => decide (xs.length ≤ 1000) && chk G N es sc (.l xs)) = true from hc)
  obtain ⟨e1, e2⟩ := and_tt e
  exact WE_list (h G N sc xs hG hN e2) (of_decide_eq_true e1)
theorem JE_loc {es : T} (h : JL c d X es ρ σ (fun vs σ₁ => ∀ a, a ∉ owned σ₁ → a ∉ c.F → P (.ref a) ((a, .list vs) :: σ₁))) : JE c d X (.lst true es) ρ σ P := fun G N sc e hG hN hc => by
  obtain ⟨xs, p, rfl, e⟩ := onLs_inv (show onLs e (fun xs => decide (xs.length ≤ 1000) && chk G N es sc (.l xs)) = true from hc)
  obtain ⟨e1, e2⟩ := and_tt e
  exact WE_list_loc (h G N sc xs hG hN e2) (of_decide_eq_true e1)
theorem call_inv {f : Str} {es : T} {e : Expr} {g : Bool} (hc : isCall e (fun x xs => x == f && gi sc f && g && chk G N es sc (.l xs)) = true) : ∃ q xs p, e = .Call (.Name f q) xs [] p ∧ gi sc f = true ∧ g = true ∧ chk G N es sc (.l xs) = true := by
  obtain ⟨h, xs, ks, p, rfl, e⟩ := onCall_inv hc
  obtain ⟨k1, k2⟩ := and_tt e
  rw [on0_inv k1]
  obtain ⟨x, q, rfl, w⟩ := onNm_inv k2
  obtain ⟨e1, e4⟩ := and_tt w
  obtain ⟨e1, e3⟩ := and_tt e1
  obtain ⟨e1, e2⟩ := and_tt e1
  rw [eq_of_beq e1]
  exact ⟨q, xs, p, rfl, e2, e3, e4⟩
theorem JE_call {f : Str} {es : T} (h : JL c d X es ρ σ (fun vs σ₁ => CallN c d f vs σ₁ P X)) : JE c d X (.call f es) ρ σ P := fun G N sc e hG hN hc => by
  obtain ⟨q, xs, p, rfl, e1, e2, e3⟩ := call_inv hc
  exact WE_callN hG.ok (hG.hDefs f e2) (h G N sc xs hG hN e3) (gi_of e1)
theorem blt_callee (f : Bf) : Callee c f.val := by
  cases f <;> first | exact .b | exact .t
theorem JE_blt {f : Bf} {es : T} (h : JL c d X es ρ σ (fun vs σ₁ => c.k.hd = true → CallS c d f.val vs σ₁ P X)) : JE c d X (.blt f es) ρ σ P := fun G N sc e hG hN hc => by
  obtain ⟨q, xs, p, rfl, e1, e2, e3⟩ := call_inv hc
  exact WE_callB hG.ok (hG.hBlts f) ((h G N sc xs hG hN e3).mono fun z1 z2 q => q hG.hd) (blt_callee f) (gi_of e1)
theorem JE_isi {f : Bf} {a : T} (h : JE c d X a ρ σ (fun v σ₁ => CallS c d (.builtin "isinstance") [v, .raw f.val] σ₁ P X)) : JE c d X (.isi a f) ρ σ P := fun G N sc e hG hN hc => by
  obtain ⟨g, xs, ks, p, rfl, e⟩ := onCall_inv (show isCall e _ = true from hc)
  obtain ⟨k1, k2⟩ := and_tt e
  rw [on0_inv k1]
  obtain ⟨x, q, rfl, w⟩ := onNm_inv k2
  obtain ⟨e1, e3⟩ := and_tt w
  obtain ⟨e1, e2⟩ := and_tt e1
  rw [eq_of_beq e1]
  obtain ⟨y, z, rfl, r⟩ := on2_inv e3
  obtain ⟨w0, w3⟩ := and_tt r
  obtain ⟨w1, w2⟩ := and_tt w0
  clear w0
  obtain ⟨x', q', rfl, u⟩ := onNm_inv w2
  obtain ⟨u1, u2⟩ := and_tt u
  rw [eq_of_beq u1]
  exact WE_callB hG.ok (hG.hBlts .isinstance) (WEs_cons ((h G N sc y hG hN w3).mono fun v σ₁ k => WEs_cons (WE_blt hG.ok (hG.hBlts f) (WEs_nil k) (gi_of u2)) (star_cons rfl _) (star_all rfl)) (star_cons w1 _) (star_all rfl)) .b (gi_of e2)
theorem JE_meth {o es : T} {x : Str} (h : JE c d X o ρ σ (fun ov σ₁ => ∃ T id, Meth c σ₁ ov x T id ∧ JL c d X es ρ σ₁ (fun vs σ₂ => CallS c d (.builtin id) (ov :: vs) σ₂ P X))) : JE c d X (.meth o x es) ρ σ P := fun G N sc e hG hN hc => by
  obtain ⟨g, xs, ks, p, rfl, e⟩ := onCall_inv (show isMeth e x (fun p xs => chk G N o sc (.e p) && chk G N es sc (.l xs)) = true from hc)
  obtain ⟨k1, k2⟩ := and_tt e
  rw [on0_inv k1]
  obtain ⟨b, y, ap, rfl, w⟩ := onAttr_inv k2
  obtain ⟨e1, e6⟩ := and_tt w
  obtain ⟨e1, e5⟩ := and_tt e1
  obtain ⟨e1, e4⟩ := and_tt e1
  obtain ⟨e1, e3⟩ := and_tt e1
  obtain ⟨e1, e2⟩ := and_tt e1
  obtain ⟨e6, e7⟩ := and_tt e6
  rw [eq_of_beq e1]
  exact WE_method e2 e3 ((h G N sc b hG hN e6).mono fun ov σ₁ ⟨T, id, q1, q2⟩ => ⟨T, id, q1, q2 G N sc xs hG hN e7⟩) (star_all e4) (of_decide_eq_true e5)
noncomputable def Item (c : Cx) (d : Nat) (a b : V) (σ : Led) (P : V → Led → Prop) : Prop := ∀ v i, noSlice i = true → Op2 c d (PyProof.Rows.subscriptTail v i) a b σ P
theorem sub_inv {a b : T} {e : Expr} (hc : onSub e (fun v i => noSlice i && chk G N a sc (.e v) && chk G N b sc (.e i)) = true) : ∃ v i p, e = .Subscript v i p ∧ noSlice i = true ∧ chk G N a sc (.e v) = true ∧ chk G N b sc (.e i) = true := by
  obtain ⟨v, i, p, rfl, e⟩ := onSub_inv hc
  obtain ⟨e1, e3⟩ := and_tt e
  obtain ⟨e1, e2⟩ := and_tt e1
  exact ⟨v, i, p, rfl, e1, e2, e3⟩
theorem JE_item {a b : T} (h : JE c d X a ρ σ (fun x σ₁ => JE c d X b ρ σ₁ (fun y σ₂ => Item c d x y σ₂ P))) : JE c d X (.item a b) ρ σ P := fun G N sc e hG hN hc => by
  obtain ⟨v, i, p, rfl, e1, e2, e3⟩ := sub_inv hc
  exact WE_sub ((h G N sc v hG hN e2).mono fun x σ₁ q => (q G N sc i hG hN e3).mono fun y σ₂ q => q v i e1)
theorem JO_nil {P : Option Int → Led → Prop} (h : P none σ) : JO c d X .nil ρ σ P := fun G N sc o hG hN hc => by
  cases o with
  | none => exact WEo_none h
  | some e => cases hc
theorem JO_int {i : Int} {P : Option Int → Led → Prop} (h : JE c d X (.int i) ρ σ (fun v σ₁ => ∃ i, v = .int i ∧ P (some i) σ₁)) : JO c d X (.int i) ρ σ P := fun G N sc o hG hN hc => by
  cases o with
  | none => cases hc
  | some e => exact WEo_some (h G N sc e hG hN hc)
theorem JO_var {i : Nat} {P : Option Int → Led → Prop} (h : JE c d X (.var i) ρ σ (fun v σ₁ => ∃ i, v = .int i ∧ P (some i) σ₁)) : JO c d X (.var i) ρ σ P := fun G N sc o hG hN hc => by
  cases o with
  | none => cases hc
  | some e => exact WEo_some (h G N sc e hG hN hc)
theorem JO_bin {op : Operator} {a b : T} {P : Option Int → Led → Prop} (h : JE c d X (.bin op a b) ρ σ (fun v σ₁ => ∃ i, v = .int i ∧ P (some i) σ₁)) : JO c d X (.bin op a b) ρ σ P := fun G N sc o hG hN hc => by
  cases o with
  | none => cases hc
  | some e => exact WEo_some (h G N sc e hG hN hc)
theorem JO_un {op : UnaryOp} {a : T} {P : Option Int → Led → Prop} (h : JE c d X (.un op a) ρ σ (fun v σ₁ => ∃ i, v = .int i ∧ P (some i) σ₁)) : JO c d X (.un op a) ρ σ P := fun G N sc o hG hN hc => by
  cases o with
  | none => cases hc
  | some e => exact WEo_some (h G N sc e hG hN hc)
theorem JO_call {f : Str} {es : T} {P : Option Int → Led → Prop} (h : JE c d X (.call f es) ρ σ (fun v σ₁ => ∃ i, v = .int i ∧ P (some i) σ₁)) : JO c d X (.call f es) ρ σ P := fun G N sc o hG hN hc => by
  cases o with
  | none => cases hc
  | some e => exact WEo_some (h G N sc e hG hN hc)
theorem JO_blt {f : Bf} {es : T} {P : Option Int → Led → Prop} (h : JE c d X (.blt f es) ρ σ (fun v σ₁ => ∃ i, v = .int i ∧ P (some i) σ₁)) : JO c d X (.blt f es) ρ σ P := fun G N sc o hG hN hc => by
  cases o with
  | none => cases hc
  | some e => exact WEo_some (h G N sc e hG hN hc)
theorem JE_slice {a lo hi : T} (h : JE c d X a ρ σ (fun x σ₁ => JO c d X lo ρ σ₁ (fun l σ₂ => JO c d X hi ρ σ₂ (fun u σ₃ => ∃ w, SliceOf σ₃ l u x w ∧ P w σ₃)))) : JE c d X (.slice a lo hi) ρ σ P := fun G N sc e hG hN hc => by
  obtain ⟨v, i, p, rfl, e⟩ := onSub_inv (show onSub e (fun v s => onSl s fun l h st => st.isNone && chk G N a sc (.e v) && chk G N lo sc (.o l) && chk G N hi sc (.o h)) = true from hc)
  obtain ⟨l, u, st, p, rfl, e⟩ := onSl_inv e
  obtain ⟨e1, e4⟩ := and_tt e
  obtain ⟨e1, e3⟩ := and_tt e1
  obtain ⟨e1, e2⟩ := and_tt e1
  cases st with
  | some _ => cases e1
  | none => exact WE_slice ((h G N sc v hG hN e2).mono fun x σ₁ q => (q G N sc l hG hN e3).mono fun y σ₂ q => q G N sc u hG hN e4)
end Mine
end

section
set_option Elab.async false
set_option linter.unusedVariables false
set_option linter.unusedSimpArgs false
namespace Mine
open PySem
variable {c : Cx} {d : Nat} {sc : Scope} {σ : Led} {P P' : V → Led → Prop} {X : XP} {G : Glob} {N : List Str} {ρ : Rho} {K K' : Fl → Rho → Led → Prop}

theorem JB.mono {t : T} (h : JB c d X t ρ σ K) (k : ∀ f ρ' σ', K f ρ' σ' → K' f ρ' σ') : JB c d X t ρ σ K' := fun G N sc e hG hN hc => (h G N sc e hG hN hc).mono fun f m' σ' ⟨ρ', q1, q2⟩ => ⟨ρ', q1, k _ _ _ q2⟩
theorem JB_sub {t : T} {ρ' : Rho} (k : RSub ρ' ρ) (h : JB c d X t ρ' σ K) : JB c d X t ρ σ K := fun G N sc e hG hN hc => WSs_sub (nm_sub hN k) (h G N sc e hG hN hc)
theorem JA.mono {t : T} {v : V} {K K' : Rho → Led → Prop} (h : JA c d X t v ρ σ K) (k : ∀ ρ' σ', K ρ' σ' → K' ρ' σ') : JA c d X t v ρ σ K' := fun G N sc e hG hN hc => (h G N sc e hG hN hc).mono fun m' σ' ⟨ρ', q1, q2⟩ => ⟨ρ', q1, k _ _ q2⟩
theorem JA_sub {t : T} {v : V} {ρ' : Rho} {K : Rho → Led → Prop} (k : RSub ρ' ρ) (h : JA c d X t v ρ' σ K) : JA c d X t v ρ σ K := fun G N sc e hG hN hc => WA_sub (nm_sub hN k) (h G N sc e hG hN hc)

-- targets
theorem JA_var {i : Nat} {v : V} {K : Rho → Led → Prop} (h : K ((i, v) :: ρ) σ) : JA c d X (.var i) v ρ σ K := fun G N sc e hG hN hc => by
  obtain ⟨x, p, rfl, q⟩ := onNm_inv (show onNm e (fun x => isLoc sc x && N[i]? == some x) = true from hc)
  obtain ⟨e1, e2⟩ := and_tt q
  exact WA_name ⟨_, by rw [nm_cons (eq_of_beq e2)]; exact Sub.refl', h⟩ e1
theorem JAs_nil {K : Rho → Led → Prop} (h : K ρ σ) : JAs c d X .nil [] ρ σ K := fun G N sc es hG hN hc => by
  rw [on0_inv (show on0 es = true from hc)]; exact WAs_nil ⟨ρ, Sub.refl', h⟩
theorem JAs_cons {a r : T} {v : V} {vs : List V} {K : Rho → Led → Prop} (hl : ∀ G N sc es, chk G N r sc (.tl es) = true → es.length = vs.length)
    (h : JA c d X a v ρ σ (fun ρ₁ σ₁ => JAs c d X r vs ρ₁ σ₁ K)) : JAs c d X (.cons a r) (v :: vs) ρ σ K := fun G N sc es hG hN hc => by
  obtain ⟨e, es', rfl, q⟩ := onCons_inv (show onCons es (fun e es => noStar e && es.all noStar && chk G N a sc (.t e) && chk G N r sc (.tl es)) = true from hc)
  obtain ⟨e1, e4⟩ := and_tt q
  obtain ⟨e1, e3⟩ := and_tt e1
  obtain ⟨e1, e2⟩ := and_tt e1
  exact WAs_cons ((h G N sc e hG hN e3).mono fun m' σ' ⟨ρ', k1, k2⟩ => WAs_sub k1 (k2 G N sc es' hG hN e4)) (asg_cons e1 es') (fun env => by rw [(asg_all e2 env).2, hl G N sc es' e4]) (fun env => (asg_all e2 env).1)
theorem JA_tup {ts : T} {vs : List V} {K : Rho → Led → Prop} (h : JAs c d X ts vs ρ σ K) : JA c d X (.tup ts) (.tup vs) ρ σ K := fun G N sc e hG hN hc => by
  obtain ⟨xs, k, p, rfl, q⟩ := onTup_inv (show onTup e (fun xs => chk G N ts sc (.tl xs)) = true from hc)
  exact WA_tuple hG.hd (h G N sc xs hG hN q)
theorem JA_item {a b : T} {v : V} {K : Rho → Led → Prop} (h : JE c d X a ρ σ (fun ov σ₁ => JE c d X b ρ σ₁ (fun iv σ₂ => SetIt c d ov iv v σ₂ (fun σ₃ => K ρ σ₃)))) : JA c d X (.item a b) v ρ σ K := fun G N sc e hG hN hc => by
  obtain ⟨o, i, p, rfl, e1, e2, e3⟩ := sub_inv hc
  refine WA_item ((h G N sc o hG hN e2).mono fun x σ₁ q => (q G N sc i hG hN e3).mono fun y σ₂ q A s E co ci cv ha hs ro ri rv => wpAny_mono (q A s E co ci cv ha hs ro ri rv) (fun _ _ ⟨σ', q1, w⟩ => ⟨σ', ⟨ρ, Sub.refl', q1⟩, w⟩) fun z1 z2 x => x)

-- statements
theorem JB_nil (h : K .next ρ σ) : JB c d X .nil ρ σ K := fun G N sc ss hG hN hc => by
  rw [on0_inv (show on0 ss = true from hc)]; exact WSs_nil ⟨ρ, Sub.refl', h⟩
noncomputable def then_ (K : Fl → Rho → Led → Prop) (R : Rho → Led → Prop) : Fl → Rho → Led → Prop
  | .next, ρ, σ => R ρ σ
  | f, ρ, σ => K f ρ σ
theorem JB_cons {a r : T} (h : JS c d X a ρ σ (then_ K fun ρ₁ σ₁ => JB c d X r ρ₁ σ₁ K)) : JB c d X (.cons a r) ρ σ K := fun G N sc ss hG hN hc => by
  obtain ⟨s, ss', rfl, q⟩ := onCons_inv (show onCons ss (fun s ss => chk G N a sc (.s s) && chk G N r sc (.b ss)) = true from hc)
  obtain ⟨e1, e2⟩ := and_tt q
  refine WSs_cons ((h G N sc s hG hN e1).mono fun f m' σ' ⟨ρ', k1, k2⟩ => ?_)
  cases f with
  | next => exact WSs_sub k1 (k2 G N sc ss' hG hN e2)
  | brk => exact ⟨ρ', k1, k2⟩
  | cont => exact ⟨ρ', k1, k2⟩
  | ret v => exact ⟨ρ', k1, k2⟩
theorem JS_ret {e : T} (h : JE c d X e ρ σ (fun v σ₁ => K (.ret v) ρ σ₁)) : JS c d X (.ret e) ρ σ K := fun G N sc s hG hN hc => by
  obtain ⟨o, p, rfl, q⟩ := onRet_inv (show onRet s (fun o => onSome o fun x => chk G N e sc (.e x)) = true from hc)
  obtain ⟨x, rfl, q⟩ := onSome_inv q
  exact WS_return ((h G N sc x hG hN q).mono fun v σ₁ k => ⟨ρ, Sub.refl', k⟩)
theorem JS_ret0 (h : K (.ret .none) ρ σ) : JS c d X .ret0 ρ σ K := fun G N sc s hG hN hc => by
  obtain ⟨o, p, rfl, q⟩ := onRet_inv (show onRet s (fun o => o.isNone) = true from hc)
  cases o with
  | some _ => cases q
  | none => exact WS_return_none ⟨ρ, Sub.refl', h⟩
theorem JS_pass (h : K .next ρ σ) : JS c d X .pass ρ σ K := fun G N sc s hG hN hc => by
  obtain ⟨p, rfl⟩ := onPass_inv hc; exact WS_pass ⟨ρ, Sub.refl', h⟩
theorem JS_brk (h : K .brk ρ σ) : JS c d X .brk ρ σ K := fun G N sc s hG hN hc => by
  obtain ⟨p, rfl⟩ := onBrk_inv hc; exact WS_break ⟨ρ, Sub.refl', h⟩
theorem JS_cont (h : K .cont ρ σ) : JS c d X .cont ρ σ K := fun G N sc s hG hN hc => by
  obtain ⟨p, rfl⟩ := onCont_inv hc; exact WS_continue ⟨ρ, Sub.refl', h⟩
theorem JS_expr {e : T} (h : JE c d X e ρ σ (fun z1 σ₁ => K .next ρ σ₁)) : JS c d X (.expr e) ρ σ K := fun G N sc s hG hN hc => by
  obtain ⟨x, p, rfl, q⟩ := onExpr_inv (show onExpr s (fun x => noComp x && chk G N e sc (.e x)) = true from hc)
  obtain ⟨e1, e2⟩ := and_tt q
  exact WS_expr ((h G N sc x hG hN e2).mono fun v σ₁ k => ⟨ρ, Sub.refl', k⟩) (fun env => swaps_no e1 _ _ env)
theorem JS_ite {t a b : T} (h : JT c d X t ρ σ (fun k σ₁ => if k = true then JB c d X a ρ σ₁ K else JB c d X b ρ σ₁ K)) : JS c d X (.ite t a b) ρ σ K := fun G N sc s hG hN hc => by
  obtain ⟨x, y, z, p, rfl, q⟩ := onIte_inv (show onIte s (fun x y z => chk G N t sc (.q x) && chk G N a sc (.b y) && chk G N b sc (.b z)) = true from hc)
  obtain ⟨e1, e3⟩ := and_tt q
  obtain ⟨e1, e2⟩ := and_tt e1
  refine WS_if ((h G N sc x hG hN e1).mono fun k σ₁ q => ?_)
  cases k with
  | true => exact q G N sc y hG hN e2
  | false => exact q G N sc z hG hN e3
theorem asgn_inv {t e : T} {s : Stmt} (hc : chk G N (.asgn t e) sc (.s s) = true) : ∃ x y p, s = .Assign [x] y p ∧ noComp y = true ∧ noStar x = true ∧ chk G N t sc (.t x) = true ∧ chk G N e sc (.e y) = true := by
  obtain ⟨ts, y, p, rfl, q⟩ := onAsgn_inv (show onAsgn s (fun ts y => on1 ts fun x => noComp y && noStar x && chk G N t sc (.t x) && chk G N e sc (.e y)) = true from hc)
  obtain ⟨x, rfl, q⟩ := on1_inv q
  obtain ⟨e1, e4⟩ := and_tt q
  obtain ⟨e1, e3⟩ := and_tt e1
  obtain ⟨e1, e2⟩ := and_tt e1
  exact ⟨x, y, p, rfl, e1, e2, e3, e4⟩
theorem JS_asgn {t e : T} (ht : ∀ G N sc x y, chk G N t sc (.t x) = true → chk G N e sc (.e y) = true → ∀ env, swappedStores [x] y env = pure none)
    (h : JE c d X e ρ σ (fun v σ₁ => JA c d X t v ρ σ₁ (fun ρ' σ' => K .next ρ' σ'))) : JS c d X (.asgn t e) ρ σ K := fun G N sc s hG hN hc => by
  obtain ⟨x, y, p, rfl, e1, e2, e3, e4⟩ := asgn_inv hc
  exact WS_assign ((h G N sc y hG hN e4).mono fun v σ₁ q => q G N sc x hG hN e3) (fun env z1 => swaps_no e1 _ _ env) (ht G N sc x y e3 e4) (fun env => by rw [asg_cons e2]; rfl)
theorem stores_var {i : Nat} {e : T} : ∀ G N sc x y, chk G N (.var i) sc (.t x) = true → chk G N e sc (.e y) = true → ∀ env, swappedStores [x] y env = pure none := fun G N sc x y h z1 env => by
  obtain ⟨x, p, rfl, _⟩ := onNm_inv h; exact stores_nm env
theorem stores_item {a b e : T} : ∀ G N sc x y, chk G N (.item a b) sc (.t x) = true → chk G N e sc (.e y) = true → ∀ env, swappedStores [x] y env = pure none := fun G N sc x y h z1 env => by
  obtain ⟨v, i, p, rfl, _⟩ := onSub_inv h; exact stores_sub env
theorem stores_tupI {ts a b : T} : ∀ G N sc x y, chk G N (.tup ts) sc (.t x) = true → chk G N (.item a b) sc (.e y) = true → ∀ env, swappedStores [x] y env = pure none := fun G N sc x y h h' env => by
  obtain ⟨es, k, p, rfl, _⟩ := onTup_inv h
  obtain ⟨v, i, p, rfl, _⟩ := onSub_inv h'; exact stores_tup env

-- loops
noncomputable def JLoop (c : Cx) (d : Nat) (t body : T) (K : Fl → Rho → Led → Prop) : List V → Rho → Led → Prop
  | [], ρ, σ => K .next ρ σ
  | v :: vs, ρ, σ => JA c d NoX t v ρ σ (fun ρ₁ σ₁ => JB c d NoX body ρ₁ σ₁ (fun fl ρ₂ σ₂ => match fl with
      | .next | .cont => JLoop c d t body K vs ρ₂ σ₂
      | .brk => K .next ρ₂ σ₂
      | .ret w => K (.ret w) ρ₂ σ₂))
theorem JLoop.w {t body : T} {x : Expr} {ss : List Stmt} (hG : GlobOk c.k G) (hN : NmOk N) (h1 : chk G N t sc (.t x) = true) (h2 : chk G N body sc (.b ss) = true) : ∀ (vs : List V) (ρ : Rho) (σ : Led) (m : AEnv), Sub (Nm N ρ) m → JLoop c d t body K vs ρ σ → WLoop c d sc x ss (AfterF N K) vs m σ
  | [], ρ, σ, m, hm, h => ⟨ρ, hm, h⟩
  | v :: vs, ρ, σ, m, hm, h => by
    refine WA_sub hm ((h G N sc x hG hN h1).mono fun m₁ σ₁ ⟨ρ₁, k1, k2⟩ => WSs_sub k1 ((k2 G N sc ss hG hN h2).mono fun fl m₂ σ₂ ⟨ρ₂, q1, q2⟩ => ?_))
    cases fl with
    | next => exact JLoop.w hG hN h1 h2 vs ρ₂ σ₂ m₂ q1 q2
    | cont => exact JLoop.w hG hN h1 h2 vs ρ₂ σ₂ m₂ q1 q2
    | brk => exact ⟨ρ₂, q1, q2⟩
    | ret w => exact ⟨ρ₂, q1, q2⟩
theorem JS_for {t it body : T} (h : JE c d X it ρ σ (fun lv σ₁ => ∃ vs F, (∀ b ∈ F, b ∈ owned σ₁) ∧ IterS (c.pro F) σ₁ lv vs ∧ JLoop (c.pro F) d t body K vs ρ σ₁)) : JS c d X (.for_ t it body) ρ σ K := fun G N sc s hG hN hc => by
  obtain ⟨x, y, z, o, p, rfl, q⟩ := onFor_inv (show onFor s (fun x y z o => on0 o && noSet y && chk G N t sc (.t x) && chk G N it sc (.e y) && chk G N body sc (.b z)) = true from hc)
  obtain ⟨e1, e5⟩ := and_tt q
  obtain ⟨e1, e4⟩ := and_tt e1
  obtain ⟨e1, e3⟩ := and_tt e1
  obtain ⟨e1, e2⟩ := and_tt e1
  rw [on0_inv e1]
  exact WS_for hG.hd ((h G N sc y hG hN e4).mono fun lv σ₁ ⟨vs, F, k1, k2, k3⟩ => ⟨vs, F, k1, k2, JLoop.w (c := c.pro F) hG hN e3 e5 vs ρ σ₁ _ Sub.refl' k3⟩) (fold_no e2)
theorem JLoop_foldJ {t body : T} {α β : Type} (f : α → V) (M : β → Rho) (L : β → Led) (g : β → α → β) (J : List α → β → Prop) : ∀ (rows : List α) (s : β) (ρ : Rho), RSub (M s) ρ → J rows s →
    (∀ s a rest, J (a :: rest) s → JA c d NoX t (f a) (M s) (L s) (fun ρ₁ σ₁ => JB c d NoX body ρ₁ σ₁ (fun fl ρ₂ σ₂ => match fl with
      | .next | .cont => RSub (M (g s a)) ρ₂ ∧ σ₂ = L (g s a) ∧ J rest (g s a)
      | .brk => K .next ρ₂ σ₂
      | .ret w => K (.ret w) ρ₂ σ₂))) →
    (∀ ρ, RSub (M (rows.foldl g s)) ρ → J [] (rows.foldl g s) → K .next ρ (L (rows.foldl g s))) → JLoop c d t body K (rows.map f) ρ (L s)
  | [], s, ρ, hm, hj, _, h => h ρ hm hj
  | a :: rows, s, ρ, hm, hj, hstep, h => by
    refine JA_sub hm ((hstep s a rows hj).mono fun ρ₁ σ₁ q => q.mono fun fl ρ₂ σ₂ q => ?_)
    cases fl with
    | next => obtain ⟨q1, q2, q3⟩ := q; rw [q2]; exact JLoop_foldJ f M L g J rows _ ρ₂ q1 q3 hstep h
    | cont => obtain ⟨q1, q2, q3⟩ := q; rw [q2]; exact JLoop_foldJ f M L g J rows _ ρ₂ q1 q3 hstep h
    | brk => exact q
    | ret w => exact q

noncomputable def dictO (a : T) : O := if a.ctorIdx = 0 then .dictI [] else .dictS []
theorem JE_dict {a b : T} (h : ∀ r, r ∉ owned σ → r ∉ c.F → P (.ref r) ((r, dictO a) :: σ)) : JE c d X (.dict a b) ρ σ P := fun G N sc e hG hN hc => by
  obtain ⟨ks, vs, p, rfl, q⟩ := onDict_inv (show onDict e (fun ks vs => on0 ks && on0 vs) = true from hc)
  obtain ⟨e1, e2⟩ := and_tt q
  rw [on0_inv e1, on0_inv e2]
  by_cases z : a.ctorIdx = 0
  · rw [show dictO a = .dictI [] from if_pos z] at h
    exact WE_dict0 hG.ok DK.int h
  · rw [show dictO a = .dictS [] from if_neg z] at h
    exact WE_dict0 hG.ok DK.str h
noncomputable def JK (K : Fl → Rho → Led → Prop) (N : Rho → Led → Prop) : Fl → Rho → Led → Prop
  | .next, ρ, σ => N ρ σ
  | .cont, ρ, σ => N ρ σ
  | .brk, ρ, σ => K .next ρ σ
  | .ret w, ρ, σ => K (.ret w) ρ σ
-- comprehensions
noncomputable def JIf (c : Cx) (d : Nat) (hc : Bool) (cond : T) (ρ : Rho) (σ : Led) (P : Bool → Led → Prop) : Prop := match hc with
  | false => P true σ
  | true => JT c d NoX cond ρ σ P
noncomputable def vix (t : T) : Nat := if h : t.ctorIdx = T.ctorIdx (.var 0) then T.var.elim (motive := fun z1 => Nat) t h id else 0
noncomputable def JComp (c : Cx) (d : Nat) (t : T) (hc : Bool) (cond elt : T) (ρ : Rho) (Kf : List V → Led → Prop) : List V → List V → Led → Prop
  | [], acc, σ => Kf acc σ
  | v :: vs, acc, σ => JIf c d hc cond ((vix t, v) :: ρ) σ (fun b σ₁ => if b = true then JE c d NoX elt ((vix t, v) :: ρ) σ₁ (fun w σ₂ => JComp c d t hc cond elt ρ Kf vs (acc ++ [w]) σ₂) else JComp c d t hc cond elt ρ Kf vs acc σ₁)
theorem JIf.w {hb : Bool} {cond : T} {ifs : List Expr} {P P' : Bool → Led → Prop} (hG : GlobOk c.k G) (hN : NmOk N) (hc : lc hb ifs (fun q => chk G N cond sc (.q q)) = true) (h : JIf c d hb cond ρ σ P) (k : ∀ b σ', P b σ' → P' b σ') : WIfs c d sc ifs (Nm N ρ) σ P' := by
  cases hb with
  | false => rw [on0_inv (show on0 ifs = true from hc)]; exact k _ _ h
  | true =>
    obtain ⟨e, rfl, q⟩ := on1_inv hc
    exact WT.mono (h G N sc e hG hN q) k
theorem JComp.w {hb : Bool} {i : Nat} {cond elt : T} {Kf Kf' : List V → Led → Prop} {x : Str} {elt' : Expr} {ifs : List Expr} (hG : GlobOk c.k G) (hN : NmOk N) (h1 : N[i]? = some x) (h2 : chk G N elt sc (.e elt') = true) (h3 : lc hb ifs (fun q => chk G N cond sc (.q q)) = true) (hk : ∀ ws σ', Kf ws σ' → Kf' ws σ') :
    ∀ (vs acc : List V) (σ : Led), JComp c d (.var i) hb cond elt ρ Kf vs acc σ → WComp c d sc x ifs elt' (Nm N ρ) Kf' vs acc σ
  | [], acc, σ, h => hk _ _ h
  | v :: vs, acc, σ, h => by
    have h' : JIf c d hb cond ((i, v) :: ρ) σ _ := h
    show WIfs c d sc ifs ((x, v) :: Nm N ρ) σ _
    rw [← nm_cons h1]
    refine h'.w hG hN h3 fun b σ₁ q => ?_
    cases b with
    | true => exact (q G N sc elt' hG hN h2).mono fun w σ₂ q => JComp.w hG hN h1 h2 h3 hk vs _ σ₂ q
    | false => exact JComp.w hG hN h1 h2 h3 hk vs acc σ₁ q
structure CompIs (G : Glob) (N : List Str) (sc : Scope) (hb : Bool) (t cond elt it : T) (e : Expr) (i : Nat) (elt' it' : Expr) (ifs : List Expr) (scope : Scope) (x : Str) (px p : Pos) : Prop where
  t : t = .var i
  e : e = .ListComp elt' [⟨.Name x px, it', ifs, 0⟩] scope p
  ok : compOk scope sc x = true
  set : noSet it' = true
  it : chk G N it sc (.e it') = true
  nm : N[i]? = some x
  elt : chk G N elt (relabelS scope sc) (.e elt') = true
  ifs : lc hb ifs (fun q => chk G N cond (relabelS scope sc) (.q q)) = true
theorem comp_inv {hb : Bool} {t cond elt it : T} {e : Expr} (hc : isComp e sc t N (fun e it' ifs sc' => chk G N it sc (.e it') && chk G N elt sc' (.e e) && lc hb ifs (fun q => chk G N cond sc' (.q q))) = true) :
    ∃ i elt' it' ifs scope x px p, CompIs G N sc hb t cond elt it e i elt' it' ifs scope x px p := by
  obtain ⟨elt', gs, scope, p, rfl, q⟩ := onComp_inv hc
  obtain ⟨g, rfl, q⟩ := on1_inv q
  obtain ⟨e1, q⟩ := and_tt q
  obtain ⟨t', it', ifs, z⟩ := g
  have := eq_of_beq e1
  dsimp only at this
  subst this
  obtain ⟨x, px, rfl, q⟩ := onNmp_inv q
  obtain ⟨i, rfl, q⟩ := onVar_inv q
  obtain ⟨q, e4⟩ := and_tt q
  obtain ⟨q, e3⟩ := and_tt q
  obtain ⟨e1, e2⟩ := and_tt q
  obtain ⟨e4, e7⟩ := and_tt e4
  obtain ⟨e4, e6⟩ := and_tt e4
  exact ⟨i, elt', it', ifs, scope, x, px, p, rfl, rfl, e2, e3, e4, eq_of_beq e1, e6, e7⟩
theorem JE_comp {loc hb : Bool} {t cond elt it : T} (h : JE c d X it ρ σ (fun lv σ₁ => ∃ vs F, (∀ b ∈ F, b ∈ owned σ₁) ∧ IterS (c.pro F) σ₁ lv vs ∧ ∀ D, JComp ((c.pro F).hide D) d t hb cond elt ρ (Made c.F loc P) vs [] σ₁)) : JE c d X (.comp loc hb elt t it cond) ρ σ P := fun G N sc e hG hN hc => by
  obtain ⟨i, elt', it', ifs, scope, x, px, p, q⟩ := comp_inv hc
  cases q.t; cases q.e
  refine WE_comp_made hG.hd (loc := loc) q.ok (nm_dot hN) ((h G N sc it' hG hN q.it).mono fun lv σ₁ k => ?_) (fold_no q.set)
  obtain ⟨vs, F, k1, k2, k3⟩ := k
  exact ⟨vs, F, k1, k2, fun D => JComp.w (c := (c.pro F).hide D) hG hN q.nm q.elt q.ifs (fun z1 z2 q => q) vs [] σ₁ (k3 D)⟩
theorem JS_asgnC {i : Nat} {loc hb : Bool} {t cond elt it : T} (h : JE c d X it ρ σ (fun lv σ₁ => ∃ vs F, (∀ b ∈ F, b ∈ owned σ₁) ∧ IterS (c.pro F) σ₁ lv vs ∧ ∀ D, JComp ((c.pro F).hide D) d t hb cond elt ρ (Made c.F loc fun v σ' => K .next ((i, v) :: ρ) σ') vs [] σ₁)) :
    JS c d X (.asgnC i loc hb elt t it cond) ρ σ K := fun G N sc s hG hN hc => by
  obtain ⟨x, hx, q⟩ := onSome_inv (show onSome N[i]? _ = true from hc)
  obtain ⟨ts, y, p, rfl, q⟩ := onAsgn_inv q
  obtain ⟨tg, rfl, q⟩ := on1_inv q
  obtain ⟨z, px, rfl, q⟩ := onNmp_inv q
  obtain ⟨e1, e8⟩ := and_tt q
  obtain ⟨e1, e3⟩ := and_tt e1
  obtain ⟨e1, e2⟩ := and_tt e1
  have := eq_of_beq e1; subst this
  obtain ⟨j, elt', it', ifs, scope, y, py, p', w⟩ := comp_inv e8
  cases w.t; cases w.e
  have hmade : ∀ ws σ', Made c.F loc (fun v σ' => K .next ((i, v) :: ρ) σ') ws σ' → Made c.F loc (fun v σ' => AfterF N K .next ((z, v) :: Nm N ρ) σ') ws σ' := fun ws σ' q => by
    unfold Made at q ⊢
    cases loc with
    | true => exact fun a h1 h2 => ⟨_, by rw [nm_cons hx]; exact Sub.refl', q a h1 h2⟩
    | false => exact ⟨_, by rw [nm_cons hx]; exact Sub.refl', q⟩
  have hW := (h G N sc it' hG hN w.it).mono fun lv σ₁ k => (show ∃ vs F, (∀ b ∈ F, b ∈ owned σ₁) ∧ IterS (c.pro F) σ₁ lv vs ∧ ∀ D, WComp ((c.pro F).hide D) d (relabelS scope sc) y ifs elt' (Nm N ρ) (Made c.F loc fun v σ' => AfterF N K .next ((z, v) :: Nm N ρ) σ') vs [] σ₁ by
    obtain ⟨vs, F, k1, k2, k3⟩ := k
    exact ⟨vs, F, k1, k2, fun D => JComp.w (c := (c.pro F).hide D) hG hN w.nm w.elt w.ifs hmade vs [] σ₁ (k3 D)⟩)
  cases hl : (sc.names.lookup z == some .local) with
  | true =>
    obtain ⟨_, _, _, _, eq, q⟩ := onComp_inv e3
    cases eq
    rw [hl] at q
    obtain ⟨q1, q2⟩ := and_tt (show (px.line == p'.line && _) = true from q)
    exact WS_assign_comp_made hG.hd w.ok (nm_dot hN) (by rw [hl, q1, q2]; rfl) e2 hW (fold_no w.set)
  | false => exact WS_assign ((WE_comp_made hG.hd w.ok (nm_dot hN) hW (fold_no w.set)).mono fun v σ₁ q => WA_name q e2) (swaps_cell hl) (fun env => stores_nm env) (fun z1 => rfl)
end Mine
end

section
set_option Elab.async false
set_option linter.unusedVariables false
set_option linter.unusedSimpArgs false
set_option genSizeOf false
set_option genInjectivity false
namespace Mine
open PySem

inductive Leaf (p : Prop) : Prop
  | mk : p → Leaf p
inductive Side (q p : Prop) : Prop
  | mk : q → p → Side q p
theorem Leaf.out {p : Prop} : Leaf p → p
  | .mk h => h
noncomputable def Br (b : Bool) (A B : Prop) : Prop := match b with
  | true => A
  | false => B
theorem br_intro {b : Bool} {A B : Prop} (h1 : b = true → A) (h2 : b = false → B) : Br b A B := by
  cases b with
  | true => exact h1 rfl
  | false => exact h2 rfl
theorem brs : (∀ (p : Prop) [Decidable p], (decide p = true) = p) ∧ (∀ (p : Prop) [Decidable p], (decide p = false) = ¬ p) ∧ (∀ {α : Type} [BEq α] [LawfulBEq α] (a b : α), ((a == b) = true) = (a = b)) ∧
    (∀ {α : Type} [BEq α] [LawfulBEq α] (a b : α), ((a == b) = false) = ¬ a = b) ∧ (∀ {α : Type} [BEq α] [LawfulBEq α] (a b : α), ((a != b) = true) = ¬ a = b) ∧
    (∀ b : Bool, ((!b) = true) = (b = false)) ∧ (∀ b : Bool, ((!b) = false) = (b = true)) ∧ (∀ {α β : Type} (l : List α) (f : α → β), (l.map f).length = l.length) :=
  ⟨fun p => decide_eq_true_eq, fun p => propext decide_eq_false_iff_not, fun a b => propext beq_iff_eq, fun a b => propext beq_eq_false_iff_ne, fun a b => propext bne_iff_ne, fun b => Bool.not_eq_true' b, fun b => Bool.not_eq_false' b, fun l f => List.length_map f⟩
theorem br_t {A B : Prop} (h : A) : Br true A B := h
theorem br_f {A B : Prop} (h : B) : Br false A B := h
section
variable (c : Cx) (d : Nat) (X : XP)
noncomputable def intC (op : CmpOp) (k : Int → Int → Prop) (a b : V) (σ : Led) (P : V → Led → Prop) : Prop := match a with
  | .int x => (match b with
    | .int y => k x y
    | b => Leaf (Op2 c d (compareOp op) a b σ P))
  | a => Leaf (Op2 c d (compareOp op) a b σ P)
noncomputable def eqC (op : CmpOp) (k₁ : Int → Int → Prop) (k₂ : Str → Str → Prop) (k₃ : Bool → Bool → Prop) (a b : V) (σ : Led) (P : V → Led → Prop) : Prop := match a with
  | .int x => (match b with
    | .int y => k₁ x y
    | b => Leaf (Op2 c d (compareOp op) a b σ P))
  | .str x => (match b with
    | .str y => k₂ x y
    | b => Leaf (Op2 c d (compareOp op) a b σ P))
  | .bool x => (match b with
    | .bool y => k₃ x y
    | b => Leaf (Op2 c d (compareOp op) a b σ P))
  | a => Leaf (Op2 c d (compareOp op) a b σ P)
noncomputable def inC (op : CmpOp) (k : Str → Str → Prop) (a b : V) (σ : Led) (P : V → Led → Prop) : Prop := match a with
  | .str y => (match b with
    | .str x => k x y
    | b => Leaf (Op2 c d (compareOp op) a b σ P))
  | a => Leaf (Op2 c d (compareOp op) a b σ P)
noncomputable def opC (op : CmpOp) (a b : V) (σ : Led) (P : V → Led → Prop) : Prop := match op with
  | .Eq => eqC c d .Eq (fun x y => P (.bool (x == y)) σ) (fun x y => P (.bool (x == y)) σ) (fun x y => P (.bool (x == y)) σ) a b σ P
  | .NotEq => eqC c d .NotEq (fun x y => P (.bool (x != y)) σ) (fun x y => P (.bool (x != y)) σ) (fun x y => P (.bool (x != y)) σ) a b σ P
  | .Lt => intC c d .Lt (fun x y => P (.bool (decide (x < y))) σ) a b σ P
  | .LtE => intC c d .LtE (fun x y => P (.bool (decide (x ≤ y))) σ) a b σ P
  | .Gt => intC c d .Gt (fun x y => P (.bool (decide (y < x))) σ) a b σ P
  | .GtE => intC c d .GtE (fun x y => P (.bool (decide (y ≤ x))) σ) a b σ P
  | .In => inC c d .In (fun x y => P (.bool (Txt.contains x y)) σ) a b σ P
  | .NotIn => inC c d .NotIn (fun x y => P (.bool (!Txt.contains x y)) σ) a b σ P
  | op => Leaf (Op2 c d (compareOp op) a b σ P)
noncomputable def intB (op : Operator) (f : Int → Int → Prop) (a b : V) (σ : Led) (P : V → Led → Prop) : Prop := match a with
  | .int x => (match b with
    | .int y => f x y
    | b => Leaf (Op2 c d (binaryOp op) a b σ P))
  | a => Leaf (Op2 c d (binaryOp op) a b σ P)
noncomputable def small (x : Int) : Bool := decide (-9223372036854775808 < x) && decide (x < 9223372036854775808)
noncomputable def opB (op : Operator) (a b : V) (σ : Led) (P : V → Led → Prop) : Prop := match op with
  | .Add => intB c d .Add (fun x y => P (.int (x + y)) σ) a b σ P
  | .Sub => intB c d .Sub (fun x y => P (.int (x - y)) σ) a b σ P
  | .Mult => intB c d .Mult (fun x y => Side (IntMulOk x y) (P (.int (x * y)) σ)) a b σ P
  | .Mod => intB c d .Mod (fun x y => Side (0 < y) (P (.int (x % y)) σ)) a b σ P
  | .FloorDiv => intB c d .FloorDiv (fun x y => Side (0 < y ∧ y < 9223372036854775808) (P (.int (x / y)) σ)) a b σ P
  | op => Leaf (Op2 c d (binaryOp op) a b σ P)
noncomputable def opBk (op : Operator) (a : V) (k : Int) (σ : Led) (P : V → Led → Prop) : Prop := match op with
  | .Mult => intB c d .Mult (fun x y => Br (small k) (P (.int (x * k)) σ) (Side (IntMulOk x k) (P (.int (x * k)) σ))) a (.int k) σ P
  | .Mod => intB c d .Mod (fun x y => Br (decide (0 < k)) (P (.int (x % k)) σ) (Side (0 < k) (P (.int (x % k)) σ))) a (.int k) σ P
  | .FloorDiv => intB c d .FloorDiv (fun x y => Br (decide (0 < k) && decide (k < 9223372036854775808)) (P (.int (x / k)) σ) (Side (0 < k ∧ k < 9223372036854775808) (P (.int (x / k)) σ))) a (.int k) σ P
  | .Pow => intB c d .Pow (fun x y => Br (k == 12 && x == 10) (P (.int 1000000000000) σ) (Leaf (Op2 c d (binaryOp .Pow) (.int x) (.int k) σ P))) a (.int k) σ P
  | op => opB c d op a (.int k) σ P
noncomputable def opU (op : UnaryOp) (a : V) (σ : Led) (P : V → Led → Prop) : Prop := match op with
  | .USub => (match a with
    | .int x => P (.int (-x)) σ
    | a => Leaf (Op1 c d (unaryOp .USub) a σ P))
  | .Not => (match a with
    | .bool b => P (.bool (!b)) σ
    | a => Leaf (Op1 c d (unaryOp .Not) a σ P))
  | op => Leaf (Op1 c d (unaryOp op) a σ P)
noncomputable def asB (v : V) (σ : Led) (P : Bool → Led → Prop) : Prop := match v with
  | .bool b => P b σ
  | v => Leaf (∃ b, v = .bool b ∧ P b σ)
noncomputable def asI (v : V) (σ : Led) (P : Option Int → Led → Prop) : Prop := match v with
  | .int i => P (some i) σ
  | v => Leaf (∃ i, v = .int i ∧ P (some i) σ)
noncomputable def kindV : V → Option Bf
  | .bool _ => some .bool
  | .int _ => some .int
  | .str _ => some .str
  | .tup _ => some .tuple
  | .lst _ => some .list
  | _ => Option.none
noncomputable def isiB : Bf → Bf → Option Bool
  | .bool, .bool => some true
  | .bool, .int => some true
  | .bool, .str => some false
  | .bool, .tuple => some false
  | .bool, .list => some false
  | .int, .int => some true
  | .int, .bool => some false
  | .int, .str => some false
  | .int, .tuple => some false
  | .int, .list => some false
  | .str, .str => some true
  | .str, .int => some false
  | .str, .bool => some false
  | .str, .tuple => some false
  | .str, .list => some false
  | .tuple, .tuple => some true
  | .tuple, .int => some false
  | .tuple, .bool => some false
  | .tuple, .str => some false
  | .tuple, .list => some false
  | .list, .list => some true
  | .list, .int => some false
  | .list, .bool => some false
  | .list, .str => some false
  | .list, .tuple => some false
  | _, _ => Option.none
noncomputable def opI (f : Bf) (v : V) (σ : Led) (P : V → Led → Prop) : Prop := match kindV v with
  | some k => (match isiB k f with
    | some b => P (.bool b) σ
    | Option.none => Leaf (CallS c d (.builtin "isinstance") [v, .raw f.val] σ P X))
  | Option.none => Leaf (CallS c d (.builtin "isinstance") [v, .raw f.val] σ P X)
noncomputable def opLen (v : V) (σ : Led) (P : V → Led → Prop) : Prop := match v with
  | .lst vs => Leaf (∃ n : Nat, vs.length = n ∧ P (.int n) σ)
  | .tup vs => P (.int vs.length) σ
  | .str x => Side (x.length ≤ 1000000) (P (.int x.length) σ)
  | v => Leaf (CallS c d (.builtin "len") [v] σ P X)
noncomputable def one (vs : List V) (f : V → Prop) (D : Prop) : Prop := match vs with
  | [v] => f v
  | _ => D
noncomputable def two (vs : List V) (f : V → V → Prop) (D : Prop) : Prop := match vs with
  | [a, b] => f a b
  | _ => D
noncomputable def anInt (a : V) (f : Int → Prop) (D : Prop) : Prop := match a with
  | .int x => f x
  | _ => D
noncomputable def aLst (a : V) (f : List V → Prop) (D : Prop) : Prop := match a with
  | .lst x => f x
  | _ => D
noncomputable def opF (f : Bf) (vs : List V) (σ : Led) (P : V → Led → Prop) : Prop := match f with
  | .len => one vs (fun v => opLen c d X v σ P) (Leaf (CallS c d f.val vs σ P X))
  | .max => two vs (fun a b => anInt a (fun x => anInt b (fun y => P (.int (max x y)) σ) (Leaf (CallS c d f.val vs σ P X))) (Leaf (CallS c d f.val vs σ P X))) (Leaf (CallS c d f.val vs σ P X))
  | .min => two vs (fun a b => anInt a (fun x => anInt b (fun y => P (.int (min x y)) σ) (Leaf (CallS c d f.val vs σ P X))) (Leaf (CallS c d f.val vs σ P X))) (Leaf (CallS c d f.val vs σ P X))
  | .range => one vs (fun a => anInt a (fun x => P (.rng 0 x) σ) (Leaf (CallS c d f.val vs σ P X)))
      (two vs (fun a b => anInt a (fun x => anInt b (fun y => P (.rng x y) σ) (Leaf (CallS c d f.val vs σ P X))) (Leaf (CallS c d f.val vs σ P X))) (Leaf (CallS c d f.val vs σ P X)))
  | .list => one vs (fun a => aLst a (fun ws => P (.lst ws) σ) (Leaf (CallS c d f.val vs σ P X))) (Leaf (CallS c d f.val vs σ P X))
  | .sum => one vs (fun a => aLst a (fun ws => Leaf (∃ ys : List Int, ws = ys.map .int ∧ P (.int ys.sum) σ)) (Leaf (CallS c d f.val vs σ P X))) (Leaf (CallS c d f.val vs σ P X))
  | .all => one vs (fun a => aLst a (fun ws => Leaf (∃ bs : List Bool, ws = bs.map .bool ∧ P (.bool (bs.all id)) σ)) (Leaf (CallS c d f.val vs σ P X))) (Leaf (CallS c d f.val vs σ P X))
  | f => Leaf (CallS c d f.val vs σ P X)
noncomputable def opK (v : V) (k : Int) (σ : Led) (P : V → Led → Prop) : Prop := match v with
  | .tup vs => Br (decide (0 ≤ k)) (match vs[k.toNat]? with
    | some w => P w σ
    | Option.none => False) (Leaf (Item c d v (.int k) σ P))
  | v => Leaf (Item c d v (.int k) σ P)
noncomputable def opS (v : V) (l u : Option Int) (σ : Led) (P : V → Led → Prop) : Prop := match v with
  | .lst vs => P (.lst (slice l u vs)) σ
  | .str x => Side (x.length ≤ sizeLine) (P (.str (strSlice l u x)) σ)
  | v => Leaf (∃ w, SliceOf σ l u v w ∧ P w σ)
end

noncomputable abbrev EX := T → Rho → Led → (V → Led → Prop) → Prop
noncomputable def exL (E : EX) (ρ : Rho) : T → Led → (List V → Led → Prop) → Prop
  | .nil, σ, P => P [] σ
  | .cons a r, σ, P => E a ρ σ (fun v σ₁ => exL E ρ r σ₁ (fun vs σ₂ => P (v :: vs) σ₂))
  | _, _, _ => False
noncomputable def onC {α : Sort _} (t : T) (f : T → T → α) (z : α) : α := if h : t.ctorIdx = 1 then T.cons.elim (motive := fun z1 => α) t h f else z
set_option tactic.hygienic true in
theorem onC_inv {t : T} {f : T → T → Bool} (h : onC t f false = true) : ∃ a r, t = .cons a r ∧ f a r = true := by
  unfold onC at h
  split at h
  · rename_i q; revert h; exact T.cons.elim (motive := fun t => ∀ h : t.ctorIdx = 1, T.cons.elim (motive := fun z1 => Bool) t h f = true → ∃ a r, t = .cons a r ∧ f a r = true) t q (fun a r z1 hk => ⟨a, r, rfl, hk⟩) q
  · cases h
noncomputable def exBo (E : EX) (ρ : Rho) (op : BoolOp) : T → Led → (V → Led → Prop) → Prop
  | .cons a r, σ, P => (match r.ctorIdx with
    | 0 => E a ρ σ P
    | _ + 1 => onC r (fun z1 z2 => E a ρ σ (fun v σ₁ => asB v σ₁ (fun b σ₂ => match op with
      | .And => Br b (exBo E ρ op r σ₂ P) (P (.bool false) σ₂)
      | .Or => Br b (P (.bool true) σ₂) (exBo E ρ op r σ₂ P)))) False)
  | _, _, _ => False
noncomputable def exTs (B : T → Rho → Led → (Bool → Led → Prop) → Prop) (ρ : Rho) (op : BoolOp) : T → Led → (Bool → Led → Prop) → Prop
  | .nil, σ, P => (match op with
    | .And => P true σ
    | .Or => P false σ)
  | .cons a r, σ, P => B a ρ σ (fun b σ₁ => match op with
    | .And => Br b (exTs B ρ op r σ₁ P) (P false σ₁)
    | .Or => Br b (P true σ₁) (exTs B ρ op r σ₁ P))
  | _, _, _ => False
noncomputable def exO (E : EX) (ρ : Rho) : T → Led → (Option Int → Led → Prop) → Prop
  | .nil, σ, P => P Option.none σ
  | .int i, σ, P => P (some i) σ
  | .var i, σ, P => E (.var i) ρ σ (fun v σ₁ => asI v σ₁ P)
  | .bin o a b, σ, P => E (.bin o a b) ρ σ (fun v σ₁ => asI v σ₁ P)
  | .un o a, σ, P => E (.un o a) ρ σ (fun v σ₁ => asI v σ₁ P)
  | .call f a, σ, P => E (.call f a) ρ σ (fun v σ₁ => asI v σ₁ P)
  | .blt f a, σ, P => E (.blt f a) ρ σ (fun v σ₁ => asI v σ₁ P)
  | _, _, _ => False

structure Exs where
  E : Cx → XP → EX
  B : Cx → XP → T → Rho → Led → (Bool → Led → Prop) → Prop
  A : Cx → XP → T → V → Rho → Led → (Rho → Led → Prop) → Prop
  S : Cx → XP → T → Rho → Led → (Fl → Rho → Led → Prop) → Prop

noncomputable def stepE (d : Nat) (x : Exs) (c : Cx) (X : XP) (t : T) (ρ : Rho) (σ : Led) (P : V → Led → Prop) : Prop := match t with
  | .int i => P (.int i) σ
  | .str y => P (.str y) σ
  | .bool b => P (.bool b) σ
  | .none => P .none σ
  | .var i => (match ρ.lookup i with
    | some v => P v σ
    | Option.none => False)
  | .bin op a b => (match b with
    | .int k => x.E c X a ρ σ (fun u σ₁ => opBk c d op u k σ₁ P)
    | b => x.E c X a ρ σ (fun u σ₁ => x.E c X b ρ σ₁ (fun v σ₂ => opB c d op u v σ₂ P)))
  | .un op a => x.E c X a ρ σ (fun u σ₁ => opU c d op u σ₁ P)
  | .cmp op a b => x.E c X a ρ σ (fun u σ₁ => x.E c X b ρ σ₁ (fun v σ₂ => opC c d op u v σ₂ P))
  | .cmp2 a o₁ b o₂ b' => x.E c X a ρ σ (fun u σ₁ => x.E c X b ρ σ₁ (fun v σ₂ => opC c d o₁ u v σ₂ (fun w σ₃ => asB w σ₃ (fun t σ₄ => Br t (x.E c X b' ρ σ₄ (fun v' σ₅ => opC c d o₂ v v' σ₅ P)) (P (.bool false) σ₄)))))
  | .bo op es => exBo (x.E c X) ρ op es σ P
  | .ife t a b => x.B c X t ρ σ (fun k σ₁ => Br k (x.E c X a ρ σ₁ P) (x.E c X b ρ σ₁ P))
  | .tup es => exL (x.E c X) ρ es σ (fun vs σ₁ => P (.tup vs) σ₁)
  | .lst loc es => exL (x.E c X) ρ es σ (fun vs σ₁ => match loc with
    | false => P (.lst vs) σ₁
    | true => Leaf (∀ a, a ∉ owned σ₁ → a ∉ c.F → P (.ref a) ((a, .list vs) :: σ₁)))
  | .call f es => exL (x.E c X) ρ es σ (fun vs σ₁ => Leaf (CallN c d f vs σ₁ P X))
  | .blt f es => exL (x.E c X) ρ es σ (fun vs σ₁ => opF c d X f vs σ₁ P)
  | .isi a f => x.E c X a ρ σ (fun v σ₁ => opI c d X f v σ₁ P)
  | .meth o y es => x.E c X o ρ σ (fun ov σ₁ => Leaf (∃ T id, Meth c σ₁ ov y T id ∧ JL c d X es ρ σ₁ (fun vs σ₂ => CallS c d (.builtin id) (ov :: vs) σ₂ P X)))
  | .item a b => (match b with
    | .int k => x.E c X a ρ σ (fun u σ₁ => opK c d u k σ₁ P)
    | b => x.E c X a ρ σ (fun u σ₁ => x.E c X b ρ σ₁ (fun v σ₂ => Leaf (Item c d u v σ₂ P))))
  | .slice a lo hi => x.E c X a ρ σ (fun v σ₁ => exO (x.E c X) ρ lo σ₁ (fun l σ₂ => exO (x.E c X) ρ hi σ₂ (fun u σ₃ => opS v l u σ₃ P)))
  | .dict a _ => Leaf (∀ r, r ∉ owned σ → r ∉ c.F → P (.ref r) ((r, dictO a) :: σ))
  | .cut q => Leaf (∃ v, (∀ Q : V → Led → Prop, Q v σ → JE c d X q ρ σ Q) ∧ P v σ)
  | .comp loc hb elt t it cond => x.E c X it ρ σ (fun lv σ₁ => Leaf (∃ vs F, (∀ b ∈ F, b ∈ owned σ₁) ∧ IterS (c.pro F) σ₁ lv vs ∧ ∀ D, JComp ((c.pro F).hide D) d t hb cond elt ρ (Made c.F loc P) vs [] σ₁))
  | _ => False
noncomputable def stepB (d : Nat) (x : Exs) (c : Cx) (X : XP) (t : T) (ρ : Rho) (σ : Led) (P : Bool → Led → Prop) : Prop := match t with
  | .un .Not a => x.B c X a ρ σ (fun b σ₁ => P (!b) σ₁)
  | .bo op es => exTs (x.B c X) ρ op es σ P
  | .cmp op a b => x.E c X a ρ σ (fun u σ₁ => x.E c X b ρ σ₁ (fun v σ₂ => opC c d op u v σ₂ (fun w σ₃ => asB w σ₃ P)))
  | .cmp2 a o₁ b o₂ b' => x.E c X a ρ σ (fun u σ₁ => x.E c X b ρ σ₁ (fun v σ₂ => opC c d o₁ u v σ₂ (fun w σ₃ => asB w σ₃ (fun t σ₄ => Br t (x.E c X b' ρ σ₄ (fun v' σ₅ => opC c d o₂ v v' σ₅ (fun w σ₆ => asB w σ₆ P))) (P false σ₄)))))
  | .var i => x.E c X (.var i) ρ σ (fun v σ₁ => asB v σ₁ P)
  | .cut q => Leaf (∃ b, (∀ Q : Bool → Led → Prop, Q b σ → JT c d X q ρ σ Q) ∧ P b σ)
  | .call f a => x.E c X (.call f a) ρ σ (fun v σ₁ => asB v σ₁ P)
  | .blt f a => x.E c X (.blt f a) ρ σ (fun v σ₁ => asB v σ₁ P)
  | .isi a f => x.E c X (.isi a f) ρ σ (fun v σ₁ => asB v σ₁ P)
  | .meth o y a => x.E c X (.meth o y a) ρ σ (fun v σ₁ => asB v σ₁ P)
  | .item a b => x.E c X (.item a b) ρ σ (fun v σ₁ => asB v σ₁ P)
  | _ => False
noncomputable def tlen : List V → T → Bool
  | [], t => t.ctorIdx == 0
  | _ :: vs, t => onC t (fun z1 r => tlen vs r) false
noncomputable def exAs (A : T → V → Rho → Led → (Rho → Led → Prop) → Prop) : List V → T → Rho → Led → (Rho → Led → Prop) → Prop
  | [], _, ρ, σ, K => K ρ σ
  | v :: vs, t, ρ, σ, K => onC t (fun a r => A a v ρ σ (fun ρ₁ σ₁ => exAs A vs r ρ₁ σ₁ K)) False
noncomputable def stepA (d : Nat) (x : Exs) (c : Cx) (X : XP) (t : T) (v : V) (ρ : Rho) (σ : Led) (K : Rho → Led → Prop) : Prop := match t with
  | .var i => K ((i, v) :: ρ) σ
  | .tup ts => (match v with
    | .tup vs => Br (tlen vs ts) (exAs (x.A c X) vs ts ρ σ K) False
    | _ => False)
  | .item a b => x.E c X a ρ σ (fun ov σ₁ => x.E c X b ρ σ₁ (fun iv σ₂ => Leaf (SetIt c d ov iv v σ₂ (fun σ₃ => K ρ σ₃))))
  | _ => False
noncomputable def stepS (d : Nat) (x : Exs) (c : Cx) (X : XP) (s : T) (ρ : Rho) (σ : Led) (K : Fl → Rho → Led → Prop) : Prop := match s with
  | .ret e => x.E c X e ρ σ (fun v σ₁ => K (.ret v) ρ σ₁)
  | .ret0 => K (.ret .none) ρ σ
  | .pass => K .next ρ σ
  | .brk => K .brk ρ σ
  | .cont => K .cont ρ σ
  | .expr e => x.E c X e ρ σ (fun z1 σ₁ => K .next ρ σ₁)
  | .asgn t e => (match t with
    | .var i => x.E c X e ρ σ (fun v σ₁ => K .next ((i, v) :: ρ) σ₁)
    | .item a b => x.E c X e ρ σ (fun v σ₁ => x.A c X (.item a b) v ρ σ₁ (fun ρ' σ' => K .next ρ' σ'))
    | .tup ts => (match e with
      | .item a b => x.E c X (.item a b) ρ σ (fun v σ₁ => x.A c X (.tup ts) v ρ σ₁ (fun ρ' σ' => K .next ρ' σ'))
      | _ => False)
    | _ => False)
  | .asgnC i loc hb elt t it cond => x.E c X it ρ σ (fun lv σ₁ => Leaf (∃ vs F, (∀ b ∈ F, b ∈ owned σ₁) ∧ IterS (c.pro F) σ₁ lv vs ∧ ∀ D, JComp ((c.pro F).hide D) d t hb cond elt ρ (Made c.F loc fun v σ' => K .next ((i, v) :: ρ) σ') vs [] σ₁))
  | .ite t a b => x.B c X t ρ σ (fun k σ₁ => Br k (x.S c X a ρ σ₁ K) (x.S c X b ρ σ₁ K))
  | .for_ t it body => x.E c X it ρ σ (fun lv σ₁ => Leaf (∃ vs F, (∀ b ∈ F, b ∈ owned σ₁) ∧ IterS (c.pro F) σ₁ lv vs ∧ JLoop (c.pro F) d t body K vs ρ σ₁))
  | _ => False
noncomputable def hasLp : T → Bool
  | .for_ _ _ _ => true
  | .ite t a b => hasLp a || (hasLp b || t.ctorIdx == (T.cut .nil).ctorIdx)
  | .cons a r => hasLp a || hasLp r
  | _ => false
noncomputable def stepL (d : Nat) (x : Exs) (c : Cx) (X : XP) (t : T) (ρ : Rho) (σ : Led) (K : Fl → Rho → Led → Prop) : Prop := match t with
  | .nil => K .next ρ σ
  | .cons s r => (match hasLp s with
    | false => stepS d x c X s ρ σ (then_ K fun ρ₁ σ₁ => x.S c X r ρ₁ σ₁ K)
    | true => stepS d x c X s ρ σ (then_ K fun ρ₁ σ₁ => JB c d X r ρ₁ σ₁ K))
  | _ => False
noncomputable def exZ : Exs := ⟨fun z1 z2 z3 z4 z5 z6 => False, fun z1 z2 z3 z4 z5 z6 => False, fun z1 z2 z3 z4 z5 z6 z7 => False, fun z1 z2 z3 z4 z5 z6 => False⟩
noncomputable def exS (d : Nat) (x : Exs) : Exs := ⟨stepE d x, stepB d x, stepA d x, stepL d x⟩
noncomputable def ex (d : Nat) : Nat → Exs
  | 0 => exZ
  | n + 1 => exS d (ex d n)
end Mine
end

section
set_option Elab.async false
set_option linter.unusedVariables false
set_option linter.unusedSimpArgs false
namespace Mine
open PySem
variable {c : Cx} {d : Nat} {σ : Led} {P P' : V → Led → Prop} {X : XP} {ρ : Rho} {K K' : Fl → Rho → Led → Prop}

theorem intC_out {op : CmpOp} {k : Int → Int → Prop} {a b : V} (hr : ∀ x y, k x y → Op2 c d (compareOp op) (.int x) (.int y) σ P) (h : intC c d op k a b σ P) : Op2 c d (compareOp op) a b σ P := by
  cases a with
  | int x => cases b with
    | int y => exact hr x y h
    | _ => exact Leaf.out h
  | _ => exact Leaf.out h
theorem eqC_out {op : CmpOp} {k₁ : Int → Int → Prop} {k₂ : Str → Str → Prop} {k₃ : Bool → Bool → Prop} {a b : V} (h1 : ∀ x y : Int, k₁ x y → Op2 c d (compareOp op) (.int x) (.int y) σ P) (h2 : ∀ x y : Str, k₂ x y → Op2 c d (compareOp op) (.str x) (.str y) σ P)
    (h3 : ∀ x y : Bool, k₃ x y → Op2 c d (compareOp op) (.bool x) (.bool y) σ P) (h : eqC c d op k₁ k₂ k₃ a b σ P) : Op2 c d (compareOp op) a b σ P := by
  cases a with
  | int x => cases b with
    | int y => exact h1 x y h
    | _ => exact Leaf.out h
  | str x => cases b with
    | str y => exact h2 x y h
    | _ => exact Leaf.out h
  | bool x => cases b with
    | bool y => exact h3 x y h
    | _ => exact Leaf.out h
  | _ => exact Leaf.out h
theorem inC_out {op : CmpOp} {k : Str → Str → Prop} {a b : V} (hr : ∀ x y : Str, k x y → Op2 c d (compareOp op) (.str y) (.str x) σ P) (h : inC c d op k a b σ P) : Op2 c d (compareOp op) a b σ P := by
  cases a with
  | str x => cases b with
    | str y => exact hr y x h
    | _ => exact Leaf.out h
  | _ => exact Leaf.out h
theorem opC_out {op : CmpOp} {a b : V} (h : opC c d op a b σ P) : Op2 c d (compareOp op) a b σ P := by
  cases op with
  | Eq => exact eqC_out (k₁ := fun x y => P (.bool (x == y)) σ) (k₂ := fun x y => P (.bool (x == y)) σ) (k₃ := fun x y => P (.bool (x == y)) σ) (fun z1 z2 h => Cmp_eq h) (fun z1 z2 h => Cmp_eq_str h) (fun z1 z2 h => Cmp_eq_bool h) h
  | NotEq => exact eqC_out (k₁ := fun x y => P (.bool (x != y)) σ) (k₂ := fun x y => P (.bool (x != y)) σ) (k₃ := fun x y => P (.bool (x != y)) σ) (fun z1 z2 h => Cmp_ne h) (fun z1 z2 h => Cmp_ne_str h) (fun z1 z2 h => Cmp_ne_bool h) h
  | Lt => exact intC_out (k := fun x y => P (.bool (decide (x < y))) σ) (fun z1 z2 h => Cmp_lt h) h
  | LtE => exact intC_out (k := fun x y => P (.bool (decide (x ≤ y))) σ) (fun z1 z2 h => Cmp_le h) h
  | Gt => exact intC_out (k := fun x y => P (.bool (decide (y < x))) σ) (fun z1 z2 h => Cmp_gt h) h
  | GtE => exact intC_out (k := fun x y => P (.bool (decide (y ≤ x))) σ) (fun z1 z2 h => Cmp_ge h) h
  | In => exact inC_out (k := fun x y => P (.bool (Txt.contains x y)) σ) (fun z1 z2 h => Cmp_in_str h) h
  | NotIn => exact inC_out (k := fun x y => P (.bool (!Txt.contains x y)) σ) (fun z1 z2 h => Cmp_notIn_str h) h
  | Is => exact Leaf.out h
  | IsNot => exact Leaf.out h
theorem intB_out {op : Operator} {f : Int → Int → Prop} {a b : V} (hr : ∀ x y, b = .int y → f x y → Op2 c d (binaryOp op) (.int x) (.int y) σ P) (h : intB c d op f a b σ P) : Op2 c d (binaryOp op) a b σ P := by
  cases a with
  | int x => cases b with
    | int y => exact hr x y rfl h
    | _ => exact Leaf.out h
  | _ => exact Leaf.out h
theorem opB_out {op : Operator} {a b : V} (h : opB c d op a b σ P) : Op2 c d (binaryOp op) a b σ P := by
  cases op with
  | Add => exact intB_out (f := fun x y => P (.int (x + y)) σ) (fun z1 z2 z3 h => Op_add h) h
  | Sub => exact intB_out (f := fun x y => P (.int (x - y)) σ) (fun z1 z2 z3 h => Op_sub h) h
  | Mult => exact intB_out (fun _ _ _ ⟨h1, h2⟩ => Op_mul h1 h2) h
  | Mod => exact intB_out (fun _ _ _ ⟨h1, h2⟩ => Op_modp h1 h2) h
  | FloorDiv => exact intB_out (fun _ _ _ ⟨h1, h2⟩ => Op_divp h1.1 h1.2 h2) h
  | _ => exact Leaf.out h
theorem opBk_out {op : Operator} {a : V} {k : Int} (h : opBk c d op a k σ P) : Op2 c d (binaryOp op) a (.int k) σ P := by
  cases op with
  | Mult =>
    refine intB_out (f := fun x y => Br (small k) (P (.int (x * k)) σ) (Side (IntMulOk x k) (P (.int (x * k)) σ))) (fun x y e h => ?_) h
    cases e
    cases q : small k with
    | true =>
      rw [q] at h
      obtain ⟨q1, q2⟩ := and_tt q
      exact Op_mul (mulOk_right (of_decide_eq_true q1) (of_decide_eq_true q2)) h
    | false => rw [q] at h; obtain ⟨h1, h2⟩ := (show Side _ _ from h); exact Op_mul h1 h2
  | Mod =>
    refine intB_out (f := fun x y => Br (decide (0 < k)) (P (.int (x % k)) σ) (Side (0 < k) (P (.int (x % k)) σ))) (fun x y e h => ?_) h
    cases e
    cases q : decide (0 < k) with
    | true => rw [q] at h; exact Op_modp (of_decide_eq_true q) h
    | false => rw [q] at h; obtain ⟨h1, h2⟩ := (show Side _ _ from h); exact Op_modp h1 h2
  | FloorDiv =>
    refine intB_out (f := fun x y => Br (decide (0 < k) && decide (k < 9223372036854775808)) (P (.int (x / k)) σ) (Side (0 < k ∧ k < 9223372036854775808) (P (.int (x / k)) σ))) (fun x y e h => ?_) h
    cases e
    cases q : (decide (0 < k) && decide (k < 9223372036854775808)) with
    | true =>
      rw [q] at h
      obtain ⟨q1, q2⟩ := and_tt q
      exact Op_divp (of_decide_eq_true q1) (of_decide_eq_true q2) h
    | false => rw [q] at h; obtain ⟨h1, h2⟩ := (show Side _ _ from h); exact Op_divp h1.1 h1.2 h2
  | Pow =>
    refine intB_out (f := fun x y => Br (k == 12 && x == 10) (P (.int 1000000000000) σ) (Leaf (Op2 c d (binaryOp .Pow) (.int x) (.int k) σ P))) (fun x y e h => ?_) h
    cases e
    cases q : (k == 12 && x == 10) with
    | true =>
      rw [q] at h
      obtain ⟨q1, q2⟩ := and_tt q
      rw [eq_of_beq q1, eq_of_beq q2]; exact Op_pow12 h
    | false => rw [q] at h; exact Leaf.out h
  | _ => exact opB_out h
theorem opU_out {op : UnaryOp} {a : V} (h : opU c d op a σ P) : Op1 c d (unaryOp op) a σ P := by
  cases op with
  | USub => cases a with
    | int x => exact Op_neg h
    | _ => exact Leaf.out h
  | Not => cases a with
    | bool x => exact Op_not h
    | _ => exact Leaf.out h
  | _ => exact Leaf.out h
theorem asB_out {v : V} {P : Bool → Led → Prop} (h : asB v σ P) : ∃ b, v = .bool b ∧ P b σ := by
  cases v with
  | bool b => exact ⟨b, rfl, h⟩
  | _ => exact Leaf.out h
theorem asI_out {v : V} {P : Option Int → Led → Prop} (h : asI v σ P) : ∃ i, v = .int i ∧ P (some i) σ := by
  cases v with
  | int b => exact ⟨b, rfl, h⟩
  | _ => exact Leaf.out h
theorem opI_out {f : Bf} {v : V} (h : opI c d X f v σ P) : CallS c d (.builtin "isinstance") [v, .raw f.val] σ P X := by
  cases v with
  | bool b => cases f with
    | bool => exact Isi_bool_bool h
    | int => exact Isi_bool_int h
    | str => exact Isi_bool_str h
    | tuple => exact Isi_bool_tuple h
    | list => exact Isi_bool_list h
    | _ => exact Leaf.out h
  | int b => cases f with
    | bool => exact Isi_int_bool h
    | int => exact Isi_int_int h
    | str => exact Isi_int_str h
    | tuple => exact Isi_int_tuple h
    | list => exact Isi_int_list h
    | _ => exact Leaf.out h
  | str b => cases f with
    | bool => exact Isi_str_bool h
    | int => exact Isi_str_int h
    | str => exact Isi_str_str h
    | tuple => exact Isi_str_tuple h
    | list => exact Isi_str_list h
    | _ => exact Leaf.out h
  | tup b => cases f with
    | bool => exact Isi_tup_bool h
    | int => exact Isi_tup_int h
    | str => exact Isi_tup_str h
    | tuple => exact Isi_tup_tuple h
    | list => exact Isi_tup_list h
    | _ => exact Leaf.out h
  | lst b => cases f with
    | bool => exact Isi_lst_bool (.lst _) h
    | int => exact Isi_lst_int (.lst _) h
    | str => exact Isi_lst_str (.lst _) h
    | tuple => exact Isi_lst_tuple (.lst _) h
    | list => exact Isi_lst_list (.lst _) h
    | _ => exact Leaf.out h
  | _ => exact Leaf.out h
theorem opLen_out {v : V} (h : opLen c d X v σ P) : CallS c d (.builtin "len") [v] σ P X := by
  cases v with
  | lst vs => obtain ⟨n, rfl, h⟩ := Leaf.out h; exact Call_len_lst (.lst _) h
  | tup vs => exact Call_len_tup h
  | str x => obtain ⟨h1, h2⟩ := (show Side _ _ from h); exact Call_len_str h1 h2
  | _ => exact Leaf.out h
theorem one_out {vs : List V} {f : V → Prop} {D : Prop} (h : one vs f D) : (∃ v, vs = [v] ∧ f v) ∨ D := by
  cases vs with
  | nil => exact .inr h
  | cons a r => cases r with
    | nil => exact .inl ⟨a, rfl, h⟩
    | cons _ _ => exact .inr h
theorem two_out {vs : List V} {f : V → V → Prop} {D : Prop} (h : two vs f D) : (∃ a b, vs = [a, b] ∧ f a b) ∨ D := by
  cases vs with
  | nil => exact .inr h
  | cons a r => cases r with
    | nil => exact .inr h
    | cons b r => cases r with
      | nil => exact .inl ⟨a, b, rfl, h⟩
      | cons _ _ => exact .inr h
theorem anInt_out {a : V} {f : Int → Prop} {D : Prop} (h : anInt a f D) : (∃ x, a = .int x ∧ f x) ∨ D := by
  cases a with
  | int x => exact .inl ⟨x, rfl, h⟩
  | _ => exact .inr h
theorem aLst_out {a : V} {f : List V → Prop} {D : Prop} (h : aLst a f D) : (∃ x, a = .lst x ∧ f x) ∨ D := by
  cases a with
  | lst x => exact .inl ⟨x, rfl, h⟩
  | _ => exact .inr h
theorem ints_out {vs : List V} {f : Int → Int → Prop} {D : Prop} (h : two vs (fun a b => anInt a (fun x => anInt b (fun y => f x y) D) D) D) : (∃ x y, vs = [.int x, .int y] ∧ f x y) ∨ D := by
  rcases two_out h with ⟨a, b, rfl, h⟩ | h
  · rcases anInt_out h with ⟨x, rfl, h⟩ | h
    · rcases anInt_out h with ⟨y, rfl, h⟩ | h
      · exact .inl ⟨x, y, rfl, h⟩
      · exact .inr h
    · exact .inr h
  · exact .inr h
theorem lst_out {vs : List V} {f : List V → Prop} {D : Prop} (h : one vs (fun a => aLst a f D) D) : (∃ x, vs = [.lst x] ∧ f x) ∨ D := by
  rcases one_out h with ⟨a, rfl, h⟩ | h
  · rcases aLst_out h with ⟨x, rfl, h⟩ | h
    · exact .inl ⟨x, rfl, h⟩
    · exact .inr h
  · exact .inr h
theorem opF_out (hh : c.k.hd = true) {f : Bf} {vs : List V} (h : opF c d X f vs σ P) : CallS c d f.val vs σ P X := by
  cases f with
  | len =>
    rcases one_out (f := fun v => opLen c d X v σ P) h with ⟨v, rfl, h⟩ | h
    · exact opLen_out h
    · exact Leaf.out h
  | max =>
    rcases ints_out (f := fun x y => P (.int (max x y)) σ) h with ⟨x, y, rfl, h⟩ | h
    · exact Call_max hh h
    · exact Leaf.out h
  | min =>
    rcases ints_out (f := fun x y => P (.int (min x y)) σ) h with ⟨x, y, rfl, h⟩ | h
    · exact Call_min hh h
    · exact Leaf.out h
  | range =>
    rcases one_out (f := fun a => anInt a (fun x => P (.rng 0 x) σ) (Leaf (CallS c d Bf.range.val vs σ P X))) h with ⟨v, rfl, h⟩ | h
    · rcases anInt_out h with ⟨x, rfl, h⟩ | h
      · exact Call_range1 h
      · exact Leaf.out h
    · rcases ints_out (f := fun x y => P (.rng x y) σ) h with ⟨x, y, rfl, h⟩ | h
      · exact Call_range2 h
      · exact Leaf.out h
  | list =>
    rcases lst_out (f := fun ws => P (.lst ws) σ) h with ⟨x, rfl, h⟩ | h
    · exact Call_list (.lst _) h
    · exact Leaf.out h
  | sum =>
    rcases lst_out (f := fun ws => Leaf (∃ ys : List Int, ws = ys.map .int ∧ P (.int ys.sum) σ)) h with ⟨x, rfl, h⟩ | h
    · obtain ⟨ys, rfl, w⟩ := Leaf.out h; exact Call_sum hh (.lst _) w
    · exact Leaf.out h
  | all =>
    rcases lst_out (f := fun ws => Leaf (∃ bs : List Bool, ws = bs.map .bool ∧ P (.bool (bs.all id)) σ)) h with ⟨x, rfl, h⟩ | h
    · obtain ⟨ys, rfl, w⟩ := Leaf.out h; exact Call_all hh (.lst _) w
    · exact Leaf.out h
  | _ => exact Leaf.out h
theorem Item_tup {vs : List V} {k : Int} {w : V} (h0 : 0 ≤ k) (hw : vs[k.toNat]? = some w) (h : P w σ) : Item c d (.tup vs) (.int k) σ P := fun v i hi => Op_titem h0 hw h (fun o x => index_no hi o x)
theorem Item_lst {lv : V} {vs : List V} {k : Int} {w : V} (hl : IsLst σ lv vs) (h0 : 0 ≤ k) (hw : vs[k.toNat]? = some w) (h : P w σ) : Item c d lv (.int k) σ P := fun v i hi => Op_item hl h0 hw h (fun o x => index_no hi o x)
theorem Item_str {x : Str} {k : Int} {n : Nat} (h0 : 0 ≤ k) (hk : x.cps[k.toNat]? = some n) (hn : k < 2 ^ 62) (h : P (.str ⟨#[n]⟩) σ) : Item c d (.str x) (.int k) σ P := fun v i hi => Op_sitem h0 hk hn h (fun o x => index_no hi o x)
theorem opK_out {v : V} {k : Int} (h : opK c d v k σ P) : Item c d v (.int k) σ P := by
  cases v with
  | tup vs =>
    unfold opK at h
    dsimp only at h
    cases q : decide (0 ≤ k) with
    | true =>
      rw [q] at h
      replace h : (match vs[k.toNat]? with
        | some w => P w σ
        | Option.none => False) := h
      split at h
      · exact Item_tup (of_decide_eq_true q) (by assumption) h
      · exact h.elim
    | false => rw [q] at h; exact Leaf.out h
  | _ => exact Leaf.out h
theorem opS_out {v : V} {l u : Option Int} (h : opS v l u σ P) : ∃ w, SliceOf σ l u v w ∧ P w σ := by
  cases v with
  | lst vs => exact ⟨_, .lst (.lst _), h⟩
  | str x => obtain ⟨h1, h2⟩ := (show Side _ _ from h); exact ⟨_, .str h1, h2⟩
  | _ => exact Leaf.out h

structure ExOk (d : Nat) (x : Exs) : Prop where
  E : ∀ {c X t ρ σ P}, x.E c X t ρ σ P → JE c d X t ρ σ P
  B : ∀ {c X t ρ σ P}, x.B c X t ρ σ P → JT c d X t ρ σ P
  A : ∀ {c X t v ρ σ K}, x.A c X t v ρ σ K → JA c d X t v ρ σ K
  S : ∀ {c X t ρ σ K}, x.S c X t ρ σ K → JB c d X t ρ σ K
theorem JL.mono {t : T} {P P' : List V → Led → Prop} (h : JL c d X t ρ σ P) (k : ∀ v σ', P v σ' → P' v σ') : JL c d X t ρ σ P' := fun G N sc e hG hN hc => (h G N sc e hG hN hc).mono k
theorem JT.mono {t : T} {P P' : Bool → Led → Prop} (h : JT c d X t ρ σ P) (k : ∀ v σ', P v σ' → P' v σ') : JT c d X t ρ σ P' := fun G N sc e hG hN hc => (h G N sc e hG hN hc).mono k
theorem JO.mono {t : T} {P P' : Option Int → Led → Prop} (h : JO c d X t ρ σ P) (k : ∀ v σ', P v σ' → P' v σ') : JO c d X t ρ σ P' := fun G N sc e hG hN hc => (h G N sc e hG hN hc).mono k
variable {x : Exs} {t : T}
theorem exL_out (ok : ExOk d x) : ∀ (t : T) {σ : Led} {P : List V → Led → Prop}, exL (x.E c X) ρ t σ P → JL c d X t ρ σ P := fun t => by
  induction t with
  | nil => exact fun h => JL_nil h
  | cons a r _ ih => exact fun h => JL_cons ((ok.E (show x.E c X a ρ _ _ from h)).mono fun v σ₁ q => ih q)
  | _ => exact fun h => h.elim
set_option tactic.hygienic true in
theorem onC_out {t : T} {f : T → T → Prop} (h : onC t f False) : ∃ a r, t = .cons a r ∧ f a r := by
  unfold onC at h
  split at h
  · rename_i q; revert h; exact T.cons.elim (motive := fun t => ∀ h : t.ctorIdx = 1, T.cons.elim (motive := fun z1 => Prop) t h f → ∃ a r, t = .cons a r ∧ f a r) t q (fun a r z1 hk => ⟨a, r, rfl, hk⟩) q
  · exact h.elim
set_option tactic.hygienic true in
theorem exBo_out (ok : ExOk d x) {op : BoolOp} : ∀ (t : T) {σ : Led} {P : V → Led → Prop}, exBo (x.E c X) ρ op t σ P → JBo c d X op t ρ σ P := fun t => by
  induction t with
  | cons a r _ ih =>
    intro σ P h
    unfold exBo at h
    split at h
    · rename_i q
      rw [T.nil.elim (motive := fun r => r = .nil) r q rfl]
      exact JBo_one (ok.E h)
    · obtain ⟨b, r', rfl, h⟩ := onC_out h
      cases op with
      | And =>
        refine JBo_and ((ok.E h).mono fun v σ₁ q => ?_)
        obtain ⟨t, rfl, q⟩ := asB_out q
        refine ⟨t, rfl, ?_⟩
        cases t with
        | true => exact ih q
        | false => exact q
      | Or =>
        refine JBo_or ((ok.E h).mono fun v σ₁ q => ?_)
        obtain ⟨t, rfl, q⟩ := asB_out q
        refine ⟨t, rfl, ?_⟩
        cases t with
        | true => exact q
        | false => exact ih q
  | _ => exact fun h => h.elim
theorem exTs_out (ok : ExOk d x) {op : BoolOp} : ∀ (t : T) {σ : Led} {P : Bool → Led → Prop}, exTs (x.B c X) ρ op t σ P → JTs c d X op t ρ σ P := fun t => by
  induction t with
  | nil =>
    intro σ P h
    cases op with
    | And => exact JTs_and_nil h
    | Or => exact JTs_or_nil h
  | cons a r _ ih =>
    intro σ P h
    have h' := ok.B (show x.B c X a ρ σ _ from h)
    cases op with
    | And =>
      refine JTs_and (h'.mono fun b σ₁ q => ?_)
      cases b with
      | true => exact ih q
      | false => exact q
    | Or =>
      refine JTs_or (h'.mono fun b σ₁ q => ?_)
      cases b with
      | true => exact q
      | false => exact ih q
  | _ => exact fun h => h.elim
theorem exO_out (ok : ExOk d x) {t : T} {P : Option Int → Led → Prop} (h : exO (x.E c X) ρ t σ P) : JO c d X t ρ σ P := by
  cases t with
  | nil => exact JO_nil h
  | int i => exact JO_int (JE_int ⟨i, rfl, h⟩)
  | var i => exact JO_var ((ok.E h).mono fun v σ₁ q => asI_out q)
  | bin o a b => exact JO_bin ((ok.E h).mono fun v σ₁ q => asI_out q)
  | un o a => exact JO_un ((ok.E h).mono fun v σ₁ q => asI_out q)
  | call f a => exact JO_call ((ok.E h).mono fun v σ₁ q => asI_out q)
  | blt f a => exact JO_blt ((ok.E h).mono fun v σ₁ q => asI_out q)
  | _ => exact h.elim
theorem stepE_out (ok : ExOk d x) {t : T} (h : stepE d x c X t ρ σ P) : JE c d X t ρ σ P := by
  cases t with
  | int i => exact JE_int h
  | str i => exact JE_str h
  | bool i => exact JE_bool h
  | none => exact JE_none h
  | var i =>
    unfold stepE at h
    dsimp only at h
    split at h
    · exact JE_var (by assumption) h
    · exact h.elim
  | bin op a b =>
    by_cases hb : ∃ k, b = .int k
    · obtain ⟨k, rfl⟩ := hb
      exact JE_bin ((ok.E h).mono fun u σ₁ q => JE_int (opBk_out q))
    · unfold stepE at h
      dsimp only at h
      split at h
      · exact absurd ⟨_, rfl⟩ hb
      · exact JE_bin ((ok.E h).mono fun u σ₁ q => (ok.E q).mono fun v σ₂ q => opB_out q)
  | un op a => exact JE_un ((ok.E h).mono fun u σ₁ q => opU_out q)
  | cmp op a b => exact JE_cmp ((ok.E h).mono fun u σ₁ q => (ok.E q).mono fun v σ₂ q => opC_out q)
  | cmp2 a o₁ b o₂ b' =>
    refine JE_cmp2 ((ok.E h).mono fun u σ₁ q => (ok.E q).mono fun v σ₂ q => (opC_out q).mono fun w σ₃ q => ?_)
    obtain ⟨t, rfl, q⟩ := asB_out q
    refine ⟨t, rfl, ?_⟩
    cases t with
    | true => exact (ok.E q).mono fun v' σ₅ q => opC_out q
    | false => exact q
  | bo op es => exact JE_bo (exBo_out ok es h)
  | ife t a b =>
    refine JE_ife ((ok.B h).mono fun k σ₁ q => ?_)
    cases k with
    | true => exact ok.E q
    | false => exact ok.E q
  | tup es => exact JE_tup (exL_out ok es h)
  | lst loc es =>
    cases loc with
    | false => exact JE_lst (exL_out ok es h)
    | true => exact JE_loc ((exL_out ok es h).mono fun vs σ₁ q => Leaf.out q)
  | call f es => exact JE_call ((exL_out ok es h).mono fun vs σ₁ q => Leaf.out q)
  | blt f es => exact JE_blt ((exL_out ok es h).mono fun vs σ₁ q hh => opF_out hh q)
  | isi a f => exact JE_isi ((ok.E h).mono fun u σ₁ q => opI_out q)
  | meth o y es => exact JE_meth ((ok.E h).mono fun u σ₁ q => Leaf.out q)
  | item a b =>
    by_cases hb : ∃ k, b = .int k
    · obtain ⟨k, rfl⟩ := hb
      exact JE_item ((ok.E h).mono fun u σ₁ q => JE_int (opK_out q))
    · unfold stepE at h
      dsimp only at h
      split at h
      · exact absurd ⟨_, rfl⟩ hb
      · exact JE_item ((ok.E h).mono fun u σ₁ q => (ok.E q).mono fun v σ₂ q => Leaf.out q)
  | slice a lo hi => exact JE_slice ((ok.E h).mono fun v σ₁ q => (exO_out ok q).mono fun l σ₂ q => (exO_out ok q).mono fun u σ₃ q => opS_out q)
  | dict a b => exact JE_dict (Leaf.out h)
  | cut q => obtain ⟨v, h1, h2⟩ := Leaf.out h; exact JE_cut h1 h2
  | comp loc hb elt t it cond => exact JE_comp ((ok.E h).mono fun lv σ₁ q => Leaf.out q)
  | _ => exact h.elim
theorem stepB_out (ok : ExOk d x) {t : T} {P : Bool → Led → Prop} (h : stepB d x c X t ρ σ P) : JT c d X t ρ σ P := by
  cases t with
  | un op a =>
    cases op with
    | Not => exact JT_not (ok.B h)
    | _ => exact h.elim
  | bo op es => exact JT_bo (exTs_out ok es h)
  | cmp op a b => exact JT_cmp ((ok.E h).mono fun u σ₁ q => (ok.E q).mono fun v σ₂ q => (opC_out q).mono fun w σ₃ q => asB_out q)
  | cmp2 a o₁ b o₂ b' =>
    refine JT_cmp2 ((ok.E h).mono fun u σ₁ q => (ok.E q).mono fun v σ₂ q => (opC_out q).mono fun w σ₃ q => ?_)
    obtain ⟨t, rfl, q⟩ := asB_out q
    refine ⟨t, rfl, ?_⟩
    cases t with
    | true => exact (ok.E q).mono fun v' σ₅ q => (opC_out q).mono fun w σ₆ q => asB_out q
    | false => exact q
  | cut q => obtain ⟨v, h1, h2⟩ := Leaf.out h; exact JT_cut h1 h2
  | var i => exact JT_var ((ok.E h).mono fun v σ₁ q => asB_out q)
  | call f a => exact JT_call ((ok.E h).mono fun v σ₁ q => asB_out q)
  | blt f a => exact JT_blt ((ok.E h).mono fun v σ₁ q => asB_out q)
  | isi a f => exact JT_isi ((ok.E h).mono fun v σ₁ q => asB_out q)
  | meth o y a => exact JT_meth ((ok.E h).mono fun v σ₁ q => asB_out q)
  | item a b => exact JT_item ((ok.E h).mono fun v σ₁ q => asB_out q)
  | _ => exact h.elim
theorem tlen_ok {G : Glob} {N : List Str} {sc : Scope} : ∀ (vs : List V) (t : T) (es : List Expr), tlen vs t = true → chk G N t sc (.tl es) = true → es.length = vs.length
  | [], t, es, h, hc => by
    rw [T.nil.elim (motive := fun t => t = .nil) t (eq_of_beq h) rfl] at hc
    rw [on0_inv (show on0 es = true from hc)]; rfl
  | v :: vs, t, es, h, hc => by
    obtain ⟨a, r, rfl, h⟩ := onC_inv h
    obtain ⟨e, es', rfl, q⟩ := onCons_inv (show onCons es (fun e es => noStar e && es.all noStar && chk G N a sc (.t e) && chk G N r sc (.tl es)) = true from hc)
    rw [List.length_cons, List.length_cons, tlen_ok vs r es' h (and_tt q).2]
theorem exAs_out (ok : ExOk d x) : ∀ (vs : List V) (t : T) {ρ : Rho} {σ : Led} {K : Rho → Led → Prop}, tlen vs t = true → exAs (x.A c X) vs t ρ σ K → JAs c d X t vs ρ σ K
  | [], t, ρ, σ, K, ht, h => by
    rw [T.nil.elim (motive := fun t => t = .nil) t (eq_of_beq ht) rfl]
    exact JAs_nil h
  | v :: vs, t, ρ, σ, K, ht, h => by
    obtain ⟨a, r, rfl, ht⟩ := onC_inv ht
    exact JAs_cons (fun G N sc es hc => tlen_ok vs r es ht hc) ((ok.A h).mono fun ρ₁ σ₁ q => exAs_out ok vs r ht q)
theorem stepA_out (ok : ExOk d x) {t : T} {v : V} {K : Rho → Led → Prop} (h : stepA d x c X t v ρ σ K) : JA c d X t v ρ σ K := by
  cases t with
  | var i => exact JA_var h
  | tup ts =>
    cases v with
    | tup vs =>
      cases q : tlen vs ts with
      | true => exact JA_tup (exAs_out ok vs ts q (by have h' : Br (tlen vs ts) (exAs (x.A c X) vs ts ρ σ K) False := h; rw [q] at h'; exact h'))
      | false => exact (show False by have h' : Br (tlen vs ts) (exAs (x.A c X) vs ts ρ σ K) False := h; rw [q] at h'; exact h').elim
    | _ => exact h.elim
  | item a b => exact JA_item ((ok.E h).mono fun ov σ₁ q => (ok.E q).mono fun iv σ₂ q => Leaf.out q)
  | _ => exact h.elim
theorem stepS_out (ok : ExOk d x) {s : T} (h : stepS d x c X s ρ σ K) : JS c d X s ρ σ K := by
  cases s with
  | ret e => exact JS_ret (ok.E h)
  | ret0 => exact JS_ret0 h
  | pass => exact JS_pass h
  | brk => exact JS_brk h
  | cont => exact JS_cont h
  | expr e => exact JS_expr (ok.E h)
  | asgn t e =>
    cases t with
    | var i => exact JS_asgn stores_var ((ok.E h).mono fun v σ₁ q => JA_var q)
    | item a b => exact JS_asgn stores_item ((ok.E h).mono fun v σ₁ q => ok.A q)
    | tup ts =>
      cases e with
      | item a b => exact JS_asgn stores_tupI ((ok.E h).mono fun v σ₁ q => ok.A q)
      | _ => exact h.elim
    | _ => exact h.elim
  | asgnC i loc hb elt t it cond => exact JS_asgnC ((ok.E h).mono fun lv σ₁ q => Leaf.out q)
  | ite t a b =>
    refine JS_ite ((ok.B h).mono fun k σ₁ q => ?_)
    cases k with
    | true => exact ok.S q
    | false => exact ok.S q
  | for_ t it body => exact JS_for ((ok.E h).mono fun lv σ₁ q => Leaf.out q)
  | _ => exact h.elim
theorem JS.mono {t : T} (h : JS c d X t ρ σ K) (k : ∀ f ρ' σ', K f ρ' σ' → K' f ρ' σ') : JS c d X t ρ σ K' := fun G N sc e hG hN hc => (h G N sc e hG hN hc).mono fun f m' σ' ⟨ρ', q1, q2⟩ => ⟨ρ', q1, k _ _ _ q2⟩
theorem stepL_out (ok : ExOk d x) {t : T} (h : stepL d x c X t ρ σ K) : JB c d X t ρ σ K := by
  cases t with
  | nil => exact JB_nil h
  | cons s r =>
    cases hb : hasLp s with
    | false =>
      replace h : stepS d x c X s ρ σ (then_ K fun ρ₁ σ₁ => x.S c X r ρ₁ σ₁ K) := by
        have h' : (match hasLp s with
          | false => stepS d x c X s ρ σ (then_ K fun ρ₁ σ₁ => x.S c X r ρ₁ σ₁ K)
          | true => stepS d x c X s ρ σ (then_ K fun ρ₁ σ₁ => JB c d X r ρ₁ σ₁ K)) := h
        rw [hb] at h'; exact h'
      refine JB_cons ((stepS_out ok h).mono fun f ρ₁ σ₁ q => ?_)
      cases f with
      | next => exact ok.S q
      | brk => exact q
      | cont => exact q
      | ret v => exact q
    | true =>
      refine JB_cons (stepS_out ok ?_)
      have h' : (match hasLp s with
        | false => stepS d x c X s ρ σ (then_ K fun ρ₁ σ₁ => x.S c X r ρ₁ σ₁ K)
        | true => stepS d x c X s ρ σ (then_ K fun ρ₁ σ₁ => JB c d X r ρ₁ σ₁ K)) := h
      rw [hb] at h'; exact h'
  | _ => exact h.elim
theorem ex_ok (d : Nat) : ∀ n, ExOk d (ex d n)
  | 0 => ⟨fun h => h.elim, fun h => h.elim, fun h => h.elim, fun h => h.elim⟩
  | n + 1 => ⟨fun h => stepE_out (ex_ok d n) h, fun h => stepB_out (ex_ok d n) h, fun h => stepA_out (ex_ok d n) h, fun h => stepL_out (ex_ok d n) h⟩
theorem JB_go (h : (ex d 100).S c X t ρ σ K) : JB c d X t ρ σ K := (ex_ok d 100).S h
theorem JE_go (h : (ex d 100).E c X t ρ σ P) : JE c d X t ρ σ P := (ex_ok d 100).E h
theorem JT_go {P : Bool → Led → Prop} (h : (ex d 100).B c X t ρ σ P) : JT c d X t ρ σ P := (ex_ok d 100).B h
theorem JAB_go {X' : XP} {v : V} {t' : T} (h : (ex d 100).A c X t v ρ σ (fun ρ₁ σ₁ => (ex d 100).S c X' t' ρ₁ σ₁ K)) : JA c d X t v ρ σ (fun ρ₁ σ₁ => JB c d X' t' ρ₁ σ₁ K) := ((ex_ok d 100).A h).mono fun z1 z2 q => (ex_ok d 100).S q
theorem JL_go {P : List V → Led → Prop} (h : exL ((ex d 100).E c X) ρ t σ P) : JL c d X t ρ σ P := exL_out (ex_ok d 100) t h
end Mine
end

section
set_option Elab.async false
namespace Mine
open PySem
-- is_whole
noncomputable def t_is_whole : T := (.cons (.ret (.bo .And (.cons (.isi (.var 0) .int) (.cons (.un .Not (.isi (.var 0) .bool)) .nil)))) .nil)
noncomputable def n_is_whole : List Str := ["thing"]
-- is_ware
noncomputable def t_is_ware_e1 : T := (.cmp .In (.var 1) (.str "abcdefghijklmnopqrstuvwxyz"))
noncomputable def t_is_ware : T := (.cons (.ite (.bo .Or (.cons (.un .Not (.isi (.var 0) .str)) (.cons (.un .Not (.cmp2 (.int 1) .LtE (.blt .len (.cons (.var 0) .nil)) .LtE (.int 12))) .nil))) (.cons (.ret (.bool false)) .nil) .nil) (.cons (.ret (.blt .all (.cons (.comp false false t_is_ware_e1 (.var 1) (.var 0) .nil) .nil))) .nil))
noncomputable def n_is_ware : List Str := ["thing", "sign"]
-- is_day
noncomputable def t_is_day : T := (.cons (.ret (.bo .And (.cons (.call "is_whole" (.cons (.var 0) .nil)) (.cons (.cmp2 (.int 0) .LtE (.var 0) .LtE (.int 1000000000000)) .nil)))) .nil)
noncomputable def n_is_day : List Str := ["thing"]
-- is_count
noncomputable def t_is_count : T := (.cons (.ret (.bo .And (.cons (.call "is_whole" (.cons (.var 0) .nil)) (.cons (.cmp2 (.int 1) .LtE (.var 0) .LtE (.int 1000000000000)) .nil)))) .nil)
noncomputable def n_is_count : List Str := ["thing"]
-- is_lot
noncomputable def t_is_lot : T := (.cons (.ite (.bo .Or (.cons (.un .Not (.isi (.var 0) .tuple)) (.cons (.cmp .NotEq (.blt .len (.cons (.var 0) .nil)) (.int 3)) .nil))) (.cons (.ret (.bool false)) .nil) .nil) (.cons (.ret (.bo .And (.cons (.call "is_ware" (.cons (.item (.var 0) (.int 0)) .nil)) (.cons (.call "is_day" (.cons (.item (.var 0) (.int 1)) .nil)) (.cons (.call "is_count" (.cons (.item (.var 0) (.int 2)) .nil)) .nil))))) .nil))
noncomputable def n_is_lot : List Str := ["thing"]
-- is_line
noncomputable def t_is_line : T := (.cons (.ite (.bo .Or (.cons (.un .Not (.isi (.var 0) .tuple)) (.cons (.cmp .NotEq (.blt .len (.cons (.var 0) .nil)) (.int 4)) .nil))) (.cons (.ret (.bool false)) .nil) .nil) (.cons (.ret (.bo .And (.cons (.call "is_ware" (.cons (.item (.var 0) (.int 0)) .nil)) (.cons (.call "is_day" (.cons (.item (.var 0) (.int 1)) .nil)) (.cons (.call "is_day" (.cons (.item (.var 0) (.int 2)) .nil)) (.cons (.call "is_count" (.cons (.item (.var 0) (.int 3)) .nil)) .nil)))))) .nil))
noncomputable def n_is_line : List Str := ["thing"]
-- need
noncomputable def t_need : T := (.cons (.ret (.bin .Add (.item (.var 0) (.int 1)) (.item (.var 0) (.int 2)))) .nil)
noncomputable def n_need : List Str := ["line"]
-- good
noncomputable def t_good : T := (.cons (.ret (.bo .And (.cons (.cmp .Eq (.item (.var 0) (.int 0)) (.item (.var 1) (.int 0))) (.cons (.cmp .GtE (.item (.var 0) (.int 1)) (.call "need" (.cons (.var 1) .nil))) .nil)))) .nil)
noncomputable def n_good : List Str := ["lot", "line"]
-- need_rows
noncomputable def t_need_rows_e1 : T := (.call "is_lot" (.cons (.var 2) .nil))
noncomputable def t_need_rows_e2 : T := (.call "is_line" (.cons (.var 3) .nil))
noncomputable def t_need_rows : T := (.cons (.ite (.bo .Or (.cons (.un .Not (.isi (.var 0) .list)) (.cons (.cmp .Gt (.blt .len (.cons (.var 0) .nil)) (.int 100)) (.cons (.un .Not (.blt .all (.cons (.comp false false t_need_rows_e1 (.var 2) (.var 0) .nil) .nil))) .nil)))) (.cons (.raise "BadLot" (.cons (.str "no list of lots") .nil)) .nil) .nil) (.cons (.ite (.bo .Or (.cons (.un .Not (.isi (.var 1) .list)) (.cons (.cmp .Gt (.blt .len (.cons (.var 1) .nil)) (.int 100)) (.cons (.un .Not (.blt .all (.cons (.comp false false t_need_rows_e2 (.var 3) (.var 1) .nil) .nil))) .nil)))) (.cons (.raise "BadLine" (.cons (.str "no list of lines") .nil)) .nil) .nil) .nil))
noncomputable def n_need_rows : List Str := ["lots", "lines", "lot", "line"]
-- is_triple
-- keeps
-- holds
-- short
-- left
-- limit_of
noncomputable def t_limit_of_e1 : T := (.item (.var 4) (.int 3))
noncomputable def t_limit_of_c1 : T := (.bo .And (.cons (.cmp .Eq (.item (.var 4) (.int 0)) (.var 2)) (.cons (.cmp .Lt (.call "need" (.cons (.var 4) .nil)) (.var 3)) .nil)))
noncomputable def t_limit_of_e2 : T := (.item (.var 6) (.int 2))
noncomputable def t_limit_of_c2 : T := (.bo .And (.cons (.cmp .Eq (.item (.var 6) (.int 0)) (.var 2)) (.cons (.cmp .GtE (.item (.var 6) (.int 1)) (.var 3)) .nil)))
noncomputable def t_limit_of : T := (.cons (.asgn (.var 5) (.blt .sum (.cons (.comp false true t_limit_of_e1 (.var 4) (.var 1) t_limit_of_c1) .nil))) (.cons (.ret (.bin .Add (.var 5) (.blt .sum (.cons (.comp false true t_limit_of_e2 (.var 6) (.var 0) t_limit_of_c2) .nil)))) .nil))
noncomputable def n_limit_of : List Str := ["lots", "lines", "ware", "day", "line", "early", "lot"]
-- limit
-- bar_of
noncomputable def t_bar_of_e1 : T := (.bin .Add (.item (.var 5) (.int 1)) (.int 1))
noncomputable def t_bar_of_c1 : T := (.cmp .Eq (.item (.var 5) (.int 0)) (.var 2))
noncomputable def t_bar_of_b1 : T := (.cons (.asgn (.var 7) (.call "limit_of" (.cons (.var 0) (.cons (.var 1) (.cons (.var 2) (.cons (.var 6) .nil)))))) (.cons (.ite (.cmp .Lt (.var 7) (.var 4)) (.cons (.asgn (.var 3) (.var 6)) (.cons (.asgn (.var 4) (.var 7)) .nil)) .nil) .nil))
noncomputable def t_bar_of : T := (.cons (.asgn (.var 3) (.int 0)) (.cons (.asgn (.var 4) (.call "limit_of" (.cons (.var 0) (.cons (.var 1) (.cons (.var 2) (.cons (.int 0) .nil)))))) (.cons (.for_ (.var 6) (.blt .sorted (.cons (.comp false true t_bar_of_e1 (.var 5) (.var 0) t_bar_of_c1) .nil)) t_bar_of_b1) (.cons (.ret (.var 3)) .nil))))
noncomputable def n_bar_of : List Str := ["lots", "lines", "ware", "bar", "least", "lot", "day", "here"]
-- bars
noncomputable def t_bars_b1 : T := (.cons (.asgn (.item (.var 2) (.item (.var 3) (.int 0))) (.bool true)) .nil)
noncomputable def t_bars_e1 : T := (.tup (.cons (.var 4) (.cons (.call "bar_of" (.cons (.var 0) (.cons (.var 1) (.cons (.var 4) .nil)))) .nil)))
noncomputable def t_bars : T := (.cons (.expr (.call "need_rows" (.cons (.var 0) (.cons (.var 1) .nil)))) (.cons (.asgn (.var 2) (.dict .none .nil)) (.cons (.for_ (.var 3) (.bin .Add (.var 0) (.var 1)) t_bars_b1) (.cons (.ret (.comp false false t_bars_e1 (.var 4) (.blt .sorted (.cons (.var 2) .nil)) .nil)) .nil))))
noncomputable def n_bars : List Str := ["lots", "lines", "wares", "row", "ware"]
-- best
noncomputable def t_best_e1 : T := (.item (.var 2) (.int 2))
noncomputable def t_best_e2 : T := (.tup (.cons (.item (.item (.var 0) (.var 4)) (.int 1)) (.cons (.var 4) .nil)))
noncomputable def t_best_e3 : T := (.tup (.cons (.un .USub (.call "need" (.cons (.item (.var 1) (.var 4)) .nil))) (.cons (.var 4) .nil)))
noncomputable def t_best_b1 : T := (.cons (.asgn (.var 11) (.blt .min (.cons (.var 9) (.cons (.item (.var 3) (.var 2)) .nil)))) (.cons (.ite (.bo .And (.cons (.cmp .Gt (.var 11) (.int 0)) (.cons (.call "good" (.cons (.item (.var 0) (.var 2)) (.cons (.item (.var 1) (.var 8)) .nil))) .nil))) (.cons (.expr (.meth (.var 6) "append" (.cons (.tup (.cons (.var 8) (.cons (.var 2) (.cons (.var 11) .nil)))) .nil))) (.cons (.asgn (.var 9) (.bin .Sub (.var 9) (.var 11))) (.cons (.asgn (.item (.var 3) (.var 2)) (.bin .Sub (.item (.var 3) (.var 2)) (.var 11))) .nil))) .nil) .nil))
noncomputable def t_best_b2 : T := (.cons (.asgn (.var 9) (.item (.item (.var 1) (.var 8)) (.int 3))) (.cons (.for_ (.tup (.cons (.var 10) (.cons (.var 2) .nil))) (.var 5) t_best_b1) .nil))
noncomputable def t_best : T := (.cons (.expr (.call "need_rows" (.cons (.var 0) (.cons (.var 1) .nil)))) (.cons (.asgnC 3 true false t_best_e1 (.var 2) (.var 0) .nil) (.cons (.asgn (.var 5) (.blt .sorted (.cons (.comp false false t_best_e2 (.var 4) (.blt .range (.cons (.blt .len (.cons (.var 0) .nil)) .nil)) .nil) .nil))) (.cons (.asgn (.var 6) (.lst true .nil)) (.cons (.for_ (.tup (.cons (.var 7) (.cons (.var 8) .nil))) (.blt .sorted (.cons (.comp false false t_best_e3 (.var 4) (.blt .range (.cons (.blt .len (.cons (.var 1) .nil)) .nil)) .nil) .nil)) t_best_b2) (.cons (.ret (.blt .sorted (.cons (.var 6) .nil))) .nil))))))
noncomputable def n_best : List Str := ["lots", "lines", "lot", "rest", "place", "rows", "found", "turned", "line", "wanted", "last", "count"]
-- _law_at
noncomputable def t_law_at : T := (.cons (.ite (.cmp .Lt (.var 1) (.blt .len (.cons (.var 0) .nil))) (.cons (.ret (.item (.var 0) (.var 1))) .nil) .nil) (.cons (.ret (.int 0)) .nil))
noncomputable def n_law_at : List Str := ["_law_script", "_law_k"]
-- _law_whole
noncomputable def t_law_whole : T := (.cons (.ret (.bo .And (.cons (.isi (.var 0) .int) (.cons (.un .Not (.isi (.var 0) .bool)) .nil)))) .nil)
noncomputable def n_law_whole : List Str := ["_law_found"]
-- _law_word
noncomputable def t_law_word_e1 : T := (.item (.var 2) (.bin .Mod (.bin .Add (.var 0) (.bin .Mult (.var 5) (.var 4))) (.int 26)))
noncomputable def t_law_word : T := (.cons (.asgn (.var 2) (.str "abcdefghijklmnopqrstuvwxyz")) (.cons (.asgn (.var 3) (.bin .Add (.int 1) (.bin .Mod (.bin .FloorDiv (.var 0) (.int 26)) (.int 12)))) (.cons (.asgn (.var 4) (.bin .Add (.int 1) (.bin .Mod (.bin .FloorDiv (.var 0) (.int 312)) (.int 25)))) (.cons (.asgn (.var 6) (.meth (.str "") "join" (.cons (.comp false false t_law_word_e1 (.var 5) (.blt .range (.cons (.var 3) .nil)) .nil) .nil))) (.cons (.asgn (.var 7) (.bin .Mod (.bin .FloorDiv (.var 0) (.int 5)) (.var 3))) (.cons (.ite (.cmp .Eq (.bin .Mod (.var 0) (.int 4)) (.int 0)) (.cons (.ret (.slice (.var 6) .nil (.blt .max (.cons (.int 1) (.cons (.bin .Sub (.var 3) (.var 1)) .nil))))) .nil) .nil) (.cons (.ret (.bin .Add (.bin .Add (.slice (.var 6) .nil (.var 7)) (.item (.var 2) (.bin .Mod (.bin .Add (.var 0) (.bin .Mult (.int 5) (.var 1))) (.int 26)))) (.slice (.var 6) (.bin .Add (.var 7) (.int 1)) .nil))) .nil)))))))
noncomputable def n_law_word : List Str := ["_law_cell", "_law_k", "_law_letters", "_law_size", "_law_step", "_law_at_here", "_law_word_here", "_law_place"]
-- _law_mixed
noncomputable def t_law_mixed : T := (.cons (.ret (.bin .FloorDiv (.bin .Pow (.bin .Add (.bin .Mult (.var 0) (.int 48271)) (.bin .Mult (.int 7919) (.var 1))) (.int 3)) (.int 11))) .nil)
noncomputable def n_law_mixed : List Str := ["_law_cell", "_law_k"]
-- _law_day
noncomputable def t_law_day : T := (.cons (.ite (.cmp .Eq (.bin .Mod (.var 0) (.int 16)) (.int 0)) (.cons (.ret (.bin .Sub (.bin .Pow (.int 10) (.int 12)) (.bin .Mod (.bin .FloorDiv (.var 0) (.int 16)) (.int 3)))) .nil) .nil) (.cons (.ite (.cmp .Eq (.bin .Mod (.var 0) (.int 16)) (.int 1)) (.cons (.ret (.bin .Mod (.bin .FloorDiv (.var 0) (.int 16)) (.bin .Add (.bin .Pow (.int 10) (.int 12)) (.int 1)))) .nil) .nil) (.cons (.ite (.cmp .Eq (.bin .Mod (.var 0) (.int 16)) (.int 2)) (.cons (.ret (.bin .Mod (.bin .FloorDiv (.var 0) (.int 16)) (.int 1000))) .nil) .nil) (.cons (.ret (.bin .Mod (.bin .FloorDiv (.var 0) (.int 16)) (.int 12))) .nil))))
noncomputable def n_law_day : List Str := ["_law_mixed_here"]
-- _law_count
noncomputable def t_law_count : T := (.cons (.ite (.cmp .Eq (.bin .Mod (.var 0) (.int 16)) (.int 0)) (.cons (.ret (.bin .Add (.int 1) (.bin .Mod (.bin .FloorDiv (.var 0) (.int 16)) (.bin .Pow (.int 10) (.int 12))))) .nil) .nil) (.cons (.ite (.cmp .Eq (.bin .Mod (.var 0) (.int 16)) (.int 1)) (.cons (.ret (.bin .Add (.int 1) (.bin .Mod (.bin .FloorDiv (.var 0) (.int 16)) (.int 1000)))) .nil) .nil) (.cons (.ret (.bin .Add (.int 1) (.bin .Mod (.bin .FloorDiv (.var 0) (.int 16)) (.int 6)))) .nil)))
noncomputable def n_law_count : List Str := ["_law_mixed_here"]
-- _law_lot
noncomputable def t_law_lot : T := (.cons (.asgn (.var 2) (.call "_law_word" (.cons (.var 1) (.cons (.bin .Mod (.call "_law_mixed" (.cons (.var 0) (.cons (.int 1) .nil))) (.int 3)) .nil)))) (.cons (.ret (.tup (.cons (.var 2) (.cons (.call "_law_day" (.cons (.call "_law_mixed" (.cons (.var 0) (.cons (.int 2) .nil))) .nil)) (.cons (.call "_law_count" (.cons (.call "_law_mixed" (.cons (.var 0) (.cons (.int 3) .nil))) .nil)) .nil))))) .nil))
noncomputable def n_law_lot : List Str := ["_law_cell", "_law_base", "_law_ware"]
-- _law_line
noncomputable def t_law_line : T := (.cons (.asgn (.var 2) (.call "_law_word" (.cons (.var 1) (.cons (.bin .Mod (.call "_law_mixed" (.cons (.var 0) (.cons (.int 4) .nil))) (.int 3)) .nil)))) (.cons (.asgn (.var 3) (.bin .Mod (.bin .FloorDiv (.call "_law_mixed" (.cons (.var 0) (.cons (.int 5) .nil))) (.int 8)) (.int 5))) (.cons (.ite (.cmp .Eq (.bin .Mod (.call "_law_mixed" (.cons (.var 0) (.cons (.int 5) .nil))) (.int 8)) (.int 0)) (.cons (.asgn (.var 3) (.call "_law_day" (.cons (.call "_law_mixed" (.cons (.var 0) (.cons (.int 6) .nil))) .nil))) .nil) .nil) (.cons (.ret (.tup (.cons (.var 2) (.cons (.call "_law_day" (.cons (.call "_law_mixed" (.cons (.var 0) (.cons (.int 7) .nil))) .nil)) (.cons (.var 3) (.cons (.call "_law_count" (.cons (.call "_law_mixed" (.cons (.var 0) (.cons (.int 8) .nil))) .nil)) .nil)))))) .nil))))
noncomputable def n_law_line : List Str := ["_law_cell", "_law_base", "_law_ware", "_law_over"]
-- _law_drawn
-- _law_triple
noncomputable def t_law_triple_e1 : T := (.int 1)
noncomputable def t_law_triple_c1 : T := (.un .Not (.call "_law_whole" (.cons (.var 3) .nil)))
noncomputable def t_law_triple : T := (.cons (.ite (.bo .Or (.cons (.un .Not (.isi (.var 0) .tuple)) (.cons (.cmp .NotEq (.blt .len (.cons (.var 0) .nil)) (.int 3)) (.cons (.cmp .Gt (.blt .len (.cons (.comp false true t_law_triple_e1 (.var 3) (.var 0) t_law_triple_c1) .nil)) (.int 0)) .nil)))) (.cons (.ret (.bool false)) .nil) .nil) (.cons (.ite (.bo .Or (.cons (.un .Not (.cmp2 (.int 0) .LtE (.item (.var 0) (.int 0)) .Lt (.blt .len (.cons (.var 2) .nil)))) (.cons (.un .Not (.cmp2 (.int 0) .LtE (.item (.var 0) (.int 1)) .Lt (.blt .len (.cons (.var 1) .nil)))) (.cons (.cmp .Lt (.item (.var 0) (.int 2)) (.int 1)) .nil)))) (.cons (.ret (.bool false)) .nil) .nil) (.cons (.asgn (.var 4) (.item (.var 1) (.item (.var 0) (.int 1)))) (.cons (.asgn (.var 5) (.item (.var 2) (.item (.var 0) (.int 0)))) (.cons (.ret (.bo .And (.cons (.cmp .Eq (.item (.var 4) (.int 0)) (.item (.var 5) (.int 0))) (.cons (.cmp .GtE (.item (.var 4) (.int 1)) (.bin .Add (.item (.var 5) (.int 1)) (.item (.var 5) (.int 2)))) .nil)))) .nil)))))
noncomputable def n_law_triple : List Str := ["_law_row", "_law_lots", "_law_lines", "_law_part", "_law_lot_here", "_law_line_here"]
-- _law_later
-- _law_over
end Mine
end

section
set_option Elab.async false
set_option linter.unusedVariables false
set_option linter.unusedSimpArgs false
namespace Mine
open PySem
variable {c : Cx} {d : Nat} {σ : Led} {P P' : V → Led → Prop} {X : XP} {ρ : Rho} {K K' : Fl → Rho → Led → Prop} {N : List Str}

noncomputable def args : Nat → List V → Rho
  | _, [] => []
  | i, v :: vs => (i, v) :: args (i + 1) vs
theorem nm_args : ∀ (vs : List V) (i : Nat), i + vs.length ≤ N.length → Nm N (args i vs) = ((N.drop i).take vs.length).zip vs
  | [], i, _ => by simp [args, Nm]
  | v :: vs, i, h => by
    rw [List.length_cons] at h
    have hi : i < N.length := by lia
    have hx : N[i]? = some N[i] := List.getElem?_eq_getElem hi
    show Nm N ((i, v) :: args (i + 1) vs) = _
    rw [nm_cons hx, nm_args vs (i + 1) (by lia), List.drop_eq_getElem_cons hi, List.length_cons, List.take_succ_cons, List.zip_cons_cons]
structure FnT (k : Base) (x : Str) (np : Nat) (t : T) : Prop where
  ex : ∃ st G N, Fn k x st ∧ GlobOk k G ∧ NmOk N ∧ namesS st = N.take np ∧ np ≤ N.length ∧ scOk (scS st) (namesS st) = true ∧ chk G N t (scS st) (.b (bodyS st)) = true
noncomputable def RetT (P : V → Led → Prop) : Fl → Rho → Led → Prop := fun f z1 σ => Ret P f [] σ
theorem Ret_env {f : Fl} {m m' : AEnv} (h : Ret P f m σ) : Ret P f m' σ := by
  cases f <;> exact h
theorem CallN_J {x : Str} {vs : List V} {t : T} (hf : FnT c.k x vs.length t) (h : JB c d NoX t (args 0 vs) σ (RetT P)) : CallN c (d + 1) x vs σ P X := by
  obtain ⟨st, G, N, h1, h2, h3, h4, h5, h6, h7⟩ := hf.ex
  refine CallN_def (m₀ := (namesS st).zip vs) h2.ok h1 ?_ h6 (by rw [h4, List.length_take]; lia) rfl
  have := h G N (scS st) (bodyS st) h2 h3 h7
  rw [nm_args vs 0 (by lia), List.drop_zero, ← h4] at this
  exact this.mono fun f m' σ' ⟨ρ', _, q⟩ => Ret_env q
theorem call_go {x : Str} {vs : List V} {t : T} (hf : FnT c.k x vs.length t) (h : (ex d 100).S c NoX t (args 0 vs) σ (RetT P)) : CallN c (d + 1) x vs σ P X := CallN_J hf (JB_go h)

theorem made_f {F : List Addr} {ws : List V} (h : P (.lst ws) σ) : Made F false P ws σ := h
theorem made_t {F : List Addr} {ws : List V} (h : ∀ a, a ∉ owned σ → a ∉ F → P (.ref a) ((a, .list ws) :: σ)) : Made F true P ws σ := h
theorem ret_keep {v : V} (h : P v σ) : Ret P (.ret v) [] σ := ⟨v, σ, .keep (.refl _), h⟩
theorem ret_next (h : P .none σ) : Ret P .next [] σ := ⟨σ, .refl _, h⟩
theorem ret_drop {v : V} {σ' : Led} (k : σ.Sublist σ') (h : P v σ) : Ret P (.ret v) [] σ' := ⟨v, σ, .keep k, h⟩
theorem jcomp_map {t elt : T} {Kf : List V → Led → Prop} {α : Type} (e f : α → V) : ∀ (rows : List α) (acc : List V), (∀ a ∈ rows, ∃ ρ₁, some ((vix t, e a) :: ρ) = some ρ₁ ∧ JE c d NoX elt ρ₁ σ (fun w σ' => w = f a ∧ σ' = σ)) → Kf (acc ++ rows.map f) σ → JComp c d t false .nil elt ρ Kf (rows.map e) acc σ
  | [], acc, _, h => by
    show Kf acc σ
    simpa using h
  | a :: rows, acc, hs, h => by
    obtain ⟨ρ₁, h1, h2⟩ := hs a (.head _)
    cases h1
    refine JE.mono h2 fun w σ' q => ?_
    rw [q.1, q.2]
    exact jcomp_map e f rows _ (fun b hb => hs b (.tail _ hb)) (by simpa using h)
theorem jcomp_fm {t cond elt : T} {Kf : List V → Led → Prop} {α : Type} (e f : α → V) (p : α → Bool) : ∀ (rows : List α) (acc : List V), (∀ a ∈ rows, ∃ ρ₁, some ((vix t, e a) :: ρ) = some ρ₁ ∧ JT c d NoX cond ρ₁ σ (fun b σ' => b = p a ∧ σ' = σ) ∧ (p a = true → JE c d NoX elt ρ₁ σ (fun w σ' => w = f a ∧ σ' = σ))) →
    Kf (acc ++ (rows.filter p).map f) σ → JComp c d t true cond elt ρ Kf (rows.map e) acc σ
  | [], acc, _, h => by
    show Kf acc σ
    simpa using h
  | a :: rows, acc, hs, h => by
    obtain ⟨ρ₁, h1, h2, h3⟩ := hs a (.head _)
    cases h1
    refine JT.mono h2 fun b σ' q => ?_
    rw [q.1, q.2]
    cases hp : p a with
    | true =>
      refine (h3 hp).mono fun w σ' q => ?_
      rw [q.1, q.2]
      refine jcomp_fm e f p rows _ (fun b hb => hs b (.tail _ hb)) ?_
      rw [List.filter_cons_of_pos (by simpa using hp)] at h
      simpa using h
    | false =>
      refine jcomp_fm e f p rows _ (fun b hb => hs b (.tail _ hb)) ?_
      rw [List.filter_cons_of_neg (by simp [hp])] at h
      exact h
theorem RSub.nil : RSub [] ρ := fun z1 z2 h => by cases h
theorem RSub.cons {ρ' : Rho} {i : Nat} {v : V} (h : ρ.lookup i = some v) (r : RSub ρ' ρ) : RSub ((i, v) :: ρ') ρ := fun j w e => by
  rw [List.lookup_cons] at e
  cases hj : j == i with
  | true => rw [hj] at e; cases e; rw [eq_of_beq hj]; exact h
  | false => rw [hj] at e; exact r j w e
theorem RSub.trans {ρ₁ ρ₂ ρ₃ : Rho} (h : RSub ρ₁ ρ₂) (k : RSub ρ₂ ρ₃) : RSub ρ₁ ρ₃ := fun i v e => k i v (h i v e)
end Mine
end

section
set_option Elab.async false
set_option linter.unusedVariables false
namespace Mine
open PySem
noncomputable def fnB (G : Glob) (N : List Str) (t : T) (st : Stmt) (np : Nat) : Bool :=
  nodupB N && !N.contains (".0" : Str) && namesS st == N.take np && decide (np ≤ N.length) && scOk (scS st) (namesS st) && chk G N t (scS st) (.b (bodyS st))
theorem FnT.of {k : Base} {x : Str} {st : Stmt} {np : Nat} {t : T} {G : Glob} {N : List Str} (h : Fn k x st) (hG : GlobOk k G) (hb : fnB G N t st np = true) : FnT k x np t := by
  obtain ⟨h1, h6⟩ := and_tt hb
  obtain ⟨h1, h5⟩ := and_tt h1
  obtain ⟨h1, h4⟩ := and_tt h1
  obtain ⟨h1, h3⟩ := and_tt h1
  obtain ⟨h1, h2⟩ := and_tt h1
  exact ⟨st, G, N, h, hG, ⟨nodup_of h1, by simpa using h2⟩, eq_of_beq h3, of_decide_eq_true h4, h5, h6⟩
theorem all_nil {α : Type} {p : α → Prop} : ∀ a ∈ ([] : List α), p a := fun z1 h => by cases h
theorem all_cons {α : Type} {p : α → Prop} {a : α} {l : List α} (h : p a) (r : ∀ b ∈ l, p b) : ∀ b ∈ a :: l, p b := fun b hb => by
  rcases List.mem_cons.mp hb with e | e
  · rw [e]; exact h
  · exact r b e
theorem GlobOk.of {k : Base} {G : Glob} (ok : k.OK) (h1 : ∀ p ∈ G.gInts, Const k p.1 (.int p.2)) (h2 : ∀ p ∈ G.gStrs, Const k p.1 (.str p.2)) (h3 : ∀ x ∈ G.gDefs, Def k x) (h4 : ∀ f : Bf, Blt k f.name f.val) (hd : k.hd = true) : GlobOk k G :=
  ⟨ok, fun x i e => h1 _ (mem_of_lookup e), fun x y e => h2 _ (mem_of_lookup e), fun x e => h3 x (by simpa using e), h4, hd⟩
end Mine
end

section
set_option Elab.async false
set_option linter.unusedVariables false
set_option linter.unusedSimpArgs false
set_option maxRecDepth 100000
set_option maxHeartbeats 1000000
set_option compiler.extract_closed false
namespace Mine
open PySem
--MAC
variable {c : Cx} {d : Nat} {σ : Led} {P P' : V → Led → Prop} {X : XP} {ρ : Rho} {K K' : Fl → Rho → Led → Prop}
set_option tactic.hygienic true
local macro_rules | `(tactic| walk_at "spec") => `(tactic| fail)
local macro_rules | `(tactic| walk_at "side") => `(tactic| first | lia | exact mulOk_left (by lia) (by lia) | exact mulOk_right (by lia) (by lia))
local macro_rules | `(tactic| walk_at "sub") => `(tactic| repeat (first | exact RSub.nil | apply RSub.cons rfl))
local macro_rules | `(tactic| walk_at "x") => `(tactic| first
  | (with_reducible show CallN _ _ _ _ _ _ _; walk_at "spec")
  | with_reducible first | apply JE_go | apply JT_go | apply JAB_go | apply JA_go | apply JB_go | apply JL_go | apply br_t | apply br_f
  | apply ret_keep
  | refine Leaf.mk ⟨_, List.length_map _, ?_⟩
  | apply Leaf.mk
  | (apply br_intro <;> (intro hif; try simp only [brs] at hif))
  | (apply Side.mk; focus walk_at "side"))

--OWN
structure Things (k : Base) : Prop where
  f_is_whole : FnT k "is_whole" 1 t_is_whole
  f_is_ware : FnT k "is_ware" 1 t_is_ware
  f_is_day : FnT k "is_day" 1 t_is_day
  f_is_count : FnT k "is_count" 1 t_is_count
  f_is_lot : FnT k "is_lot" 1 t_is_lot
  f_is_line : FnT k "is_line" 1 t_is_line
  f_need : FnT k "need" 1 t_need
  f_good : FnT k "good" 2 t_good
  f_need_rows : FnT k "need_rows" 2 t_need_rows
theorem S_need (hp : Things c.k) {x : V} {a b : Int} {vs : List V} (h : P (.int (a + b)) σ) : CallN c (d + 1) "need" [.tup (x :: .int a :: .int b :: vs)] σ P X := by
  refine call_go hp.f_need ?_
  repeat' walk_at "x"
  exact h
theorem S_good (hp : Things c.k) {x y : Str} {last a b : Int} {us vs : List V} (h : P (.bool (x == y && decide (a + b ≤ last))) σ) : CallN c (d + 2) "good" [.tup (.str x :: .int last :: us), .tup (.str y :: .int a :: .int b :: vs)] σ P X := by
  refine call_go hp.f_good ?_
  repeat' (first | walk_at "x" | (with_reducible refine S_need ?_ ?_; assumption))
  · rename_i q
    rw [q, beq_self_eq_true, Bool.true_and] at h; exact h
  · rename_i q
    rw [beq_eq_false_iff_ne.mpr q, Bool.false_and] at h; exact h
theorem S_is_whole (hp : Things c.k) {i : Int} (h : P (.bool true) σ) : CallN c (d + 1) "is_whole" [.int i] σ P X := by
  refine call_go hp.f_is_whole ?_
  repeat' walk_at "x"
  exact h
local macro_rules | `(tactic| walk_at "spec") => `(tactic| first | (with_reducible apply S_need; assumption) | (with_reducible apply S_good; assumption) | (with_reducible apply S_is_whole; assumption))
noncomputable abbrev LETTERS : Str := Str.ofString "abcdefghijklmnopqrstuvwxyz"
structure Ware (x : Str) : Prop where
  lo : 1 ≤ x.length
  hi : x.length ≤ 12
  letters : ∀ k ∈ x.cps.toList, 97 ≤ k ∧ k < 123
noncomputable def wareB (x : Str) : Bool := decide (1 ≤ (x.length : Int)) && decide ((x.length : Int) ≤ 12) && x.cps.toList.all (fun k => Txt.contains LETTERS ⟨#[k]⟩)
theorem letter_in {k : Nat} (h1 : 97 ≤ k) (h2 : k < 123) : Txt.contains LETTERS ⟨#[k]⟩ = true := by
  have key : ∀ n, n < 26 → Txt.contains LETTERS ⟨#[97 + n]⟩ = true := by decide +kernel
  have := key (k - 97) (by (exact Mine.Ar.lin 0 1 (.lt (.s (.v 0) (.k 97)) (.k 26)) [(.lt (.v 0) (.k 123))] (by kernel_rfl) [] [_] rfl rfl h2))
  rwa [show 97 + (k - 97) = k by (exact Mine.Ar.lin 0 1 (.eq (.a (.k 97) (.s (.v 0) (.k 97))) (.v 0)) [(.le (.k 97) (.v 0))] (by kernel_rfl) [] [_] rfl rfl h1)] at this
theorem Ware.b {x : Str} (h : Ware x) : wareB x = true := by
  unfold wareB
  have h1 := h.lo
  have h2 := h.hi
  simp only [Bool.and_eq_true, decide_eq_true_eq, List.all_eq_true]
  exact ⟨⟨by (exact Mine.Ar.lin 0 1 (.ile (.k 1) (.c (.v 0))) [(.le (.k 1) (.v 0))] (by kernel_rfl) [] [_] rfl rfl h1), by (exact Mine.Ar.lin 0 1 (.ile (.c (.v 0)) (.k 12)) [(.le (.v 0) (.k 12))] (by kernel_rfl) [] [_] rfl rfl h2)⟩, fun k hk => letter_in (h.letters k hk).1 (h.letters k hk).2⟩
theorem Ware.ok {x : Str} (h : Ware x) : PyData.strOk x = true := by
  unfold PyData.strOk
  rw [← Array.all_toList, List.all_eq_true]
  intro k hk
  have := h.letters k hk
  simp; (exact Mine.Ar.lin 0 1 (.lt (.v 0) (.k 1114112)) [(.an (.le (.k 97) (.v 0)) (.lt (.v 0) (.k 123)))] (by kernel_rfl) [] [_] rfl rfl this)
theorem S_is_ware (hp : Things c.k) {x : Str} (hx : x.length ≤ 1000000) (h : P (.bool (wareB x)) σ) : CallN c (d + 1) "is_ware" [.str x] σ P X := by
  refine call_go hp.f_is_ware ?_
  have hs : sizeLine = 16777216 := by rw [sizeLine_eq]
  unfold wareB at h
  repeat' walk_at "x"
  · rename_i q1 q2
    rw [decide_eq_false q2, Bool.and_false, Bool.false_and] at h
    exact h
  · rename_i q1 q2
    rw [decide_eq_true q1, decide_eq_true q2, Bool.true_and, Bool.true_and] at h
    refine ⟨_, [], by simp, Iter_str (by (exact Mine.Ar.lin 0 2 (.le (.v 0) (.v 1)) [(.le (.v 0) (.k 1000000)), (.eq (.v 1) (.k 16777216))] (by kernel_rfl) [] [_, _] rfl rfl hx hs)), fun D => ?_⟩
    refine jcomp_map (fun k => .str ⟨#[k]⟩) (fun k => .bool (Txt.contains LETTERS ⟨#[k]⟩)) x.cps.toList [] (fun k hk => ⟨_, rfl, ?_⟩) ?_
    · repeat' walk_at "x"
      exact ⟨rfl, rfl⟩
    · rw [List.nil_append, show x.cps.toList.map (fun k => V.bool (Txt.contains LETTERS ⟨#[k]⟩)) = (x.cps.toList.map fun k => Txt.contains LETTERS ⟨#[k]⟩).map V.bool by rw [List.map_map]; rfl]
      refine made_f ?_
      refine Leaf.mk ⟨_, rfl, ?_⟩
      refine ret_keep ?_
      rw [List.all_map]; exact h
  · rename_i q1
    rw [decide_eq_false q1, Bool.false_and, Bool.false_and] at h
    exact h
noncomputable def dayB (i : Int) : Bool := decide (0 ≤ i) && decide (i ≤ 1000000000000)
noncomputable def countB (i : Int) : Bool := decide (1 ≤ i) && decide (i ≤ 1000000000000)
theorem S_is_day (hp : Things c.k) {i : Int} (h : P (.bool (dayB i)) σ) : CallN c (d + 2) "is_day" [.int i] σ P X := by
  refine call_go hp.f_is_day ?_
  unfold dayB at h
  repeat' walk_at "x"
  · rename_i q
    rw [decide_eq_true q, Bool.true_and] at h; exact h
  · rename_i q
    rw [decide_eq_false q, Bool.false_and] at h; exact h
theorem S_is_count (hp : Things c.k) {i : Int} (h : P (.bool (countB i)) σ) : CallN c (d + 2) "is_count" [.int i] σ P X := by
  refine call_go hp.f_is_count ?_
  unfold countB at h
  repeat' walk_at "x"
  · rename_i q
    rw [decide_eq_true q, Bool.true_and] at h; exact h
  · rename_i q
    rw [decide_eq_false q, Bool.false_and] at h; exact h
structure Lot where
  w : Str
  last : Int
  n : Int
noncomputable def Lot.v (l : Lot) : V := .tup [.str l.w, .int l.last, .int l.n]
structure Lot.ok (l : Lot) : Prop where
  w : Ware l.w
  a0 : 0 ≤ l.last
  a1 : l.last ≤ 1000000000000
  n0 : 1 ≤ l.n
  n1 : l.n ≤ 1000000000000
structure Line where
  w : Str
  day : Int
  left : Int
  n : Int
noncomputable def Line.v (l : Line) : V := .tup [.str l.w, .int l.day, .int l.left, .int l.n]
structure Line.ok (l : Line) : Prop where
  w : Ware l.w
  a0 : 0 ≤ l.day
  a1 : l.day ≤ 1000000000000
  b0 : 0 ≤ l.left
  b1 : l.left ≤ 1000000000000
  n0 : 1 ≤ l.n
  n1 : l.n ≤ 1000000000000
noncomputable def Line.need (l : Line) : Int := l.day + l.left
noncomputable def Lot.b (l : Lot) : Bool := wareB l.w && (dayB l.last && countB l.n)
noncomputable def Line.b (l : Line) : Bool := wareB l.w && (dayB l.day && (dayB l.left && countB l.n))
theorem Lot.ok.b {l : Lot} (o : l.ok) : l.b = true := by
  have h1 := o.a0
  have h2 := o.a1
  have h3 := o.n0
  have h4 := o.n1
  simp [Lot.b, o.w.b, dayB, countB, h1, h2, h3, h4]
theorem Line.ok.b {l : Line} (o : l.ok) : l.b = true := by
  have h1 := o.a0
  have h2 := o.a1
  have h3 := o.n0
  have h4 := o.n1
  have h5 := o.b0
  have h6 := o.b1
  simp [Line.b, o.w.b, dayB, countB, h1, h2, h3, h4, h5, h6]
theorem S_is_lot (hp : Things c.k) {l : Lot} (hx : l.w.length ≤ 1000000) (h : P (.bool l.b) σ) : CallN c (d + 3) "is_lot" [l.v] σ P X := by
  refine call_go hp.f_is_lot ?_
  unfold Lot.b at h
  repeat' (first | walk_at "x" | (with_reducible refine S_is_ware ?_ ?_ ?_; assumption; (first | assumption | lia)) | (with_reducible refine S_is_day ?_ ?_; assumption) | (with_reducible refine S_is_count ?_ ?_; assumption))
  · rename_i q1 q2; rw [q1, q2, Bool.true_and, Bool.true_and] at h; exact h
  · rename_i q1 q2; rw [q1, q2, Bool.true_and, Bool.false_and] at h; exact h
  · rename_i q1; rw [q1, Bool.false_and] at h; exact h
theorem S_is_line (hp : Things c.k) {l : Line} (hx : l.w.length ≤ 1000000) (h : P (.bool l.b) σ) : CallN c (d + 3) "is_line" [l.v] σ P X := by
  refine call_go hp.f_is_line ?_
  unfold Line.b at h
  repeat' (first | walk_at "x" | (with_reducible refine S_is_ware ?_ ?_ ?_; assumption; (first | assumption | lia)) | (with_reducible refine S_is_day ?_ ?_; assumption) | (with_reducible refine S_is_count ?_ ?_; assumption))
  · rename_i q1 q2 q3; rw [q1, q2, q3, Bool.true_and, Bool.true_and, Bool.true_and] at h; exact h
  · rename_i q1 q2 q3; rw [q1, q2, q3, Bool.true_and, Bool.true_and, Bool.false_and] at h; exact h
  · rename_i q1 q2; rw [q1, q2, Bool.true_and, Bool.false_and] at h; exact h
  · rename_i q1; rw [q1, Bool.false_and] at h; exact h
theorem S_good_ (hp : Things c.k) {l : Lot} {m : Line} (h : P (.bool (l.w == m.w && decide (m.day + m.left ≤ l.last))) σ) : CallN c (d + 2) "good" [l.v, m.v] σ P X := S_good hp h
theorem S_need_ (hp : Things c.k) {m : Line} (h : P (.int (m.day + m.left)) σ) : CallN c (d + 1) "need" [m.v] σ P X := S_need hp h
local macro_rules | `(tactic| walk_at "spec") => `(tactic| first | (with_reducible apply S_good_; assumption) | (with_reducible apply S_need_; assumption))
theorem map_bool {α : Type} (f : α → Bool) (l : List α) : l.map (fun a => V.bool (f a)) = (l.map f).map V.bool := by rw [List.map_map]; rfl
theorem S_need_rows (hp : Things c.k) {lots : List Lot} {lines : List Line} (h1 : ∀ l ∈ lots, l.ok) (h2 : ∀ l ∈ lines, l.ok) (hl1 : lots.length ≤ 100) (hl2 : lines.length ≤ 100) (h : P .none σ) :
    CallN c (d + 4) "need_rows" [.lst (lots.map Lot.v), .lst (lines.map Line.v)] σ P X := by
  refine call_go hp.f_need_rows ?_
  repeat' (first | walk_at "x" | (with_reducible refine S_is_lot ?_ ?_ ?_; assumption; (first | assumption | lia)) | (with_reducible refine S_is_line ?_ ?_ ?_; assumption; (first | assumption | lia)))
  · exfalso; lia
  refine ⟨_, [], by simp, Iter_lst, fun D => ?_⟩
  have hp' : Things ((c.pro []).hide D).k := hp
  refine jcomp_map Lot.v (fun l => .bool l.b) lots [] (fun l hl => ⟨_, rfl, ?_⟩) ?_
  · have hw := (h1 l hl).w.hi
    repeat' (first | walk_at "x" | (with_reducible refine S_is_lot ?_ ?_ ?_; assumption; (first | assumption | lia)) | (with_reducible refine S_is_line ?_ ?_ ?_; assumption; (first | assumption | lia)))
    exact ⟨rfl, rfl⟩
  refine made_f ?_
  rw [List.nil_append, map_bool]
  refine Leaf.mk ⟨_, rfl, ?_⟩
  rw [show ((lots.map Lot.b).all id) = true by rw [List.all_map, List.all_eq_true]; exact fun l hl => (h1 l hl).b]
  repeat' (first | walk_at "x" | (with_reducible refine S_is_lot ?_ ?_ ?_; assumption; (first | assumption | lia)) | (with_reducible refine S_is_line ?_ ?_ ?_; assumption; (first | assumption | lia)))
  · exfalso; lia
  refine ⟨_, [], by simp, Iter_lst, fun D => ?_⟩
  have hp' : Things ((c.pro []).hide D).k := hp
  refine jcomp_map Line.v (fun l => .bool l.b) lines [] (fun l hl => ⟨_, rfl, ?_⟩) ?_
  · have hw := (h2 l hl).w.hi
    repeat' (first | walk_at "x" | (with_reducible refine S_is_lot ?_ ?_ ?_; assumption; (first | assumption | lia)) | (with_reducible refine S_is_line ?_ ?_ ?_; assumption; (first | assumption | lia)))
    exact ⟨rfl, rfl⟩
  refine made_f ?_
  rw [List.nil_append, map_bool]
  refine Leaf.mk ⟨_, rfl, ?_⟩
  rw [show ((lines.map Line.b).all id) = true by rw [List.all_map, List.all_eq_true]; exact fun l hl => (h2 l hl).b]
  refine ret_next ?_
  exact h
structure Helps (k : Base) : Prop where
  f_law_at : FnT k "_law_at" 2 t_law_at
  f_law_word : FnT k "_law_word" 2 t_law_word
  f_law_mixed : FnT k "_law_mixed" 2 t_law_mixed
noncomputable def at_ (xs : List Int) (k : Int) : Int := xs.getD k.toNat 0
theorem S_at (hp : Helps c.k) {xs : List Int} {k : Int} (hk : 0 ≤ k) (h : P (.int (at_ xs k)) σ) : CallN c (d + 1) "_law_at" [.lst (xs.map .int), .int k] σ P X := by
  refine call_go hp.f_law_at ?_
  repeat' walk_at "x"
  · have hx : k.toNat < xs.length := by lia
    refine Item_lst (.lst _) hk (w := .int (xs[k.toNat])) (by simp [hx]) ?_
    refine ret_keep ?_
    have : at_ xs k = xs[k.toNat] := by unfold at_; simp [hx]
    rw [this] at h; exact h
  · have : at_ xs k = 0 := by unfold at_; rw [List.getD_eq_getElem?_getD, List.getElem?_eq_none (by lia)]; rfl
    rw [this] at h; exact h
local macro_rules | `(tactic| walk_at "spec") => `(tactic| (with_reducible apply S_at; assumption; lia))
noncomputable def letter (i : Int) : Nat := 97 + (i % 26).toNat
theorem letters_at {i : Int} : (Str.ofString "abcdefghijklmnopqrstuvwxyz").cps[(i % 26).toNat]? = some (letter i) := by
  have h : (i % 26).toNat < 26 := by lia
  have key : ∀ n, n < 26 → (Str.ofString "abcdefghijklmnopqrstuvwxyz").cps[n]? = some (97 + n) := by decide +kernel
  exact key _ h
noncomputable def wsize (c : Int) : Int := 1 + c / 26 % 12
noncomputable def wstep (c : Int) : Int := 1 + c / 312 % 25
noncomputable def wbase (c : Int) : List Nat := (rangeL 0 (wsize c)).map fun i => letter (c + i * wstep c)
noncomputable def word (c k : Int) : Str := if c % 4 = 0 then strSlice none (some (max 1 (wsize c - k))) ⟨(wbase c).toArray⟩
  else strSlice none (some (c / 5 % wsize c)) ⟨(wbase c).toArray⟩ ++ ⟨#[letter (c + 5 * k)]⟩ ++ strSlice (some (c / 5 % wsize c + 1)) none ⟨(wbase c).toArray⟩
theorem join_word (l : List Nat) : Txt.join (Str.ofString "") (l.map fun k => (⟨#[k]⟩ : Str)) = ⟨l.toArray⟩ := by
  show Builtin.Str.glued _ _ = _
  rw [StrLaws.glued_eq_join]
  exact join_signs l
theorem wbase_len (c : Int) : ((wbase c).length : Int) = wsize c := by
  unfold wbase; rw [List.length_map, rangeL_length]; unfold wsize; lia
theorem letter_ok (i : Int) : 97 ≤ letter i ∧ letter i < 123 := by unfold letter; lia
theorem wbase_ok {c : Int} {k : Nat} (h : k ∈ wbase c) : 97 ≤ k ∧ k < 123 := by
  unfold wbase at h
  obtain ⟨i, _, rfl⟩ := List.mem_map.mp h
  exact letter_ok _
theorem slice_mem {α : Type} {lo hi : Option Int} {xs : List α} {a : α} (h : a ∈ slice lo hi xs) : a ∈ xs := by
  unfold slice at h
  exact List.mem_of_mem_drop (List.mem_of_mem_take h)
theorem ware_word (c k : Int) : Ware (word c k) := by
  have hb := wbase_len c
  have hs : 1 ≤ wsize c ∧ wsize c ≤ 12 := by unfold wsize; (exact Mine.Ar.lin 1 0 (.an (.ile (.k 1) (.a (.k 1) (.v 0))) (.ile (.a (.k 1) (.v 0)) (.k 12))) [(.ile (.k 0) (.v 0)), (.ilt (.v 0) (.k 12))] (by kernel_rfl) [_] [] rfl rfl (Int.emod_nonneg _ (by decide)) (Int.emod_lt_of_pos _ (by decide)))
  unfold word
  split
  · have e1 : (slice none (some (max 1 (wsize c - k))) (wbase c)).length = min (max 1 (wsize c - k)).toNat (wbase c).length := by rw [slice_take _ (Int.le_trans (by decide) (Int.le_max_left 1 _)), List.length_take]
    refine ⟨?_, ?_, fun a ha => ?_⟩
    · rw [str_length]; show 1 ≤ (slice none (some (max 1 (wsize c - k))) (wbase c)).length; rw [e1]
      exact Nat.le_min.mpr ⟨Int.toNat_le_toNat (Int.le_max_left 1 _), Mine.Ar.lin 1 1 (.le (.k 1) (.v 0)) [(.ieq (.c (.v 0)) (.v 0)), (.an (.ile (.k 1) (.v 0)) (.ile (.v 0) (.k 12)))] (by kernel_rfl) [_] [_] rfl rfl hb hs⟩
    · rw [str_length]; show (slice none (some (max 1 (wsize c - k))) (wbase c)).length ≤ 12; exact Nat.le_trans (slice_length_le _ _ _) (by (exact Mine.Ar.lin 1 1 (.le (.v 0) (.k 12)) [(.ieq (.c (.v 0)) (.v 0)), (.an (.ile (.k 1) (.v 0)) (.ile (.v 0) (.k 12)))] (by kernel_rfl) [_] [_] rfl rfl hb hs))
    · unfold strSlice at ha; exact wbase_ok (slice_mem ha)
  · have hp0 : 0 ≤ c / 5 % wsize c := Int.emod_nonneg _ (by (exact Mine.Ar.lin 1 0 (.no (.ieq (.v 0) (.k 0))) [(.an (.ile (.k 1) (.v 0)) (.ile (.v 0) (.k 12)))] (by kernel_rfl) [_] [] rfl rfl hs))
    have hp1 : c / 5 % wsize c < wsize c := Int.emod_lt_of_pos _ (by (exact Mine.Ar.lin 1 0 (.ilt (.k 0) (.v 0)) [(.an (.ile (.k 1) (.v 0)) (.ile (.v 0) (.k 12)))] (by kernel_rfl) [_] [] rfl rfl hs))
    have e1 : (slice none (some (c / 5 % wsize c)) (wbase c)).length = min (c / 5 % wsize c).toNat (wbase c).length := by rw [slice_take _ hp0, List.length_take]
    have e2 : (slice (some (c / 5 % wsize c + 1)) none (wbase c)).length = (wbase c).length - (c / 5 % wsize c + 1).toNat := by rw [slice_drop _ (Int.le_trans hp0 (Int.le_of_lt (Int.lt_succ _))), List.length_drop]
    generalize c / 5 % wsize c = p at *
    refine ⟨?_, ?_, fun a ha => ?_⟩
    · rw [str_length, strAppend_list, strAppend_list, List.length_append, List.length_append]; exact Nat.le_trans (show 1 ≤ [letter (c + 5 * k)].length from Nat.le_refl 1) (Nat.le_trans (Nat.le_add_left _ _) (Nat.le_add_right _ _))
    · rw [str_length, strAppend_list, strAppend_list, List.length_append, List.length_append]
      show (slice none (some p) (wbase c)).length + 1 + (slice (some (p + 1)) none (wbase c)).length ≤ 12
      rw [e1, e2]
      obtain ⟨q, rfl⟩ := Int.eq_ofNat_of_zero_le hp0
      have m1 : min ((q : Int).toNat) (wbase c).length ≤ q := Nat.min_le_left _ _
      show min ((q : Int).toNat) (wbase c).length + 1 + ((wbase c).length - (q + 1)) ≤ 12
      exact Mine.Ar.lin 1 3 (.le (.a (.a (.v 0) (.k 1)) (.s (.v 1) (.a (.v 2) (.k 1)))) (.k 12)) [(.le (.v 0) (.v 2)), (.ieq (.c (.v 1)) (.v 0)), (.an (.ile (.k 1) (.v 0)) (.ile (.v 0) (.k 12))), (.ilt (.c (.v 2)) (.v 0))] (by kernel_rfl) [_] [_, _, _] rfl rfl m1 hb hs hp1
    · rw [strAppend_list, strAppend_list] at ha
      rcases List.mem_append.mp ha with ha | ha
      · rcases List.mem_append.mp ha with ha | ha
        · exact wbase_ok (slice_mem ha)
        · have : a = letter (c + 5 * k) := by simpa using ha
          rw [this]; exact letter_ok _
      · exact wbase_ok (slice_mem ha)
theorem S_word (hp : Helps c.k) {x k : Int} (hk : 0 ≤ k) (hk' : k ≤ 1000) (h : P (.str (word x k)) σ) : CallN c (d + 1) "_law_word" [.int x, .int k] σ P X := by
  refine call_go hp.f_law_word ?_
  have hws : wsize x = 1 + x / 26 % 12 := rfl
  have hwl := wbase_len x
  repeat' walk_at "x"
  refine ⟨_, _, Meth_join, ?_⟩
  repeat' walk_at "x"
  refine ⟨_, [], by simp, Iter_rng (by (exact Mine.Ar.lin 0 0 (.ile (.g (.k 1000000000000000)) (.k 0)) [] (by kernel_rfl) [] [] rfl rfl )) (by (exact Mine.Ar.lin 0 0 (.ile (.k 0) (.k 1000000000000000)) [] (by kernel_rfl) [] [] rfl rfl )) (by (exact Mine.Ar.lin 1 0 (.ile (.g (.k 1000000000000000)) (.a (.k 1) (.v 0))) [(.ile (.k 0) (.v 0))] (by kernel_rfl) [_] [] rfl rfl (Int.emod_nonneg _ (by decide)))) (by (exact Mine.Ar.lin 1 0 (.ile (.a (.k 1) (.v 0)) (.k 1000000000000000)) [(.ilt (.v 0) (.k 12))] (by kernel_rfl) [_] [] rfl rfl (Int.emod_lt_of_pos _ (by decide)))) (by (exact Mine.Ar.lin 1 0 (.ile (.s (.a (.k 1) (.v 0)) (.k 0)) (.k 16777216)) [(.ilt (.v 0) (.k 12))] (by kernel_rfl) [_] [] rfl rfl (Int.emod_lt_of_pos _ (by decide)))), fun D => ?_⟩
  refine jcomp_map V.int (fun i => .str ⟨#[letter (x + i * wstep x)]⟩) (rangeL 0 (wsize x)) [] (fun i hi => ⟨_, rfl, ?_⟩) ?_
  · rw [mem_rangeL] at hi
    repeat' walk_at "x"
    exact Item_str (by (exact Mine.Ar.lin 1 0 (.ile (.k 0) (.v 0)) [(.ile (.k 0) (.v 0))] (by kernel_rfl) [_] [] rfl rfl (Int.emod_nonneg _ (by decide)))) letters_at (by lia) ⟨rfl, rfl⟩
  refine made_f ?_
  rw [List.nil_append, show (rangeL 0 (wsize x)).map (fun i => V.str ⟨#[letter (x + i * wstep x)]⟩) = ((wbase x).map fun k => (⟨#[k]⟩ : Str)).map V.str by unfold wbase; rw [List.map_map, List.map_map]; rfl]
  have hbl : (⟨(wbase x).toArray⟩ : Str).length ≤ sizeLine := by
    rw [str_length, sizeLine_eq]; simp only [List.toList_toArray]; (exact Mine.Ar.lin 2 1 (.le (.v 0) (.k 16777216)) [(.ieq (.v 0) (.a (.k 1) (.v 1))), (.ieq (.c (.v 0)) (.v 0)), (.ilt (.v 1) (.k 12))] (by kernel_rfl) [_, _] [_] rfl rfl hws hwl (Int.emod_lt_of_pos _ (by decide)))
  refine (show CallS _ _ _ _ _ _ _ from Call_join (.lst _) ?_ ?_)
  · have : (((wbase x).map fun k => (⟨#[k]⟩ : Str)).map (·.length)).sum = (wbase x).length := by
      rw [List.map_map]
      show ((wbase x).map fun z1 => 1).sum = _
      induction wbase x with
      | nil => rfl
      | cons a r ih => simp only [List.map_cons, List.sum_cons, List.length_cons, ih]; (exact Mine.Ar.lin 0 1 (.eq (.a (.k 1) (.v 0)) (.a (.v 0) (.k 1))) [] (by kernel_rfl) [] [_] rfl rfl )
    have e0 : (Str.ofString "").length = 0 := by decide +kernel
    rw [this, e0]; lia
  rw [join_word]
  have hpl : 0 ≤ x / 5 % (1 + x / 26 % 12) := Int.emod_nonneg _ (by (exact Mine.Ar.lin 1 0 (.no (.ieq (.a (.k 1) (.v 0)) (.k 0))) [(.ile (.k 0) (.v 0))] (by kernel_rfl) [_] [] rfl rfl (Int.emod_nonneg _ (by decide))))
  have hpl' : x / 5 % (1 + x / 26 % 12) < 1 + x / 26 % 12 := Int.emod_lt_of_pos _ (by (exact Mine.Ar.lin 1 0 (.ilt (.k 0) (.a (.k 1) (.v 0))) [(.ile (.k 0) (.v 0))] (by kernel_rfl) [_] [] rfl rfl (Int.emod_nonneg _ (by decide))))
  repeat' walk_at "x"
  · rename_i hif
    unfold word at h; rw [if_pos hif] at h; exact h
  · refine Item_str (by (exact Mine.Ar.lin 1 0 (.ile (.k 0) (.v 0)) [(.ile (.k 0) (.v 0))] (by kernel_rfl) [_] [] rfl rfl (Int.emod_nonneg _ (by decide)))) letters_at (by lia) ?_
    have hs1 : ∀ lo hi, (strSlice lo hi ⟨(wbase x).toArray⟩).length ≤ 12 := fun lo hi => by
      rw [str_length]; unfold strSlice; simp only [List.toList_toArray]
      exact Nat.le_trans (slice_length_le _ _ _) (by (exact Mine.Ar.lin 2 1 (.le (.v 0) (.k 12)) [(.ieq (.v 0) (.a (.k 1) (.v 1))), (.ieq (.c (.v 0)) (.v 0)), (.ilt (.v 1) (.k 12))] (by kernel_rfl) [_, _] [_] rfl rfl hws hwl (Int.emod_lt_of_pos _ (by decide))))
    have hs2 : sizeLine = 16777216 := by rw [sizeLine_eq]
    repeat' walk_at "x"
    refine Op_add_str (by have := hs1 none (some (x / 5 % (1 + x / 26 % 12))); rw [hs2]; show _ + 1 ≤ _; (exact Mine.Ar.lin 0 1 (.le (.a (.v 0) (.k 1)) (.k 16777216)) [(.le (.v 0) (.k 12))] (by kernel_rfl) [] [_] rfl rfl this)) ?_
    repeat' walk_at "x"
    refine Op_add_str ?_ ?_
    · have h1 := hs1 none (some (x / 5 % (1 + x / 26 % 12)))
      have h2 := hs1 (some (x / 5 % (1 + x / 26 % 12) + 1)) none
      rw [str_length, strAppend_list, List.length_append, ← str_length, ← str_length, hs2]
      show _ + 1 + _ ≤ _
      (exact Mine.Ar.lin 0 2 (.le (.a (.a (.v 0) (.k 1)) (.v 1)) (.k 16777216)) [(.le (.v 0) (.k 12)), (.le (.v 1) (.k 12))] (by kernel_rfl) [] [_, _] rfl rfl h1 h2)
    repeat' walk_at "x"
    rename_i hif
    unfold word at h; rw [if_neg hif] at h; exact h
noncomputable def mixed (x k : Int) : Int := (x * 48271 + 7919 * k) ^ 3 / 11
theorem S_mixed (hp : Helps c.k) {x k : Int} (hx : Sz 1048600 x) (hk : 0 ≤ k) (hk' : k ≤ 1000) (h : P (.int (mixed x k)) σ) : CallN c (d + 1) "_law_mixed" [.int x, .int k] σ P X := by
  refine call_go hp.f_law_mixed ?_
  have h1 : Sz (1048600 + 64) (x * 48271) := hx.mul (Sz.small (by (exact Mine.Ar.lin 0 0 (.ilt (.g (.k 9223372036854775808)) (.k 48271)) [] (by kernel_rfl) [] [] rfl rfl )) (by (exact Mine.Ar.lin 0 0 (.ilt (.k 48271) (.k 9223372036854775808)) [] (by kernel_rfl) [] [] rfl rfl )))
  have h2 : Sz (1048600 + 64) (7919 * k) := (Sz.small (by (exact Mine.Ar.lin 1 0 (.ilt (.g (.k 9223372036854775808)) (.m 7919 (.v 0))) [(.ile (.k 0) (.v 0))] (by kernel_rfl) [_] [] rfl rfl hk)) (by (exact Mine.Ar.lin 1 0 (.ilt (.m 7919 (.v 0)) (.k 9223372036854775808)) [(.ile (.v 0) (.k 1000))] (by kernel_rfl) [_] [] rfl rfl hk'))).mono (by (exact Mine.Ar.lin 0 0 (.le (.k 64) (.a (.k 1048600) (.k 64))) [] (by kernel_rfl) [] [] rfl rfl ))
  repeat' walk_at "x"
  refine Op_pow3 (h1.add h2) (by (exact Mine.Ar.lin 0 0 (.le (.a (.a (.k 1048600) (.k 64)) (.k 1)) (.k 40000000)) [] (by kernel_rfl) [] [] rfl rfl )) ?_
  repeat' walk_at "x"
  exact h
structure Rows_ (k : Base) : Prop extends Helps k where
  f_law_day : FnT k "_law_day" 1 t_law_day
  f_law_count : FnT k "_law_count" 1 t_law_count
  f_law_lot : FnT k "_law_lot" 2 t_law_lot
  f_law_line : FnT k "_law_line" 2 t_law_line
theorem S_whole (hp : FnT c.k "_law_whole" 1 t_law_whole) {i : Int} (h : P (.bool true) σ) : CallN c (d + 1) "_law_whole" [.int i] σ P X := by
  refine call_go hp ?_
  repeat' walk_at "x"
  exact h
noncomputable def day_ (k : Int) : Int := if k % 16 = 0 then 1000000000000 - k / 16 % 3 else if k % 16 = 1 then k / 16 % 1000000000001 else if k % 16 = 2 then k / 16 % 1000 else k / 16 % 12
theorem day_ok (k : Int) : 0 ≤ day_ k ∧ day_ k ≤ 1000000000000 := by unfold day_; split <;> (try split) <;> (try split) <;> lia
theorem S_day (hp : Rows_ c.k) {k : Int} (h : P (.int (day_ k)) σ) : CallN c (d + 1) "_law_day" [.int k] σ P X := by
  refine call_go hp.f_law_day ?_
  unfold day_ at h
  repeat' walk_at "x"
  · rename_i q1; rw [if_pos q1] at h; exact h
  · rename_i q1 q2; rw [if_neg q1, if_pos q2] at h; exact h
  · rename_i q1 q2 q3; rw [if_neg q1, if_neg q2, if_pos q3] at h; exact h
  · rename_i q1 q2 q3; rw [if_neg q1, if_neg q2, if_neg q3] at h; exact h
noncomputable def count_ (k : Int) : Int := if k % 16 = 0 then 1 + k / 16 % 1000000000000 else if k % 16 = 1 then 1 + k / 16 % 1000 else 1 + k / 16 % 6
theorem count_ok (k : Int) : 1 ≤ count_ k ∧ count_ k ≤ 1000000000000 := by unfold count_; split <;> (try split) <;> lia
theorem S_count (hp : FnT c.k "_law_count" 1 t_law_count) {k : Int} (h : P (.int (count_ k)) σ) : CallN c (d + 1) "_law_count" [.int k] σ P X := by
  refine call_go hp ?_
  unfold count_ at h
  repeat' walk_at "x"
  · rename_i q1; rw [if_pos q1] at h; exact h
  · rename_i q1 q2; rw [if_neg q1, if_pos q2] at h; exact h
  · rename_i q1 q2; rw [if_neg q1, if_neg q2] at h; exact h
noncomputable def lotOf (x base : Int) : Lot := ⟨word base (mixed x 1 % 3), day_ (mixed x 2), count_ (mixed x 3)⟩
theorem lotOf_ok (x base : Int) : (lotOf x base).ok := ⟨ware_word _ _, (day_ok _).1, (day_ok _).2, (count_ok _).1, (count_ok _).2⟩
theorem S_lot (hp : Rows_ c.k) {x base : Int} (hx : Sz 1048600 x) (h : P (lotOf x base).v σ) : CallN c (d + 2) "_law_lot" [.int x, .int base] σ P X := by
  have hh := hp.toHelps
  refine call_go hp.f_law_lot ?_
  repeat' (first | walk_at "x" | (with_reducible refine S_word ?_ ?_ ?_ ?_; assumption; lia; lia) | (with_reducible refine S_mixed ?_ ?_ ?_ ?_ ?_; assumption; assumption; lia; lia) | (with_reducible refine S_day ?_ ?_; assumption) | (with_reducible refine S_count (Rows_.f_law_count ?_) ?_; assumption))
  exact h
noncomputable def overOf (x : Int) : Int := if mixed x 5 % 8 = 0 then day_ (mixed x 6) else mixed x 5 / 8 % 5
noncomputable def lineOf (x base : Int) : Line := ⟨word base (mixed x 4 % 3), day_ (mixed x 7), overOf x, count_ (mixed x 8)⟩
theorem lineOf_ok (x base : Int) : (lineOf x base).ok := by
  have h : 0 ≤ overOf x ∧ overOf x ≤ 1000000000000 := by
    unfold overOf; split
    · exact day_ok _
    · (exact Mine.Ar.lin 1 0 (.an (.ile (.k 0) (.v 0)) (.ile (.v 0) (.k 1000000000000))) [(.ile (.k 0) (.v 0)), (.ilt (.v 0) (.k 5))] (by kernel_rfl) [_] [] rfl rfl (Int.emod_nonneg _ (by decide)) (Int.emod_lt_of_pos _ (by decide)))
  exact ⟨ware_word _ _, (day_ok _).1, (day_ok _).2, h.1, h.2, (count_ok _).1, (count_ok _).2⟩
theorem S_line (hp : Rows_ c.k) {x base : Int} (hx : Sz 1048600 x) (h : P (lineOf x base).v σ) : CallN c (d + 2) "_law_line" [.int x, .int base] σ P X := by
  have hh := hp.toHelps
  refine call_go hp.f_law_line ?_
  have e : (lineOf x base).v = .tup [.str (word base (mixed x 4 % 3)), .int (day_ (mixed x 7)), .int (overOf x), .int (count_ (mixed x 8))] := rfl
  rw [e] at h
  unfold overOf at h
  repeat' (first | walk_at "x" | (with_reducible refine S_word ?_ ?_ ?_ ?_; assumption; lia; lia) | (with_reducible refine S_mixed ?_ ?_ ?_ ?_ ?_; assumption; assumption; lia; lia) | (with_reducible refine S_day ?_ ?_; assumption) | (with_reducible refine S_count (Rows_.f_law_count ?_) ?_; assumption))
  · rename_i q; rw [if_pos q] at h; exact h
  · rename_i q; rw [if_neg q] at h; exact h
theorem at_sz {xs : List Int} (hb : ∀ x ∈ xs, Builtin.Int.intBits x ≤ 1048576) (k : Int) : Sz 1048577 (at_ xs k) := by
  unfold at_
  rw [List.getD_eq_getElem?_getD]
  cases e : xs[k.toNat]? with
  | none => exact (Sz.small (by decide) (by decide)).mono (by (exact Mine.Ar.lin 0 0 (.le (.k 64) (.k 1048577)) [] (by kernel_rfl) [] [] rfl rfl ))
  | some x => exact (Sz.of_bits (hb x (List.mem_of_getElem? e))).mono (by (exact Mine.Ar.lin 0 0 (.le (.k 1048576) (.k 1048577)) [] (by kernel_rfl) [] [] rfl rfl ))
open Deal in
noncomputable def rowV (x : Row) : V := .tup [.int x.1, .int x.2.1, .int x.2.2]
noncomputable def Lot.z : Lot := ⟨⟨#[]⟩, 0, 0⟩
noncomputable def Line.z : Line := ⟨⟨#[]⟩, 0, 0, 0⟩
noncomputable def stk (lots : List Lot) (lines : List Line) : Deal.Stock Str :=
  { nL := lots.length, nN := lines.length, wl := fun t => (lots.getD t Lot.z).w, last := fun t => (lots.getD t Lot.z).last, cl := fun t => (lots.getD t Lot.z).n,
    wn := fun l => (lines.getD l Line.z).w, need := fun l => (lines.getD l Line.z).need, cn := fun l => (lines.getD l Line.z).n }
noncomputable def pairV (x : Int × Nat) : V := .tup [.int x.1, .int x.2]
theorem getD_get? {α : Type} (l : List α) (i : Nat) (z : α) (h : i < l.length) : l[i]? = some (l.getD i z) := by simp [h]
theorem item_of {α : Type} (f : α → V) (l : List α) (i : Nat) (z : α) (h : i < l.length) : (l.map f)[(i : Int).toNat]? = some (f (l.getD i z)) := by
  simp [h]
theorem map_getD {α β : Type} (l : List α) (z : α) (f : α → β) : l.map f = (List.range l.length).map fun i => f (l.getD i z) := by
  apply List.ext_getElem
  · simp
  · intro i h1 h2
    simp at h1
    simp [h1]
theorem Iter_rangeN {n : Nat} (hn : n ≤ 1000) : IterS c σ (.rng 0 (n : Int)) ((List.range n).map fun i : Nat => V.int i) := by
  have h := Iter_rng (c := c) (σ := σ) (lo := 0) (hi := (n : Int)) (by (exact Mine.Ar.lin 0 0 (.ile (.g (.k 1000000000000000)) (.k 0)) [] (by kernel_rfl) [] [] rfl rfl )) (by (exact Mine.Ar.lin 0 0 (.ile (.k 0) (.k 1000000000000000)) [] (by kernel_rfl) [] [] rfl rfl )) (by (exact Mine.Ar.lin 0 1 (.ile (.g (.k 1000000000000000)) (.c (.v 0))) [] (by kernel_rfl) [] [_] rfl rfl )) (by (exact Mine.Ar.lin 0 1 (.ile (.c (.v 0)) (.k 1000000000000000)) [(.le (.v 0) (.k 1000))] (by kernel_rfl) [] [_] rfl rfl hn)) (by (exact Mine.Ar.lin 0 1 (.ile (.s (.c (.v 0)) (.k 0)) (.k 16777216)) [(.le (.v 0) (.k 1000))] (by kernel_rfl) [] [_] rfl rfl hn))
  have e : (rangeL 0 (n : Int)).map V.int = (List.range n).map fun i : Nat => V.int i := by simp [rangeL]
  rw [e] at h; exact h
structure LotsO (S : Deal.Stock Str) (ts : List Nat) : Prop where
  perm : ts.Perm (List.range S.nL)
  asc : ts.Pairwise fun a b => S.last a < S.last b ∨ (S.last a = S.last b ∧ a ≤ b)
structure LinesO (S : Deal.Stock Str) (ls : List Nat) : Prop where
  perm : ls.Perm (List.range S.nN)
  desc : ls.Pairwise fun a b => S.need b < S.need a ∨ (S.need a = S.need b ∧ a ≤ b)
theorem LotsO.order {S : Deal.Stock Str} {ts : List Nat} (h : LotsO S ts) : Deal.LotsOrder S ts :=
  ⟨h.perm.nodup_iff.mpr List.nodup_range, fun t => by rw [h.perm.mem_iff, List.mem_range], h.asc.imp fun q => by lia⟩
theorem LinesO.order {S : Deal.Stock Str} {ls : List Nat} (h : LinesO S ls) : Deal.LinesOrder S ls :=
  ⟨h.perm.nodup_iff.mpr List.nodup_range, fun t => by rw [h.perm.mem_iff, List.mem_range], h.desc.imp fun q => by lia⟩
noncomputable def keyP (x : Int × Nat) : List Int := [x.1, x.2]
noncomputable def keyR (x : Deal.Row) : List Int := [x.1, x.2.1, x.2.2]
theorem pairs_split {S : Nat → Int} {n : Nat} {ys : List (Int × Nat)} (h : ys.Perm ((List.range n).map fun i => (S i, i))) : ys = (ys.map (·.2)).map fun i => (S i, i) := by
  rw [List.map_map]
  conv => lhs; rw [← List.map_id ys]
  refine List.map_congr_left fun x hx => ?_
  obtain ⟨i, _, rfl⟩ := List.mem_map.mp (h.mem_iff.mp hx)
  rfl
theorem stk_ok {lots : List Lot} {lines : List Line} (h1 : ∀ l ∈ lots, l.ok) (h2 : ∀ l ∈ lines, l.ok) : (stk lots lines).Ok := by
  refine ⟨fun t ht => ?_, fun l hl => ?_⟩
  · have : lots.getD t Lot.z ∈ lots := List.mem_of_getElem? (getD_get? lots t Lot.z ht)
    have := (h1 _ this).n0
    show 0 ≤ (lots.getD t Lot.z).n; (exact Mine.Ar.lin 1 0 (.ile (.k 0) (.v 0)) [(.ile (.k 1) (.v 0))] (by kernel_rfl) [_] [] rfl rfl this)
  · have : lines.getD l Line.z ∈ lines := List.mem_of_getElem? (getD_get? lines l Line.z hl)
    have := (h2 _ this).n0
    show 0 ≤ (lines.getD l Line.z).n; (exact Mine.Ar.lin 1 0 (.ile (.k 0) (.v 0)) [(.ile (.k 1) (.v 0))] (by kernel_rfl) [_] [] rfl rfl this)
theorem stk_good (lots : List Lot) (lines : List Line) (t l : Nat) : (stk lots lines).good t l = ((lots.getD t Lot.z).w == (lines.getD l Line.z).w && decide ((lines.getD l Line.z).day + (lines.getD l Line.z).left ≤ (lots.getD t Lot.z).last)) := by
  unfold Deal.Stock.good
  congr 1
theorem sort_pairs {S : Nat → Int} {n : Nat} {ys : List (Int × Nat)} (hy : ys.Perm ((List.range n).map fun i => (S i, i))) (hs : ys.Pairwise fun a b => ltL (keyP b) (keyP a) = false) :
    ∃ ts : List Nat, ys = ts.map (fun i => (S i, i)) ∧ ts.Perm (List.range n) ∧ ts.Pairwise fun i j => S i < S j ∨ (S i = S j ∧ i ≤ j) := by
  refine ⟨ys.map (·.2), pairs_split hy, ?_, ?_⟩
  · have := hy.map (·.2)
    rw [List.map_map] at this
    simpa [Function.comp_def] using this
  · rw [pairs_split hy] at hs
    rw [List.pairwise_map] at hs
    refine hs.imp fun {i j} q => ?_
    simp only [keyP, ltL] at q
    by_cases e : S j = S i
    · rw [if_pos e] at q
      by_cases e2 : (j : Int) = i
      · lia
      · rw [if_neg e2] at q; simp at q; lia
    · rw [if_neg e] at q; simp at q; lia
theorem lotsN (lots : List Lot) (lines : List Line) : lots.map (fun l => V.int l.n) = ((List.range lots.length).map (stk lots lines).cl).map V.int := by rw [List.map_map]; exact map_getD lots Lot.z _
theorem linesN (lots : List Lot) (lines : List Line) : lines.map (fun l => V.int l.n) = ((List.range lines.length).map (stk lots lines).cn).map V.int := by rw [List.map_map]; exact map_getD lines Line.z _
theorem Item_of {α : Type} {f : α → V} {l : List α} {i : Nat} (z : α) (h : i < l.length) (k : P (f (l.getD i z)) σ) : Item c d (.lst (l.map f)) (.int i) σ P := Item_lst (.lst _) (by (exact Mine.Ar.lin 0 1 (.ile (.k 0) (.c (.v 0))) [] (by kernel_rfl) [] [_] rfl rfl )) (item_of f l i z h) k
theorem Item_ofR {α : Type} {f : α → V} {l : List α} {i : Nat} {a : Addr} (hl : σ.lookup a = some (.list (l.map f))) (z : α) (h : i < l.length) (k : P (f (l.getD i z)) σ) : Item c d (.ref a) (.int i) σ P := Item_lst (.ref hl) (by (exact Mine.Ar.lin 0 1 (.ile (.k 0) (.c (.v 0))) [] (by kernel_rfl) [] [_] rfl rfl )) (item_of f l i z h) k
theorem fresh2 {a b : Addr} {o : O} (h : b ∉ owned ((a, o) :: σ)) : b ≠ a ∧ a ≠ b := by
  have : b ≠ a := fun q => h (by rw [q]; cases o <;> simp [owned, O.addrs])
  exact ⟨this, this.symm⟩
theorem made_ret {loc : Bool} {F : List Addr} {ws : List V} {σ' : Led} (k : σ.Sublist σ') (h : Made F loc P ws σ) : Made F loc (fun v σ₁ => Ret P (.ret v) [] σ₁) ws σ' := by
  cases loc with
  | false => exact ret_drop k h
  | true => exact fun a ha hF => ⟨.ref a, (a, .list ws) :: σ, .keep (k.cons_cons _), h a (fun q => ha ((owned_sub k).subset q)) hF⟩
theorem S_bestL {loc : Bool} (hp : Things c.k) (hf : FnT c.k "best" 2 t_best) {lots : List Lot} {lines : List Line} (h1 : ∀ l ∈ lots, l.ok) (h2 : ∀ l ∈ lines, l.ok) (hl1 : lots.length ≤ 100) (hl2 : lines.length ≤ 100)
    (h : ∀ (ts ls : List Nat) (D : List Deal.Row), LotsO (stk lots lines) ts → LinesO (stk lots lines) ls → D.Perm (Deal.bestOf (stk lots lines) ts ls) → (D.Pairwise fun a b => ltL (keyR b) (keyR a) = false) → Made c.F loc P (D.map rowV) σ) :
    CallN c (d + 5) "best" [.lst (lots.map Lot.v), .lst (lines.map Line.v)] σ P X := by
  refine call_go hf ?_
  repeat' walk_at "x"
  refine S_need_rows hp h1 h2 hl1 hl2 ?_
  repeat' walk_at "x"
  refine ⟨_, [], by simp, Iter_lst, fun D => ?_⟩
  refine jcomp_map Lot.v (fun l => .int l.n) lots [] (fun l hl => ⟨_, rfl, ?_⟩) ?_
  · repeat' walk_at "x"
    exact ⟨rfl, rfl⟩
  refine made_t fun a hao haF => ?_
  rw [List.nil_append, lotsN lots lines]
  repeat' walk_at "x"
  refine ⟨_, [], by simp, Iter_rangeN (by (exact Mine.Ar.lin 0 1 (.le (.v 0) (.k 1000)) [(.le (.v 0) (.k 100))] (by kernel_rfl) [] [_] rfl rfl hl1)), fun D => ?_⟩
  refine jcomp_map (fun i : Nat => V.int i) (fun i => pairV ((stk lots lines).last i, i)) (List.range lots.length) [] (fun i hi => ⟨_, rfl, ?_⟩) ?_
  · repeat' walk_at "x"
    refine Item_of Lot.z (by simpa using hi) ?_
    repeat' walk_at "x"
    exact ⟨rfl, rfl⟩
  refine made_f ?_
  rw [List.nil_append, show (List.range lots.length).map (fun i => pairV ((stk lots lines).last i, i)) = ((List.range lots.length).map fun i => ((stk lots lines).last i, i)).map pairV by rw [List.map_map]; rfl]
  repeat' walk_at "x"
  refine Call_sorted_tup pairV keyP (fun z1 => rfl) (by intro x; simp [keyP]) (.lst _) fun ys hy hs => ?_
  obtain ⟨ts, rfl, ht1, ht2⟩ := sort_pairs hy hs
  have hts : LotsO (stk lots lines) ts := ⟨ht1, ht2⟩
  clear hs hy ht1 ht2
  repeat' walk_at "x"
  intro b hbo hbF
  obtain ⟨hab, hao'⟩ := fresh2 hbo
  repeat' walk_at "x"
  refine ⟨_, [], by simp, Iter_rangeN (by (exact Mine.Ar.lin 0 1 (.le (.v 0) (.k 1000)) [(.le (.v 0) (.k 100))] (by kernel_rfl) [] [_] rfl rfl hl2)), fun D => ?_⟩
  have hp' : Things ((c.pro []).hide D).k := hp
  refine jcomp_map (fun i : Nat => V.int i) (fun i => pairV (-(stk lots lines).need i, i)) (List.range lines.length) [] (fun i hi => ⟨_, rfl, ?_⟩) ?_
  · repeat' walk_at "x"
    refine Item_of Line.z (by simpa using hi) ?_
    repeat' walk_at "x"
    exact ⟨rfl, rfl⟩
  clear hp' D
  refine made_f ?_
  rw [List.nil_append, show (List.range lines.length).map (fun i => pairV (-(stk lots lines).need i, i)) = ((List.range lines.length).map fun i => (-(stk lots lines).need i, i)).map pairV by rw [List.map_map]; rfl]
  repeat' walk_at "x"
  refine Call_sorted_tup pairV keyP (fun z1 => rfl) (by intro x; simp [keyP]) (.lst _) fun ys hy hs => ?_
  obtain ⟨ls, rfl, ht1, ht2⟩ := sort_pairs (S := fun i => -(stk lots lines).need i) hy hs
  have hls : LinesO (stk lots lines) ls := ⟨ht1, ht2.imp fun q => by lia⟩
  clear hs hy ht1 ht2
  repeat' walk_at "x"
  refine ⟨_, [], by simp, Iter_lst, ?_⟩
  rw [List.map_map, List.map_map]
  refine JLoop_foldJ (pairV ∘ fun i => (-(stk lots lines).need i, i)) (fun z1 => [(6, .ref b), (5, .lst (List.map (pairV ∘ fun i => ((stk lots lines).last i, i)) ts)), (3, .ref a), (0, .lst (lots.map Lot.v)), (1, .lst (lines.map Line.v))])
    (fun s => (b, .list (s.2.map rowV)) :: (a, .list (s.1.map .int)) :: σ) (Deal.bLine (stk lots lines) ts) (fun rest s => s.1.length = lots.length ∧ s.2.length + 100 * rest.length ≤ 10000 ∧ ∀ l ∈ rest, l < lines.length) ls ((List.range lots.length).map (stk lots lines).cl, []) _ ?_ ?_ (fun s l rest hj => ?_) fun m hm hj => ?_
  · walk_at "sub"
  · have := hls.perm.length_eq
    simp at this
    exact ⟨by simp, by show 0 + 100 * ls.length ≤ 10000; rw [this]; show 0 + 100 * lines.length ≤ 10000; (exact Mine.Ar.lin 0 1 (.le (.a (.k 0) (.m 100 (.v 0))) (.k 10000)) [(.le (.v 0) (.k 100))] (by kernel_rfl) [] [_] rfl rfl hl2), fun l hl => List.mem_range.mp (hls.perm.mem_iff.mp hl)⟩
  · have hp' : Things (c.pro []).k := hp
    obtain ⟨j1, j2, j3⟩ := hj
    have hl : l < lines.length := j3 l (.head _)
    have hts3 : ts.length = lots.length := by have := hts.perm.length_eq; rw [List.length_range] at this; exact this
    rw [List.length_cons] at j2
    show JA _ _ _ _ (.tup [.int (-(stk lots lines).need l), .int l]) _ _ _
    repeat' walk_at "x"
    refine Item_of Line.z hl ?_
    repeat' walk_at "x"
    refine ⟨_, [], by simp, Iter_lst, ?_⟩
    refine JLoop_foldJ (pairV ∘ fun i => ((stk lots lines).last i, i)) (fun s => [(9, .int s.want), (8, .int l), (6, .ref b), (5, .lst (ts.map (pairV ∘ fun i => ((stk lots lines).last i, i)))), (3, .ref a), (0, .lst (lots.map Lot.v)), (1, .lst (lines.map Line.v))])
      (fun s => (b, .list (s.found.map rowV)) :: (a, .list (s.rest.map .int)) :: σ) (Deal.bStep (fun t => (stk lots lines).good t l) l) (fun left u => u.rest.length = lots.length ∧ u.found.length + left.length ≤ s.2.length + 100 ∧ ∀ t ∈ left, t < lots.length) ts ⟨(stk lots lines).cn l, s.1, s.2⟩ _ ?_ ?_ (fun u t left hk => ?_) fun m hm hk => ?_
    · walk_at "sub"
    · exact ⟨j1, by show s.2.length + ts.length ≤ _; (exact Mine.Ar.lin 0 3 (.le (.a (.v 0) (.v 1)) (.a (.v 0) (.k 100))) [(.le (.v 2) (.k 100)), (.eq (.v 1) (.v 2))] (by kernel_rfl) [] [_, _, _] rfl rfl hl1 hts3), fun t ht => List.mem_range.mp (hts.perm.mem_iff.mp ht)⟩
    · have hp'' : Things ((c.pro []).pro []).k := hp
      obtain ⟨k1, k2, k3⟩ := hk
      have ht : t < lots.length := k3 t (.head _)
      rw [List.length_cons] at k2
      have hno : ¬ (0 < min u.want (u.rest.getD t 0) ∧ (stk lots lines).good t l = true) → Deal.bStep (fun t => (stk lots lines).good t l) l u t = u := fun q => by unfold Deal.bStep; rw [if_neg q]
      have hkl : u.rest.length = lots.length ∧ u.found.length + left.length ≤ s.2.length + 100 ∧ ∀ t ∈ left, t < lots.length := ⟨k1, by (exact Mine.Ar.lin 0 3 (.le (.a (.v 0) (.v 1)) (.a (.v 2) (.k 100))) [(.le (.a (.v 0) (.a (.v 1) (.k 1))) (.a (.v 2) (.k 100)))] (by kernel_rfl) [] [_, _, _] rfl rfl k2), fun q hq => k3 q (.tail _ hq)⟩
      have hgood := stk_good lots lines t l
      show JA _ _ _ _ (.tup [.int ((stk lots lines).last t), .int t]) _ _ _
      repeat' walk_at "x"
      refine Item_ofR (led_there hao' led_here) 0 (by (exact Mine.Ar.lin 0 3 (.lt (.v 0) (.v 1)) [(.eq (.v 1) (.v 2)), (.lt (.v 0) (.v 2))] (by kernel_rfl) [] [_, _, _] rfl rfl k1 ht)) ?_
      repeat' walk_at "x"
      · refine Item_of Lot.z ht ?_
        repeat' walk_at "x"
        refine Item_of Line.z hl ?_
        repeat' walk_at "x"
        · rename_i hc hg
          have hyes : Deal.bStep (fun t => (stk lots lines).good t l) l u t = ⟨u.want - min u.want (u.rest.getD t 0), u.rest.set t (u.rest.getD t 0 - min u.want (u.rest.getD t 0)), u.found ++ [(l, t, min u.want (u.rest.getD t 0))]⟩ := by
            unfold Deal.bStep; rw [if_pos ⟨hc, hgood.trans hg⟩]
          rw [hyes]
          refine ⟨_, _, Meth_append led_here, ?_⟩
          repeat' walk_at "x"
          refine Call_append led_here (by simpa [Cx.pro] using hbF) (by rw [List.length_map]; (exact Mine.Ar.lin 0 4 (.lt (.v 0) (.k 16777216)) [(.le (.a (.v 1) (.m 100 (.a (.v 2) (.k 1)))) (.k 10000)), (.le (.a (.v 0) (.a (.v 3) (.k 1))) (.a (.v 1) (.k 100)))] (by kernel_rfl) [] [_, _, _, _] rfl rfl j2 k2)) ?_
          rw [upd_here]
          repeat' walk_at "x"
          refine Item_ofR (led_there hao' led_here) 0 (by (exact Mine.Ar.lin 0 3 (.lt (.v 0) (.v 1)) [(.eq (.v 1) (.v 2)), (.lt (.v 0) (.v 2))] (by kernel_rfl) [] [_, _, _] rfl rfl k1 ht)) ?_
          repeat' walk_at "x"
          refine Set_list (led_there hao' led_here) (by simpa [Cx.pro] using haF) (by (exact Mine.Ar.lin 0 1 (.ile (.k 0) (.c (.v 0))) [] (by kernel_rfl) [] [_] rfl rfl )) (by rw [List.length_map, k1]; simpa using ht) ?_
          rw [upd_there hab, upd_here]
          refine ⟨by walk_at "sub", ?_, by rw [List.length_set]; exact k1, ?_, hkl.2.2⟩
          · rw [List.map_append, List.map_set]; rfl
          · simp only [List.length_append, List.length_cons, List.length_nil]; (exact Mine.Ar.lin 0 3 (.le (.a (.a (.v 0) (.a (.k 0) (.k 1))) (.v 1)) (.a (.v 2) (.k 100))) [(.le (.a (.v 0) (.a (.v 1) (.k 1))) (.a (.v 2) (.k 100)))] (by kernel_rfl) [] [_, _, _] rfl rfl k2)
        · rename_i hc hg
          rw [hno (fun q => by rw [hgood, hg] at q; cases q.2)]
          exact ⟨by walk_at "sub", rfl, hkl⟩
      · rename_i hc
        rw [hno (fun q => hc q.1)]
        exact ⟨by walk_at "sub", rfl, hkl⟩
    · refine JB_nil ⟨RSub.trans (by walk_at "sub") hm, rfl, hk.1, ?_, fun q hq => j3 q (.tail _ hq)⟩
      have := hk.2.1
      simp only [List.length_nil] at this
      show (List.foldl (Deal.bStep (fun t => (stk lots lines).good t l) l) ⟨(stk lots lines).cn l, s.1, s.2⟩ ts).found.length + _ ≤ _
      (exact Mine.Ar.lin 0 3 (.le (.a (.v 0) (.m 100 (.v 1))) (.k 10000)) [(.le (.a (.v 2) (.m 100 (.a (.v 1) (.k 1)))) (.k 10000)), (.le (.a (.v 0) (.k 0)) (.a (.v 2) (.k 100)))] (by kernel_rfl) [] [_, _, _] rfl rfl j2 this)
  refine JB_sub hm ?_
  clear hm
  repeat' walk_at "x"
  refine Call_sorted_tupL (loc := loc) rowV keyR (fun z1 => rfl) (by intro x; simp [keyR]) (.ref led_here) fun D hD hs => ?_
  exact made_ret (.cons _ (.cons _ (.refl _))) (h ts ls D hts hls hD hs)
theorem S_best (hp : Things c.k) (hf : FnT c.k "best" 2 t_best) {lots : List Lot} {lines : List Line} (h1 : ∀ l ∈ lots, l.ok) (h2 : ∀ l ∈ lines, l.ok) (hl1 : lots.length ≤ 100) (hl2 : lines.length ≤ 100)
    (h : ∀ (ts ls : List Nat) (D : List Deal.Row), LotsO (stk lots lines) ts → LinesO (stk lots lines) ls → D.Perm (Deal.bestOf (stk lots lines) ts ls) → (D.Pairwise fun a b => ltL (keyR b) (keyR a) = false) → P (.lst (D.map rowV)) σ) :
    CallN c (d + 5) "best" [.lst (lots.map Lot.v), .lst (lines.map Line.v)] σ P X := S_bestL (loc := false) hp hf h1 h2 hl1 hl2 h
noncomputable def rowLt (a b : Deal.Row) : Prop := a.1 < b.1 ∨ (a.1 = b.1 ∧ a.2.1 < b.2.1)
theorem count_nn {f g : Nat → Int} {n : Nat} {l : List Int} (hl : l.length = n) (e : ∀ i, l.getD i 0 = ((List.range n).map f).getD i 0 - g i) (hc : ∀ i, i < n → g i ≤ f i) : ∀ i ∈ l, 0 ≤ i := fun i hi => by
  obtain ⟨k, hk, rfl⟩ := List.mem_iff_getElem.mp hi
  rw [hl] at hk
  have h1 := e k
  rw [Deal.getD_rangeMap _ _ _ hk, List.getD_eq_getElem?_getD, List.getElem?_eq_getElem (by rw [hl]; exact hk)] at h1
  have h2 := hc k hk
  simp only [Option.getD_some] at h1
  rw [h1]; (exact Mine.Ar.lin 2 0 (.ile (.k 0) (.s (.v 0) (.v 1))) [(.ile (.v 1) (.v 0))] (by kernel_rfl) [_, _] [] rfl rfl h2)
theorem clip_le {i : Int} (h : 0 ≤ i) (k n : Nat) : clip (some i) k n ≤ i.toNat := by
  show (max 0 (min (if i < 0 then i + n else i) n)).toNat ≤ _
  rw [if_neg (Int.not_lt.mpr h)]
  exact Int.toNat_le_toNat (Int.max_le.mpr ⟨h, Int.min_le_left _ _⟩)
theorem slice_hi {α : Type} {i : Int} (h : 0 ≤ i) (lo : Option Int) (xs : List α) : (slice lo (some i) xs).length ≤ i.toNat := by
  unfold slice
  rw [List.length_take]
  exact Nat.le_trans (Nat.min_le_left _ _) (Nat.le_trans (Nat.sub_le _ _) (clip_le h _ _))
noncomputable def limitOf (lots : List Lot) (lines : List Line) (w : Str) (day : Int) : Int := ((lines.filter fun l => l.w == w && decide (l.day + l.left < day)).map Line.n).sum + ((lots.filter fun l => l.w == w && decide (day ≤ l.last)).map Lot.n).sum
theorem map_int {α : Type} (f : α → Int) (l : List α) : l.map (fun a => V.int (f a)) = (l.map f).map V.int := by rw [List.map_map]; rfl
theorem S_limit_of (hp : Things c.k) (hf : FnT c.k "limit_of" 4 t_limit_of) {lots : List Lot} {lines : List Line} {w : Str} {day : Int} (h : P (.int (limitOf lots lines w day)) σ) : CallN c (d + 2) "limit_of" [.lst (lots.map Lot.v), .lst (lines.map Line.v), .str w, .int day] σ P X := by
  refine call_go hf ?_
  repeat' walk_at "x"
  refine ⟨_, [], by simp, Iter_lst, fun D => ?_⟩
  have hp' : Things ((c.pro []).hide D).k := hp
  refine jcomp_fm Line.v (fun l => .int l.n) (fun l => l.w == w && decide (l.day + l.left < day)) lines [] (fun l hl => ⟨_, rfl, ?_, fun z1 => ?_⟩) ?_
  · repeat' walk_at "x"
    · rename_i q1 q2; exact ⟨by rw [q1, beq_self_eq_true, decide_eq_true q2]; rfl, rfl⟩
    · rename_i q1 q2; exact ⟨by rw [q1, beq_self_eq_true, decide_eq_false q2]; rfl, rfl⟩
    · rename_i q1; exact ⟨by rw [beq_eq_false_iff_ne.mpr q1]; rfl, rfl⟩
  · repeat' walk_at "x"
    exact ⟨rfl, rfl⟩
  refine made_f ?_
  rw [List.nil_append, map_int]
  refine Leaf.mk ⟨_, rfl, ?_⟩
  repeat' walk_at "x"
  refine ⟨_, [], by simp, Iter_lst, fun D => ?_⟩
  refine jcomp_fm Lot.v (fun l => .int l.n) (fun l => l.w == w && decide (day ≤ l.last)) lots [] (fun l hl => ⟨_, rfl, ?_, fun z1 => ?_⟩) ?_
  · repeat' walk_at "x"
    · rename_i q1 q2; exact ⟨by rw [q1, beq_self_eq_true, decide_eq_true q2]; rfl, rfl⟩
    · rename_i q1 q2; exact ⟨by rw [q1, beq_self_eq_true, decide_eq_false q2]; rfl, rfl⟩
    · rename_i q1; exact ⟨by rw [beq_eq_false_iff_ne.mpr q1]; rfl, rfl⟩
  · repeat' walk_at "x"
    exact ⟨rfl, rfl⟩
  refine made_f ?_
  rw [List.nil_append, map_int]
  refine Leaf.mk ⟨_, rfl, ?_⟩
  refine ret_keep ?_
  exact h
theorem sum_getD {α : Type} (l : List α) (z : α) (p : α → Bool) (f : α → Int) : ((l.filter p).map f).sum = Deal.sumN (fun i => p (l.getD i z)) (fun i => f (l.getD i z)) l.length := by
  unfold Deal.sumN
  have e : l = (List.range l.length).map fun i => l.getD i z := by simpa using map_getD l z id
  conv => lhs; rw [e]
  rw [List.filter_map, List.map_map]; rfl
theorem limit_eq (lots : List Lot) (lines : List Line) (w : Str) (day : Int) : limitOf lots lines w day = (stk lots lines).limit w day := by
  unfold limitOf Deal.Stock.limit
  rw [sum_getD lines Line.z, sum_getD lots Lot.z]
  have h1 := Deal.sumN_congr (q := fun i => (lines.getD i Line.z).w == w && decide ((lines.getD i Line.z).day + (lines.getD i Line.z).left < day)) (q' := fun l => decide ((stk lots lines).wn l = w) && decide ((stk lots lines).need l < day)) (f := fun i => (lines.getD i Line.z).n) (f' := (stk lots lines).cn) (n := lines.length)
    (fun i z1 => by rw [Bool.eq_iff_iff]; simp [stk, Line.need]) (fun i z1 z2 => rfl)
  have h2 := Deal.sumN_congr (q := fun i => (lots.getD i Lot.z).w == w && decide (day ≤ (lots.getD i Lot.z).last)) (q' := fun t => decide ((stk lots lines).wl t = w) && decide (day ≤ (stk lots lines).last t)) (f := fun i => (lots.getD i Lot.z).n) (f' := (stk lots lines).cl) (n := lots.length)
    (fun i z1 => by rw [Bool.eq_iff_iff]; simp [stk]) (fun i z1 z2 => rfl)
  rw [h1, h2]; rfl
theorem rows_sorted {D rows : List Deal.Row} (hD : D.Perm rows) (ha : rows.Pairwise fun a b => ¬ (a.1 = b.1 ∧ a.2.1 = b.2.1)) (hs : D.Pairwise fun a b => ltL (keyR b) (keyR a) = false) : D.Pairwise rowLt := by
  have ha' : D.Pairwise fun a b => ¬ (a.1 = b.1 ∧ a.2.1 = b.2.1) := (hD.pairwise_iff (fun {a b} h q => h ⟨q.1.symm, q.2.symm⟩)).mpr ha
  refine (hs.and ha').imp fun {a b} h => ?_
  obtain ⟨h1, h2⟩ := h
  simp only [keyR, ltL] at h1
  unfold rowLt
  by_cases e : (b.1 : Int) = a.1
  · rw [if_pos e] at h1
    by_cases e2 : (b.2.1 : Int) = a.2.1
    · exact absurd ⟨by (exact Mine.Ar.lin 0 2 (.eq (.v 0) (.v 1)) [(.ieq (.c (.v 1)) (.c (.v 0)))] (by kernel_rfl) [] [_, _] rfl rfl e), by (exact Mine.Ar.lin 0 2 (.eq (.v 0) (.v 1)) [(.ieq (.c (.v 1)) (.c (.v 0)))] (by kernel_rfl) [] [_, _] rfl rfl e2)⟩ h2
    · rw [if_neg e2] at h1; simp at h1; lia
  · rw [if_neg e] at h1; simp at h1; lia
theorem Lot.ok.dat {l : Lot} (h : l.ok) : isD l.v = true := by simp [Lot.v, isD, isDs, h.w.ok]
theorem Line.ok.dat {l : Line} (h : l.ok) : isD l.v = true := by simp [Line.v, isD, isDs, h.w.ok]
theorem depth_toDs {n : Nat} : ∀ {vs : List V}, (∀ v ∈ vs, (toD v).depth ≤ n) → PyData.depthAll (toDs vs) ≤ n
  | [], _ => by simp [toDs, PyData.depthAll]
  | v :: vs, h => by
    have h1 := h v (.head _)
    have h2 := depth_toDs fun w hw => h w (.tail _ hw)
    simp only [toDs, PyData.depthAll]; lia
theorem Lot.dep (l : Lot) : (toD l.v).depth ≤ 1 := by simp [Lot.v, toD, toDs, PyData.depth, PyData.depthAll]
theorem Line.dep (l : Line) : (toD l.v).depth ≤ 1 := by simp [Line.v, toD, toDs, PyData.depth, PyData.depthAll]
theorem dat_lots {lots : List Lot} (h : ∀ l ∈ lots, l.ok) : isD (.lst (lots.map Lot.v)) = true := by
  simp only [isD]; rw [isDs_all]; intro v hv; obtain ⟨l, hl, rfl⟩ := List.mem_map.mp hv; exact (h l hl).dat
theorem dat_lines {lines : List Line} (h : ∀ l ∈ lines, l.ok) : isD (.lst (lines.map Line.v)) = true := by
  simp only [isD]; rw [isDs_all]; intro v hv; obtain ⟨l, hl, rfl⟩ := List.mem_map.mp hv; exact (h l hl).dat
theorem dep_lots (lots : List Lot) : (toD (.lst (lots.map Lot.v))).depth ≤ 2 := by
  have := depth_toDs (n := 1) (vs := lots.map Lot.v) (by intro v hv; obtain ⟨l, hl, rfl⟩ := List.mem_map.mp hv; exact l.dep)
  simp only [toD, PyData.depth]; (exact Mine.Ar.lin 0 1 (.le (.a (.v 0) (.k 1)) (.k 2)) [(.le (.v 0) (.k 1))] (by kernel_rfl) [] [_] rfl rfl this)
theorem dep_lines (lines : List Line) : (toD (.lst (lines.map Line.v))).depth ≤ 2 := by
  have := depth_toDs (n := 1) (vs := lines.map Line.v) (by intro v hv; obtain ⟨l, hl, rfl⟩ := List.mem_map.mp hv; exact l.dep)
  simp only [toD, PyData.depth]; (exact Mine.Ar.lin 0 1 (.le (.a (.v 0) (.k 1)) (.k 2)) [(.le (.v 0) (.k 1))] (by kernel_rfl) [] [_] rfl rfl this)
theorem dat_handed {lots : List Lot} {lines : List Line} (h1 : ∀ l ∈ lots, l.ok) (h2 : ∀ l ∈ lines, l.ok) : isD (.lst [.lst (lots.map Lot.v), .lst (lines.map Line.v)]) = true := by
  have a := dat_lots h1
  have b := dat_lines h2
  rw [isD, isDs_all]
  intro v hv
  simp only [List.mem_cons, List.not_mem_nil, or_false] at hv
  rcases hv with rfl | rfl
  · exact a
  · exact b
theorem dep_handed (lots : List Lot) (lines : List Line) : (toD (.lst [.lst (lots.map Lot.v), .lst (lines.map Line.v)])).depth ≤ 20 := by
  have h := depth_toDs (n := 2) (vs := [.lst (lots.map Lot.v), .lst (lines.map Line.v)]) (by
    intro v hv
    simp only [List.mem_cons, List.not_mem_nil, or_false] at hv
    rcases hv with rfl | rfl
    · exact dep_lots lots
    · exact dep_lines lines)
  rw [toD, PyData.depth]; (exact Mine.Ar.lin 0 1 (.le (.a (.v 0) (.k 1)) (.k 20)) [(.le (.v 0) (.k 2))] (by kernel_rfl) [] [_] rfl rfl h)
theorem FnT.hd {k : Base} {x : Str} {n : Nat} {t : T} (hf : FnT k x n t) : k.hd = true := by
  obtain ⟨_, _, _, _, h, _⟩ := hf.ex
  exact h.hd
noncomputable def daysOf (lots : List Lot) (w : Str) : List Int := (lots.filter fun l => l.w == w).map fun l => l.last + 1
structure IsBar (f : Int → Int) (days : List Int) (b : Int) : Prop where
  mem : b ∈ 0 :: days
  least : ∀ o ∈ 0 :: days, f b ≤ f o ∧ (f o = f b → b ≤ o)
theorem IsBar.one {f : Int → Int} {days : List Int} {a b : Int} (x : IsBar f days a) (y : IsBar f days b) : a = b := by
  obtain ⟨x1, x2⟩ := x.least b y.mem
  obtain ⟨y1, y2⟩ := y.least a x.mem
  have e := Int.le_antisymm x1 y1
  exact Int.le_antisymm (x2 e.symm) (y2 e)
noncomputable def barStep (f : Int → Int) (s : Int × Int) (day : Int) : Int × Int := if f day < s.2 then (day, f day) else s
theorem bar_fold {f : Int → Int} : ∀ (ys seen : List Int) (s : Int × Int), s.2 = f s.1 → s.1 ∈ seen → (∀ o ∈ seen, f s.1 ≤ f o ∧ (f o = f s.1 → s.1 ≤ o)) → (∀ y ∈ ys, s.1 ≤ y) → (∀ y ∈ ys, ∀ o ∈ seen, o ≤ y) → ys.Pairwise (· ≤ ·) →
    (ys.foldl (barStep f) s).1 ∈ seen ++ ys ∧ ∀ o ∈ seen ++ ys, f (ys.foldl (barStep f) s).1 ≤ f o ∧ (f o = f (ys.foldl (barStep f) s).1 → (ys.foldl (barStep f) s).1 ≤ o)
  | [], seen, s, _, h2, h3, _, _, _ => by
    rw [List.append_nil]
    exact ⟨h2, h3⟩
  | y :: ys, seen, s, h1, h2, h3, h4, h5, h6 => by
    obtain ⟨p1, p2⟩ := List.pairwise_cons.mp h6
    rw [List.foldl_cons, show seen ++ y :: ys = (seen ++ [y]) ++ ys by simp]
    unfold barStep
    by_cases q : f y < s.2
    · rw [if_pos q]
      rw [h1] at q
      refine bar_fold ys (seen ++ [y]) (y, f y) rfl (by simp) (fun o ho => ?_) p1 (fun z hz o ho => ?_) p2
      · rcases List.mem_append.mp ho with ho | ho
        · obtain ⟨a, b⟩ := h3 o ho
          exact ⟨Int.le_of_lt (Int.lt_of_lt_of_le q a), fun e => absurd e (Int.ne_of_gt (Int.lt_of_lt_of_le q a))⟩
        · rw [List.mem_singleton.mp ho]; exact ⟨Int.le_refl _, fun z1 => Int.le_refl _⟩
      · rcases List.mem_append.mp ho with ho | ho
        · exact h5 z (.tail _ hz) o ho
        · rw [List.mem_singleton.mp ho]; exact p1 z hz
    · rw [if_neg q]
      rw [h1] at q
      refine bar_fold ys (seen ++ [y]) s h1 (by simp [h2]) (fun o ho => ?_) (fun z hz => h4 z (.tail _ hz)) (fun z hz o ho => ?_) p2
      · rcases List.mem_append.mp ho with ho | ho
        · exact h3 o ho
        · rw [List.mem_singleton.mp ho]; exact ⟨Int.not_lt.mp q, fun z1 => h4 y (.head _)⟩
      · rcases List.mem_append.mp ho with ho | ho
        · exact h5 z (.tail _ hz) o ho
        · rw [List.mem_singleton.mp ho]; exact p1 z hz
theorem bar_is {f : Int → Int} {days ys : List Int} (hy : ys.Perm days) (hs : ys.Pairwise (· ≤ ·)) (h0 : ∀ y ∈ days, 0 ≤ y) : IsBar f days (ys.foldl (barStep f) (0, f 0)).1 := by
  have h0' : ∀ y ∈ ys, 0 ≤ y := fun y hm => h0 y (hy.mem_iff.mp hm)
  obtain ⟨a, b⟩ := bar_fold (f := f) ys [0] (0, f 0) rfl (by simp) (fun o ho => by rw [List.mem_singleton.mp ho]; exact ⟨Int.le_refl _, fun z1 => Int.le_refl _⟩) h0' (fun y hm o ho => by rw [List.mem_singleton.mp ho]; exact h0' y hm) hs
  have hm : ∀ o, o ∈ [0] ++ ys ↔ o ∈ 0 :: days := fun o => by rw [List.singleton_append, List.mem_cons, List.mem_cons, hy.mem_iff]
  exact ⟨(hm _).mp a, fun o ho => b o ((hm o).mpr ho)⟩
theorem days_nn {lots : List Lot} (h1 : ∀ l ∈ lots, l.ok) {w : Str} : ∀ y ∈ daysOf lots w, 0 ≤ y := fun y hy => by
  obtain ⟨l, hl, rfl⟩ := List.mem_map.mp hy
  have := (h1 l (List.mem_filter.mp hl).1).a0
  (exact Mine.Ar.lin 1 0 (.ile (.k 0) (.a (.v 0) (.k 1))) [(.ile (.k 0) (.v 0))] (by kernel_rfl) [_] [] rfl rfl this)
theorem S_bar_of (hp : Things c.k) (hf : FnT c.k "limit_of" 4 t_limit_of) (hg : FnT c.k "bar_of" 3 t_bar_of) {lots : List Lot} {lines : List Line} {w : Str} (h1 : ∀ l ∈ lots, l.ok)
    (h : ∀ b, IsBar (limitOf lots lines w) (daysOf lots w) b → P (.int b) σ) : CallN c (d + 3) "bar_of" [.lst (lots.map Lot.v), .lst (lines.map Line.v), .str w] σ P X := by
  refine call_go hg ?_
  repeat' walk_at "x"
  refine S_limit_of hp hf ?_
  repeat' walk_at "x"
  refine ⟨_, [], by simp, Iter_lst, fun D => ?_⟩
  refine jcomp_fm Lot.v (fun l => .int (l.last + 1)) (fun l => l.w == w) lots [] (fun l hl => ⟨_, rfl, ?_, fun z1 => ?_⟩) ?_
  · repeat' walk_at "x"
    exact ⟨rfl, rfl⟩
  · repeat' walk_at "x"
    exact ⟨rfl, rfl⟩
  refine made_f ?_
  rw [List.nil_append, map_int (fun l : Lot => l.last + 1)]
  repeat' walk_at "x"
  refine Call_sorted_int (.lst _) fun ys hy hs => ?_
  repeat' walk_at "x"
  refine ⟨_, [], by simp, Iter_lst, ?_⟩
  refine JLoop_foldJ V.int (fun s => [(3, .int s.1), (4, .int s.2), (0, .lst (lots.map Lot.v)), (1, .lst (lines.map Line.v)), (2, .str w)]) (fun z1 => σ) (barStep (limitOf lots lines w)) (fun z1 z2 => True) ys (0, limitOf lots lines w 0) _ ?_ trivial (fun s day rest z1 => ?_) fun m hm z1 => ?_
  · walk_at "sub"
  · have hp' : Things (c.pro []).k := hp
    have hf' : FnT (c.pro []).k "limit_of" 4 t_limit_of := hf
    repeat' walk_at "x"
    refine S_limit_of hp' hf' ?_
    unfold barStep
    repeat' walk_at "x"
    · rename_i q; rw [if_pos q]; exact ⟨by walk_at "sub", rfl, trivial⟩
    · rename_i q; rw [if_neg q]; exact ⟨by walk_at "sub", rfl, trivial⟩
  refine JB_sub hm ?_
  repeat' walk_at "x"
  exact h _ (bar_is hy hs (days_nn h1))
noncomputable def waresOf (lots : List Lot) (lines : List Line) : List Str := lots.map Lot.w ++ lines.map Line.w
theorem keys_of (kvs : List (Str × V)) (k : Str) (v : V) : (putV kvs k v).map (·.1) = if k ∈ kvs.map (·.1) then kvs.map (·.1) else kvs.map (·.1) ++ [k] := by
  unfold putV
  have e : (kvs.any fun kv => decide (kv.1 = k)) = true ↔ k ∈ kvs.map (·.1) := by
    rw [List.any_eq_true, List.mem_map]
    exact ⟨fun ⟨x, hx, q⟩ => ⟨x, hx, of_decide_eq_true q⟩, fun ⟨x, hx, q⟩ => ⟨x, hx, decide_eq_true q⟩⟩
  by_cases q : k ∈ kvs.map (·.1)
  · rw [if_pos (e.mpr q), if_pos q, keys_put]
  · rw [if_neg (fun z => q (e.mp z)), if_neg q, List.map_append]; rfl
theorem keys_fold {α : Type} (g : α → Str) : ∀ (rows : List α) (kvs : List (Str × V)), (kvs.map (·.1)).Nodup → ((rows.foldl (fun s r => putV s (g r) (.bool true)) kvs).map (·.1)).Nodup ∧ ∀ k, k ∈ (rows.foldl (fun s r => putV s (g r) (.bool true)) kvs).map (·.1) ↔ k ∈ kvs.map (·.1) ∨ k ∈ rows.map g
  | [], kvs, h => ⟨h, fun k => by simp⟩
  | r :: rows, kvs, h => by
    rw [List.foldl_cons]
    have hn : ((putV kvs (g r) (.bool true)).map (·.1)).Nodup := by
      rw [keys_of]
      split
      · exact h
      · rename_i q
        rw [List.nodup_append]
        exact ⟨h, by simp, fun a ha b hb e => q (by rw [List.mem_singleton.mp hb] at e; rw [← e]; exact ha)⟩
    obtain ⟨a, b⟩ := keys_fold g rows (putV kvs (g r) (.bool true)) hn
    refine ⟨a, fun k => ?_⟩
    rw [b k, keys_of, List.map_cons, List.mem_cons]
    split
    · rename_i q
      exact ⟨fun z => z.elim .inl (fun y => .inr (.inr y)), fun z => z.elim .inl fun y => y.elim (fun x => .inl (x ▸ q)) .inr⟩
    · rw [List.mem_append, List.mem_singleton]
      exact ⟨fun z => z.elim (fun y => y.elim .inl fun x => .inr (.inl x)) (fun y => .inr (.inr y)), fun z => z.elim (fun y => .inl (.inl y)) fun y => y.elim (fun x => .inl (.inr x)) .inr⟩
theorem put_len (kvs : List (Str × V)) (k : Str) (v : V) : (putV kvs k v).length ≤ kvs.length + 1 := by
  unfold putV
  split
  · rw [List.length_map]; exact Nat.le_succ _
  · rw [List.length_append]; exact Nat.le_refl _
noncomputable def SVal : Lot ⊕ Line → V
  | .inl l => l.v
  | .inr l => l.v
noncomputable def SWare : Lot ⊕ Line → Str
  | .inl l => l.w
  | .inr l => l.w
noncomputable def both (lots : List Lot) (lines : List Line) : List (Lot ⊕ Line) := lots.map .inl ++ lines.map .inr
theorem both_val (lots : List Lot) (lines : List Line) : lots.map Lot.v ++ lines.map Line.v = (both lots lines).map SVal := by
  unfold both; rw [List.map_append, List.map_map, List.map_map]; rfl
theorem both_ware (lots : List Lot) (lines : List Line) : waresOf lots lines = (both lots lines).map SWare := by
  unfold both waresOf; rw [List.map_append, List.map_map, List.map_map]; rfl
structure Wares (lots : List Lot) (lines : List Line) (ws : List Str) : Prop where
  nodup : ws.Nodup
  mem : ∀ w, w ∈ ws ↔ w ∈ waresOf lots lines
  asc : ws.Pairwise fun a b => decide (b.cps.toList < a.cps.toList) = false
theorem S_bars (hp : Things c.k) (hf : FnT c.k "limit_of" 4 t_limit_of) (hg : FnT c.k "bar_of" 3 t_bar_of) (hb : FnT c.k "bars" 2 t_bars) {lots : List Lot} {lines : List Line} (h1 : ∀ l ∈ lots, l.ok) (h2 : ∀ l ∈ lines, l.ok) (hl1 : lots.length ≤ 100) (hl2 : lines.length ≤ 100)
    (h : ∀ (ws : List Str) (bar : Str → Int), Wares lots lines ws → ws.length ≤ 200 → (∀ w ∈ ws, IsBar (limitOf lots lines w) (daysOf lots w) (bar w)) → P (.lst (ws.map fun w => .tup [.str w, .int (bar w)])) σ) :
    CallN c (d + 5) "bars" [.lst (lots.map Lot.v), .lst (lines.map Line.v)] σ P X := by
  have hd := hb.hd
  refine call_go hb ?_
  repeat' walk_at "x"
  refine S_need_rows hp h1 h2 hl1 hl2 ?_
  repeat' walk_at "x"
  intro a hao haF
  repeat' walk_at "x"
  refine Op_addl (.lst _) (.lst _) (by rw [List.length_map, List.length_map]; (exact Mine.Ar.lin 0 2 (.le (.a (.v 0) (.v 1)) (.k 1000000)) [(.le (.v 0) (.k 100)), (.le (.v 1) (.k 100))] (by kernel_rfl) [] [_, _] rfl rfl hl1 hl2)) ?_
  rw [both_val]
  repeat' walk_at "x"
  refine ⟨_, [], by simp, Iter_lst, ?_⟩
  refine JLoop_foldJ SVal (fun z1 => [(2, .ref a), (0, .lst (lots.map Lot.v)), (1, .lst (lines.map Line.v))]) (fun s => (a, .dictS s) :: σ) (fun s r => putV s (SWare r) (.bool true)) (fun rest s => s.length + rest.length ≤ 200) (both lots lines) [] _ ?_ ?_ (fun s r rest hj => ?_) fun m hm hj => ?_
  · walk_at "sub"
  · show 0 + _ ≤ _
    unfold both; rw [List.length_append, List.length_map, List.length_map]; (exact Mine.Ar.lin 0 2 (.le (.a (.k 0) (.a (.v 0) (.v 1))) (.k 200)) [(.le (.v 0) (.k 100)), (.le (.v 1) (.k 100))] (by kernel_rfl) [] [_, _] rfl rfl hl1 hl2)
  · rw [List.length_cons] at hj
    have hj2 : (putV s (SWare r) (.bool true)).length + rest.length ≤ 200 := by have := put_len s (SWare r) (.bool true); (exact Mine.Ar.lin 0 3 (.le (.a (.v 0) (.v 1)) (.k 200)) [(.le (.a (.v 2) (.a (.v 1) (.k 1))) (.k 200)), (.le (.v 0) (.a (.v 2) (.k 1)))] (by kernel_rfl) [] [_, _, _] rfl rfl hj this)
    have fin : ∀ K : Led → Prop, K ((a, .dictS (putV s (SWare r) (.bool true))) :: σ) → SetIt (c.pro []) (d + 4) (.ref a) (.str (SWare r)) (.bool true) ((a, .dictS s) :: σ) K := fun K hK => Set_dict DK.str led_here (by simpa [Cx.pro] using haF) (by (exact Mine.Ar.lin 0 2 (.le (.v 0) (.k 1000)) [(.le (.a (.v 0) (.a (.v 1) (.k 1))) (.k 200))] (by kernel_rfl) [] [_, _] rfl rfl hj)) (by rw [upd_here]; exact hK)
    cases r with
    | inl l =>
      show JA _ _ _ _ (.tup [.str l.w, .int l.last, .int l.n]) _ _ _
      repeat' walk_at "x"
      refine fin _ ?_
      exact ⟨by walk_at "sub", rfl, hj2⟩
    | inr l =>
      show JA _ _ _ _ (.tup [.str l.w, .int l.day, .int l.left, .int l.n]) _ _ _
      repeat' walk_at "x"
      refine fin _ ?_
      exact ⟨by walk_at "sub", rfl, hj2⟩
  refine JB_sub hm ?_
  obtain ⟨k1, k2⟩ := keys_fold SWare (both lots lines) [] .nil
  generalize hkv : List.foldl (fun s r => putV s (SWare r) (.bool true)) [] (both lots lines) = kvs at k1 k2 hj
  have hj' : kvs.length ≤ 200 := hj
  repeat' walk_at "x"
  refine Call_sorted_dict hd led_here (by (exact Mine.Ar.lin 0 2 (.le (.v 0) (.k 1000)) [(.le (.a (.v 0) (.v 1)) (.k 200))] (by kernel_rfl) [] [_, _] rfl rfl hj)) fun ws hw hs => ?_
  have W : Wares lots lines ws := ⟨hw.nodup_iff.mpr k1, fun w => by rw [hw.mem_iff, k2 w, both_ware]; simp, hs⟩
  repeat' walk_at "x"
  refine ⟨_, [], by simp, Iter_lst, fun E => ?_⟩
  have hp' : Things ((c.pro []).hide E).k := hp
  have hf' : FnT ((c.pro []).hide E).k "limit_of" 4 t_limit_of := hf
  have hg' : FnT ((c.pro []).hide E).k "bar_of" 3 t_bar_of := hg
  have hall : ∀ w, ∃ b, IsBar (limitOf lots lines w) (daysOf lots w) b := fun w => ⟨_, bar_is (List.mergeSort_perm (daysOf lots w) fun a b => decide (a ≤ b)) ((List.pairwise_mergeSort (le := fun a b : Int => decide (a ≤ b)) (fun a b c q1 q2 => by simp at *; (exact Mine.Ar.lin 3 0 (.ile (.v 0) (.v 1)) [(.ile (.v 0) (.v 2)), (.ile (.v 2) (.v 1))] (by kernel_rfl) [_, _, _] [] rfl rfl q1 q2)) (fun a b => by simp; lia) _).imp fun q => by simpa using q) (days_nn h1)⟩
  have hch := Classical.axiomOfChoice hall
  obtain ⟨bar, hbar⟩ := hch
  refine jcomp_map V.str (fun w => .tup [.str w, .int (bar w)]) ws [] (fun w hw' => ⟨_, rfl, ?_⟩) ?_
  · repeat' walk_at "x"
    refine S_bar_of hp' hf' hg' h1 fun b hb' => ?_
    rw [hb'.one (hbar w)]
    exact ⟨rfl, rfl⟩
  refine made_f ?_
  rw [List.nil_append]
  exact ret_drop (.cons _ (.refl _)) (h ws bar W (by rw [hw.length_eq, List.length_map]; exact hj') fun w z1 => hbar w)
noncomputable def t_law_cells_09_e1 : T := (.bin .Add (.call "_law_at" (.cons (.var 0) (.cons (.int 1) .nil))) (.bin .Mult (.int 7) (.var 1)))
noncomputable def t_law_cells_09 : T := (.cons (.ite (.cmp .Eq (.bin .Mod (.call "_law_at" (.cons (.var 0) (.cons (.int 0) .nil))) (.int 8)) (.int 3)) (.cons (.ret (.bin .Add (.comp false false t_law_cells_09_e1 (.var 1) (.blt .range (.cons (.bin .Add (.int 20) (.bin .Mod (.call "_law_at" (.cons (.var 0) (.cons (.int 1) .nil))) (.int 40))) .nil)) .nil) (.slice (.var 0) (.int 2) (.int 20)))) .nil) .nil) (.cons (.ret (.slice (.var 0) (.int 2) .nil)) .nil))
noncomputable def n_law_cells_09 : List Str := ["_law_script", "_law_k"]
noncomputable def t_law_limit_09_e1 : T := (.item (.var 4) (.int 3))
noncomputable def t_law_limit_09_c1 : T := (.bo .And (.cons (.cmp .Eq (.item (.var 4) (.int 0)) (.var 2)) (.cons (.cmp .Lt (.bin .Add (.item (.var 4) (.int 1)) (.item (.var 4) (.int 2))) (.var 3)) .nil)))
noncomputable def t_law_limit_09_e2 : T := (.item (.var 6) (.int 2))
noncomputable def t_law_limit_09_c2 : T := (.bo .And (.cons (.cmp .Eq (.item (.var 6) (.int 0)) (.var 2)) (.cons (.cmp .GtE (.item (.var 6) (.int 1)) (.var 3)) .nil)))
noncomputable def t_law_limit_09 : T := (.cons (.asgn (.var 5) (.blt .sum (.cons (.comp false true t_law_limit_09_e1 (.var 4) (.var 1) t_law_limit_09_c1) .nil))) (.cons (.ret (.bin .Add (.var 5) (.blt .sum (.cons (.comp false true t_law_limit_09_e2 (.var 6) (.var 0) t_law_limit_09_c2) .nil)))) .nil))
noncomputable def n_law_limit_09 : List Str := ["_law_lots", "_law_lines", "_law_ware", "_law_day_here", "_law_line_here", "_law_wanted", "_law_lot_here"]
noncomputable def t_law_holds_09_e1 : T := (.item (.var 3) (.int 3))
noncomputable def t_law_holds_09_e2 : T := (.item (.var 5) (.int 2))
noncomputable def t_law_holds_09_b1 : T := (.cons (.ite (.bo .Or (.cons (.un .Not (.call "_law_triple" (.cons (.var 8) (.cons (.var 1) (.cons (.var 2) .nil))))) (.cons (.cmp .LtE (.tup (.cons (.item (.var 8) (.int 0)) (.cons (.item (.var 8) (.int 1)) .nil))) (.var 7)) .nil))) (.cons (.ret (.bool false)) .nil) .nil) (.cons (.asgn (.var 7) (.tup (.cons (.item (.var 8) (.int 0)) (.cons (.item (.var 8) (.int 1)) .nil)))) (.cons (.asgn (.item (.var 4) (.item (.var 8) (.int 0))) (.bin .Sub (.item (.var 4) (.item (.var 8) (.int 0))) (.item (.var 8) (.int 2)))) (.cons (.asgn (.item (.var 6) (.item (.var 8) (.int 1))) (.bin .Sub (.item (.var 6) (.item (.var 8) (.int 1))) (.item (.var 8) (.int 2)))) .nil))))
noncomputable def t_law_holds_09_e3 : T := (.int 1)
noncomputable def t_law_holds_09_c1 : T := (.cmp .Lt (.var 9) (.int 0))
noncomputable def t_law_holds_09 : T := (.cons (.ite (.un .Not (.isi (.var 0) .list)) (.cons (.ret (.bool false)) .nil) .nil) (.cons (.asgnC 4 true false t_law_holds_09_e1 (.var 3) (.var 2) .nil) (.cons (.asgnC 6 true false t_law_holds_09_e2 (.var 5) (.var 1) .nil) (.cons (.asgn (.var 7) (.tup (.cons (.un .USub (.int 1)) (.cons (.un .USub (.int 1)) .nil)))) (.cons (.for_ (.var 8) (.var 0) t_law_holds_09_b1) (.cons (.ret (.cmp .Eq (.blt .len (.cons (.comp false true t_law_holds_09_e3 (.var 9) (.bin .Add (.var 4) (.var 6)) t_law_holds_09_c1) .nil)) (.int 0))) .nil))))))
noncomputable def n_law_holds_09 : List Str := ["_law_dealing", "_law_lots", "_law_lines", "_law_line_here", "_law_wanted", "_law_lot_here", "_law_there", "_law_last", "_law_row", "_law_rest"]
noncomputable def t_law_bar_09_e1 : T := (.bin .Add (.item (.var 5) (.int 1)) (.int 1))
noncomputable def t_law_bar_09_c1 : T := (.cmp .Eq (.item (.var 5) (.int 0)) (.var 2))
noncomputable def t_law_bar_09_b1 : T := (.cons (.asgn (.var 7) (.call "_law_limit" (.cons (.var 0) (.cons (.var 1) (.cons (.var 2) (.cons (.var 6) .nil)))))) (.cons (.ite (.bo .Or (.cons (.cmp .Lt (.var 7) (.var 4)) (.cons (.bo .And (.cons (.cmp .Eq (.var 7) (.var 4)) (.cons (.cmp .Lt (.var 6) (.var 3)) .nil))) .nil))) (.cons (.ret (.bool false)) .nil) .nil) .nil))
noncomputable def t_law_bar_09 : T := (.cons (.asgn (.var 4) (.call "_law_limit" (.cons (.var 0) (.cons (.var 1) (.cons (.var 2) (.cons (.var 3) .nil)))))) (.cons (.for_ (.var 6) (.bin .Add (.lst false (.cons (.int 0) .nil)) (.comp false true t_law_bar_09_e1 (.var 5) (.var 0) t_law_bar_09_c1)) t_law_bar_09_b1) (.cons (.ret (.cmp .LtE (.int 0) (.var 3))) .nil)))
noncomputable def n_law_bar_09 : List Str := ["_law_lots", "_law_lines", "_law_ware", "_law_day_here", "_law_low", "_law_lot_here", "_law_other", "_law_much"]
noncomputable def t_law_09_e1 : T := (.call "_law_lot" (.cons (.bin .FloorDiv (.var 3) (.int 2)) (.cons (.var 2) .nil)))
noncomputable def t_law_09_c1 : T := (.cmp .Eq (.bin .Mod (.var 3) (.int 2)) (.int 0))
noncomputable def t_law_09_e2 : T := (.call "_law_line" (.cons (.bin .FloorDiv (.var 3) (.int 2)) (.cons (.var 2) .nil)))
noncomputable def t_law_09_c2 : T := (.cmp .Eq (.bin .Mod (.var 3) (.int 2)) (.int 1))
noncomputable def t_law_09_e3 : T := (.item (.var 9) (.int 0))
noncomputable def t_law_09_e4 : T := (.item (.var 9) (.int 2))
noncomputable def t_law_09_c3 : T := (.cmp .Eq (.item (.item (.var 4) (.item (.var 9) (.int 1))) (.int 0)) (.item (.var 10) (.var 11)))
noncomputable def t_law_09_b1 : T := (.cons (.asgn (.var 12) (.item (.var 7) (.var 11))) (.cons (.ite (.bo .Or (.cons (.un .Not (.isi (.var 12) .tuple)) (.cons (.cmp .NotEq (.blt .len (.cons (.var 12) .nil)) (.int 2)) (.cons (.cmp .NotEq (.item (.var 12) (.int 0)) (.item (.var 10) (.var 11))) (.cons (.un .Not (.call "_law_whole" (.cons (.item (.var 12) (.int 1)) .nil))) .nil))))) (.cons (.ret (.bool false)) .nil) .nil) (.cons (.ite (.un .Not (.call "_law_bar" (.cons (.var 4) (.cons (.var 5) (.cons (.item (.var 10) (.var 11)) (.cons (.item (.var 12) (.int 1)) .nil)))))) (.cons (.ret (.bool false)) .nil) .nil) (.cons (.asgn (.var 13) (.blt .sum (.cons (.comp false true t_law_09_e4 (.var 9) (.var 8) t_law_09_c3) .nil))) (.cons (.ite (.cmp .NotEq (.var 13) (.call "_law_limit" (.cons (.var 4) (.cons (.var 5) (.cons (.item (.var 10) (.var 11)) (.cons (.item (.var 12) (.int 1)) .nil)))))) (.cons (.ret (.bool false)) .nil) .nil) .nil)))))
noncomputable def t_law_09 : T := (.cons (.asgn (.var 1) (.call "_law_cells" (.cons (.var 0) .nil))) (.cons (.asgn (.var 2) (.bin .FloorDiv (.call "_law_at" (.cons (.var 0) (.cons (.int 0) .nil))) (.int 8))) (.cons (.asgn (.var 4) (.slice (.comp false true t_law_09_e1 (.var 3) (.var 1) t_law_09_c1) .nil (.int 100))) (.cons (.asgn (.var 5) (.slice (.comp false true t_law_09_e2 (.var 3) (.var 1) t_law_09_c2) .nil (.int 100))) (.cons (.asgn (.var 6) (.lst false (.cons (.blt .list (.cons (.var 4) .nil)) (.cons (.blt .list (.cons (.var 5) .nil)) .nil)))) (.cons (.asgn (.var 7) (.call "bars" (.cons (.item (.var 6) (.int 0)) (.cons (.item (.var 6) (.int 1)) .nil)))) (.cons (.asgn (.var 8) (.call "best" (.cons (.item (.var 6) (.int 0)) (.cons (.item (.var 6) (.int 1)) .nil)))) (.cons (.asgn (.var 10) (.blt .sorted (.cons (.blt .set (.cons (.comp false false t_law_09_e3 (.var 9) (.bin .Add (.var 4) (.var 5)) .nil) .nil)) .nil))) (.cons (.ite (.bo .Or (.cons (.un .Not (.isi (.var 7) .list)) (.cons (.cmp .NotEq (.blt .len (.cons (.var 7) .nil)) (.blt .len (.cons (.var 10) .nil))) (.cons (.cmp .NotEq (.var 6) (.lst false (.cons (.var 4) (.cons (.var 5) .nil)))) .nil)))) (.cons (.ret (.bool false)) .nil) .nil) (.cons (.ite (.un .Not (.call "_law_holds" (.cons (.var 8) (.cons (.var 4) (.cons (.var 5) .nil))))) (.cons (.ret (.bool false)) .nil) .nil) (.cons (.for_ (.var 11) (.blt .range (.cons (.blt .len (.cons (.var 10) .nil)) .nil)) t_law_09_b1) (.cons (.ret (.bool true)) .nil))))))))))))
noncomputable def n_law_09 : List Str := ["_law_script", "_law_cells_here", "_law_base", "_law_cell", "_law_lots", "_law_lines", "_law_handed", "_law_found", "_law_dealing", "_law_row", "_law_wares", "_law_k", "_law_pair", "_law_dealt"]
structure L09 (k : Base) : Prop extends Things k, Rows_ k where
  f_best : FnT k "best" 2 t_best
  f_limit_of : FnT k "limit_of" 4 t_limit_of
  f_bar_of : FnT k "bar_of" 3 t_bar_of
  f_bars : FnT k "bars" 2 t_bars
  f_law_whole : FnT k "_law_whole" 1 t_law_whole
  f_law_triple : FnT k "_law_triple" 3 t_law_triple
  f_law_cells : FnT k "_law_cells" 1 t_law_cells_09
  f_law_limit : FnT k "_law_limit" 4 t_law_limit_09
  f_law_holds : FnT k "_law_holds" 3 t_law_holds_09
  f_law_bar : FnT k "_law_bar" 4 t_law_bar_09
  f_law : FnT k "law" 1 t_law_09
theorem S_triple9 (hw : FnT c.k "_law_whole" 1 t_law_whole) (hf : FnT c.k "_law_triple" 3 t_law_triple) {lots : List Lot} {lines : List Line} {x : Deal.Row} (h1 : x.1 < lines.length) (h2 : x.2.1 < lots.length) (h3 : 1 ≤ x.2.2) (hg : (stk lots lines).good x.2.1 x.1 = true) (h : P (.bool true) σ) :
    CallN c (d + 2) "_law_triple" [rowV x, .lst (lots.map Lot.v), .lst (lines.map Line.v)] σ P X := by
  refine call_go hf ?_
  repeat' walk_at "x"
  refine ⟨_, [], by simp, Iter_tup, fun D => ?_⟩
  have hw' : FnT ((c.pro []).hide D).k "_law_whole" 1 t_law_whole := hw
  refine jcomp_fm V.int (fun z1 => .int 1) (fun z1 => false) [(x.1 : Int), x.2.1, x.2.2] [] (fun i hi => ⟨_, rfl, ?_, fun q => by cases q⟩) ?_
  · repeat' walk_at "x"
    refine S_whole hw' ?_
    repeat' walk_at "x"
    exact ⟨rfl, rfl⟩
  refine made_f ?_
  repeat' walk_at "x"
  all_goals (try (exfalso; lia))
  refine Item_of Lot.z h2 ?_
  repeat' walk_at "x"
  refine Item_of Line.z h1 ?_
  rw [stk_good] at hg
  rw [Bool.and_eq_true, beq_iff_eq, decide_eq_true_eq] at hg
  repeat' walk_at "x"
  · rename_i q; rw [decide_eq_true hg.2]; exact h
  · rename_i q; exact absurd hg.1 q
theorem S_limit9 (hf : FnT c.k "_law_limit" 4 t_law_limit_09) {lots : List Lot} {lines : List Line} {w : Str} {day : Int} (h : P (.int (limitOf lots lines w day)) σ) : CallN c (d + 2) "_law_limit" [.lst (lots.map Lot.v), .lst (lines.map Line.v), .str w, .int day] σ P X := by
  refine call_go hf ?_
  repeat' walk_at "x"
  refine ⟨_, [], by simp, Iter_lst, fun D => ?_⟩
  refine jcomp_fm Line.v (fun l => .int l.n) (fun l => l.w == w && decide (l.day + l.left < day)) lines [] (fun l hl => ⟨_, rfl, ?_, fun z1 => ?_⟩) ?_
  · repeat' walk_at "x"
    · rename_i q1 q2; exact ⟨by rw [q1, beq_self_eq_true, decide_eq_true q2]; rfl, rfl⟩
    · rename_i q1 q2; exact ⟨by rw [q1, beq_self_eq_true, decide_eq_false q2]; rfl, rfl⟩
    · rename_i q1; exact ⟨by rw [beq_eq_false_iff_ne.mpr q1]; rfl, rfl⟩
  · repeat' walk_at "x"
    exact ⟨rfl, rfl⟩
  refine made_f ?_
  rw [List.nil_append, map_int Line.n]
  refine Leaf.mk ⟨_, rfl, ?_⟩
  repeat' walk_at "x"
  refine ⟨_, [], by simp, Iter_lst, fun D => ?_⟩
  refine jcomp_fm Lot.v (fun l => .int l.n) (fun l => l.w == w && decide (day ≤ l.last)) lots [] (fun l hl => ⟨_, rfl, ?_, fun z1 => ?_⟩) ?_
  · repeat' walk_at "x"
    · rename_i q1 q2; exact ⟨by rw [q1, beq_self_eq_true, decide_eq_true q2]; rfl, rfl⟩
    · rename_i q1 q2; exact ⟨by rw [q1, beq_self_eq_true, decide_eq_false q2]; rfl, rfl⟩
    · rename_i q1; exact ⟨by rw [beq_eq_false_iff_ne.mpr q1]; rfl, rfl⟩
  · repeat' walk_at "x"
    exact ⟨rfl, rfl⟩
  refine made_f ?_
  rw [List.nil_append, map_int Lot.n]
  refine Leaf.mk ⟨_, rfl, ?_⟩
  refine ret_keep ?_
  exact h
theorem S_bar9 (hf : FnT c.k "_law_limit" 4 t_law_limit_09) (hb : FnT c.k "_law_bar" 4 t_law_bar_09) {lots : List Lot} {lines : List Line} {w : Str} {day : Int} (hl1 : lots.length ≤ 100) (h1 : ∀ l ∈ lots, l.ok) (hB : IsBar (limitOf lots lines w) (daysOf lots w) day) (h : P (.bool true) σ) :
    CallN c (d + 3) "_law_bar" [.lst (lots.map Lot.v), .lst (lines.map Line.v), .str w, .int day] σ P X := by
  have h0 : 0 ≤ day := by
    rcases List.mem_cons.mp hB.mem with q | q
    · rw [q]; exact Int.le_refl _
    · exact days_nn h1 _ q
  refine call_go hb ?_
  repeat' walk_at "x"
  refine S_limit9 hf ?_
  repeat' walk_at "x"
  refine ⟨_, [], by simp, Iter_lst, fun D => ?_⟩
  refine jcomp_fm Lot.v (fun l => .int (l.last + 1)) (fun l => l.w == w) lots [] (fun l hl => ⟨_, rfl, ?_, fun z1 => ?_⟩) ?_
  · repeat' walk_at "x"
    exact ⟨rfl, rfl⟩
  · repeat' walk_at "x"
    exact ⟨rfl, rfl⟩
  refine made_f ?_
  rw [List.nil_append, map_int (fun l : Lot => l.last + 1)]
  repeat' walk_at "x"
  refine Op_addl (.lst _) (.lst _) (by
    rw [List.length_map, List.length_map]
    have := List.length_filter_le (fun l : Lot => l.w == w) lots
    simp only [List.length_cons, List.length_nil]; (exact Mine.Ar.lin 0 2 (.le (.a (.a (.k 0) (.k 1)) (.v 0)) (.k 1000000)) [(.le (.v 1) (.k 100)), (.le (.v 0) (.v 1))] (by kernel_rfl) [] [_, _] rfl rfl hl1 this)) ?_
  rw [show [V.int 0] ++ List.map V.int (((lots.filter fun l => l.w == w)).map fun l => l.last + 1) = (0 :: daysOf lots w).map V.int from rfl]
  repeat' walk_at "x"
  refine ⟨_, [], by simp, Iter_lst, ?_⟩
  refine JLoop_foldJ V.int (fun z1 => [(4, .int (limitOf lots lines w day)), (0, .lst (lots.map Lot.v)), (1, .lst (lines.map Line.v)), (2, .str w), (3, .int day)]) (fun z1 => σ) (fun (u : Unit) _ => u) (fun rest z1 => ∀ o ∈ rest, o ∈ 0 :: daysOf lots w) (0 :: daysOf lots w) () _ ?_ (fun o ho => ho) (fun s o rest hj => ?_) fun m hm z1 => ?_
  · walk_at "sub"
  · have hf' : FnT (c.pro []).k "_law_limit" 4 t_law_limit_09 := hf
    obtain ⟨a1, a2⟩ := hB.least o (hj o (.head _))
    repeat' walk_at "x"
    refine S_limit9 hf' ?_
    repeat' walk_at "x"
    · rename_i q; exact absurd q (Int.not_lt.mpr a1)
    · rename_i q1 q2 q3; exact absurd q3 (Int.not_lt.mpr (a2 q2))
    · exact ⟨by walk_at "sub", rfl, fun o ho => hj o (.tail _ ho)⟩
    · exact ⟨by walk_at "sub", rfl, fun o ho => hj o (.tail _ ho)⟩
  refine JB_sub hm ?_
  repeat' walk_at "x"
  rw [decide_eq_true h0]
  exact h
noncomputable def lastV (p : Int × Int) : V := .tup [.int p.1, .int p.2]
structure HS where
  last : Int × Int
  w : List Int × List Int
noncomputable def hStep (s : HS) (x : Deal.Row) : HS := ⟨(x.1, x.2.1), Deal.takeRow s.w x⟩
theorem hStep_w : ∀ (D : List Deal.Row) (s : HS), (D.foldl hStep s).w = D.foldl Deal.takeRow s.w
  | [], s => rfl
  | x :: D, s => hStep_w D (hStep s x)
theorem S_holds9 (hp : L09 c.k) {lots : List Lot} {lines : List Line} (hl1 : lots.length ≤ 100) (hl2 : lines.length ≤ 100) {D : List Deal.Row} (F : Deal.Fits (stk lots lines) D) (hD : D.Pairwise rowLt) (h : P (.bool true) σ) :
    CallN c (d + 4) "_law_holds" [.lst (D.map rowV), .lst (lots.map Lot.v), .lst (lines.map Line.v)] σ P X := by
  refine call_go hp.f_law_holds ?_
  repeat' walk_at "x"
  refine ⟨_, [], by simp, Iter_lst, fun E => ?_⟩
  refine jcomp_map Line.v (fun l => .int l.n) lines [] (fun l hl => ⟨_, rfl, ?_⟩) ?_
  · repeat' walk_at "x"
    exact ⟨rfl, rfl⟩
  refine made_t fun a hao haF => ?_
  rw [List.nil_append, linesN lots lines]
  repeat' walk_at "x"
  refine ⟨_, [], by simp, Iter_lst, fun E => ?_⟩
  refine jcomp_map Lot.v (fun l => .int l.n) lots [] (fun l hl => ⟨_, rfl, ?_⟩) ?_
  · repeat' walk_at "x"
    exact ⟨rfl, rfl⟩
  refine made_t fun b hbo hbF => ?_
  rw [List.nil_append, lotsN lots lines]
  obtain ⟨hab, hao'⟩ := fresh2 hbo
  repeat' walk_at "x"
  refine ⟨_, [], by simp, Iter_lst, ?_⟩
  refine JLoop_foldJ rowV (fun s => [(7, lastV s.last), (6, .ref b), (4, .ref a), (1, .lst (lots.map Lot.v)), (2, .lst (lines.map Line.v))])
    (fun s => (b, .list (s.w.2.map .int)) :: (a, .list (s.w.1.map .int)) :: σ) hStep
    (fun left s => s.w.1.length = lines.length ∧ s.w.2.length = lots.length ∧ (∀ x ∈ left, x ∈ D) ∧ left.Pairwise rowLt ∧ ∀ x ∈ left, s.last.1 < x.1 ∨ (s.last.1 = x.1 ∧ s.last.2 < x.2.1))
    D ⟨(-1, -1), (List.range lines.length).map (stk lots lines).cn, (List.range lots.length).map (stk lots lines).cl⟩ _ ?_ ?_ (fun s x left hj => ?_) fun m hm hj => ?_
  · walk_at "sub"
  · exact ⟨by simp, by simp, fun x hx => hx, hD, fun x hx => .inl (by show (-1 : Int) < _; (exact Mine.Ar.lin 0 1 (.ilt (.g (.k 1)) (.c (.v 0))) [] (by kernel_rfl) [] [_] rfl rfl ))⟩
  · have hw' : FnT (c.pro []).k "_law_whole" 1 t_law_whole := hp.f_law_whole
    have ht' : FnT (c.pro []).k "_law_triple" 3 t_law_triple := hp.f_law_triple
    obtain ⟨j1, j2, j3, j4, j5⟩ := hj
    have hx := j3 x (.head _)
    have hx1 : x.1 < lines.length := F.line x hx
    have hx2 : x.2.1 < lots.length := F.lot x hx
    have hnext : ∀ y ∈ left, ((hStep s x).last).1 < y.1 ∨ (((hStep s x).last).1 = y.1 ∧ ((hStep s x).last).2 < y.2.1) := fun y hy => by
      have := (List.pairwise_cons.mp j4).1 y hy
      show ((x.1 : Int)) < y.1 ∨ ((x.1 : Int) = y.1 ∧ (x.2.1 : Int) < y.2.1)
      unfold rowLt at this; lia
    have hcond : ltL [s.last.1, s.last.2] [(x.1 : Int), x.2.1] = true := by
      have := j5 x (.head _)
      simp only [ltL]
      by_cases e : s.last.1 = x.1
      · rw [if_pos e]
        by_cases e2 : s.last.2 = x.2.1
        · exfalso; lia
        · rw [if_neg e2]; simp; lia
      · rw [if_neg e]; simp; lia
    repeat' walk_at "x"
    refine S_triple9 hw' ht' hx1 hx2 (F.pos x hx) (F.good x hx) ?_
    repeat' walk_at "x"
    refine Cmp_le_tup (ns := [x.1, x.2.1]) (ks := [s.last.1, s.last.2]) rfl ?_
    rw [hcond]
    repeat' walk_at "x"
    refine Item_ofR (led_there hao' led_here) 0 (by rw [j1]; exact hx1) ?_
    repeat' walk_at "x"
    refine Set_list (led_there hao' led_here) (by simpa [Cx.pro] using haF) (by (exact Mine.Ar.lin 0 1 (.ile (.k 0) (.c (.v 0))) [] (by kernel_rfl) [] [_] rfl rfl )) (by rw [List.length_map, j1]; simpa using hx1) ?_
    rw [upd_there hab, upd_here]
    repeat' walk_at "x"
    refine Item_ofR led_here 0 (by rw [j2]; exact hx2) ?_
    repeat' walk_at "x"
    refine Set_list led_here (by simpa [Cx.pro] using hbF) (by (exact Mine.Ar.lin 0 1 (.ile (.k 0) (.c (.v 0))) [] (by kernel_rfl) [] [_] rfl rfl )) (by rw [List.length_map, j2]; simpa using hx2) ?_
    rw [upd_here]
    refine ⟨by walk_at "sub", ?_, by simp [hStep, Deal.takeRow]; exact j1, by simp [hStep, Deal.takeRow]; exact j2, fun y hy => j3 y (.tail _ hy), (List.pairwise_cons.mp j4).2, hnext⟩
    unfold hStep Deal.takeRow
    rw [List.map_set, List.map_set]; rfl
  refine JB_sub hm ?_
  have hlen1 := hj.1
  have hlen2 := hj.2.1
  clear hm hj
  have T := Deal.taken D ((List.range lines.length).map (stk lots lines).cn, (List.range lots.length).map (stk lots lines).cl) (fun x hx => ⟨by rw [List.length_map, List.length_range]; exact F.line x hx, by rw [List.length_map, List.length_range]; exact F.lot x hx⟩)
  rw [← hStep_w D ⟨(-1, -1), _⟩] at T
  generalize D.foldl hStep ⟨(-1, -1), (List.range lines.length).map (stk lots lines).cn, (List.range lots.length).map (stk lots lines).cl⟩ = fin at T hlen1 hlen2
  have hw := count_nn (by simpa using T.l1) T.e1 F.capN
  have hr := count_nn (by simpa using T.l2) T.e2 F.capL
  clear T
  repeat' walk_at "x"
  refine Op_addl (.ref (led_there hao' led_here)) (.ref led_here) (by rw [List.length_map, List.length_map, hlen1, hlen2]; (exact Mine.Ar.lin 0 2 (.le (.a (.v 0) (.v 1)) (.k 1000000)) [(.le (.v 1) (.k 100)), (.le (.v 0) (.k 100))] (by kernel_rfl) [] [_, _] rfl rfl hl1 hl2)) ?_
  rw [← List.map_append]
  repeat' walk_at "x"
  refine ⟨_, [], by simp, Iter_lst, fun E => ?_⟩
  refine jcomp_fm V.int (fun z1 => .int 1) (fun z1 => false) (fin.w.1 ++ fin.w.2) [] (fun i hi => ⟨_, rfl, ?_, fun q => by cases q⟩) ?_
  · have : 0 ≤ i := (List.mem_append.mp hi).elim (hw i) (hr i)
    repeat' walk_at "x"
    exact ⟨decide_eq_false (Int.not_lt.mpr this), rfl⟩
  refine made_f ?_
  rw [List.filter_eq_nil_iff.mpr (fun z1 z2 => Bool.false_ne_true)]
  repeat' first | exact ret_drop (.cons _ (.cons _ (.refl _))) h | walk_at "x"
theorem sorted_one : ∀ {xs ys : List Str}, xs.Perm ys → (xs.Pairwise fun a b => decide (b.cps.toList < a.cps.toList) = false) → (ys.Pairwise fun a b => decide (b.cps.toList < a.cps.toList) = false) → xs = ys
  | [], [], _, _, _ => rfl
  | [], _ :: _, p, _, _ => by cases p.length_eq
  | _ :: _, [], p, _, _ => by cases p.length_eq
  | a :: xs, b :: ys, p, hx, hy => by
    obtain ⟨x1, x2⟩ := List.pairwise_cons.mp hx
    obtain ⟨y1, y2⟩ := List.pairwise_cons.mp hy
    have e : a = b := by
      rcases List.mem_cons.mp (p.mem_iff.mp (List.mem_cons_self ..)) with q | q
      · exact q
      rcases List.mem_cons.mp (p.mem_iff.mpr (List.mem_cons_self ..)) with q' | q'
      · exact q'.symm
      have := ltS_lin.tot a.cps.toList b.cps.toList (y1 a q) (x1 b q')
      cases a; cases b
      exact congrArg Str.mk (Array.toList_inj.mp this)
    subst e
    rw [sorted_one ((List.perm_cons a).mp p) x2 y2]
theorem wares_one {lots : List Lot} {lines : List Line} {us ws : List Str} (x : Wares lots lines us) (y : Wares lots lines ws) : us = ws :=
  sorted_one ((List.perm_ext_iff_of_nodup x.nodup y.nodup).mpr fun a => (x.mem a).trans (y.mem a).symm) x.asc y.asc
theorem best_bar {lots : List Lot} {lines : List Line} (h1 : ∀ l ∈ lots, l.ok) (h2 : ∀ l ∈ lines, l.ok) {ts ls : List Nat} {D : List Deal.Row} (hts : LotsO (stk lots lines) ts) (hls : LinesO (stk lots lines) ls) (hD : D.Perm (Deal.bestOf (stk lots lines) ts ls)) (hs : D.Pairwise fun a b => ltL (keyR b) (keyR a) = false) :
    Deal.Fits (stk lots lines) D ∧ D.Pairwise rowLt ∧ ∀ w b, IsBar (limitOf lots lines w) (daysOf lots w) b → limitOf lots lines w b = (stk lots lines).dealt w D := by
  obtain ⟨rest, G⟩ := Deal.greedy (stk_ok h1 h2) hts.order hls.order
  have F := (G.fits hls.order.mem).perm hD
  refine ⟨F, rows_sorted hD ?_ hs, fun w b hB => ?_⟩
  · have := G.nodup
    rw [List.Nodup, List.pairwise_map] at this
    exact this.imp fun {a b} h q => h (by rw [q.1, q.2])
  · have hneed : ∀ l, l < (stk lots lines).nN → 0 ≤ (stk lots lines).need l := fun l hl => by
      have := h2 _ (List.mem_of_getElem? (getD_get? lines l Line.z hl))
      exact Int.add_nonneg this.a0 this.b0
    obtain ⟨day, hday, e⟩ := G.bar (stk_ok h1 h2) hneed hls.order.mem w
    have hm : day ∈ 0 :: daysOf lots w := by
      rcases hday with q | ⟨t, ht, hw, q⟩
      · rw [q]; exact .head _
      · refine .tail _ (List.mem_map.mpr ⟨lots.getD t Lot.z, List.mem_filter.mpr ⟨List.mem_of_getElem? (getD_get? lots t Lot.z ht), ?_⟩, q.symm⟩)
        rw [beq_iff_eq]; exact hw
    have e2 := e.trans (Deal.sumR_perm _ hD.symm)
    have a1 := (hB.least day hm).1
    have a2 := Deal.dealt_le _ (stk_ok h1 h2) F w b
    rw [limit_eq, limit_eq] at a1
    rw [limit_eq]
    refine Int.le_antisymm (Int.le_trans a1 ?_) a2
    rw [e2]; exact Int.le_refl _
noncomputable def cells (xs : List Int) : List Int := if at_ xs 0 % 8 = 3 then (rangeL 0 (20 + at_ xs 1 % 40)).map (fun k => at_ xs 1 + 7 * k) ++ slice (some 2) (some 20) xs else slice (some 2) none xs
theorem S_cells (hp : L09 c.k) {xs : List Int} (hl : xs.length ≤ 63) (h : P (.lst ((cells xs).map .int)) σ) : CallN c (d + 2) "_law_cells" [.lst (xs.map .int)] σ P X := by
  have hh := hp.toRows_.toHelps
  refine call_go hp.f_law_cells ?_
  unfold cells at h
  repeat' walk_at "x"
  · rename_i hif
    rw [if_pos hif] at h
    have n0 := Int.emod_nonneg (at_ xs 1) (b := 40) (by decide)
    have n1 := Int.emod_lt_of_pos (at_ xs 1) (b := 40) (by decide)
    refine ⟨_, [], by simp, Iter_rng (by (exact Mine.Ar.lin 0 0 (.ile (.g (.k 1000000000000000)) (.k 0)) [] (by kernel_rfl) [] [] rfl rfl )) (by (exact Mine.Ar.lin 0 0 (.ile (.k 0) (.k 1000000000000000)) [] (by kernel_rfl) [] [] rfl rfl )) (by (exact Mine.Ar.lin 1 0 (.ile (.g (.k 1000000000000000)) (.a (.k 20) (.v 0))) [(.ile (.k 0) (.v 0))] (by kernel_rfl) [_] [] rfl rfl n0)) (by (exact Mine.Ar.lin 1 0 (.ile (.a (.k 20) (.v 0)) (.k 1000000000000000)) [(.ilt (.v 0) (.k 40))] (by kernel_rfl) [_] [] rfl rfl n1)) (by (exact Mine.Ar.lin 1 0 (.ile (.s (.a (.k 20) (.v 0)) (.k 0)) (.k 16777216)) [(.ilt (.v 0) (.k 40))] (by kernel_rfl) [_] [] rfl rfl n1)), fun D => ?_⟩
    have hp' : Helps ((c.pro []).hide D).k := hh
    refine jcomp_map V.int (fun k => .int (at_ xs 1 + 7 * k)) _ [] (fun k hk => ⟨_, rfl, ?_⟩) ?_
    · rw [mem_rangeL] at hk
      repeat' walk_at "x"
      exact ⟨rfl, rfl⟩
    refine made_f ?_
    rw [List.nil_append, map_int (fun k => at_ xs 1 + 7 * k)]
    repeat' walk_at "x"
    rw [slice_map]
    have hsl := slice_length_le (some 2) (some 20) xs
    refine Op_addl (.lst _) (.lst _) ?_ ?_
    · simp [rangeL_length]; lia
    refine ret_keep ?_
    rw [← List.map_append]
    exact h
  · rename_i hif
    rw [if_neg hif] at h
    rw [slice_map]
    exact h
theorem cells_sz {xs : List Int} (hb : ∀ x ∈ xs, Builtin.Int.intBits x ≤ 1048576) : ∀ x ∈ cells xs, Sz 1048580 x := by
  have hd : ∀ lo hi, ∀ x ∈ slice lo hi xs, Sz 1048580 x := fun lo hi x hx => (Sz.of_bits (hb x (slice_mem hx))).mono (by (exact Mine.Ar.lin 0 0 (.le (.k 1048576) (.k 1048580)) [] (by kernel_rfl) [] [] rfl rfl ))
  unfold cells
  split
  · intro x hx
    rcases List.mem_append.mp hx with hx | hx
    · obtain ⟨k, hk, rfl⟩ := List.mem_map.mp hx
      rw [mem_rangeL] at hk
      have n1 := Int.emod_lt_of_pos (at_ xs 1) (b := 40) (by decide)
      exact ((at_sz hb 1).add ((Sz.small (by (exact Mine.Ar.lin 2 0 (.ilt (.g (.k 9223372036854775808)) (.m 7 (.v 0))) [(.an (.ile (.k 0) (.v 0)) (.ilt (.v 0) (.a (.k 20) (.v 1))))] (by kernel_rfl) [_, _] [] rfl rfl hk)) (by (exact Mine.Ar.lin 2 0 (.ilt (.m 7 (.v 0)) (.k 9223372036854775808)) [(.an (.ile (.k 0) (.v 0)) (.ilt (.v 0) (.a (.k 20) (.v 1)))), (.ilt (.v 1) (.k 40))] (by kernel_rfl) [_, _] [] rfl rfl hk n1))).mono (by (exact Mine.Ar.lin 0 0 (.le (.k 64) (.k 1048577)) [] (by kernel_rfl) [] [] rfl rfl )))).mono (by (exact Mine.Ar.lin 0 0 (.le (.a (.k 1048577) (.k 1)) (.k 1048580)) [] (by kernel_rfl) [] [] rfl rfl ))
    · exact hd _ _ x hx
  · exact hd _ _
theorem S_law (hp : L09 c.k) {xs : List Int} (hlen : xs.length ≤ 63) (hb : ∀ x ∈ xs, Builtin.Int.intBits x ≤ 1048576) : CallN c (d + 10) "law" [.lst (xs.map .int)] σ (fun v z1 => v = .bool true) X := by
  have ht := hp.toThings
  have hr := hp.toRows_
  have hh := hr.toHelps
  have hd := hp.f_law.hd
  have hcs := cells_sz hb
  refine call_go hp.f_law ?_
  repeat' (first | walk_at "x" | (with_reducible refine S_lot ?_ ?_ ?_; assumption; assumption) | (with_reducible refine S_line ?_ ?_ ?_; assumption; assumption) | (with_reducible refine S_cells ?_ ?_ ?_; assumption; assumption))
  refine ⟨_, [], by simp, Iter_lst, fun D => ?_⟩
  have hp' : Rows_ ((c.pro []).hide D).k := hr
  refine jcomp_fm V.int (fun x => (lotOf (x / 2) (at_ xs 0 / 8)).v) (fun x => x % 2 == 0) (cells xs) [] (fun x hx => ⟨_, rfl, ?_, fun z1 => ?_⟩) ?_
  · repeat' (first | walk_at "x" | (with_reducible refine S_lot ?_ ?_ ?_; assumption; assumption) | (with_reducible refine S_line ?_ ?_ ?_; assumption; assumption) | (with_reducible refine S_cells ?_ ?_ ?_; assumption; assumption))
    exact ⟨rfl, rfl⟩
  · have hsz : Sz 1048600 (x / 2) := ((hcs x hx).mono (by (exact Mine.Ar.lin 0 0 (.le (.k 1048580) (.k 1048600)) [] (by kernel_rfl) [] [] rfl rfl ))).div (by (exact Mine.Ar.lin 0 0 (.ilt (.k 0) (.k 2)) [] (by kernel_rfl) [] [] rfl rfl ))
    repeat' (first | walk_at "x" | (with_reducible refine S_lot ?_ ?_ ?_; assumption; assumption) | (with_reducible refine S_line ?_ ?_ ?_; assumption; assumption) | (with_reducible refine S_cells ?_ ?_ ?_; assumption; assumption))
    exact ⟨rfl, rfl⟩
  refine made_f ?_
  rw [List.nil_append, show ((cells xs).filter fun x => x % 2 == 0).map (fun x => (lotOf (x / 2) (at_ xs 0 / 8)).v) = (((cells xs).filter fun x => x % 2 == 0).map fun x => lotOf (x / 2) (at_ xs 0 / 8)).map Lot.v by rw [List.map_map]; rfl]
  repeat' (first | walk_at "x" | (with_reducible refine S_lot ?_ ?_ ?_; assumption; assumption) | (with_reducible refine S_line ?_ ?_ ?_; assumption; assumption) | (with_reducible refine S_cells ?_ ?_ ?_; assumption; assumption))
  rw [slice_map]
  have hl1 : (slice none (some 100) (((cells xs).filter fun x => x % 2 == 0).map fun x => lotOf (x / 2) (at_ xs 0 / 8))).length ≤ 100 := slice_hi (by decide) _ _
  have ho1 : ∀ l ∈ slice none (some 100) (((cells xs).filter fun x => x % 2 == 0).map fun x => lotOf (x / 2) (at_ xs 0 / 8)), l.ok := by
    intro l hl
    obtain ⟨x, _, rfl⟩ := List.mem_map.mp (slice_mem hl)
    exact lotOf_ok _ _
  generalize slice none (some 100) (((cells xs).filter fun x => x % 2 == 0).map fun x => lotOf (x / 2) (at_ xs 0 / 8)) = lots at hl1 ho1
  repeat' (first | walk_at "x" | (with_reducible refine S_lot ?_ ?_ ?_; assumption; assumption) | (with_reducible refine S_line ?_ ?_ ?_; assumption; assumption) | (with_reducible refine S_cells ?_ ?_ ?_; assumption; assumption))
  refine ⟨_, [], by simp, Iter_lst, fun D => ?_⟩
  have hp' : Rows_ ((c.pro []).hide D).k := hr
  refine jcomp_fm V.int (fun x => (lineOf (x / 2) (at_ xs 0 / 8)).v) (fun x => x % 2 == 1) (cells xs) [] (fun x hx => ⟨_, rfl, ?_, fun z1 => ?_⟩) ?_
  · repeat' (first | walk_at "x" | (with_reducible refine S_lot ?_ ?_ ?_; assumption; assumption) | (with_reducible refine S_line ?_ ?_ ?_; assumption; assumption) | (with_reducible refine S_cells ?_ ?_ ?_; assumption; assumption))
    exact ⟨rfl, rfl⟩
  · have hsz : Sz 1048600 (x / 2) := ((hcs x hx).mono (by (exact Mine.Ar.lin 0 0 (.le (.k 1048580) (.k 1048600)) [] (by kernel_rfl) [] [] rfl rfl ))).div (by (exact Mine.Ar.lin 0 0 (.ilt (.k 0) (.k 2)) [] (by kernel_rfl) [] [] rfl rfl ))
    repeat' (first | walk_at "x" | (with_reducible refine S_lot ?_ ?_ ?_; assumption; assumption) | (with_reducible refine S_line ?_ ?_ ?_; assumption; assumption) | (with_reducible refine S_cells ?_ ?_ ?_; assumption; assumption))
    exact ⟨rfl, rfl⟩
  refine made_f ?_
  rw [List.nil_append, show ((cells xs).filter fun x => x % 2 == 1).map (fun x => (lineOf (x / 2) (at_ xs 0 / 8)).v) = (((cells xs).filter fun x => x % 2 == 1).map fun x => lineOf (x / 2) (at_ xs 0 / 8)).map Line.v by rw [List.map_map]; rfl]
  repeat' (first | walk_at "x" | (with_reducible refine S_lot ?_ ?_ ?_; assumption; assumption) | (with_reducible refine S_line ?_ ?_ ?_; assumption; assumption) | (with_reducible refine S_cells ?_ ?_ ?_; assumption; assumption))
  rw [slice_map]
  have hl2 : (slice none (some 100) (((cells xs).filter fun x => x % 2 == 1).map fun x => lineOf (x / 2) (at_ xs 0 / 8))).length ≤ 100 := slice_hi (by decide) _ _
  have ho2 : ∀ l ∈ slice none (some 100) (((cells xs).filter fun x => x % 2 == 1).map fun x => lineOf (x / 2) (at_ xs 0 / 8)), l.ok := by
    intro l hl
    obtain ⟨x, _, rfl⟩ := List.mem_map.mp (slice_mem hl)
    exact lineOf_ok _ _
  generalize slice none (some 100) (((cells xs).filter fun x => x % 2 == 1).map fun x => lineOf (x / 2) (at_ xs 0 / 8)) = lines at hl2 ho2
  clear hcs
  repeat' (first | walk_at "x" | (with_reducible refine S_lot ?_ ?_ ?_; assumption; assumption) | (with_reducible refine S_line ?_ ?_ ?_; assumption; assumption) | (with_reducible refine S_cells ?_ ?_ ?_; assumption; assumption))
  refine Item_lst (.lst _) (by decide) rfl ?_
  repeat' (first | walk_at "x" | (with_reducible refine S_lot ?_ ?_ ?_; assumption; assumption) | (with_reducible refine S_line ?_ ?_ ?_; assumption; assumption) | (with_reducible refine S_cells ?_ ?_ ?_; assumption; assumption))
  refine Item_lst (.lst _) (by decide) rfl ?_
  repeat' (first | walk_at "x" | (with_reducible refine S_lot ?_ ?_ ?_; assumption; assumption) | (with_reducible refine S_line ?_ ?_ ?_; assumption; assumption) | (with_reducible refine S_cells ?_ ?_ ?_; assumption; assumption))
  refine S_bars ht hp.f_limit_of hp.f_bar_of hp.f_bars ho1 ho2 hl1 hl2 fun ws bar W hwl hbar => ?_
  repeat' (first | walk_at "x" | (with_reducible refine S_lot ?_ ?_ ?_; assumption; assumption) | (with_reducible refine S_line ?_ ?_ ?_; assumption; assumption) | (with_reducible refine S_cells ?_ ?_ ?_; assumption; assumption))
  refine Item_lst (.lst _) (by decide) rfl ?_
  repeat' (first | walk_at "x" | (with_reducible refine S_lot ?_ ?_ ?_; assumption; assumption) | (with_reducible refine S_line ?_ ?_ ?_; assumption; assumption) | (with_reducible refine S_cells ?_ ?_ ?_; assumption; assumption))
  refine Item_lst (.lst _) (by decide) rfl ?_
  repeat' (first | walk_at "x" | (with_reducible refine S_lot ?_ ?_ ?_; assumption; assumption) | (with_reducible refine S_line ?_ ?_ ?_; assumption; assumption) | (with_reducible refine S_cells ?_ ?_ ?_; assumption; assumption))
  refine S_best ht hp.f_best ho1 ho2 hl1 hl2 fun ts ls D hts hls hD hs => ?_
  obtain ⟨F, hP, hdealt⟩ := best_bar ho1 ho2 hts hls hD hs
  clear hts hls hD hs
  repeat' (first | walk_at "x" | (with_reducible refine S_lot ?_ ?_ ?_; assumption; assumption) | (with_reducible refine S_line ?_ ?_ ?_; assumption; assumption) | (with_reducible refine S_cells ?_ ?_ ?_; assumption; assumption))
  refine Op_addl (.lst _) (.lst _) (by rw [List.length_map, List.length_map]; (exact Mine.Ar.lin 0 2 (.le (.a (.v 0) (.v 1)) (.k 1000000)) [(.le (.v 0) (.k 100)), (.le (.v 1) (.k 100))] (by kernel_rfl) [] [_, _] rfl rfl hl1 hl2)) ?_
  rw [both_val]
  repeat' (first | walk_at "x" | (with_reducible refine S_lot ?_ ?_ ?_; assumption; assumption) | (with_reducible refine S_line ?_ ?_ ?_; assumption; assumption) | (with_reducible refine S_cells ?_ ?_ ?_; assumption; assumption))
  refine ⟨_, [], by simp, Iter_lst, fun E => ?_⟩
  refine jcomp_map SVal (fun r => .str (SWare r)) (both lots lines) [] (fun r hr => ⟨_, rfl, ?_⟩) ?_
  · cases r with
    | inl l =>
      show JE _ _ _ _ ((9, .tup [.str l.w, .int l.last, .int l.n]) :: _) _ _
      repeat' walk_at "x"
      exact ⟨rfl, rfl⟩
    | inr l =>
      show JE _ _ _ _ ((9, .tup [.str l.w, .int l.day, .int l.left, .int l.n]) :: _) _ _
      repeat' walk_at "x"
      exact ⟨rfl, rfl⟩
  refine made_f ?_
  rw [List.nil_append, show (both lots lines).map (fun r => V.str (SWare r)) = (waresOf lots lines).map V.str by rw [both_ware, List.map_map]; rfl]
  repeat' (first | walk_at "x" | (with_reducible refine S_lot ?_ ?_ ?_; assumption; assumption) | (with_reducible refine S_line ?_ ?_ ?_; assumption; assumption) | (with_reducible refine S_cells ?_ ?_ ?_; assumption; assumption))
  refine Call_set_str hd (.lst _) (by unfold waresOf; rw [List.length_append, List.length_map, List.length_map]; (exact Mine.Ar.lin 0 2 (.le (.a (.v 0) (.v 1)) (.k 1000)) [(.le (.v 0) (.k 100)), (.le (.v 1) (.k 100))] (by kernel_rfl) [] [_, _] rfl rfl hl1 hl2)) fun ks hk1 hk2 => ?_
  repeat' (first | walk_at "x" | (with_reducible refine S_lot ?_ ?_ ?_; assumption; assumption) | (with_reducible refine S_line ?_ ?_ ?_; assumption; assumption) | (with_reducible refine S_cells ?_ ?_ ?_; assumption; assumption))
  refine Call_sorted_set hd fun us hu1 hu2 => ?_
  obtain rfl : us = ws := wares_one ⟨hu1.nodup_iff.mpr hk1, fun w => (hu1.mem_iff).trans (hk2 w), hu2⟩ W
  clear hu1 hu2 hk1 hk2
  repeat' (first | walk_at "x" | (with_reducible refine S_lot ?_ ?_ ?_; assumption; assumption) | (with_reducible refine S_line ?_ ?_ ?_; assumption; assumption) | (with_reducible refine S_cells ?_ ?_ ?_; assumption; assumption))
  · rename_i q; exact absurd q (by simp)
  refine Cmp_ne_d (.val (dat_handed ho1 ho2)) (.val (dat_handed ho1 ho2)) (dep_handed _ _) (dep_handed _ _) ?_
  rw [eqv_self (dat_handed ho1 ho2)]
  repeat' (first | walk_at "x" | (with_reducible refine S_lot ?_ ?_ ?_; assumption; assumption) | (with_reducible refine S_line ?_ ?_ ?_; assumption; assumption) | (with_reducible refine S_cells ?_ ?_ ?_; assumption; assumption))
  refine S_holds9 hp hl1 hl2 F hP ?_
  repeat' (first | walk_at "x" | (with_reducible refine S_lot ?_ ?_ ?_; assumption; assumption) | (with_reducible refine S_line ?_ ?_ ?_; assumption; assumption) | (with_reducible refine S_cells ?_ ?_ ?_; assumption; assumption))
  refine ⟨_, [], by simp, Iter_rangeN (n := us.length) (by (exact Mine.Ar.lin 0 1 (.le (.v 0) (.k 1000)) [(.le (.v 0) (.k 200))] (by kernel_rfl) [] [_] rfl rfl hwl)), ?_⟩
  refine JLoop_foldJ (fun i : Nat => V.int i) (fun z1 => [(4, .lst (lots.map Lot.v)), (5, .lst (lines.map Line.v)), (7, .lst (us.map fun w => .tup [.str w, .int (bar w)])), (8, .lst (D.map rowV)), (10, .lst (us.map .str))]) (fun z1 => σ) (fun (u : Unit) _ => u) (fun left z1 => ∀ k ∈ left, k < us.length) (List.range us.length) () _ ?_ (fun k hk => List.mem_range.mp hk) (fun s k left hj => ?_) fun m hm z1 => ?_
  · walk_at "sub"
  · have hk := hj k (.head _)
    have hnext : ∀ k ∈ left, k < us.length := fun i hi => hj i (.tail _ hi)
    have hpp : L09 (c.pro []).k := hp
    have hB := hbar (us.getD k ⟨#[]⟩) (List.mem_of_getElem? (getD_get? us k ⟨#[]⟩ hk))
    have hE := hdealt _ _ hB
    repeat' (first | walk_at "x" | (with_reducible refine S_lot ?_ ?_ ?_; assumption; assumption) | (with_reducible refine S_line ?_ ?_ ?_; assumption; assumption) | (with_reducible refine S_cells ?_ ?_ ?_; assumption; assumption))
    refine Item_of ⟨#[]⟩ hk ?_
    repeat' (first | walk_at "x" | (with_reducible refine S_lot ?_ ?_ ?_; assumption; assumption) | (with_reducible refine S_line ?_ ?_ ?_; assumption; assumption) | (with_reducible refine S_cells ?_ ?_ ?_; assumption; assumption))
    refine Item_of ⟨#[]⟩ hk ?_
    repeat' (first | walk_at "x" | (with_reducible refine S_lot ?_ ?_ ?_; assumption; assumption) | (with_reducible refine S_line ?_ ?_ ?_; assumption; assumption) | (with_reducible refine S_cells ?_ ?_ ?_; assumption; assumption))
    · rename_i q; exact absurd q (by simp)
    generalize hu : us.getD k ⟨#[]⟩ = u at hB hE
    refine S_whole hpp.f_law_whole ?_
    repeat' (first | walk_at "x" | (with_reducible refine S_lot ?_ ?_ ?_; assumption; assumption) | (with_reducible refine S_line ?_ ?_ ?_; assumption; assumption) | (with_reducible refine S_cells ?_ ?_ ?_; assumption; assumption))
    refine Item_of ⟨#[]⟩ hk ?_
    repeat' (first | walk_at "x" | (with_reducible refine S_lot ?_ ?_ ?_; assumption; assumption) | (with_reducible refine S_line ?_ ?_ ?_; assumption; assumption) | (with_reducible refine S_cells ?_ ?_ ?_; assumption; assumption))
    rw [hu]
    refine S_bar9 hpp.f_law_limit hpp.f_law_bar hl1 ho1 hB ?_
    repeat' (first | walk_at "x" | (with_reducible refine S_lot ?_ ?_ ?_; assumption; assumption) | (with_reducible refine S_line ?_ ?_ ?_; assumption; assumption) | (with_reducible refine S_cells ?_ ?_ ?_; assumption; assumption))
    refine ⟨_, [], by simp, Iter_lst, fun E => ?_⟩
    refine jcomp_fm rowV (fun x => .int x.2.2) (fun x => (lots.getD x.2.1 Lot.z).w == u) D [] (fun x hx => ⟨_, rfl, ?_, fun z1 => ?_⟩) ?_
    · repeat' (first | walk_at "x" | (with_reducible refine S_lot ?_ ?_ ?_; assumption; assumption) | (with_reducible refine S_line ?_ ?_ ?_; assumption; assumption) | (with_reducible refine S_cells ?_ ?_ ?_; assumption; assumption))
      refine Item_of Lot.z (F.lot x hx) ?_
      repeat' (first | walk_at "x" | (with_reducible refine S_lot ?_ ?_ ?_; assumption; assumption) | (with_reducible refine S_line ?_ ?_ ?_; assumption; assumption) | (with_reducible refine S_cells ?_ ?_ ?_; assumption; assumption))
      refine Item_of ⟨#[]⟩ hk ?_
      rw [hu]
      repeat' (first | walk_at "x" | (with_reducible refine S_lot ?_ ?_ ?_; assumption; assumption) | (with_reducible refine S_line ?_ ?_ ?_; assumption; assumption) | (with_reducible refine S_cells ?_ ?_ ?_; assumption; assumption))
      exact ⟨rfl, rfl⟩
    · repeat' (first | walk_at "x" | (with_reducible refine S_lot ?_ ?_ ?_; assumption; assumption) | (with_reducible refine S_line ?_ ?_ ?_; assumption; assumption) | (with_reducible refine S_cells ?_ ?_ ?_; assumption; assumption))
      exact ⟨rfl, rfl⟩
    refine made_f ?_
    rw [List.nil_append, map_int (fun x : Deal.Row => x.2.2)]
    refine Leaf.mk ⟨_, rfl, ?_⟩
    rw [show ((D.filter fun x => (lots.getD x.2.1 Lot.z).w == u).map fun x => x.2.2).sum = (stk lots lines).dealt u D from Deal.sumR_congr fun x z1 => by rw [Bool.eq_iff_iff]; simp [stk]]
    repeat' (first | walk_at "x" | (with_reducible refine S_lot ?_ ?_ ?_; assumption; assumption) | (with_reducible refine S_line ?_ ?_ ?_; assumption; assumption) | (with_reducible refine S_cells ?_ ?_ ?_; assumption; assumption))
    refine Item_of ⟨#[]⟩ hk ?_
    rw [hu]
    repeat' (first | walk_at "x" | (with_reducible refine S_lot ?_ ?_ ?_; assumption; assumption) | (with_reducible refine S_line ?_ ?_ ?_; assumption; assumption) | (with_reducible refine S_cells ?_ ?_ ?_; assumption; assumption))
    refine S_limit9 hpp.f_law_limit ?_
    rw [hE]
    repeat' (first | walk_at "x" | (with_reducible refine S_lot ?_ ?_ ?_; assumption; assumption) | (with_reducible refine S_line ?_ ?_ ?_; assumption; assumption) | (with_reducible refine S_cells ?_ ?_ ?_; assumption; assumption))
    · rename_i q; exact absurd q (by simp)
    · exact ⟨by walk_at "sub", rfl, hnext⟩
  refine JB_sub hm ?_
  repeat' (first | walk_at "x" | (with_reducible refine S_lot ?_ ?_ ?_; assumption; assumption) | (with_reducible refine S_line ?_ ?_ ?_; assumption; assumption) | (with_reducible refine S_cells ?_ ?_ ?_; assumption; assumption))
  rfl
end Mine
end

section
open PySem PySem.W PyProof.Rows
set_option Elab.async false
set_option maxRecDepth 100000
set_option maxHeartbeats 8000000
namespace Mine
noncomputable abbrev pw := Challenge.pw_uf040031_09
noncomputable def vw : Program := { pw with main := { pw.main with body := [stAt pw 1, stAt pw 2, stAt pw 3, stAt pw 5, stAt pw 6, stAt pw 7, stAt pw 8, stAt pw 9, stAt pw 10, stAt pw 11, stAt pw 12, stAt pw 13, stAt pw 14, stAt pw 15, stAt pw 16, stAt pw 17, stAt pw 19, stAt pw 21, stAt pw 22, stAt pw 23, stAt pw 25, stAt pw 26, stAt pw 27, stAt pw 28, stAt pw 29, stAt pw 30, stAt pw 31, stAt pw 32, stAt pw 33, stAt pw 34, stAt pw 35, stAt pw 36, stAt pw 37, stAt pw 38] } }
noncomputable def gl : Glob := ⟨[("MOST", 1000000000000), ("MOST_ROWS", 100), ("MOST_SIGNS", 12)], [("LETTERS", "abcdefghijklmnopqrstuvwxyz")], ["is_whole", "is_ware", "is_day", "is_count", "is_lot", "is_line", "need", "good", "need_rows", "best", "limit_of", "bar_of", "bars", "_law_at", "_law_whole", "_law_word", "_law_mixed", "_law_day", "_law_count", "_law_lot", "_law_line", "_law_cells", "_law_limit", "_law_triple", "_law_holds", "_law_bar", "law"]⟩
theorem fn_is_whole {k : Base} (hp : TopAt k vw (looseW vw [])) : Fn k "is_whole" (stAt pw 9) := hp.def_ (i := 7) rfl rfl (by kernel_rfl) rfl rfl rfl rfl rfl rfl rfl
theorem fn_is_ware {k : Base} (hp : TopAt k vw (looseW vw [])) : Fn k "is_ware" (stAt pw 10) := hp.def_ (i := 8) rfl rfl (by kernel_rfl) rfl rfl rfl rfl rfl rfl rfl
theorem fn_is_day {k : Base} (hp : TopAt k vw (looseW vw [])) : Fn k "is_day" (stAt pw 11) := hp.def_ (i := 9) rfl rfl (by kernel_rfl) rfl rfl rfl rfl rfl rfl rfl
theorem fn_is_count {k : Base} (hp : TopAt k vw (looseW vw [])) : Fn k "is_count" (stAt pw 12) := hp.def_ (i := 10) rfl rfl (by kernel_rfl) rfl rfl rfl rfl rfl rfl rfl
theorem fn_is_lot {k : Base} (hp : TopAt k vw (looseW vw [])) : Fn k "is_lot" (stAt pw 13) := hp.def_ (i := 11) rfl rfl (by kernel_rfl) rfl rfl rfl rfl rfl rfl rfl
theorem fn_is_line {k : Base} (hp : TopAt k vw (looseW vw [])) : Fn k "is_line" (stAt pw 14) := hp.def_ (i := 12) rfl rfl (by kernel_rfl) rfl rfl rfl rfl rfl rfl rfl
theorem fn_need {k : Base} (hp : TopAt k vw (looseW vw [])) : Fn k "need" (stAt pw 15) := hp.def_ (i := 13) rfl rfl (by kernel_rfl) rfl rfl rfl rfl rfl rfl rfl
theorem fn_good {k : Base} (hp : TopAt k vw (looseW vw [])) : Fn k "good" (stAt pw 16) := hp.def_ (i := 14) rfl rfl (by kernel_rfl) rfl rfl rfl rfl rfl rfl rfl
theorem fn_need_rows {k : Base} (hp : TopAt k vw (looseW vw [])) : Fn k "need_rows" (stAt pw 17) := hp.def_ (i := 15) rfl rfl (by kernel_rfl) rfl rfl rfl rfl rfl rfl rfl
theorem fn_best {k : Base} (hp : TopAt k vw (looseW vw [])) : Fn k "best" (stAt pw 19) := hp.def_ (i := 16) rfl rfl (by kernel_rfl) rfl rfl rfl rfl rfl rfl rfl
theorem fn_limit_of {k : Base} (hp : TopAt k vw (looseW vw [])) : Fn k "limit_of" (stAt pw 21) := hp.def_ (i := 17) rfl rfl (by kernel_rfl) rfl rfl rfl rfl rfl rfl rfl
theorem fn_bar_of {k : Base} (hp : TopAt k vw (looseW vw [])) : Fn k "bar_of" (stAt pw 22) := hp.def_ (i := 18) rfl rfl (by kernel_rfl) rfl rfl rfl rfl rfl rfl rfl
theorem fn_bars {k : Base} (hp : TopAt k vw (looseW vw [])) : Fn k "bars" (stAt pw 23) := hp.def_ (i := 19) rfl rfl (by kernel_rfl) rfl rfl rfl rfl rfl rfl rfl
theorem fn_law_at {k : Base} (hp : TopAt k vw (looseW vw [])) : Fn k "_law_at" (stAt pw 25) := hp.def_ (i := 20) rfl rfl (by kernel_rfl) rfl rfl rfl rfl rfl rfl rfl
theorem fn_law_whole {k : Base} (hp : TopAt k vw (looseW vw [])) : Fn k "_law_whole" (stAt pw 26) := hp.def_ (i := 21) rfl rfl (by kernel_rfl) rfl rfl rfl rfl rfl rfl rfl
theorem fn_law_word {k : Base} (hp : TopAt k vw (looseW vw [])) : Fn k "_law_word" (stAt pw 27) := hp.def_ (i := 22) rfl rfl (by kernel_rfl) rfl rfl rfl rfl rfl rfl rfl
theorem fn_law_mixed {k : Base} (hp : TopAt k vw (looseW vw [])) : Fn k "_law_mixed" (stAt pw 28) := hp.def_ (i := 23) rfl rfl (by kernel_rfl) rfl rfl rfl rfl rfl rfl rfl
theorem fn_law_day {k : Base} (hp : TopAt k vw (looseW vw [])) : Fn k "_law_day" (stAt pw 29) := hp.def_ (i := 24) rfl rfl (by kernel_rfl) rfl rfl rfl rfl rfl rfl rfl
theorem fn_law_count {k : Base} (hp : TopAt k vw (looseW vw [])) : Fn k "_law_count" (stAt pw 30) := hp.def_ (i := 25) rfl rfl (by kernel_rfl) rfl rfl rfl rfl rfl rfl rfl
theorem fn_law_lot {k : Base} (hp : TopAt k vw (looseW vw [])) : Fn k "_law_lot" (stAt pw 31) := hp.def_ (i := 26) rfl rfl (by kernel_rfl) rfl rfl rfl rfl rfl rfl rfl
theorem fn_law_line {k : Base} (hp : TopAt k vw (looseW vw [])) : Fn k "_law_line" (stAt pw 32) := hp.def_ (i := 27) rfl rfl (by kernel_rfl) rfl rfl rfl rfl rfl rfl rfl
theorem fn_law_cells {k : Base} (hp : TopAt k vw (looseW vw [])) : Fn k "_law_cells" (stAt pw 33) := hp.def_ (i := 28) rfl rfl (by kernel_rfl) rfl rfl rfl rfl rfl rfl rfl
theorem fn_law_limit {k : Base} (hp : TopAt k vw (looseW vw [])) : Fn k "_law_limit" (stAt pw 34) := hp.def_ (i := 29) rfl rfl (by kernel_rfl) rfl rfl rfl rfl rfl rfl rfl
theorem fn_law_triple {k : Base} (hp : TopAt k vw (looseW vw [])) : Fn k "_law_triple" (stAt pw 35) := hp.def_ (i := 30) rfl rfl (by kernel_rfl) rfl rfl rfl rfl rfl rfl rfl
theorem fn_law_holds {k : Base} (hp : TopAt k vw (looseW vw [])) : Fn k "_law_holds" (stAt pw 36) := hp.def_ (i := 31) rfl rfl (by kernel_rfl) rfl rfl rfl rfl rfl rfl rfl
theorem fn_law_bar {k : Base} (hp : TopAt k vw (looseW vw [])) : Fn k "_law_bar" (stAt pw 37) := hp.def_ (i := 32) rfl rfl (by kernel_rfl) rfl rfl rfl rfl rfl rfl rfl
theorem fn_law {k : Base} (hp : TopAt k vw (looseW vw [])) : Fn k "law" (stAt pw 38) := hp.def_ (i := 33) rfl rfl (by kernel_rfl) rfl rfl rfl rfl rfl rfl rfl
theorem gl_ok {k : Base} (hd : k.hd = true) (hp : TopAt k vw (looseW vw [])) : GlobOk k gl := by
  refine .of hp.ok (all_cons (hp.constI (by kernel_rfl)) (all_cons (hp.constI (by kernel_rfl)) (all_cons (hp.constI (by kernel_rfl)) all_nil))) (all_cons (hp.constS (by kernel_rfl)) all_nil) (all_cons (fn_is_whole hp).def (all_cons (fn_is_ware hp).def (all_cons (fn_is_day hp).def (all_cons (fn_is_count hp).def (all_cons (fn_is_lot hp).def (all_cons (fn_is_line hp).def (all_cons (fn_need hp).def (all_cons (fn_good hp).def (all_cons (fn_need_rows hp).def (all_cons (fn_best hp).def (all_cons (fn_limit_of hp).def (all_cons (fn_bar_of hp).def (all_cons (fn_bars hp).def (all_cons (fn_law_at hp).def (all_cons (fn_law_whole hp).def (all_cons (fn_law_word hp).def (all_cons (fn_law_mixed hp).def (all_cons (fn_law_day hp).def (all_cons (fn_law_count hp).def (all_cons (fn_law_lot hp).def (all_cons (fn_law_line hp).def (all_cons (fn_law_cells hp).def (all_cons (fn_law_limit hp).def (all_cons (fn_law_triple hp).def (all_cons (fn_law_holds hp).def (all_cons (fn_law_bar hp).def (all_cons (fn_law hp).def all_nil))))))))))))))))))))))))))) (fun f => ?_) hd
  cases f <;> exact hp.blt (by decide +kernel) (by decide) (by rfl)
theorem pg_of {k : Base} (hd : k.hd = true) (hp : TopAt k vw (looseW vw [])) : L09 k := by
  have hG := gl_ok hd hp
  have f_is_whole : FnT k "is_whole" 1 t_is_whole := .of (N := n_is_whole) (fn_is_whole hp) hG (by kernel_rfl)
  have f_is_ware : FnT k "is_ware" 1 t_is_ware := .of (N := n_is_ware) (fn_is_ware hp) hG (by kernel_rfl)
  have f_is_day : FnT k "is_day" 1 t_is_day := .of (N := n_is_day) (fn_is_day hp) hG (by kernel_rfl)
  have f_is_count : FnT k "is_count" 1 t_is_count := .of (N := n_is_count) (fn_is_count hp) hG (by kernel_rfl)
  have f_is_lot : FnT k "is_lot" 1 t_is_lot := .of (N := n_is_lot) (fn_is_lot hp) hG (by kernel_rfl)
  have f_is_line : FnT k "is_line" 1 t_is_line := .of (N := n_is_line) (fn_is_line hp) hG (by kernel_rfl)
  have f_need : FnT k "need" 1 t_need := .of (N := n_need) (fn_need hp) hG (by kernel_rfl)
  have f_good : FnT k "good" 2 t_good := .of (N := n_good) (fn_good hp) hG (by kernel_rfl)
  have f_need_rows : FnT k "need_rows" 2 t_need_rows := .of (N := n_need_rows) (fn_need_rows hp) hG (by kernel_rfl)
  have f_law_at : FnT k "_law_at" 2 t_law_at := .of (N := n_law_at) (fn_law_at hp) hG (by kernel_rfl)
  have f_law_word : FnT k "_law_word" 2 t_law_word := .of (N := n_law_word) (fn_law_word hp) hG (by kernel_rfl)
  have f_law_mixed : FnT k "_law_mixed" 2 t_law_mixed := .of (N := n_law_mixed) (fn_law_mixed hp) hG (by kernel_rfl)
  have f_law_day : FnT k "_law_day" 1 t_law_day := .of (N := n_law_day) (fn_law_day hp) hG (by kernel_rfl)
  have f_law_count : FnT k "_law_count" 1 t_law_count := .of (N := n_law_count) (fn_law_count hp) hG (by kernel_rfl)
  have f_law_lot : FnT k "_law_lot" 2 t_law_lot := .of (N := n_law_lot) (fn_law_lot hp) hG (by kernel_rfl)
  have f_law_line : FnT k "_law_line" 2 t_law_line := .of (N := n_law_line) (fn_law_line hp) hG (by kernel_rfl)
  have f_best : FnT k "best" 2 t_best := .of (N := n_best) (fn_best hp) hG (by kernel_rfl)
  have f_limit_of : FnT k "limit_of" 4 t_limit_of := .of (N := n_limit_of) (fn_limit_of hp) hG (by kernel_rfl)
  have f_bar_of : FnT k "bar_of" 3 t_bar_of := .of (N := n_bar_of) (fn_bar_of hp) hG (by kernel_rfl)
  have f_bars : FnT k "bars" 2 t_bars := .of (N := n_bars) (fn_bars hp) hG (by kernel_rfl)
  have f_law_whole : FnT k "_law_whole" 1 t_law_whole := .of (N := n_law_whole) (fn_law_whole hp) hG (by kernel_rfl)
  have f_law_triple : FnT k "_law_triple" 3 t_law_triple := .of (N := n_law_triple) (fn_law_triple hp) hG (by kernel_rfl)
  have f_law_cells : FnT k "_law_cells" 1 t_law_cells_09 := .of (N := n_law_cells_09) (fn_law_cells hp) hG (by kernel_rfl)
  have f_law_limit : FnT k "_law_limit" 4 t_law_limit_09 := .of (N := n_law_limit_09) (fn_law_limit hp) hG (by kernel_rfl)
  have f_law_holds : FnT k "_law_holds" 3 t_law_holds_09 := .of (N := n_law_holds_09) (fn_law_holds hp) hG (by kernel_rfl)
  have f_law_bar : FnT k "_law_bar" 4 t_law_bar_09 := .of (N := n_law_bar_09) (fn_law_bar hp) hG (by kernel_rfl)
  have f_law : FnT k "law" 1 t_law_09 := .of (N := n_law_09) (fn_law hp) hG (by kernel_rfl)
  constructor <;> (repeat (first | assumption | constructor))
theorem said : Challenge.rw_uf040031_09.wellSaid = true := by
  unfold OpenLaw.wellSaid
  repeat' with_reducible first | refine look_both ?_ ?_ | unfold OpenRow.wellSaid | unfold OpenRow.partSaid | unfold looksOpen
  all_goals decide +kernel
end Mine
theorem PySem.Challenge.cw_uf040031_09_holds : PySem.Challenge.rw_uf040031_09.Holds := by
  w_on
  refine holds_law Mine.said fun said => ?_
  o_head Hook.none
  (case hw => w_witness2)
  intro w s₀ s₁ mg mb G Y fa o pm cd doc dV kV ho hd hcd hD hmg hg args vals as hpre hlay hrd hwl hlo
  refine Ground.open G ?_
  intro T B D TE TW
  try (refine guard_noD D (by decide +kernel) ?_; clear D)
  have hmg' : mg (Str.ofString "law") = some (.ref fa) := hmg
  clear hd hcd hD hmg ho
  wrow_args hpre hlay hrd hwl hlo
  rename Well _ _ _ _ => hW
  rename Heap.IsList _ _ _ => hL
  rename IntsAre _ _ => hI
  rename (¬ (_ : Int) < _) => hlen
  rename (PyData.list _).layable0 = true => hbits
  have hk : (Mine.Base.mk Challenge.rw_uf040031_09.row.prog w s₁.heap mg mb true).OK := ⟨T.g, T.b, T.nolimit⟩
  have htop : Mine.TopAt (Mine.Base.mk Challenge.rw_uf040031_09.row.prog w s₁.heap mg mb true) Mine.vw (looseW Mine.vw []) := ⟨hk, T.fn, T.const, T.free, T.builtins⟩
  have hpg : Mine.L09 (Mine.Base.mk Challenge.rw_uf040031_09.row.prog w s₁.heap mg mb true) := Mine.pg_of rfl htop
  refine Mine.law_head hk hW hL hI (by omega) hg ?_
  obtain ⟨f, hf, hcall⟩ := Mine.S_law (c := ⟨Mine.Base.mk Challenge.rw_uf040031_09.row.prog w s₁.heap mg mb true, [], []⟩) (d := 80) (σ := []) (X := Mine.NoX) hpg (by omega) (Mine.bits_of_layable hbits)
  have hf' : mg (Str.ofString "law") = some f := hf
  rw [hmg'] at hf'; cases hf'
  exact hcall
end
