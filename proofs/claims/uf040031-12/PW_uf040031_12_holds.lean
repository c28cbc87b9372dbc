import PyProof.Rows.All
import Wide.All
import Open.Line
import Wide.FinOn
import PyProof.ExcClsAt2
import PyProof.TableCode
import PyProof.CompFree
import PyProof.RaisesMany
import PyProof.Calls
import PyProof.Cells
import PyProof.DictList
import PyProof.DictKinds
import PyProof.AutoIntOps
import PyProof.PureInt
import PyProof.StrBlock
import PyProof.TupleOps
import PyProof.SliceStr2
import PyProof.SliceList
import PyProof.IsRules
import PyProof.NoPylong
import PyProof.AutoIntOpsIf
import PyProof.Rows.TupSub
import PyProof.Rows.StrTemp
import PyProof.Rows.Nodes
import PyProof.TupleIter
import PyProof.Rows.SeqMore
import PyProof.ListIndexNeg
import PyProof.Rows.TupMore
import PyProof.RulesAssignMore
import PyProof.ForAny
import PyProof.WalksPairs
import PyProof.WalksMore
import PyProof.CompMap
import PyProof.CompUse
import PyProof.StrWalks
import PyProof.RangeFor
import PyProof.CallRoads
import PyProof.Methods
import PyProof.WalkInts
import PyProof.IsiPairs
import PyProof.IsiHeapPairs
import PyProof.Rows.StrJoin2
import PyProof.DefCall
import PyProof.Rows.PlainNoArg
import PyProof.Rows.Top
import Open.Row
import Wide.BridgeG
import PyProof.Rows.RuleC_bool
import Wide.Well
import Wide.Ends
import PyProof.ConsumeWalk
import PyProof.SumWalkG
import PyProof.ListOps
import PyProof.ListCopy
import PyProof.TupleOfSeq
import PyProof.TupleCall
import PyProof.EqLayable
import PyProof.P3In
import PyProof.PlainList
import PyProof.FactsAll.list_0
import PyProof.FactsAll.list_3
import PyProof.ListIndex
import PyProof.Dict
import PyProof.RulesDelMore
import PyProof.DictRoads
import PyProof.DictStraight
import PyProof.IsiNone
import PyProof.FactsAll.list_4
import PyProof.AutoListH
import PyProof.FactsAll.dict_2
import PyProof.FactsAll.subtypes_5
import PyProof.Rows.AttrNodeAny
import PyProof.ExcClass3
import PyProof.ExcBaseAll.ValueError
import PyProof.ExcArgs
import PyProof.IsInstanceT
import PyProof.RulesAs
import PyProof.RulesDel
import PyProof.IsiTuple
import KE.KSortTup
import PyProof.Rows.SortShell
import PyProof.Rows.SortWalk
import PyProof.Rows.SortKeyStr
import PyProof.Rows.SortStr
import PyProof.FactsAll.set
import PyProof.DictIter
import PyProof.WalksS
import PyProof.MakeMany
import PyProof.SetKind
import PyProof.Rows.SetFrom
import PyProof.SetNew
import PyProof.Walks
import PyProof.CollectWalk
import PyProof.DictWalks
import PyProof.DictTruth
import PyProof.MeetsDictList
import PyProof.FactsAll.dict_3
import PyProof.DictDisplay
import PyProof.DictTable
import PyProof.FactsAll.tuple_2
import PyProof.TupleKey
import PyProof.Rows.PlainEq
import Open.Head
import PySem.Challenge.RW_uf040031_12
set_option tactic.hygienic false
section
open PySem PySem.W PyProof.Rows
set_option Elab.async false
namespace Mine
noncomputable def VE0:List Value:=[.type "ValueError",.type "Exception",.type "BaseException",.type "object"]
noncomputable def VN0:String:="ValueError.__new__"
noncomputable def hush0:List Str:=["__init__","__getattribute__","__getattr__","__class__"]
noncomputable def hushOk0 (h:Heap) (name:Str):Bool:=(h.clsAt mainGlobals name).any fun z=>hush0.all fun n=>(h.nsMap z.2.2.ns n).isNone
noncomputable def errChk0 (h:Heap):Bool:=h.isNs mainGlobals && (h.ownExcOk "LotError" [] VE0 VN0 && hushOk0 h "LotError") && (h.ownExcOk "NoNumber" ["LotError"] VE0 VN0 && hushOk0 h "NoNumber")
noncomputable def errHook0:Hook:=⟨Bool,fun s=>errChk0 s.heap,fun z1=>true,fun z1 h=>∃ h0,errChk0 h0=true/\∀ b o,h0.get? b=some o->h.get? b=some o,fun w s e=>⟨s.heap,e,fun z1 z2 q=>q⟩,fun w h h' x k=>x.elim fun h0 q=>⟨h0,q.1,fun b o r=>k b o (q.2 b o r)⟩⟩
end Mine
end
section
open PySem PySem.W PyProof.Rows
set_option maxRecDepth 100000
set_option maxHeartbeats 8000000
namespace Mine
noncomputable def stA (p:Program) (i:Nat):Stmt:=p.main.body.getD i (.Pass ⟨0,0,0,0⟩)
noncomputable abbrev pw:=Challenge.pw_uf040031_12
noncomputable def vw:Program:={ pw with main:={ pw.main with body:=[stA pw 1,stA pw 2,stA pw 3,stA pw 4,stA pw 5,stA pw 6,stA pw 7,stA pw 9,stA pw 10,stA pw 11,stA pw 12,stA pw 13,stA pw 14,stA pw 15,stA pw 16,stA pw 17,stA pw 18,stA pw 19,stA pw 20,stA pw 21,stA pw 23,stA pw 25,stA pw 27,stA pw 28,stA pw 29,stA pw 30,stA pw 31,stA pw 32,stA pw 33,stA pw 34,stA pw 35,stA pw 36,stA pw 37,stA pw 38,stA pw 39] } }
noncomputable abbrev rr:RowW:=OpenRow.toRowW Challenge.rw_uf040031_12.row
noncomputable abbrev xt:Shared->Bool:=fun s=>xlAt vw [] s && recOk (RowW.records rr) s
theorem left:LeftO Challenge.rw_uf040031_12.row.prog vw [] xt (Hook.obs Mine.errHook0) (Hook.val Mine.errHook0) 9000:=by
 intro w
 kernel_rfl
end Mine
end
section
set_option linter.unusedVariables false
set_option genSizeOf false
set_option genInjectivity false
namespace Mine.Ar
noncomputable abbrev Lin:=List Int × Int
noncomputable def dot (a:List Int):List Int->Int:=a.rec (fun z1=>0) fun a z1 ih ρ=>a * ρ.headD 0+ih ρ.tail
noncomputable def addl (a:List Int):List Int->List Int:=a.rec (fun b=>b) fun a z1 ih b=>(a+b.headD 0)::ih b.tail
noncomputable def ev (ρ:List Int) (f:Lin):Int:=dot f.1 ρ+f.2
noncomputable def add (f g:Lin):Lin:=(addl f.1 g.1,f.2+g.2)
noncomputable def smul (k:Int) (f:Lin):Lin:=(f.1.map (k * ·),k * f.2)
theorem add4 (a b c d:Int):a+b+(c+d)=a+c+(b+d):=by rw [Int.add_assoc,Int.add_assoc,Int.add_left_comm b]
theorem dot_ht (b ρ:List Int):dot b ρ=b.headD 0 * ρ.headD 0+dot b.tail ρ.tail:=by
 cases b with
 | nil=>exact ((Int.add_zero _).trans (Int.zero_mul _)).symm
 | cons _ _=>rfl
theorem dot_add (a:List Int):∀ b ρ:List Int,dot (addl a b) ρ=dot a ρ+dot b ρ:=by
 induction a with
 | nil=>exact fun b ρ=>(Int.zero_add _).symm
 | cons a as ih=>
  intro b ρ
  rw [dot_ht b ρ]
  show (a+b.headD 0) * _+dot (addl as b.tail) ρ.tail=a * _+dot as ρ.tail+_
  rw [ih,Int.add_mul,add4]
theorem dot_smul (k:Int) (a:List Int):∀ ρ:List Int,dot (a.map (k * ·)) ρ=k * dot a ρ:=by
 induction a with
 | nil=>exact fun z1=>(Int.mul_zero k).symm
 | cons a as ih=>
  intro ρ
  show k * a * _+dot (as.map (k * ·)) ρ.tail=k * (a * _+dot as ρ.tail)
  rw [ih,Int.mul_add,Int.mul_assoc]
theorem ev_add (ρ:List Int) (f g:Lin):ev ρ (add f g)=ev ρ f+ev ρ g:=by
 show dot (addl _ _) ρ+_=_
 rw [dot_add];exact add4 ..
theorem ev_smul (ρ:List Int) (k:Int) (f:Lin):ev ρ (smul k f)=k * ev ρ f:=by
 show dot (List.map _ _) ρ+k * f.2=k * (dot f.1 ρ+f.2)
 rw [dot_smul,Int.mul_add]
noncomputable def sub (f g:Lin):Lin:=add f (smul (-1) g)
theorem ev_sub (ρ:List Int) (f g:Lin):ev ρ (sub f g)=ev ρ f - ev ρ g:=by
 show ev ρ (add _ _)=_
 rw [ev_add,ev_smul,Int.neg_mul,Int.one_mul];rfl
noncomputable def hd (f:Lin):Int:=f.1.headD 0
noncomputable def tl (f:Lin):Lin:=(f.1.tail,f.2)
theorem ev_cons (x:Int) (ρ:List Int) (f:Lin):ev (x::ρ) f=hd f * x+ev ρ (tl f):=by
 show dot _ _+_=_
 rw [dot_ht];exact Int.add_assoc ..
noncomputable def elim (cs:List Lin):List Lin:=
 ((cs.filter fun f=>hd f == 0).map tl)++(cs.filter fun f=>decide (0<hd f)).flatMap fun p=>(cs.filter fun f=>decide (hd f<0)).map fun q=>add (smul (-hd q) (tl p)) (smul (hd p) (tl q))
noncomputable def fm (n:Nat):List Lin->Bool:=n.rec (fun cs=>cs.any fun f=>decide (f.2<0)) fun z1 ih cs=>ih (elim cs)
noncomputable def Sat (ρ:List Int) (cs:List Lin):Prop:=∀ f∈cs,0<=ev ρ f
theorem Sat.app {ρ:List Int} {a b:List Lin} (ha:Sat ρ a) (hb:Sat ρ b):Sat ρ (a++b):=fun f hf=>(List.mem_append.mp hf).elim (ha f) (hb f)
theorem Sat.con {ρ:List Int} {f:Lin} {b:List Lin} (ha:0<=ev ρ f) (hb:Sat ρ b):Sat ρ (f::b):=fun g hg=>(List.mem_cons.mp hg).elim (fun e=>e ▸ ha) (hb g)
theorem Sat.nil {ρ:List Int}:Sat ρ []:=fun z1 h=>nomatch h
theorem pq (a b x u v:Int) (h1:0<=-b * (a * x+u)) (h2:0<=a * (b * x+v)):0<=-b * u+a * v:=by
 have e:-b * (a * x+u)+a * (b * x+v)=-b * u+a * v:=by
  rw [Int.mul_add,Int.mul_add,add4,Int.neg_mul b,← Int.mul_assoc b,← Int.mul_assoc a,Int.mul_comm b,Int.add_left_neg,Int.zero_add]
 exact e ▸ Int.add_nonneg h1 h2
theorem elim_sat {x:Int} {ρ:List Int} {cs:List Lin} (h:Sat (x::ρ) cs):Sat ρ (elim cs):=fun f hf=>by
 rcases List.mem_append.mp hf with hf | hf
 ·obtain ⟨g,hg,rfl⟩:=List.mem_map.mp hf
  obtain ⟨h1,h2⟩:=List.mem_filter.mp hg
  have:=h g h1
  rwa [ev_cons,eq_of_beq h2,Int.zero_mul,Int.zero_add] at this
 ·obtain ⟨p,hp,hf⟩:=List.mem_flatMap.mp hf
  obtain ⟨q,hq,rfl⟩:=List.mem_map.mp hf
  obtain ⟨p1,p2⟩:=List.mem_filter.mp hp
  obtain ⟨q1,q2⟩:=List.mem_filter.mp hq
  rw [ev_add,ev_smul,ev_smul]
  exact pq _ _ x _ _ (Int.mul_nonneg (Int.neg_nonneg_of_nonpos (Int.le_of_lt (of_decide_eq_true q2))) (ev_cons .. ▸ h p p1)) (Int.mul_nonneg (Int.le_of_lt (of_decide_eq_true p2)) (ev_cons .. ▸ h q q1))
theorem dot_nil (a:List Int):dot a []=0:=by
 induction a with
 | nil=>rfl
 | cons a as ih=>exact (congrArg (_+·) ih).trans ((Int.add_zero _).trans (Int.mul_zero _))
theorem fm_sound (ρ:List Int):∀ cs:List Lin,fm ρ.length cs=true->¬ Sat ρ cs:=by
 induction ρ with
 | nil=>
  intro cs h hs
  obtain ⟨f,hf,h2⟩:=List.any_eq_true.mp h
  have:=hs f hf
  rw [ev,dot_nil,Int.zero_add] at this
  exact Int.not_le.mpr (of_decide_eq_true h2) this
 | cons x ρ ih=>exact fun cs h hs=>ih _ h (elim_sat hs)
inductive NT where
 | v (i:Nat) | k (n:Nat) | a (x y:NT) | s (x y:NT) | m (n:Nat) (x:NT) | c (x:NT) | g (x:NT)
noncomputable abbrev nth {α:Type} (d:α) (ρ:List α):Nat->α:=ρ.rec (fun z1=>d) fun x z1 ih i=>i.rec x fun i z1=>ih i
noncomputable abbrev nints (ρ:List Nat):List Int:=ρ.map Int.ofNat
noncomputable abbrev env (τ:List Int) (ρ:List Nat):List Int:=τ++nints ρ
noncomputable abbrev NT.den (ρ:List Nat) (t:NT):Nat:=t.rec (fun i=>nth 0 ρ i) (fun n=>n) (fun z1 z2 x y=>x+y) (fun z1 z2 x y=>x - y) (fun n z1 x=>n * x) (fun z1 x=>x) (fun z1 x=>x)
noncomputable abbrev NT.iden (τ:List Int) (ρ:List Nat) (t:NT):Int:=t.rec (fun i=>nth 0 (env τ ρ) i) (fun n=>(OfNat.ofNat n:Int)) (fun z1 z2 x y=>x+y) (fun z1 z2 x y=>x - y) (fun n z1 x=>(OfNat.ofNat n:Int) * x) (fun x z1=>(x.den ρ:Nat)) (fun z1 x=>-x)
noncomputable def unit (i:Nat):List Int:=i.rec [1] fun z1 ih=>0::ih
noncomputable abbrev Cs:=List (List Lin × Lin)
noncomputable def scl (k:Int) (x:Cs):Cs:=x.map fun p=>(p.1,smul k p.2)
noncomputable def pls (x y:Cs):Cs:=x.flatMap fun p=>y.map fun q=>(p.1++q.1,add p.2 q.2)
noncomputable def mns (x y:Cs):Cs:=x.flatMap fun p=>y.flatMap fun q=>[(sub p.2 q.2::(p.1++q.1),sub p.2 q.2),(sub q.2 p.2::(p.1++q.1),([],0))]
noncomputable def NT.lin (o:Nat) (t:NT):Cs:=t.rec (fun i=>[([],(unit (o+i),0))]) (fun n=>[([],([],n))]) (fun z1 z2 x y=>pls x y) (fun z1 z2 x y=>mns x y) (fun n z1 x=>scl n x) (fun z1 x=>x) (fun z1 x=>x)
noncomputable def NT.ilin (o:Nat) (t:NT):Cs:=t.rec (fun i=>[([],(unit i,0))]) (fun n=>[([],([],n))]) (fun z1 z2 x y=>pls x y) (fun z1 z2 x y=>pls x (scl (-1) y)) (fun n z1 x=>scl n x) (fun x z1=>x.lin o) (fun z1 x=>scl (-1) x)
noncomputable def Fits (E:List Int) (l:Cs) (v:Int):Prop:=∃ p∈l,Sat E p.1/\ev E p.2=v
theorem dot_unit (i:Nat):∀ ρ:List Int,dot (unit i) ρ=nth 0 ρ i:=by
 induction i with
 | zero=>intro ρ;cases ρ <;> exact (Int.add_zero _).trans (Int.one_mul _)
 | succ i ih=>
  intro ρ
  show 0 * _+dot (unit i) ρ.tail=_
  rw [Int.zero_mul,Int.zero_add,ih]
  cases ρ <;> rfl
theorem nth_nints (ρ:List Nat):∀ i,nth 0 (nints ρ) i=(nth 0 ρ i:Nat):=by
 induction ρ with
 | nil=>exact fun z1=>rfl
 | cons x ρ ih=>exact fun i=>by cases i with | zero=>rfl | succ i=>exact ih i
theorem nth_right (ρ:List Nat) (i:Nat) (τ:List Int):nth 0 (env τ ρ) (τ.length+i)=(nth 0 ρ i:Nat):=by
 induction τ with
 | nil=>rw [List.length_nil,Nat.zero_add];exact nth_nints ρ i
 | cons x τ ih=>rw [List.length_cons,Nat.succ_add];exact ih
section
variable {E:List Int} {x y:Cs} {a b:Int} (hx:Fits E x a)
include hx
theorem Fits.scl (k:Int):Fits E (scl k x) (k * a):=by
 obtain ⟨p,hp,p1,p2⟩:=hx
 exact ⟨_,List.mem_map.mpr ⟨p,hp,rfl⟩,p1,p2 ▸ ev_smul ..⟩
theorem Fits.neg:Fits E (Ar.scl (-1) x) (-a):=by
 have:=hx.scl (-1)
 rwa [Int.neg_mul,Int.one_mul] at this
variable (hy:Fits E y b)
include hy
theorem Fits.pls:Fits E (pls x y) (a+b):=by
 obtain ⟨p,hp,p1,p2⟩:=hx
 obtain ⟨q,hq,q1,q2⟩:=hy
 exact ⟨_,List.mem_flatMap.mpr ⟨p,hp,List.mem_map.mpr ⟨q,hq,rfl⟩⟩,p1.app q1,p2 ▸ q2 ▸ ev_add ..⟩
end
theorem Fits.one {E:List Int} {f:Lin} {a:Int} (h:ev E f=a):Fits E [([],f)] a:=⟨_,.head _,.nil,h⟩
theorem Fits.mns {E:List Int} {x y:Cs} {a b:Nat} (hx:Fits E x a) (hy:Fits E y b):Fits E (mns x y) (a - b:Nat):=by
 obtain ⟨p,hp,p1,p2⟩:=hx
 obtain ⟨q,hq,q1,q2⟩:=hy
 rcases Nat.le_total b a with h | h
 ·have e:=Int.ofNat_sub h
  exact ⟨_,List.mem_flatMap.mpr ⟨p,hp,List.mem_flatMap.mpr ⟨q,hq,.head _⟩⟩,(p1.app q1).con (by rw [ev_sub,p2,q2,← e];exact Int.natCast_nonneg _),by rw [ev_sub,p2,q2,e]⟩
 ·exact ⟨_,List.mem_flatMap.mpr ⟨p,hp,List.mem_flatMap.mpr ⟨q,hq,.tail _ (.head _)⟩⟩,(p1.app q1).con (by rw [ev_sub,p2,q2];exact Int.sub_nonneg_of_le (Int.ofNat_le.mpr h)),by rw [Nat.sub_eq_zero_of_le h];rfl⟩
theorem lin_ok (τ:List Int) (ρ:List Nat) (t:NT):Fits (env τ ρ) (t.lin τ.length) (t.den ρ:Nat):=by
 induction t with
 | v i=>exact .one ((Int.add_zero _).trans ((dot_unit _ _).trans (nth_right ρ i τ)))
 | k n=>exact .one (Int.zero_add _)
 | a x y hx hy=>exact hx.pls hy
 | s x y hx hy=>exact hx.mns hy
 | m n x hx=>exact hx.scl n
 | c x hx=>exact hx
 | g x hx=>exact hx
theorem ilin_ok (τ:List Int) (ρ:List Nat) (t:NT):Fits (env τ ρ) (t.ilin τ.length) (t.iden τ ρ):=by
 induction t with
 | v i=>exact .one ((Int.add_zero _).trans (dot_unit _ _))
 | k n=>exact .one (Int.zero_add _)
 | a x y hx hy=>exact hx.pls hy
 | s x y hx hy=>exact hx.pls hy.neg
 | m n x hx=>exact hx.scl n
 | c x hx=>exact lin_ok τ ρ x
 | g x hx=>exact hx.neg
inductive NF where
 | le (x y:NT) | lt (x y:NT) | eq (x y:NT) | ile (x y:NT) | ilt (x y:NT) | ieq (x y:NT) | no (f:NF) | an (f g:NF)
noncomputable abbrev NF.den (τ:List Int) (ρ:List Nat) (f:NF):Prop:=
 f.rec (fun x y=>x.den ρ<=y.den ρ) (fun x y=>x.den ρ<y.den ρ) (fun x y=>x.den ρ=y.den ρ) (fun x y=>x.iden τ ρ<=y.iden τ ρ) (fun x y=>x.iden τ ρ<y.iden τ ρ) (fun x y=>x.iden τ ρ=y.iden τ ρ) (fun z1 p=>¬ p) (fun z1 z2 p q=>p/\q)
noncomputable def two (x y:Cs) (g:Lin->Lin->List (List Lin)):List (List Lin):=x.flatMap fun p=>y.flatMap fun q=>(g p.2 q.2).map fun c=>c++(p.1++q.1)
noncomputable def cle (p q:Lin):List (List Lin):=[[sub q p]]
noncomputable def clt (p q:Lin):List (List Lin):=[[sub (sub q p) ([],1)]]
noncomputable def ceq (p q:Lin):List (List Lin):=[[sub q p,sub p q]]
noncomputable def cne (p q:Lin):List (List Lin):=clt p q++clt q p
noncomputable abbrev Two:=List (List Lin) × List (List Lin)
noncomputable def tle (x y:Cs):Two:=(two x y cle,two y x clt)
noncomputable def tlt (x y:Cs):Two:=(two x y clt,two y x cle)
noncomputable def teq (x y:Cs):Two:=(two x y ceq,two x y cne)
noncomputable def NF.cs (o:Nat) (f:NF):Two:=
 f.rec (fun x y=>tle (x.lin o) (y.lin o)) (fun x y=>tlt (x.lin o) (y.lin o)) (fun x y=>teq (x.lin o) (y.lin o)) (fun x y=>tle (x.ilin o) (y.ilin o)) (fun x y=>tlt (x.ilin o) (y.ilin o)) (fun x y=>teq (x.ilin o) (y.ilin o))
  (fun z1 p=>(p.2,p.1)) (fun z1 z2 p q=>(p.1.flatMap fun c=>q.1.map fun e=>c++e,p.2++q.2))
noncomputable def Can (E:List Int) (cs:List (List Lin)):Prop:=∃ c∈cs,Sat E c
noncomputable def Both (E:List Int) (t:Two) (P:Prop):Prop:=(P->Can E t.1)/\(¬ P->Can E t.2)
section
variable {E:List Int} {x y:Cs} {a b:Int} (hx:Fits E x a) (hy:Fits E y b)
include hx hy
theorem two_ok {g:Lin->Lin->List (List Lin)} (h:∀ p q:Lin,ev E p=a->ev E q=b->Can E (g p q)):Can E (two x y g):=by
 obtain ⟨p,hp,p1,p2⟩:=hx
 obtain ⟨q,hq,q1,q2⟩:=hy
 obtain ⟨c,hc,h⟩:=h _ _ p2 q2
 exact ⟨_,List.mem_flatMap.mpr ⟨p,hp,List.mem_flatMap.mpr ⟨q,hq,List.mem_map.mpr ⟨c,hc,rfl⟩⟩⟩,h.app (p1.app q1)⟩
end
theorem s_le {E:List Int} {p q:Lin} {a b:Int} (e1:ev E p=a) (e2:ev E q=b) (h:a<=b):0<=ev E (sub q p):=by rw [ev_sub,e1,e2];exact Int.sub_nonneg_of_le h
theorem s_lt {E:List Int} {p q:Lin} {a b:Int} (e1:ev E p=a) (e2:ev E q=b) (h:a<b):Can E (clt p q):=
 ⟨_,.head _,.con (by rw [ev_sub,ev_sub,e1,e2];exact Int.sub_nonneg_of_le (show 0+1<=b - a from Int.sub_pos_of_lt h)) .nil⟩
section
variable {E:List Int} {x y:Cs} {a b:Int} (hx:Fits E x a) (hy:Fits E y b)
include hx hy
theorem c_le (h:a<=b):Can E (two x y cle):=two_ok hx hy fun p q e1 e2=>⟨_,.head _,.con (s_le e1 e2 h) .nil⟩
theorem c_lt (h:a<b):Can E (two x y clt):=two_ok hx hy fun p q e1 e2=>s_lt e1 e2 h
theorem b_le:Both E (tle x y) (a<=b):=⟨c_le hx hy,fun h=>c_lt hy hx (Int.lt_of_not_ge h)⟩
theorem b_lt:Both E (tlt x y) (a<b):=⟨c_lt hx hy,fun h=>c_le hy hx (Int.not_lt.mp h)⟩
theorem b_eq:Both E (teq x y) (a=b):=⟨fun h=>two_ok hx hy fun p q e1 e2=>⟨_,.head _,.con (s_le e1 e2 (Int.le_of_eq h)) (.con (s_le e2 e1 (Int.le_of_eq h.symm)) .nil)⟩,
 fun h=>two_ok hx hy fun p q e1 e2=>(Int.lt_or_gt_of_ne h).elim (fun k=>(s_lt e1 e2 k).imp fun z1 z=>⟨List.mem_append_left _ z.1,z.2⟩) fun k=>(s_lt e2 e1 k).imp fun z1 z=>⟨List.mem_append_right _ z.1,z.2⟩⟩
end
theorem Both.iff {E:List Int} {t:Two} {P Q:Prop} (h:Both E t P) (e:Q ↔ P):Both E t Q:=⟨fun q=>h.1 (e.mp q),fun q=>h.2 fun p=>q (e.mpr p)⟩
theorem cs_ok (τ:List Int) (ρ:List Nat) (f:NF):Both (env τ ρ) (f.cs τ.length) (f.den τ ρ):=by
 induction f with
 | le x y=>exact (b_le (lin_ok τ ρ x) (lin_ok τ ρ y)).iff Int.ofNat_le.symm
 | lt x y=>exact (b_lt (lin_ok τ ρ x) (lin_ok τ ρ y)).iff Int.ofNat_lt.symm
 | eq x y=>exact (b_eq (lin_ok τ ρ x) (lin_ok τ ρ y)).iff Int.ofNat_inj.symm
 | ile x y=>exact b_le (ilin_ok τ ρ x) (ilin_ok τ ρ y)
 | ilt x y=>exact b_lt (ilin_ok τ ρ x) (ilin_ok τ ρ y)
 | ieq x y=>exact b_eq (ilin_ok τ ρ x) (ilin_ok τ ρ y)
 | no f h=>exact ⟨h.2,fun k=>h.1 (Classical.not_not.mp k)⟩
 | an f g hf hg=>exact ⟨fun k=>by
   obtain ⟨c,hc,h1⟩:=hf.1 k.1
   obtain ⟨e,he,h2⟩:=hg.1 k.2
   exact ⟨_,List.mem_flatMap.mpr ⟨c,hc,List.mem_map.mpr ⟨e,he,rfl⟩⟩,h1.app h2⟩,fun k=>(Classical.not_and_iff_not_or_not.mp k).elim (fun k=>(hf.2 k).imp fun z1 z=>⟨List.mem_append_left _ z.1,z.2⟩) fun k=>(hg.2 k).imp fun z1 z=>⟨List.mem_append_right _ z.1,z.2⟩⟩
noncomputable def go (o n:Nat) (fs:List NF):List Lin->Bool:=fs.rec (fun acc=>fm (o+n) acc) fun f z1 ih acc=>(f.cs o).1.all fun c=>ih (c++acc)
noncomputable abbrev imp (τ:List Int) (ρ:List Nat) (fs:List NF) (g:Prop):Prop:=fs.rec g fun f z1 ih=>f.den τ ρ->ih
noncomputable def units (o n:Nat):List Lin:=n.rec [] fun n ih=>(unit (o+n),0)::ih
theorem units_ok (τ:List Int) (ρ:List Nat) (n:Nat):Sat (env τ ρ) (units τ.length n):=by
 induction n with
 | zero=>exact .nil
 | succ n ih=>exact ih.con (Int.le_trans (Int.natCast_nonneg _) (Int.le_of_eq ((Int.add_zero _).trans ((dot_unit _ _).trans (nth_right ρ n τ))).symm))
theorem env_len (τ:List Int) (ρ:List Nat):(env τ ρ).length=τ.length+ρ.length:=List.length_append.trans (congrArg _ (List.length_map _))
theorem go_ok (τ:List Int) (ρ:List Nat) (fs:List NF):∀ acc:List Lin,go τ.length ρ.length fs acc=true->Sat (env τ ρ) acc->imp τ ρ fs False:=by
 induction fs with
 | nil=>exact fun acc h hs=>fm_sound (env τ ρ) acc (by rw [env_len];exact h) hs
 | cons f fs ih=>
  intro acc h hs hf
  obtain ⟨c,hc,h1⟩:=(cs_ok τ ρ f).1 hf
  exact ih _ (List.all_eq_true.mp h c hc) (h1.app hs)
theorem fls (o n:Nat) (fs:List NF) (h:go o n fs (units o n)=true) (τ:List Int) (ρ:List Nat) (ho:τ.length=o) (hl:ρ.length=n):imp τ ρ fs False:=by
 subst hl ho
 exact go_ok τ ρ fs _ h (units_ok τ ρ _)
theorem imp_dn {τ:List Int} {ρ:List Nat} {g:Prop} (fs:List NF):(¬ g->imp τ ρ fs False)->imp τ ρ fs g:=by
 induction fs with
 | nil=>exact Classical.byContradiction
 | cons f fs ih=>exact fun h q=>ih fun k=>h k q
theorem lin (o n:Nat) (g:NF) (fs:List NF) (h:go o n (.no g::fs) (units o n)=true) (τ:List Int) (ρ:List Nat) (ho:τ.length=o) (hl:ρ.length=n):imp τ ρ fs (g.den τ ρ):=
 imp_dn fs (fls o n (.no g::fs) h τ ρ ho hl)
theorem f01 {n0:Nat} (fs:List NF) (h:go 0 1 fs (units 0 1)=true):imp [] [n0] fs False:=fls 0 1 fs h [] [n0] rfl rfl
theorem l00 (g:NF) (fs:List NF) (h:go 0 0 (.no g::fs) (units 0 0)=true):imp [] [] fs (g.den [] []):=lin 0 0 g fs h [] [] rfl rfl
theorem l01 {n0:Nat} (g:NF) (fs:List NF) (h:go 0 1 (.no g::fs) (units 0 1)=true):imp [] [n0] fs (g.den [] [n0]):=lin 0 1 g fs h [] [n0] rfl rfl
theorem l02 {n0 n1:Nat} (g:NF) (fs:List NF) (h:go 0 2 (.no g::fs) (units 0 2)=true):imp [] [n0,n1] fs (g.den [] [n0,n1]):=lin 0 2 g fs h [] [n0,n1] rfl rfl
theorem l03 {n0 n1 n2:Nat} (g:NF) (fs:List NF) (h:go 0 3 (.no g::fs) (units 0 3)=true):imp [] [n0,n1,n2] fs (g.den [] [n0,n1,n2]):=lin 0 3 g fs h [] [n0,n1,n2] rfl rfl
theorem l04 {n0 n1 n2 n3:Nat} (g:NF) (fs:List NF) (h:go 0 4 (.no g::fs) (units 0 4)=true):imp [] [n0,n1,n2,n3] fs (g.den [] [n0,n1,n2,n3]):=lin 0 4 g fs h [] [n0,n1,n2,n3] rfl rfl
theorem l05 {n0 n1 n2 n3 n4:Nat} (g:NF) (fs:List NF) (h:go 0 5 (.no g::fs) (units 0 5)=true):imp [] [n0,n1,n2,n3,n4] fs (g.den [] [n0,n1,n2,n3,n4]):=lin 0 5 g fs h [] [n0,n1,n2,n3,n4] rfl rfl
theorem l10 {i0:Int} (g:NF) (fs:List NF) (h:go 1 0 (.no g::fs) (units 1 0)=true):imp [i0] [] fs (g.den [i0] []):=lin 1 0 g fs h [i0] [] rfl rfl
theorem l11 {i0:Int} {n0:Nat} (g:NF) (fs:List NF) (h:go 1 1 (.no g::fs) (units 1 1)=true):imp [i0] [n0] fs (g.den [i0] [n0]):=lin 1 1 g fs h [i0] [n0] rfl rfl
theorem l13 {i0:Int} {n0 n1 n2:Nat} (g:NF) (fs:List NF) (h:go 1 3 (.no g::fs) (units 1 3)=true):imp [i0] [n0,n1,n2] fs (g.den [i0] [n0,n1,n2]):=lin 1 3 g fs h [i0] [n0,n1,n2] rfl rfl
theorem l20 {i0 i1:Int} (g:NF) (fs:List NF) (h:go 2 0 (.no g::fs) (units 2 0)=true):imp [i0,i1] [] fs (g.den [i0,i1] []):=lin 2 0 g fs h [i0,i1] [] rfl rfl
theorem l21 {i0 i1:Int} {n0:Nat} (g:NF) (fs:List NF) (h:go 2 1 (.no g::fs) (units 2 1)=true):imp [i0,i1] [n0] fs (g.den [i0,i1] [n0]):=lin 2 1 g fs h [i0,i1] [n0] rfl rfl
theorem l22 {i0 i1:Int} {n0 n1:Nat} (g:NF) (fs:List NF) (h:go 2 2 (.no g::fs) (units 2 2)=true):imp [i0,i1] [n0,n1] fs (g.den [i0,i1] [n0,n1]):=lin 2 2 g fs h [i0,i1] [n0,n1] rfl rfl
theorem l30 {i0 i1 i2:Int} (g:NF) (fs:List NF) (h:go 3 0 (.no g::fs) (units 3 0)=true):imp [i0,i1,i2] [] fs (g.den [i0,i1,i2] []):=lin 3 0 g fs h [i0,i1,i2] [] rfl rfl
theorem l31 {i0 i1 i2:Int} {n0:Nat} (g:NF) (fs:List NF) (h:go 3 1 (.no g::fs) (units 3 1)=true):imp [i0,i1,i2] [n0] fs (g.den [i0,i1,i2] [n0]):=lin 3 1 g fs h [i0,i1,i2] [n0] rfl rfl
theorem l40 {i0 i1 i2 i3:Int} (g:NF) (fs:List NF) (h:go 4 0 (.no g::fs) (units 4 0)=true):imp [i0,i1,i2,i3] [] fs (g.den [i0,i1,i2,i3] []):=lin 4 0 g fs h [i0,i1,i2,i3] [] rfl rfl
end Mine.Ar
end
section
set_option linter.unusedSimpArgs false
namespace Mine
set_option genSizeOf false
set_option genInjectivity false
open PySem
inductive V where
 | none
 | bool (b:Bool)
 | int (i:Int)
 | str (s:Str)
 | tup (vs:List V)
 | lst (vs:List V)
 | set (led:Bool) (vs:List V)
 | rng (lo hi:Int)
 | ref (a:Addr)
 | raw (v:Value)
 deriving Inhabited
inductive O where
 | list (vs:List V)
 | dictI (kvs:List (Int × V))
 | dictS (kvs:List (Str × V))
 | inst (C d:Addr) (fs:List (Str × V))
 | exc (C:Addr)
 deriving Inhabited
noncomputable abbrev Led:=List (Addr × O)
noncomputable abbrev AEnv:=List (Str × V)
noncomputable def O.addrs (a:Addr):O->List Addr
 | .inst _ d _=>[a,d]
 | _=>[a]
noncomputable def owned:Led->List Addr
 | []=>[]
 | (a,o)::r=>o.addrs a++owned r
noncomputable def PlainSeq (h:Heap) (T:String) (a:Addr) (cs:List Value):Prop:=∃ n,h.get? a=some { cls:=.type T,data:=.seq cs.toArray n }
mutual
noncomputable def VRel (h:Heap) (own:List Addr):V->Value->Prop
 | .none,c=>c=.none
 | .bool b,c=>c=.bool b
 | .int i,c=>∃ t,c=.int i t
 | .str x,c=>∃ t,c=.str x t
 | .tup vs,c=>∃ a cs,c=.ref a/\a∉own/\PlainSeq h "tuple" a cs/\cs.length<=sizeLine/\VRels h own vs cs
 | .lst vs,c=>∃ a cs,c=.ref a/\a∉own/\PlainSeq h "list" a cs/\cs.length<=sizeLine/\VRels h own vs cs
 | .set led vs,c=>∃ a es ep t,c=.ref a/\a∉own/\h.get? a=some { cls:=.type "set",data:=.set es ep t }/\(t.fits es.size=true/\es.size<=sizeLine/\t.led=led/\(t.plain=false\/t.place.toList.Pairwise (·<·)))/\VRels h own vs (es.toList.map (·.2))
 | .rng lo hi,c=>∃ a t u v,c=.ref a/\a∉own/\h.get? a=some { cls:=.type "range",data:=.fields #[.int lo t,.int hi u,.int 1 v] }
 | .ref a,c=>c=.ref a
 | .raw v,c=>c=v
noncomputable def VRels (h:Heap) (own:List Addr):List V->List Value->Prop
 | [],cs=>cs=[]
 | v::vs,cs=>∃ c cs',cs=c::cs'/\VRel h own v c/\VRels h own vs cs'
end
noncomputable def Obj.isDict (o:Obj):Prop:=∃ es ep,o.data=.dict es ep
noncomputable def Kept (own:List Addr) (h h':Heap):Prop:=
 ∀ b o,h.get? b=some o->b∉own->∃ sl,h'.get? b=some { o with slots:=sl }/\(¬ Obj.isDict o->sl=o.slots)
theorem Kept.refl {own:List Addr} {h:Heap}:Kept own h h:=fun z1 o e z2=>⟨o.slots,e,fun z1=>rfl⟩
theorem Kept.exact {own:List Addr} {h h':Heap} (k:Kept own h h') {b:Addr} {o:Obj} (e:h.get? b=some o) (hb:b∉own) (hd:¬ Obj.isDict o):h'.get? b=some o:=by
 obtain ⟨sl,e',hs⟩:=k b o e hb
 rw [e',hs hd]
theorem Kept.of {own:List Addr} {h h':Heap} (k:∀ b o,h.get? b=some o->b∉own->h'.get? b=some o):Kept own h h':=
 fun b o e hb=>⟨o.slots,k b o e hb,fun z1=>rfl⟩
theorem PlainSeq.notDict {T:String} {cs:List Value} {n:Nat}:¬ Obj.isDict ({ cls:=.type T,data:=.seq cs.toArray n }:Obj):=by
 rintro ⟨es,ep,e⟩;cases e
noncomputable def Grow (own own':List Addr) (h:Heap):Prop:=∀ b∈own',b∈own\/h.get? b=none
noncomputable def Frozen (o:Obj):Prop:=(∃ xs n,o.data=.seq xs n)\/((∃ xs,o.data=.fields xs)/\o.cls=.type "range")\/∃ es ep t,o.data=.set es ep t
theorem Frozen.notDict {o:Obj} (f:Frozen o):¬ Obj.isDict o:=by
 rintro ⟨es,ep,e⟩
 rcases f with ⟨xs,n,q⟩ | ⟨⟨xs,q⟩,_⟩ | ⟨_,_,_,q⟩ <;> rw [e] at q <;> cases q
noncomputable def Carries (own own':List Addr) (h h':Heap):Prop:=∀ a o,h.get? a=some o->a∉own->Frozen o->h'.get? a=some o/\a∉own'
mutual
theorem VRel.carry {own own':List Addr} {h h':Heap} (k:Carries own own' h h'):∀ (v:V) (c:Value),VRel h own v c->VRel h' own' v c
 | .none,_,x=>x
 | .bool _,_,x=>x
 | .int _,_,x=>x
 | .str _,_,x=>x
 | .tup vs,c,x=>by
  simp only [VRel] at x ⊢
  obtain ⟨a,cs,e,ha,⟨n,hp⟩,hl,r⟩:=x
  obtain ⟨hp',ha'⟩:=k a _ hp ha (.inl ⟨_,_,rfl⟩)
  exact ⟨a,cs,e,ha',⟨n,hp'⟩,hl,VRels.carry k vs cs r⟩
 | .lst vs,c,x=>by
  simp only [VRel] at x ⊢
  obtain ⟨a,cs,e,ha,⟨n,hp⟩,hl,r⟩:=x
  obtain ⟨hp',ha'⟩:=k a _ hp ha (.inl ⟨_,_,rfl⟩)
  exact ⟨a,cs,e,ha',⟨n,hp'⟩,hl,VRels.carry k vs cs r⟩
 | .set _ vs,c,x=>by
  simp only [VRel] at x ⊢
  obtain ⟨a,es,ep,t,e,ha,hp,q,r⟩:=x
  obtain ⟨hp',ha'⟩:=k a _ hp ha (.inr (.inr ⟨_,_,_,rfl⟩))
  exact ⟨a,es,ep,t,e,ha',hp',q,VRels.carry k vs _ r⟩
 | .rng _ _,_,x=>by
  simp only [VRel] at x ⊢
  obtain ⟨a,t,u,v,e,ha,hp⟩:=x
  obtain ⟨hp',ha'⟩:=k a _ hp ha (.inr (.inl ⟨⟨_,rfl⟩,rfl⟩))
  exact ⟨a,t,u,v,e,ha',hp'⟩
 | .ref _,_,x=>x
 | .raw _,_,x=>x
theorem VRels.carry {own own':List Addr} {h h':Heap} (k:Carries own own' h h'):∀ (vs:List V) (cs:List Value),VRels h own vs cs->VRels h' own' vs cs
 | [],_,x=>x
 | v::vs,cs,x=>by
  simp only [VRels] at x ⊢
  obtain ⟨c,cs',e,r,rs⟩:=x
  exact ⟨c,cs',e,VRel.carry k v c r,VRels.carry k vs cs' rs⟩
end
theorem Kept.carries {own own':List Addr} {h h':Heap} (k:Kept own h h') (g:Grow own own' h):Carries own own' h h':=fun a o e ha f=>⟨k.exact e ha f.notDict,fun hm=>by
 rcases g a hm with q | q
 ·exact ha q
 ·rw [e] at q;cases q⟩
theorem VRel.mono {own own':List Addr} {h h':Heap} (k:Kept own h h') (g:Grow own own' h) (v:V) (c:Value) (r:VRel h own v c):VRel h' own' v c:=r.carry (k.carries g)
theorem VRels.mono {own own':List Addr} {h h':Heap} (k:Kept own h h') (g:Grow own own' h) (vs:List V) (cs:List Value) (r:VRels h own vs cs):VRels h' own' vs cs:=r.carry (k.carries g)
structure Base where
 prog:Program
 w:World
 h0:Heap
 mg:Str->Option Value
 mb:Str->Option Value
 hd:Bool
inductive DictQ {p:Program} {w:World} {K:Type} [DecidableEq K] (knd:KeyKind p w K) (h:Heap) (own:List Addr) (a:Addr) (kvs:List (K × V)):Prop
 | mk (cs:List (K × Value)):(a == sysModules)=false->h.DictOf knd a cs->cs.map (·.1)=kvs.map (·.1)->VRels h own (kvs.map (·.2)) (cs.map (·.2))->DictQ knd h own a kvs
noncomputable abbrev DictR (k:Base) {K:Type} [DecidableEq K] (knd:KeyKind k.prog k.w K) (h:Heap) (own:List Addr) (a:Addr) (kvs:List (K × V)):Prop:=DictQ knd h own a kvs
theorem DictR.carry {k:Base} {K:Type} [DecidableEq K] {knd:KeyKind k.prog k.w K} {h h':Heap} {own own':List Addr} {a:Addr} {kvs:List (K × V)} (r:DictR k knd h own a kvs) (hk:∀ o,h.get? a=some o->h'.get? a=some o) (hc:Carries own own' h h'):DictR k knd h' own' a kvs:=by
 obtain ⟨cs,hs,⟨o,es,ep,ho,q⟩,e,rs⟩:=r
 exact ⟨cs,hs,⟨o,es,ep,hk o ho,q⟩,e,rs.carry hc⟩
theorem DictR.there {k:Base} {K:Type} [DecidableEq K] {knd:KeyKind k.prog k.w K} {h:Heap} {own:List Addr} {a:Addr} {kvs:List (K × V)} (r:DictR k knd h own a kvs):∃ o,h.get? a=some o:=by
 obtain ⟨_,_,⟨o,_,_,ho,_⟩,_⟩:=r
 exact ⟨o,ho⟩
inductive InstR (h:Heap) (own:List Addr) (a C d:Addr) (fs:List (Str × V)):Prop
 | mk (o:Obj) (mA:Str->Option Value):h.get? a=some o->o.cls=.ref C->o.data=.plain->o.dict=some d->d≠a->h.Ns1 d mA->(∀ x v,fs.lookup x=some v->∃ cv,mA x=some cv/\VRel h own v cv)->(∀ x,fs.lookup x=none->mA x=none)->InstR h own a C d fs
inductive ListR (h:Heap) (own:List Addr) (a:Addr) (vs:List V):Prop
 | mk (cs:List Value):PlainSeq h "list" a cs->cs.length<=sizeLine->VRels h own vs cs->ListR h own a vs
inductive ExcR (h:Heap) (a C:Addr):Prop
 | mk (o:Obj) (vs:Array Value):h.get? a=some o->o.cls=.ref C->o.data=.fields vs->ExcR h a C
theorem InstR.carry {h h':Heap} {own own':List Addr} {a C d:Addr} {fs:List (Str × V)} (r:InstR h own a C d fs) (hk:∀ b,b=a\/b=d->∀ o,h.get? b=some o->h'.get? b=some o) (hc:Carries own own' h h'):InstR h' own' a C d fs:=by
 obtain ⟨o,mA,ho,h1,h2,h3,h4,⟨od,es,ep,hd,q⟩,h6,h7⟩:=r
 refine ⟨o,mA,hk a (.inl rfl) o ho,h1,h2,h3,h4,⟨od,es,ep,hk d (.inr rfl) od hd,q⟩,fun x v e=>?_,h7⟩
 obtain ⟨cv,e1,e2⟩:=h6 x v e
 exact ⟨cv,e1,e2.carry hc⟩
noncomputable def ORel (k:Base) (h:Heap) (own:List Addr) (a:Addr):O->Prop
 | .list vs=>ListR h own a vs
 | .dictI kvs=>DictR k (intKind k.prog k.w) h own a kvs
 | .dictS kvs=>DictR k (strKind k.prog k.w) h own a kvs
 | .inst C d fs=>InstR h own a C d fs
 | .exc C=>ExcR h a C
structure Base.OK (k:Base):Prop where
 g:k.h0.Ns mainGlobals k.mg
 b:k.h0.Ns builtinsNs k.mb
 nolimit:k.h0.NoLimit
structure Cx where
 k:Base
 F:List Addr:=[]
 H:List Addr:=[]
noncomputable abbrev ownS (c:Cx) (σ:Led):List Addr:=c.H++owned σ
inductive FramesQ (h0:Heap) (F:List Addr) (fr:Option (List Env)) (σ:Led) (h:Heap):Prop
 | mk (l:List Env):fr=some l->h.FunFrames h0 l->(∀ L∈l.filterMap (·.frame),L∉owned σ/\L∉F/\∀ o,h.get? L=some o->Obj.isDict o)->FramesQ h0 F fr σ h
structure St (c:Cx) (A:Around) (σ:Led) (h:Heap):Prop where
 keep:∀ b o,c.k.h0.get? b=some o->h.get? b=some o
 nodup:(owned σ).Nodup
 fresh:∀ a∈owned σ,c.k.h0.get? a=none
 objs:∀ a o,(a,o)∈σ->ORel c.k h (ownS c σ) a o
 frames:FramesQ c.k.h0 c.F A.frames σ h
 prot:∀ b∈c.F,∃ o,h.get? b=some o
 hid:∀ b∈c.H,b∉owned σ/\∃ o,h.get? b=some o
structure Step (F own own':List Addr) (s s':Shared):Prop where
 kept:Kept own s.heap s'.heap
 there:∀ b o,s.heap.get? b=some o->∃ o',s'.heap.get? b=some o'
 prot:∀ b∈F,∀ o,s.heap.get? b=some o->s'.heap.get? b=some o
 grow:Grow own own' s.heap
 os:s'.os=s.os
 gens:s'.gens=s.gens
theorem Step.refl {F own:List Addr} {s:Shared}:Step F own own s s:=⟨.refl,fun z1 o e=>⟨o,e⟩,fun z1 z2 z3 e=>e,fun z1 h=>.inl h,rfl,rfl⟩
theorem Step.toks {F own:List Addr} {s:Shared} {t:Nat}:Step F own own s { s with toks:=t }:=⟨.refl,fun z1 o e=>⟨o,e⟩,fun z1 z2 z3 e=>e,fun z1 h=>.inl h,rfl,rfl⟩
theorem Obj.isDict_slots {o:Obj} {sl:Array (Option Value)}:Obj.isDict { o with slots:=sl } ↔ Obj.isDict o:=Iff.rfl
theorem Kept.trans {own own':List Addr} {h h' h'':Heap} (x:Kept own h h') (g:Grow own own' h) (y:Kept own' h' h''):Kept own h h'':=by
 intro b o e hb
 obtain ⟨sl,e1,s1⟩:=x b o e hb
 have hb':b∉own':=fun hm=>by
  rcases g b hm with q | q
  ·exact hb q
  ·rw [e] at q;cases q
 obtain ⟨sl2,e2,s2⟩:=y b _ e1 hb'
 exact ⟨sl2,e2,fun hd=>(s2 hd).trans (s1 hd)⟩
theorem Grow.trans {own own' own'':List Addr} {h h':Heap} (k:Kept own h h') (x:Grow own own' h) (y:Grow own' own'' h'):Grow own own'' h:=by
 intro b hb
 rcases y b hb with q | q
 ·exact x b q
 ·by_cases ho:b∈own
  ·exact .inl ho
  ·cases e:h.get? b with
   | none=>exact .inr rfl
   | some o=>obtain ⟨sl,e1,_⟩:=k b o e ho;rw [e1] at q;cases q
theorem Step.trans {F own own' own'':List Addr} {s s' s'':Shared} (x:Step F own own' s s') (y:Step F own' own'' s' s''):Step F own own'' s s'':=
 ⟨x.kept.trans x.grow y.kept,fun b o e=>(x.there b o e).elim fun o' e'=>y.there b o' e',fun b hb o e=>y.prot b hb o (x.prot b hb o e),x.grow.trans x.kept y.grow,y.os.trans x.os,y.gens.trans x.gens⟩
theorem Kept.wider {own W:List Addr} {h h':Heap} (x:Kept own h h'):Kept (W++own) h h':=fun b o e hb=>x b o e fun hm=>hb (List.mem_append_right _ hm)
theorem Grow.wider {own own' W:List Addr} {h:Heap} (x:Grow own own' h):Grow (W++own) (W++own') h:=fun b hb=>by
 rcases List.mem_append.mp hb with q | q
 ·exact .inl (List.mem_append_left _ q)
 ·exact (x b q).imp (List.mem_append_right _) id
theorem Step.v {F own own' H:List Addr} {s s':Shared} (x:Step F own own' s s') {v:V} {c:Value} (r:VRel s.heap (H++own) v c):VRel s'.heap (H++own') v c:=VRel.mono x.kept.wider x.grow.wider v c r
theorem Step.vs {F own own' H:List Addr} {s s':Shared} (x:Step F own own' s s') {vs:List V} {cs:List Value} (r:VRels s.heap (H++own) vs cs):VRels s'.heap (H++own') vs cs:=VRels.mono x.kept.wider x.grow.wider vs cs r
structure EnvOk (env:Env):Prop where
 kind:env.scope.kind=.function
 nodebug:env.kindOf "__debug__"=none
 noclassdict:env.kindOf "__classdict__"≠some .free
 globals:env.globals=mainGlobals
 builtins:env.builtins=builtinsNs
 cell:∀ x,env.kindOf x=some .cell\/env.kindOf x=some .free->∃ a,env.cells.lookup x=some a
structure EnvRel (c:Cx) (own:List Addr) (env:Env) (m:AEnv) (h:Heap):Prop where
 ns:∃ mc,h.Ns env.locals mc/\∀ x v,m.lookup x=some v->env.kindOf x=some .local->∃ cv,mc x=some cv/\VRel h own v cv
 cell:∀ x v,m.lookup x=some v->(env.kindOf x=some .cell\/env.kindOf x=some .free)->∃ a cv,env.cells.lookup x=some a/\h.IsCell a (some cv)/\VRel h own v cv
 lnot:env.locals∉own/\c.k.h0.get? env.locals=none/\env.locals∉c.F
 cnot:∀ x a,(x,a)∈env.cells->a∉own/\a≠env.locals/\c.k.h0.get? a=none/\a∉c.F/\∃ v,h.IsCell a v
 apart:env.cells.Pairwise (fun x y=>x.2≠y.2)
theorem Kept.ns {own:List Addr} {h h':Heap} {a:Addr} {m:Str->Option Value} (k:Kept own h h') (ha:a∉own) (x:h.Ns a m):h'.Ns a m:=by
 obtain ⟨o,es,ep,ho,hd,hk,hm⟩:=x
 obtain ⟨sl,e,_⟩:=k a o ho ha
 exact ⟨_,es,ep,e,hd,hk,hm⟩
theorem Kept.isCell {own:List Addr} {h h':Heap} {a:Addr} {v:Option Value} (k:Kept own h h') (ha:a∉own) (x:h.IsCell a v):h'.IsCell a v:=by
 obtain ⟨o,ho,hd⟩:=x
 obtain ⟨sl,e,_⟩:=k a o ho ha
 exact ⟨_,e,hd⟩
theorem Grow.notin {own own':List Addr} {h:Heap} {a:Addr} {o:Obj} (g:Grow own own' h) (ha:a∉own) (e:h.get? a=some o):a∉own':=fun hm=>by
 rcases g a hm with q | q
 ·exact ha q
 ·rw [e] at q;cases q
theorem EnvRel.mono {c:Cx} {own own':List Addr} {env:Env} {m:AEnv} {h h':Heap} (k:Kept own h h') (g:Grow own own' h) (x:EnvRel c own env m h):EnvRel c own' env m h':=by
 obtain ⟨mc,hn,hm⟩:=x.ns
 have hL:env.locals∉own':=by
  obtain ⟨o,_,_,e,_⟩:=id hn
  exact g.notin x.lnot.1 e
 refine ⟨⟨mc,k.ns x.lnot.1 hn,fun y v hy hk=>?_⟩,fun y v hy hk=>?_,⟨hL,x.lnot.2⟩,fun y a ha=>?_,x.apart⟩
 ·obtain ⟨cv,e,r⟩:=hm y v hy hk
  exact ⟨cv,e,r.mono k g v cv⟩
 ·obtain ⟨a,cv,e,hc,r⟩:=x.cell y v hy hk
  exact ⟨a,cv,e,k.isCell (x.cnot y a (mem_of_lookup e)).1 hc,r.mono k g v cv⟩
 ·obtain ⟨h1,h2,h3,hf,v,h4⟩:=x.cnot y a ha
  obtain ⟨o,e,_⟩:=id h4
  exact ⟨g.notin h1 e,h2,h3,hf,v,k.isCell h1 h4⟩
structure AOk (k:Base) (d:Nat) (A:Around):Prop where
 handled:k.hd=true->A.handled=none
 depth:A.depth+d<900
 units:A.units+20 * d<9000
 le:d<=100
inductive ExcO (e:Addr) (cls:Value) (base h:Heap):Prop
 | mk (oe:Obj) (vs:Array Value):h.get? e=some oe->oe.cls=cls->oe.data=.fields vs->
  (vs[1]?=some .none\/∃ T oT ts,vs[1]?=some (.ref T)/\base.get? T=none/\T≠e/\h.get? T=some oT/\oT.cls=.type "traceback"/\oT.data=.fields ts/\ts[3]?=some .none)->ExcO e cls base h
structure ExcAt (e:Addr) (cls:Value) (base h:Heap):Prop where
 new:base.get? e=none
 own:∃ C,cls=.ref C
 obj:ExcO e cls base h
theorem ExcAt.sooner {e:Addr} {cls:Value} {base base' h:Heap} (k:∀ b o,base.get? b=some o->∃ o',base'.get? b=some o') (x:ExcAt e cls base' h):ExcAt e cls base h:=by
 have no:∀ b,base'.get? b=none->base.get? b=none:=fun b q=>by
  cases r:base.get? b with
  | none=>rfl
  | some o=>obtain ⟨o',e'⟩:=k b o r;rw [q] at e';cases e'
 obtain ⟨h1,hC,oe,vs,h2,h3,h4,h5⟩:=x
 refine ⟨no e h1,hC,oe,vs,h2,h3,h4,h5.imp id fun q=>?_⟩
 obtain ⟨T,oT,ts,q1,q2,q3⟩:=q
 exact ⟨T,oT,ts,q1,no T q2,q3⟩
noncomputable abbrev XP:=Value->Led->Prop
noncomputable def EOk (c:Cx) (A:Around) (X:XP) (own:List Addr) (s:Shared) (E:Value->Shared->Prop):Prop:=
 ∀ e cls σ' s',X cls σ'->Step c.F own (owned σ') s s'->St c A σ' s'.heap->ExcAt e cls s.heap s'.heap->E (.ref e) s'
theorem EOk.step {c:Cx} {A:Around} {X:XP} {own own':List Addr} {s s':Shared} {E:Value->Shared->Prop} (x:EOk c A X own s E) (st:Step c.F own own' s s'):EOk c A X own' s' E:=
 fun e cls σ' s'' hx st' h he=>x e cls σ' s'' hx (st.trans st') h (he.sooner st.there)
inductive Post (c:Cx) (A:Around) (σ:Led) (s:Shared) (P:V->Led->Prop) (cv:Value) (s':Shared):Prop
 | mk (v:V) (σ':Led):P v σ'->Step c.F (owned σ) (owned σ') s s'->St c A σ' s'.heap->VRel s'.heap (ownS c σ') v cv->Post c A σ s P cv s'
theorem Post.step {c:Cx} {A:Around} {σ σ₁:Led} {s s₁ s':Shared} {P:V->Led->Prop} {cv:Value} (st:Step c.F (owned σ) (owned σ₁) s s₁) (x:Post c A σ₁ s₁ P cv s'):Post c A σ s P cv s':=by
 obtain ⟨v,σ',hp,st',h,r⟩:=x
 exact ⟨v,σ',hp,st.trans st',h,r⟩
theorem Post.imp {c:Cx} {A:Around} {σ:Led} {s s':Shared} {P P':V->Led->Prop} {cv:Value} (k:∀ v σ',P v σ'->P' v σ') (x:Post c A σ s P cv s'):Post c A σ s P' cv s':=by
 obtain ⟨v,σ',hp,t,u,w⟩:=x
 exact ⟨v,σ',k v σ' hp,t,u,w⟩
inductive PostK (c:Cx) (A:Around) (σ:Led) (s:Shared) (K:Led->Prop) (s':Shared):Prop
 | mk (σ':Led):K σ'->Step c.F (owned σ) (owned σ') s s'->St c A σ' s'.heap->PostK c A σ s K s'
theorem PostK.imp {c:Cx} {A:Around} {σ:Led} {s s':Shared} {K K':Led->Prop} (k:∀ σ',K σ'->K' σ') (x:PostK c A σ s K s'):PostK c A σ s K' s':=by
 obtain ⟨σ',hp,t,u⟩:=x
 exact ⟨σ',k σ' hp,t,u⟩
noncomputable abbrev Cx.M (c:Cx):Model:=model c.k.prog c.k.w
noncomputable def isVar (sc:Scope) (x:Str):Bool:=match sc.names.lookup x with
 | some .local | some .cell | some .free=>true
 | _=>false
theorem isVar_kind {sc:Scope} {x:Str} (h:isVar sc x=true):sc.names.lookup x=some .local\/sc.names.lookup x=some .cell\/sc.names.lookup x=some .free:=by
 unfold isVar at h
 split at h <;> simp_all
structure RE (c:Cx) (d:Nat) (sc:Scope) (m:AEnv) (σ:Led) (X:XP) (env:Env) (A:Around) (s:Shared) (E:Value->Shared->Prop):Prop where
 sc:env.scope=sc
 ok:EnvOk env
 a:AOk c.k d A
 st:St c A σ s.heap
 er:EnvRel c (ownS c σ) env m s.heap
 e:EOk c A X (owned σ) s E
theorem RE.step {c:Cx} {d:Nat} {sc:Scope} {m:AEnv} {σ σ₁:Led} {X:XP} {env:Env} {A:Around} {s s₁:Shared} {E:Value->Shared->Prop} (x:RE c d sc m σ X env A s E)
  (t:Step c.F (owned σ) (owned σ₁) s s₁) (h:St c A σ₁ s₁.heap):RE c d sc m σ₁ X env A s₁ E:=⟨x.sc,x.ok,x.a,h,x.er.mono t.kept.wider t.grow.wider,x.e.step t⟩
noncomputable def WE (c:Cx) (d:Nat) (sc:Scope) (e:Expr) (m:AEnv) (σ:Led) (P:V->Led->Prop) (X:XP):Prop:=
 ∀ (env:Env) (A:Around) (s:Shared) (E:Value->Shared->Prop),RE c d sc m σ X env A s E->wpAny c.M A (eval e env) (Post c A σ s P) E s
inductive PostL (c:Cx) (A:Around) (σ:Led) (s:Shared) (P:List V->Led->Prop) (cvs:List Value) (s':Shared):Prop
 | mk (vs:List V) (σ':Led):P vs σ'->Step c.F (owned σ) (owned σ') s s'->St c A σ' s'.heap->VRels s'.heap (ownS c σ') vs cvs->PostL c A σ s P cvs s'
theorem PostL.imp {c:Cx} {A:Around} {σ:Led} {s s':Shared} {P P':List V->Led->Prop} {cv:List Value} (k:∀ v σ',P v σ'->P' v σ') (x:PostL c A σ s P cv s'):PostL c A σ s P' cv s':=by
 obtain ⟨v,σ',hp,t,u,w⟩:=x
 exact ⟨v,σ',k v σ' hp,t,u,w⟩
noncomputable def WEs (c:Cx) (d:Nat) (sc:Scope) (es:List Expr) (m:AEnv) (σ:Led) (P:List V->Led->Prop) (X:XP):Prop:=
 ∀ (env:Env) (A:Around) (s:Shared) (E:Value->Shared->Prop) (pos:Pos),RE c d sc m σ X env A s E->
  (starEach es env).any (·.1)=false/\wpAny c.M A (spliced (backTo pos (starEach es env))) (PostL c A σ s (fun vs σ'=>vs.length=es.length/\P vs σ')) E s
inductive PostB (c:Cx) (A:Around) (σ:Led) (s:Shared) (P:Bool->Led->Prop) (b:Bool) (s':Shared):Prop
 | mk (σ':Led):P b σ'->Step c.F (owned σ) (owned σ') s s'->St c A σ' s'.heap->PostB c A σ s P b s'
theorem PostB.step {c:Cx} {A:Around} {σ σ₁:Led} {s s₁ s':Shared} {P:Bool->Led->Prop} {b:Bool} (st:Step c.F (owned σ) (owned σ₁) s s₁) (x:PostB c A σ₁ s₁ P b s'):PostB c A σ s P b s':=by
 obtain ⟨σ',hp,st',h⟩:=x
 exact ⟨σ',hp,st.trans st',h⟩
theorem PostB.imp {c:Cx} {A:Around} {σ:Led} {s s':Shared} {P P':Bool->Led->Prop} {b b':Bool} (k:∀ σ',P b σ'->P' b' σ') (x:PostB c A σ s P b s'):PostB c A σ s P' b' s':=by
 obtain ⟨σ',hp,t,u⟩:=x
 exact ⟨σ',k σ' hp,t,u⟩
noncomputable def WT (c:Cx) (d:Nat) (sc:Scope) (e:Expr) (m:AEnv) (σ:Led) (P:Bool->Led->Prop) (X:XP):Prop:=
 ∀ (env:Env) (A:Around) (s:Shared) (E:Value->Shared->Prop),RE c d sc m σ X env A s E->wpAny c.M A (isTrue e env (eval e env)) (PostB c A σ s P) E s
noncomputable def WTs (c:Cx) (d:Nat) (sc:Scope) (op:BoolOp) (es:List Expr) (m:AEnv) (σ:Led) (P:Bool->Led->Prop) (X:XP):Prop:=
 ∀ (env:Env) (A:Around) (s:Shared) (E:Value->Shared->Prop),RE c d sc m σ X env A s E->wpAny c.M A (allTrue op es env) (PostB c A σ s P) E s
noncomputable def WEb (c:Cx) (d:Nat) (sc:Scope) (op:BoolOp) (es:List Expr) (m:AEnv) (σ:Led) (P:V->Led->Prop) (X:XP):Prop:=
 ∀ (env:Env) (A:Around) (s:Shared) (E:Value->Shared->Prop) (pos:Pos),RE c d sc m σ X env A s E->wpAny c.M A (boolOp pos op (evalEach es env)) (Post c A σ s P) E s
noncomputable def Op1 (c:Cx) (d:Nat) (t:Value->Sem Value) (a:V) (σ:Led) (P:V->Led->Prop):Prop:=
 ∀ (A:Around) (s:Shared) (E:Value->Shared->Prop) (ca:Value),AOk c.k d A->St c A σ s.heap->VRel s.heap (ownS c σ) a ca->wpAny c.M A (t ca) (Post c A σ s P) E s
noncomputable def Op2 (c:Cx) (d:Nat) (t:Value->Value->Sem Value) (a b:V) (σ:Led) (P:V->Led->Prop):Prop:=
 ∀ (A:Around) (s:Shared) (E:Value->Shared->Prop) (ca cb:Value),AOk c.k d A->St c A σ s.heap->VRel s.heap (ownS c σ) a ca->VRel s.heap (ownS c σ) b cb->wpAny c.M A (t ca cb) (Post c A σ s P) E s
noncomputable def CallS (c:Cx) (d:Nat) (f:Value) (vs:List V) (σ:Led) (P:V->Led->Prop) (X:XP):Prop:=
 ∀ (A:Around) (s:Shared) (E:Value->Shared->Prop) (cs:List Value),AOk c.k d A->St c A σ s.heap->VRels s.heap (ownS c σ) vs cs->EOk c A X (owned σ) s E->
  wpAny c.M A (call f cs) (Post c A σ s P) E s
inductive Fl where
 | next | brk | cont
 | ret (v:V)
noncomputable def FlRel (h:Heap) (own:List Addr):Fl->Flow->Prop
 | .next,f=>f=.next
 | .brk,f=>f=.brk
 | .cont,f=>f=.cont
 | .ret v,f=>∃ cv,f=.ret cv/\VRel h own v cv
noncomputable def places (env:Env):List Addr:=env.locals::env.cells.map (·.2)
inductive PostS (c:Cx) (A:Around) (env:Env) (σ:Led) (s:Shared) (K:Fl->AEnv->Led->Prop) (f:Flow) (s':Shared):Prop
 | mk (fl:Fl) (m':AEnv) (σ':Led):K fl m' σ'->Step c.F (places env++owned σ) (places env++owned σ') s s'->St c A σ' s'.heap->EnvRel c (ownS c σ') env m' s'.heap->FlRel s'.heap (ownS c σ') fl f->PostS c A env σ s K f s'
theorem PostS.step {c:Cx} {A:Around} {env:Env} {σ σ₁:Led} {s s₁ s':Shared} {K:Fl->AEnv->Led->Prop} {f:Flow} (st:Step c.F (places env++owned σ) (places env++owned σ₁) s s₁) (x:PostS c A env σ₁ s₁ K f s') :
  PostS c A env σ s K f s':=by
 obtain ⟨v,m',σ',hp,st',h,r,q⟩:=x
 exact ⟨v,m',σ',hp,st.trans st',h,r,q⟩
theorem PostS.imp {c:Cx} {A:Around} {env:Env} {σ:Led} {s s':Shared} {K K':Fl->AEnv->Led->Prop} {f:Flow} (k:∀ f m' σ',K f m' σ'->K' f m' σ') (x:PostS c A env σ s K f s'):PostS c A env σ s K' f s':=by
 obtain ⟨v,m',σ',hp,t,h,r,q⟩:=x
 exact ⟨v,m',σ',k v m' σ' hp,t,h,r,q⟩
noncomputable def EOkS (c:Cx) (A:Around) (X:XP) (env:Env) (σ:Led) (s:Shared) (E:Value->Shared->Prop):Prop:=
 ∀ e cls σ' s',X cls σ'->Step c.F (places env++owned σ) (places env++owned σ') s s'->St c A σ' s'.heap->EnvRel c (ownS c σ') env [] s'.heap->ExcAt e cls s.heap s'.heap->E (.ref e) s'
theorem EOkS.step {c:Cx} {A:Around} {X:XP} {env:Env} {σ σ₁:Led} {s s':Shared} {E:Value->Shared->Prop} (x:EOkS c A X env σ s E) (st:Step c.F (places env++owned σ) (places env++owned σ₁) s s'):EOkS c A X env σ₁ s' E:=
 fun e cls σ' s'' hx st' h er he=>x e cls σ' s'' hx (st.trans st') h er (he.sooner st.there)
structure RS (c:Cx) (d:Nat) (sc:Scope) (m:AEnv) (σ:Led) (X:XP) (env:Env) (A:Around) (s:Shared) (E:Value->Shared->Prop):Prop where
 sc:env.scope=sc
 ok:EnvOk env
 fr:∃ outer,A.frames=some (env::outer)
 a:AOk c.k d A
 st:St c A σ s.heap
 er:EnvRel c (ownS c σ) env m s.heap
 e:EOkS c A X env σ s E
theorem Step.wider {F own own' W:List Addr} {s s':Shared} (x:Step F own own' s s'):Step F (W++own) (W++own') s s':=⟨x.kept.wider,x.there,x.prot,x.grow.wider,x.os,x.gens⟩
theorem EnvRel.nil {c:Cx} {own:List Addr} {env:Env} {m:AEnv} {h:Heap} (x:EnvRel c own env m h):EnvRel c own env [] h:=
 ⟨x.ns.imp fun mc q=>⟨q.1,fun z1 z2 q=>by cases q⟩,(fun z1 z2 q=>by cases q),x.lnot,x.cnot,x.apart⟩
theorem RS.re {c:Cx} {d:Nat} {sc:Scope} {m:AEnv} {σ:Led} {X:XP} {env:Env} {A:Around} {s:Shared} {E:Value->Shared->Prop} (x:RS c d sc m σ X env A s E):RE c d sc m σ X env A s E:=
 ⟨x.sc,x.ok,x.a,x.st,x.er,fun e cls σ' s' hx st h he=>x.e e cls σ' s' hx st.wider h (x.er.mono st.kept.wider st.grow.wider).nil he⟩
theorem RS.step {c:Cx} {d:Nat} {sc:Scope} {m m₁:AEnv} {σ σ₁:Led} {X:XP} {env:Env} {A:Around} {s s₁:Shared} {E:Value->Shared->Prop} (x:RS c d sc m σ X env A s E)
  (t:Step c.F (places env++owned σ) (places env++owned σ₁) s s₁) (h:St c A σ₁ s₁.heap) (er:EnvRel c (ownS c σ₁) env m₁ s₁.heap):RS c d sc m₁ σ₁ X env A s₁ E:=⟨x.sc,x.ok,x.fr,x.a,h,er,x.e.step t⟩
noncomputable def WS (c:Cx) (d:Nat) (sc:Scope) (st:Stmt) (m:AEnv) (σ:Led) (K:Fl->AEnv->Led->Prop) (X:XP):Prop:=
 ∀ (env:Env) (A:Around) (s:Shared) (E:Value->Shared->Prop),RS c d sc m σ X env A s E->wpAny c.M A (exec st env) (PostS c A env σ s K) E s
noncomputable def WSs (c:Cx) (d:Nat) (sc:Scope) (sts:List Stmt) (m:AEnv) (σ:Led) (K:Fl->AEnv->Led->Prop) (X:XP):Prop:=
 ∀ (env:Env) (A:Around) (s:Shared) (E:Value->Shared->Prop),RS c d sc m σ X env A s E->wpAny c.M A (execs sts env) (PostS c A env σ s K) E s
end Mine
end
section
namespace Mine
open PySem
variable {c:Cx} {d:Nat} {sc:Scope} {m:AEnv} {σ:Led} {P:V->Led->Prop} {X:XP}
theorem Post.same {A:Around} {s:Shared} {v:V} {cv:Value} {t:Nat} (hs:St c A σ s.heap) (h:P v σ) (r:VRel s.heap (ownS c σ) v cv):Post c A σ s P cv { s with toks:=t }:=
 ⟨v,σ,h,.toks,hs,r⟩
theorem Post.same' {A:Around} {s:Shared} {v:V} {cv:Value} (hs:St c A σ s.heap) (h:P v σ) (r:VRel s.heap (ownS c σ) v cv):Post c A σ s P cv s:=
 ⟨v,σ,h,.refl,hs,r⟩
theorem WE_int {i:Int} {k:Nat} {pos:Pos} (h:P (.int i) σ):WE c d sc (.Constant (.int i) k pos) m σ P X:=
 fun z1 z2 z3 z4 r=>wpAny_Constant_int (Post.same r.st h (by simp only [VRel];exact ⟨_,rfl⟩))
theorem WE_str {x:Str} {k:Nat} {pos:Pos} (h:P (.str x) σ):WE c d sc (.Constant (.str x) k pos) m σ P X:=
 fun z1 z2 z3 z4 r=>Calls.Constant_str (Post.same r.st h (by simp only [VRel];exact ⟨_,rfl⟩))
theorem WE_bool {b:Bool} {k:Nat} {pos:Pos} (h:P (.bool b) σ):WE c d sc (.Constant (.bool b) k pos) m σ P X:=
 fun z1 z2 z3 z4 r=>wpAny_Constant_bool (Post.same' r.st h (by simp only [VRel]))
theorem WE_none {k:Nat} {pos:Pos} (h:P .none σ):WE c d sc (.Constant .none k pos) m σ P X:=
 fun z1 z2 z3 z4 r=>wpAny_Constant_none (Post.same' r.st h (by simp only [VRel]))
theorem nodebug {env:Env} (ok:EnvOk env) {x:Str} {k:NameKind} (h:env.kindOf x=some k):(x == ("__debug__":Str))=false:=by
 rw [beq_eq_false_iff_ne]
 rintro rfl
 rw [ok.nodebug] at h;cases h
theorem WE_name {x:Str} {pos:Pos} {v:V} (hx:m.lookup x=some v) (h:P v σ) (hk:isVar sc x=true):WE c d sc (.Name x pos) m σ P X:=by
 intro env A s E r
 have hk':env.kindOf x=some .local\/env.kindOf x=some .cell\/env.kindOf x=some .free:=by unfold Env.kindOf;rw [r.sc];exact isVar_kind hk
 rcases hk' with hk | hk | hk
 ·obtain ⟨mc,hn,hm⟩:=r.er.ns
  obtain ⟨cv,e,rv⟩:=hm x v hx hk
  exact wpAny_Name (wpAny_loadName_local r.ok.kind hk hn e (Post.same' r.st h rv)) (nodebug r.ok hk)
 ·obtain ⟨a,cv,e,hc,rv⟩:=r.er.cell x v hx (.inl hk)
  exact wpAny_Name (wpAny_loadName_cell r.ok.kind hk e hc (Post.same' r.st h rv)) (nodebug r.ok hk)
 ·obtain ⟨a,cv,e,hc,rv⟩:=r.er.cell x v hx (.inr hk)
  by_cases hcd:(x == ("__classdict__":Str))=true
  ·exfalso
   exact r.ok.noclassdict (by rw [beq_iff_eq] at hcd;rw [← hcd];exact hk)
  ·exact wpAny_Name (wpAny_loadName_free r.ok.kind hk e hc (Post.same' r.st h rv) (by simpa using hcd)) (nodebug r.ok hk)
theorem WE_global (hc:c.k.OK) {x:Str} {pos:Pos} {v:V} {cv:Value} (hk:sc.names.lookup x=some .globalImplicit) (hg:c.k.mg x=some cv) (hv:∀ h own,VRel h own v cv) (h:P v σ):WE c d sc (.Name x pos) m σ P X:=by
 intro env A s E r
 have hk':env.kindOf x=some .globalImplicit:=by unfold Env.kindOf;rw [r.sc];exact hk
 refine Calls.Name_function_global r.ok.kind hk' (Calls.loadGlobal_global (mg:=c.k.mg) ?_ hg (Post.same' r.st h (hv _ _))) (nodebug r.ok hk')
 rw [r.ok.globals];exact hc.g.keeps r.st.keep
theorem WE_builtin (hc:c.k.OK) {x:Str} {pos:Pos} {cv:Value} (hk:sc.names.lookup x=some .globalImplicit) (hg:c.k.mg x=none) (hb:c.k.mb x=some cv) (h:P (.raw cv) σ):WE c d sc (.Name x pos) m σ P X:=by
 intro env A s E r
 have hk':env.kindOf x=some .globalImplicit:=by unfold Env.kindOf;rw [r.sc];exact hk
 refine Calls.Name_function_global r.ok.kind hk' (Calls.loadGlobal_builtin (mg:=c.k.mg) (mb:=c.k.mb) ?_ hg ?_ hb (Post.same' r.st h (by simp only [VRel]))) (nodebug r.ok hk')
 ·rw [r.ok.globals];exact hc.g.keeps r.st.keep
 ·rw [r.ok.builtins];exact hc.b.keeps r.st.keep
theorem WE_binop {l r':Expr} {op:Operator} {pos:Pos} (h:WE c d sc l m σ (fun a σ₁=>WE c d sc r' m σ₁ (fun b σ₂=>Op2 c d (binaryOp op) a b σ₂ P) X) X):WE c d sc (.BinOp l op r' pos) m σ P X:=by
 intro env A s E r
 refine wpAny_BinOp (wpAny_mono (h env A s E r) ?_ fun z1 z2 x=>x)
 rintro ca s₁ ⟨a,σ₁,h₁,t₁,hs₁,ra⟩
 refine wpAny_mono (h₁ env A s₁ E (r.step t₁ hs₁)) ?_ fun z1 z2 x=>x
 rintro cb s₂ ⟨b,σ₂,h₂,t₂,hs₂,rb⟩
 exact wpAny_mono (h₂ A s₂ E ca cb r.a hs₂ (t₂.v ra) rb) (fun z1 z2 p=>(p.step t₂).step t₁) fun z1 z2 x=>x
theorem WE_unary {e:Expr} {op:UnaryOp} {pos:Pos} (h:WE c d sc e m σ (fun a σ₁=>Op1 c d (unaryOp op) a σ₁ P) X):WE c d sc (.UnaryOp op e pos) m σ P X:=by
 intro env A s E r
 refine wpAny_UnaryOp (wpAny_mono (h env A s E r) ?_ fun z1 z2 x=>x)
 rintro ca s₁ ⟨a,σ₁,h₁,t₁,hs₁,ra⟩
 exact wpAny_mono (h₁ A s₁ E ca r.a hs₁ ra) (fun z1 z2 p=>p.step t₁) fun z1 z2 x=>x
theorem Op_neg {i:Int} (h:P (.int (-i)) σ):Op1 c d (unaryOp .USub) (.int i) σ P:=by
 intro A s E ca _ st ra
 simp only [VRel] at ra;obtain ⟨t,rfl⟩:=ra
 exact PySem.P.neg_int (Post.same st h (by simp only [VRel];exact ⟨_,rfl⟩))
section intOps
variable {x y:Int}
theorem op_int {op:Operator} {z:Int} (hz:∀ {A:Around} {E:Value->Shared->Prop} {s:Shared} {t u:Tok} {Q:Value->Shared->Prop},Q (.int z s.toks) { s with toks:=s.toks+1 }->wpAny c.M A (binaryOp op (.int x t) (.int y u)) Q E s)
  (h:P (.int z) σ):Op2 c d (binaryOp op) (.int x) (.int y) σ P:=by
 intro A s E ca cb _ st ra rb
 simp only [VRel] at ra rb;obtain ⟨t,rfl⟩:=ra;obtain ⟨u,rfl⟩:=rb
 exact hz (Post.same st h (by simp only [VRel];exact ⟨_,rfl⟩))
theorem Op_add (h:P (.int (x+y)) σ):Op2 c d (binaryOp .Add) (.int x) (.int y) σ P:=op_int (fun q=>AutoIntOps.add_0 q) h
theorem Op_sub (h:P (.int (x - y)) σ):Op2 c d (binaryOp .Sub) (.int x) (.int y) σ P:=op_int (fun q=>AutoIntOps.sub_0 q) h
theorem Op_mul (hm:IntMulOk x y) (h:P (.int (x * y)) σ):Op2 c d (binaryOp .Mult) (.int x) (.int y) σ P:=op_int (fun q=>AutoIntOps.mul_0 q hm) h
theorem Op_mod (hy:y≠0) (h:P (.int (x.fmod y)) σ):Op2 c d (binaryOp .Mod) (.int x) (.int y) σ P:=op_int (fun q=>AutoIntOps.mod_1 (by simpa using hy) q) h
theorem Op_div (hy:y≠0) (hl:y.natAbs.log2<9000) (h:P (.int (x.fdiv y)) σ):Op2 c d (binaryOp .FloorDiv) (.int x) (.int y) σ P:=
 op_int (fun q=>AutoIntOps.floordiv_1 (by simpa using hy) (by rw [PyProof.noPylong_of_log2 hl];decide) q) h
theorem Op_pow {n:Nat} (hn:n≠0) (hb:Builtin.Int.intBits x * n<=134217728) (h:P (.int (x ^ n)) σ):Op2 c d (binaryOp .Pow) (.int x) (.int (n:Int)) σ P:=by
 refine op_int (z:=x ^ n) (fun {A E s t u Q} q=>?_) h
 refine AutoIntOpsIf.pow ?_
 have h0:((n:Int) ≥ 0):=by lia
 have h1:((n:Int) == 0)=false:=by simpa using hn
 rw [if_pos h0,h1]
 simp only [Bool.false_eq_true,if_false]
 by_cases h2:(x == 0 || x == 1)=true
 ·rw [if_pos h2]
  have:x ^ n=x:=by
   simp only [Bool.or_eq_true,beq_iff_eq] at h2
   rcases h2 with rfl | rfl
   ·exact Int.zero_pow hn
   ·exact Int.one_pow ..
  rw [this] at q;exact q
 ·rw [if_neg h2]
  by_cases h3:(x == -1)=true
  ·rw [if_pos h3]
   have hx:x=-1:=by simpa using h3
   subst hx
   have:(-1:Int) ^ n=if (n:Int) % 2 == 0 then 1 else -1:=by
    rcases Nat.mod_two_eq_zero_or_one n with hn2 | hn2
    ·have e:n=2 * (n / 2):=by lia
     have:((n:Nat):Int) % 2=0:=by lia
     rw [this,e,Int.pow_mul];exact Int.one_pow ..
    ·have e:n=2 * (n / 2)+1:=by lia
     have:((n:Nat):Int) % 2=1:=by lia
     rw [this,e,Int.pow_succ,Int.pow_mul];exact (by rw [show ((-1:Int) ^ 2)=1 from rfl,Int.one_pow];rfl)
   rw [this] at q
   exact q
  ·rw [if_neg h3,if_neg]
   ·rw [Int.toNat_natCast];exact q
   ·intro hh
    have h4:((Builtin.Int.intBits x:Nat):Int) * (n:Int) > ((bitsLine:Nat):Int):=of_decide_eq_true hh
    have h5:((Builtin.Int.intBits x * n:Nat):Int) > ((bitsLine:Nat):Int):=by rw [Int.natCast_mul];exact h4
    have h6:bitsLine=134217728:=by decide
    lia
end intOps
section cmp
variable {x y:Int}
theorem cmp_int {op:CmpOp} {b:Bool} (hz:∀ {A:Around} {E:Value->Shared->Prop} {s:Shared} {t u:Tok} {Q:Value->Shared->Prop},Q (.bool b) s->wpAny c.M A (compareOp op (.int x t) (.int y u)) Q E s)
  (h:P (.bool b) σ):Op2 c d (compareOp op) (.int x) (.int y) σ P:=by
 intro A s E ca cb _ st ra rb
 simp only [VRel] at ra rb;obtain ⟨t,rfl⟩:=ra;obtain ⟨u,rfl⟩:=rb
 exact hz (Post.same' st h (by simp only [VRel]))
theorem Cmp_eq (h:P (.bool (x == y)) σ):Op2 c d (compareOp .Eq) (.int x) (.int y) σ P:=cmp_int (fun q=>PySem.P.eq_int q) h
theorem Cmp_ne (h:P (.bool (x != y)) σ):Op2 c d (compareOp .NotEq) (.int x) (.int y) σ P:=cmp_int (fun q=>PySem.P.ne_int q) h
theorem Cmp_lt (h:P (.bool (decide (x<y))) σ):Op2 c d (compareOp .Lt) (.int x) (.int y) σ P:=cmp_int (fun q=>PySem.P.lt_int q) h
theorem Cmp_le (h:P (.bool (decide (x<=y))) σ):Op2 c d (compareOp .LtE) (.int x) (.int y) σ P:=cmp_int (fun q=>PySem.P.le_int q) h
theorem Cmp_gt (h:P (.bool (decide (y<x))) σ):Op2 c d (compareOp .Gt) (.int x) (.int y) σ P:=cmp_int (fun q=>PySem.P.gt_int q) h
theorem Cmp_ge (h:P (.bool (decide (y<=x))) σ):Op2 c d (compareOp .GtE) (.int x) (.int y) σ P:=cmp_int (fun q=>PySem.P.ge_int q) h
end cmp
theorem str_beq (x y:Str):(x.cps.toList == y.cps.toList)=(x == y):=by
 by_cases e:x=y
 ·subst e;simp
 ·have:¬ x.cps.toList=y.cps.toList:=fun q=>e (by obtain ⟨a⟩:=x;obtain ⟨b⟩:=y;exact congrArg Str.mk (Array.toList_inj.mp q))
  rw [beq_eq_false_iff_ne.mpr e,beq_eq_false_iff_ne.mpr this]
theorem Cmp_eq_str {x y:Str} (h:P (.bool (x == y)) σ):Op2 c d (compareOp .Eq) (.str x) (.str y) σ P:=by
 intro A s E ca cb _ st ra rb
 simp only [VRel] at ra rb;obtain ⟨t,rfl⟩:=ra;obtain ⟨u,rfl⟩:=rb
 refine PySem.P.eq_str (Post.same' st h ?_)
 simp only [VRel]
 rw [str_beq]
theorem Cmp_ne_str {x y:Str} (h:P (.bool (x != y)) σ):Op2 c d (compareOp .NotEq) (.str x) (.str y) σ P:=by
 intro A s E ca cb _ st ra rb
 simp only [VRel] at ra rb;obtain ⟨t,rfl⟩:=ra;obtain ⟨u,rfl⟩:=rb
 refine PySem.P.ne_str (Post.same' st h ?_)
 simp only [VRel]
 rw [bne,bne,str_beq]
theorem Cmp_in_str {x y:Str} (h:P (.bool (Txt.contains x y)) σ):Op2 c d (compareOp .In) (.str y) (.str x) σ P:=by
 intro A s E ca cb _ st ra rb
 simp only [VRel] at ra rb;obtain ⟨t,rfl⟩:=ra;obtain ⟨u,rfl⟩:=rb
 exact PySem.P.in_str (Post.same' st h (by simp only [VRel];rfl))
theorem Cmp_notIn_str {x y:Str} (h:P (.bool (!Txt.contains x y)) σ):Op2 c d (compareOp .NotIn) (.str y) (.str x) σ P:=by
 intro A s E ca cb _ st ra rb
 simp only [VRel] at ra rb;obtain ⟨t,rfl⟩:=ra;obtain ⟨u,rfl⟩:=rb
 exact PySem.P.notIn_str (Post.same' st h (by simp only [VRel];rfl))
theorem WE_cmp {l r':Expr} {op:CmpOp} {pos:Pos} (h:WE c d sc l m σ (fun a σ₁=>WE c d sc r' m σ₁ (fun b σ₂=>Op2 c d (compareOp op) a b σ₂ P) X) X)
  (hm:behindInMarks op r'=false):WE c d sc (.Compare l [op] [r'] pos) m σ P X:=by
 intro env A s E r
 refine wpAny_Compare1 (wpAny_mono (h env A s E r) ?_ fun z1 z2 x=>x) hm
 rintro ca s₁ ⟨a,σ₁,h₁,t₁,hs₁,ra⟩
 refine wpAny_mono (h₁ env A s₁ E (r.step t₁ hs₁)) ?_ fun z1 z2 x=>x
 rintro cb s₂ ⟨b,σ₂,h₂,t₂,hs₂,rb⟩
 exact wpAny_mono (h₂ A s₂ E ca cb r.a hs₂ (t₂.v ra) rb) (fun z1 z2 p=>(p.step t₂).step t₁) fun z1 z2 x=>x
theorem compareChain2 (pos:Pos) (left:Value) (op1 op2:CmpOp) (x y:Sem Value):compareChain pos left [op1,op2] [x,y]=(do
  let rv ← holding [left] x
  standAt pos
  let c ← holding [left,rv] (compareOp op1 left rv)
  release [left,rv] [c]
  if ← holding [c,rv] (truthy c) then (do
   let rw' ← holding [rv] y
   standAt pos
   operate [rv,rw'] (compareOp op2 rv rw')) else pure c):=rfl
theorem testChain2 (pos:Pos) (left:Value) (op1 op2:CmpOp) (x y:Sem Value):testChain pos left [op1,op2] [x,y]=(do
  let rv ← holding [left] x
  standAt pos
  let c ← holding [left,rv] (compareOp op1 left rv)
  release [left,rv] [c]
  if ← holding [c,rv] (truthy c) then (do
   let rw' ← holding [rv] y
   standAt pos
   let c ← operate [rv,rw'] (compareOp op2 rv rw')
   holding [c] (truthy c)) else pure false):=rfl
theorem zbb {M:Model} {A:Around} {E:Value->Shared->Prop} {s:Shared} {vs keep:List Value} {Q:Unit->Shared->Prop} (h:Q () s):wpAny M A (release vs keep) Q E s:=
 fun Γ p z1=>by rw [Sem.wp_release];exact h
theorem wpAny_operate' {M:Model} {A:Around} {E:Value->Shared->Prop} {s:Shared} {vs:List Value} {t:Sem Value} {Q:Value->Shared->Prop} (h:wpAny M A t Q E s):wpAny M A (operate vs t) Q E s:=
 fun Γ p hΓ=>by rw [Sem.wp_operate];exact h Γ p hΓ
theorem WE_cmp2 {l r₁ r₂:Expr} {op₁ op₂:CmpOp} {pos:Pos}
  (h:WE c d sc l m σ (fun a σ₁=>WE c d sc r₁ m σ₁ (fun b σ₂=>Op2 c d (compareOp op₁) a b σ₂ (fun v σ₃=>∃ t,v=.bool t/\
   if t=true then WE c d sc r₂ m σ₃ (fun b' σ₄=>Op2 c d (compareOp op₂) b b' σ₄ P) X else P (.bool false) σ₃)) X) X)
  (hm₂:behindInMarks op₂ r₂=false):WE c d sc (.Compare l [op₁,op₂] [r₁,r₂] pos) m σ P X:=by
 intro env A s E r
 show wpAny _ _ (do compareChain pos (← eval l env) [op₁,op₂] [eval r₁ env,markedBehindIn op₂ r₂ (eval r₂ env)]) _ _ _
 rw [markedBehindIn_of_false hm₂]
 refine wpAny_bind (wpAny_mono (h env A s E r) ?_ fun z1 z2 x=>x)
 rintro ca s₁ ⟨a,σ₁,h₁,t₁,hs₁,ra⟩
 rw [compareChain2]
 refine wpAny_bind (wpAny_holding (wpAny_mono (h₁ env A s₁ E (r.step t₁ hs₁)) ?_ fun z1 z2 x=>x))
 rintro cb s₂ ⟨b,σ₂,h₂,t₂,hs₂,rb⟩
 refine wpAny_bind (wpAny_standAt (wpAny_bind (wpAny_holding (wpAny_mono (h₂ A s₂ E ca cb r.a hs₂ (t₂.v ra) rb) ?_ fun z1 z2 x=>x))))
 rintro cv s₃ ⟨v,σ₃,⟨t,rfl,h₃⟩,t₃,hs₃,rv⟩
 simp only [VRel] at rv;subst rv
 refine wpAny_bind (zbb (wpAny_bind (wpAny_holding (wpAny_truthy_bool ?_))))
 cases t with
 | false=>exact wpAny_pure (((Post.same' hs₃ h₃ (by simp only [VRel])).step t₃).step t₂ |>.step t₁)
 | true=>
  refine wpAny_bind (wpAny_holding (wpAny_mono (h₃ env A s₃ E (((r.step t₁ hs₁).step t₂ hs₂).step t₃ hs₃)) ?_ fun z1 z2 x=>x))
  rintro cb' s₄ ⟨b',σ₄,h₄,t₄,hs₄,rb'⟩
  exact wpAny_bind (wpAny_standAt (wpAny_operate' (wpAny_mono (h₄ A s₄ E cb cb' r.a hs₄ (t₄.v (t₃.v rb)) rb') (fun z1 z2 p=>(((p.step t₄).step t₃).step t₂).step t₁) fun z1 z2 x=>x)))
theorem WT_value {e:Expr} {P:Bool->Led->Prop} (h:WE c d sc e m σ (fun v σ₁=>∃ t,v=.bool t/\P t σ₁) X)
  (he:∀ env whole,isTrue e env whole=(do let v ← whole;standAt e.pos;holding [v] (truthy v))):WT c d sc e m σ P X:=by
 intro env A s E r
 refine wpAny_isTrue_value (wpAny_mono (h env A s E r) ?_ fun z1 z2 x=>x) (he _ _)
 rintro cv s₁ ⟨v,σ₁,⟨t,rfl,h₁⟩,t₁,hs₁,rv⟩
 simp only [VRel] at rv;subst rv
 exact wpAny_truthy_bool ⟨σ₁,h₁,t₁,hs₁⟩
theorem WT_not {e:Expr} {pos:Pos} {P:Bool->Led->Prop} (h:WT c d sc e m σ (fun b σ₁=>P (!b) σ₁) X):WT c d sc (.UnaryOp .Not e pos) m σ P X:=
 fun env A s E r=>wpAny_isTrue_Not (wpAny_mono (h env A s E r) (fun z1 z2=>.imp fun z1 q=>q) fun z1 z2 x=>x)
theorem WT_bool {op:BoolOp} {es:List Expr} {pos:Pos} {P:Bool->Led->Prop} (h:WTs c d sc op es m σ P X):WT c d sc (.BoolOp op es pos) m σ P X:=
 fun env A s E r=>wpAny_isTrue_BoolOp (h env A s E r)
theorem WTs_and_nil {P:Bool->Led->Prop} (h:P true σ):WTs c d sc .And [] m σ P X:=fun z1 z2 z3 z4 r=>wpAny_allTrue_And_nil ⟨σ,h,.refl,r.st⟩
theorem WTs_or_nil {P:Bool->Led->Prop} (h:P false σ):WTs c d sc .Or [] m σ P X:=fun z1 z2 z3 z4 r=>wpAny_allTrue_Or_nil ⟨σ,h,.refl,r.st⟩
theorem WTs_and {e:Expr} {es:List Expr} {P:Bool->Led->Prop} (h:WT c d sc e m σ (fun b σ₁=>if b=true then WTs c d sc .And es m σ₁ P X else P false σ₁) X):WTs c d sc .And (e::es) m σ P X:=by
 intro env A s E r
 refine wpAny_allTrue_And_cons (wpAny_mono (h env A s E r) ?_ fun z1 z2 x=>x)
 rintro b s₁ ⟨σ₁,h₁,t₁,hs₁⟩
 cases b with
 | true=>exact wpAny_mono (h₁ env A s₁ E (r.step t₁ hs₁)) (fun z1 z2 p=>p.step t₁) fun z1 z2 x=>x
 | false=>exact ⟨σ₁,h₁,t₁,hs₁⟩
theorem WTs_or {e:Expr} {es:List Expr} {P:Bool->Led->Prop} (h:WT c d sc e m σ (fun b σ₁=>if b=true then P true σ₁ else WTs c d sc .Or es m σ₁ P X) X):WTs c d sc .Or (e::es) m σ P X:=by
 intro env A s E r
 refine wpAny_allTrue_Or_cons (wpAny_mono (h env A s E r) ?_ fun z1 z2 x=>x)
 rintro b s₁ ⟨σ₁,h₁,t₁,hs₁⟩
 cases b with
 | false=>exact wpAny_mono (h₁ env A s₁ E (r.step t₁ hs₁)) (fun z1 z2 p=>p.step t₁) fun z1 z2 x=>x
 | true=>exact ⟨σ₁,h₁,t₁,hs₁⟩
theorem WT_cmp {l r':Expr} {op:CmpOp} {pos:Pos} {P:Bool->Led->Prop} (h:WE c d sc l m σ (fun a σ₁=>WE c d sc r' m σ₁ (fun b σ₂=>Op2 c d (compareOp op) a b σ₂ (fun v σ₃=>∃ t,v=.bool t/\P t σ₃)) X) X)
  (hm:behindInMarks op r'=false):WT c d sc (.Compare l [op] [r'] pos) m σ P X:=by
 intro env A s E r
 refine wpAny_isTrue_Compare1 (wpAny_mono (h env A s E r) ?_ fun z1 z2 x=>x) hm
 rintro ca s₁ ⟨a,σ₁,h₁,t₁,hs₁,ra⟩
 refine wpAny_mono (h₁ env A s₁ E (r.step t₁ hs₁)) ?_ fun z1 z2 x=>x
 rintro cb s₂ ⟨b,σ₂,h₂,t₂,hs₂,rb⟩
 refine wpAny_mono (h₂ A s₂ E ca cb r.a hs₂ (t₂.v ra) rb) ?_ fun z1 z2 x=>x
 rintro cv s₃ ⟨v,σ₃,⟨t,rfl,h₃⟩,t₃,hs₃,rv⟩
 simp only [VRel] at rv;subst rv
 exact wpAny_truthy_bool ⟨σ₃,h₃,(t₁.trans t₂).trans t₃,hs₃⟩
theorem WT_cmp2 {l r₁ r₂:Expr} {op₁ op₂:CmpOp} {pos:Pos} {P:Bool->Led->Prop}
  (h:WE c d sc l m σ (fun a σ₁=>WE c d sc r₁ m σ₁ (fun b σ₂=>Op2 c d (compareOp op₁) a b σ₂ (fun v σ₃=>∃ t,v=.bool t/\
   if t=true then WE c d sc r₂ m σ₃ (fun b' σ₄=>Op2 c d (compareOp op₂) b b' σ₄ (fun v σ₅=>∃ t,v=.bool t/\P t σ₅)) X else P false σ₃)) X) X)
  (hm₂:behindInMarks op₂ r₂=false):WT c d sc (.Compare l [op₁,op₂] [r₁,r₂] pos) m σ P X:=by
 intro env A s E r
 show wpAny _ _ (do testChain pos (← eval l env) [op₁,op₂] [eval r₁ env,markedBehindIn op₂ r₂ (eval r₂ env)]) _ _ _
 rw [markedBehindIn_of_false hm₂]
 refine wpAny_bind (wpAny_mono (h env A s E r) ?_ fun z1 z2 x=>x)
 rintro ca s₁ ⟨a,σ₁,h₁,t₁,hs₁,ra⟩
 rw [testChain2]
 refine wpAny_bind (wpAny_holding (wpAny_mono (h₁ env A s₁ E (r.step t₁ hs₁)) ?_ fun z1 z2 x=>x))
 rintro cb s₂ ⟨b,σ₂,h₂,t₂,hs₂,rb⟩
 refine wpAny_bind (wpAny_standAt (wpAny_bind (wpAny_holding (wpAny_mono (h₂ A s₂ E ca cb r.a hs₂ (t₂.v ra) rb) ?_ fun z1 z2 x=>x))))
 rintro cv s₃ ⟨v,σ₃,⟨t,rfl,h₃⟩,t₃,hs₃,rv⟩
 simp only [VRel] at rv;subst rv
 refine wpAny_bind (zbb (wpAny_bind (wpAny_holding (wpAny_truthy_bool ?_))))
 cases t with
 | false=>exact wpAny_pure ⟨σ₃,h₃,(t₁.trans t₂).trans t₃,hs₃⟩
 | true=>
  refine wpAny_bind (wpAny_holding (wpAny_mono (h₃ env A s₃ E (((r.step t₁ hs₁).step t₂ hs₂).step t₃ hs₃)) ?_ fun z1 z2 x=>x))
  rintro cb' s₄ ⟨b',σ₄,h₄,t₄,hs₄,rb'⟩
  refine wpAny_bind (wpAny_standAt (wpAny_bind (wpAny_operate' (wpAny_mono (h₄ A s₄ E cb cb' r.a hs₄ (t₄.v (t₃.v rb)) rb') ?_ fun z1 z2 x=>x))))
  rintro cv s₅ ⟨v,σ₅,⟨t,rfl,h₅⟩,t₅,hs₅,rv⟩
  simp only [VRel] at rv;subst rv
  exact wpAny_holding (wpAny_truthy_bool ⟨σ₅,h₅,((((t₁.trans t₂).trans t₃).trans t₄).trans t₅),hs₅⟩)
theorem WE_ifexp {t b o:Expr} {pos:Pos} (h:WT c d sc t m σ (fun k σ₁=>if k=true then WE c d sc b m σ₁ P X else WE c d sc o m σ₁ P X) X):WE c d sc (.IfExp t b o pos) m σ P X:=by
 intro env A s E r
 refine wpAny_IfExp (wpAny_mono (h env A s E r) ?_ fun z1 z2 x=>x)
 rintro k s₁ ⟨σ₁,h₁,t₁,hs₁⟩
 cases k with
 | true=>exact wpAny_mono (h₁ env A s₁ E (r.step t₁ hs₁)) (fun z1 z2 p=>p.step t₁) fun z1 z2 x=>x
 | false=>exact wpAny_mono (h₁ env A s₁ E (r.step t₁ hs₁)) (fun z1 z2 p=>p.step t₁) fun z1 z2 x=>x
theorem WE_boolop {op:BoolOp} {es:List Expr} {pos:Pos} (h:WEb c d sc op es m σ P X):WE c d sc (.BoolOp op es pos) m σ P X:=
 fun env A s E r=>h env A s E pos r
theorem WEb_one {op:BoolOp} {e:Expr} (h:WE c d sc e m σ P X):WEb c d sc op [e] m σ P X:=fun env A s E z1 r=>h env A s E r
theorem WEb_and {e e':Expr} {es:List Expr} (h:WE c d sc e m σ (fun v σ₁=>∃ t,v=.bool t/\if t=true then WEb c d sc .And (e'::es) m σ₁ P X else P (.bool false) σ₁) X):WEb c d sc .And (e::e'::es) m σ P X:=by
 intro env A s E pos r
 show wpAny _ _ (do let v ← eval e env;standAt pos;let t ← holding [v] (truthy v);match BoolOp.And,t with | .And,false | .Or,true=>pure v | _,_=>boolOp pos .And (evalEach (e'::es) env)) _ _ _
 refine wpAny_bind (wpAny_mono (h env A s E r) ?_ fun z1 z2 x=>x)
 rintro cv s₁ ⟨v,σ₁,⟨t,rfl,h₁⟩,t₁,hs₁,rv⟩
 simp only [VRel] at rv;subst rv
 refine wpAny_bind (wpAny_standAt (wpAny_bind (wpAny_holding (wpAny_truthy_bool ?_))))
 cases t with
 | false=>exact wpAny_pure ((Post.same' hs₁ h₁ (by simp only [VRel])).step t₁)
 | true=>exact wpAny_mono (h₁ env A s₁ E pos (r.step t₁ hs₁)) (fun z1 z2 p=>p.step t₁) fun z1 z2 x=>x
theorem WEb_or {e e':Expr} {es:List Expr} (h:WE c d sc e m σ (fun v σ₁=>∃ t,v=.bool t/\if t=true then P (.bool true) σ₁ else WEb c d sc .Or (e'::es) m σ₁ P X) X):WEb c d sc .Or (e::e'::es) m σ P X:=by
 intro env A s E pos r
 show wpAny _ _ (do let v ← eval e env;standAt pos;let t ← holding [v] (truthy v);match BoolOp.Or,t with | .And,false | .Or,true=>pure v | _,_=>boolOp pos .Or (evalEach (e'::es) env)) _ _ _
 refine wpAny_bind (wpAny_mono (h env A s E r) ?_ fun z1 z2 x=>x)
 rintro cv s₁ ⟨v,σ₁,⟨t,rfl,h₁⟩,t₁,hs₁,rv⟩
 simp only [VRel] at rv;subst rv
 refine wpAny_bind (wpAny_standAt (wpAny_bind (wpAny_holding (wpAny_truthy_bool ?_))))
 cases t with
 | true=>exact wpAny_pure ((Post.same' hs₁ h₁ (by simp only [VRel])).step t₁)
 | false=>exact wpAny_mono (h₁ env A s₁ E pos (r.step t₁ hs₁)) (fun z1 z2 p=>p.step t₁) fun z1 z2 x=>x
theorem Op_not {b:Bool} (h:P (.bool (!b)) σ):Op1 c d (unaryOp .Not) (.bool b) σ P:=by
 intro A s E ca _ st ra
 simp only [VRel] at ra;subst ra
 exact PyProof.Rows.not_of (wpAny_truthy_bool (Post.same' st h (by simp only [VRel])))
end Mine
end
section
namespace Mine
open PySem
variable {c:Cx} {d:Nat} {sc:Scope} {m:AEnv} {σ:Led} {P:V->Led->Prop} {X:XP}
noncomputable def Ext (h h':Heap):Prop:=∀ b o,h.get? b=some o->h'.get? b=some o
theorem Ext.refl {h:Heap}:Ext h h:=fun z1 z2 e=>e
theorem Ext.trans {h h' h'':Heap} (x:Ext h h') (y:Ext h' h''):Ext h h'':=fun b o e=>y b o (x b o e)
theorem Ext.push {h:Heap} (o:Obj):Ext h (h.push o):=fun z1 z2 e=>Heap.get?_push_of_some o e
theorem Ext.kept {own:List Addr} {h h':Heap} (x:Ext h h'):Kept own h h':=Kept.of fun b o e z1=>x b o e
theorem Grow.refl {own:List Addr} {h:Heap}:Grow own own h:=fun z1 h=>.inl h
theorem Step.ext {F own:List Addr} {s s':Shared} (x:Ext s.heap s'.heap) (ho:s'.os=s.os) (hg:s'.gens=s.gens):Step F own own s s':=⟨x.kept,fun b o e=>⟨o,x b o e⟩,fun b z1 o e=>x b o e,.refl,ho,hg⟩
theorem PlainSeq.ext {h h':Heap} (x:Ext h h') {T:String} {a:Addr} {cs:List Value} (p:PlainSeq h T a cs):PlainSeq h' T a cs:=let ⟨n,e⟩:=p;⟨n,x _ _ e⟩
theorem ORel.mono {K:Base} {own own':List Addr} {h h':Heap} (k:Ext h h') (g:Grow own own' h) {a:Addr} {o:O} (r:ORel K h own a o):ORel K h' own' a o:=by
 cases o with
 | list vs=>obtain ⟨cs,p,hl,r⟩:=r;exact ⟨cs,p.ext k,hl,VRels.mono k.kept g vs cs r⟩
 | dictI _=>exact DictR.carry r (k a) (k.kept.carries g)
 | dictS _=>exact DictR.carry r (k a) (k.kept.carries g)
 | inst _ _ _=>exact InstR.carry r (fun b z1=>k b) (k.kept.carries g)
 | exc C=>obtain ⟨o,vs,e,q,q2⟩:=r;exact ⟨o,vs,k a _ e,q,q2⟩
theorem ORel.there {K:Base} {own:List Addr} {h:Heap} {a b:Addr} {o:O} (r:ORel K h own a o) (hb:b∈o.addrs a):∃ ob,h.get? b=some ob:=by
 cases o with
 | list vs=>obtain ⟨cs,⟨n,e⟩,_⟩:=r;simp only [O.addrs,List.mem_singleton] at hb;subst hb;exact ⟨_,e⟩
 | dictI _=>simp only [O.addrs,List.mem_singleton] at hb;subst hb;exact DictR.there r
 | dictS _=>simp only [O.addrs,List.mem_singleton] at hb;subst hb;exact DictR.there r
 | inst _ _ _=>
  obtain ⟨o,mA,ho,h1,h2,h3,h4,⟨od,es,ep,hd,q⟩,h6,h7⟩:=r
  simp only [O.addrs,List.mem_cons,List.not_mem_nil,or_false] at hb
  rcases hb with rfl | rfl
  ·exact ⟨o,ho⟩
  ·exact ⟨od,hd⟩
 | exc C=>obtain ⟨o,vs,e,q⟩:=r;simp only [O.addrs,List.mem_singleton] at hb;subst hb;exact ⟨o,e⟩
theorem mem_owned:∀ {σ:Led} {b:Addr},b∈owned σ ↔ ∃ a o,(a,o)∈σ/\b∈o.addrs a
 | [],b=>by simp [owned]
 | (a,o)::r,b=>by
  simp only [owned,List.mem_append,List.mem_cons,mem_owned (σ:=r)]
  constructor
  ·rintro (h | ⟨a',o',h,h'⟩)
   ·exact ⟨a,o,.inl rfl,h⟩
   ·exact ⟨a',o',.inr h,h'⟩
  ·rintro ⟨a',o',h | h,h'⟩
   ·cases h;exact .inl h'
   ·exact .inr ⟨a',o',h,h'⟩
theorem St.there {A:Around} {h:Heap} (st:St c A σ h) {b:Addr} (hb:b∈owned σ):∃ ob,h.get? b=some ob:=by
 obtain ⟨a,o,hm,hb⟩:=mem_owned.mp hb
 exact (st.objs a o hm).there hb
theorem St.new {A:Around} {h:Heap} (st:St c A σ h):h.objs.size∉owned σ:=fun hm=>by
 obtain ⟨ob,e⟩:=st.there hm
 exact Nat.lt_irrefl _ (Heap.lt_size e)
section
variable {A:Around} {h:Heap} {b:Addr} (st:St c A σ h) (hn:h.get? b=none)
include st hn
theorem St.no0:c.k.h0.get? b=none:=by
 cases e:c.k.h0.get? b with
 | none=>rfl
 | some o=>rw [st.keep _ _ e] at hn;cases hn
theorem St.noF:b∉c.F:=fun q=>by obtain ⟨o,e⟩:=st.prot b q;rw [hn] at e;cases e
theorem St.noH:b∉c.H:=fun q=>by obtain ⟨_,o,e⟩:=st.hid b q;rw [hn] at e;cases e
theorem St.noO:b∉owned σ:=fun q=>by obtain ⟨o,e⟩:=st.there q;rw [hn] at e;cases e
theorem St.noS:b∉ownS c σ:=fun q=>(List.mem_append.mp q).elim (st.noH hn) (st.noO hn)
theorem St.noL {l:List Env} (hl:A.frames=some l):b∉l.filterMap (·.frame):=fun hL=>by
 obtain ⟨l',hl',hf',_⟩:=st.frames
 rw [hl] at hl';cases hl'
 obtain ⟨_,o,e,_⟩:=hf'.mem hL
 rw [hn] at e;cases e
end
theorem St.newS {A:Around} {h:Heap} (st:St c A σ h):h.objs.size∉ownS c σ:=fun hm=>by
 rcases List.mem_append.mp hm with q | q
 ·obtain ⟨_,o,e⟩:=st.hid _ q
  exact Nat.lt_irrefl _ (Heap.lt_size e)
 ·exact st.new q
theorem get?_size (h:Heap):h.get? h.objs.size=none:=by
 cases e:h.get? h.objs.size with
 | none=>rfl
 | some o=>exact absurd (Heap.lt_size e) (Nat.lt_irrefl _)
theorem St.newF {A:Around} {h:Heap} (st:St c A σ h):h.objs.size∉c.F:=fun hm=>by
 obtain ⟨o,e⟩:=st.prot _ hm
 rw [get?_size] at e;cases e
theorem St.ext {A:Around} {h h':Heap} (st:St c A σ h) (x:Ext h h'):St c A σ h':=by
 refine ⟨fun b o e=>x b o (st.keep b o e),st.nodup,st.fresh,fun a o hm=>(st.objs a o hm).mono x .refl,?_,fun b hb=>let ⟨o,e⟩:=st.prot b hb;⟨o,x b o e⟩,fun b hb=>let ⟨q,o,e⟩:=st.hid b hb;⟨q,o,x b o e⟩⟩
 obtain ⟨l,hl,hf,hd⟩:=st.frames
 refine ⟨l,hl,hf.of_keeps fun b o e z1=>⟨o,x b o e,rfl⟩,fun L hL=>⟨(hd L hL).1,(hd L hL).2.1,fun o e=>?_⟩⟩
 obtain ⟨_,o',e',_⟩:=hf.mem hL
 rw [x L o' e'] at e;cases e
 exact (hd L hL).2.2 o e'
theorem St.alloc {A:Around} {h h':Heap} {a:Addr} {o:O} (st:St c A σ h) (x:Ext h h') (hn:∀ b∈o.addrs a,h.get? b=none) (hnd:(o.addrs a).Nodup)
  (hr:ORel c.k h' (ownS c ((a,o)::σ)) a o):St c A ((a,o)::σ) h':=by
 have hg:Grow (owned σ) (owned ((a,o)::σ)) h:=fun b hb=>by
  rcases List.mem_append.mp hb with q | q
  ·exact .inr (hn b q)
  ·exact .inl q
 refine ⟨fun b o e=>x b o (st.keep b o e),?_,?_,?_,?_,fun b hb=>let ⟨o,e⟩:=st.prot b hb;⟨o,x b o e⟩,fun b hb=>let ⟨q,o,e⟩:=st.hid b hb;⟨fun z=>hg.notin q e z,o,x b o e⟩⟩
 ·refine List.nodup_append.mpr ⟨hnd,st.nodup,fun b hb b' hb' e=>?_⟩
  subst e
  obtain ⟨ob,e⟩:=st.there hb'
  rw [hn b hb] at e;cases e
 ·intro b hb
  rcases List.mem_append.mp hb with q | q
  ·cases e:c.k.h0.get? b with
   | none=>rfl
   | some ob=>have:=st.keep _ _ e;rw [hn b q] at this;cases this
  ·exact st.fresh b q
 ·intro a' o' hm
  rcases List.mem_cons.mp hm with q | q
  ·cases q;exact hr
  ·exact (st.objs a' o' q).mono x hg.wider
 ·obtain ⟨l,hl,hf,hd⟩:=st.frames
  refine ⟨l,hl,hf.of_keeps fun b o e z1=>⟨o,x b o e,rfl⟩,fun L hL=>⟨fun hm=>?_,(hd L hL).2.1,fun o e=>?_⟩⟩
  ·obtain ⟨_,o',e',_⟩:=hf.mem hL
   exact hg.notin (hd L hL).1 e' hm
  ·obtain ⟨_,o',e',_⟩:=hf.mem hL
   rw [x L o' e'] at e;cases e
   exact (hd L hL).2.2 o e'
theorem Grow.alloc {h:Heap} {a:Addr} {o:O} (hn:∀ b∈o.addrs a,h.get? b=none):Grow (owned σ) (owned ((a,o)::σ)) h:=fun b hb=>by
 rcases List.mem_append.mp hb with q | q
 ·exact .inr (hn b q)
 ·exact .inl q
theorem Post.newSeq {A:Around} {s:Shared} {T:String} {cs:List Value} {vs:List V} {v:V} {n:Nat} (st:St c A σ s.heap) (hl:cs.length<=sizeLine) (r:VRels s.heap (ownS c σ) vs cs)
  (hv:∀ h own,VRel h own v (.ref s.heap.objs.size) ↔ ∃ a cs,Value.ref s.heap.objs.size=.ref a/\a∉own/\PlainSeq h T a cs/\cs.length<=sizeLine/\VRels h own vs cs) (h:P v σ) :
  Post c A σ s P (.ref s.heap.objs.size) { s with heap:=s.heap.push { cls:=.type T,data:=.seq cs.toArray n } }:=by
 refine ⟨v,σ,h,.ext (.push _) rfl rfl,st.ext (.push _),(hv _ _).mpr ⟨_,cs,rfl,st.newS,⟨n,Heap.get?_push_size _ rfl⟩,hl,VRels.mono (Ext.push _).kept .refl vs cs r⟩⟩
theorem Post.newTup {A:Around} {s:Shared} {cs:List Value} {vs:List V} {n:Nat} (st:St c A σ s.heap) (hl:cs.length<=sizeLine) (r:VRels s.heap (ownS c σ) vs cs) (h:P (.tup vs) σ) :
  Post c A σ s P (.ref s.heap.objs.size) { s with heap:=s.heap.push { cls:=.type "tuple",data:=.seq cs.toArray n } }:=Post.newSeq st hl r (fun z1 z2=>by simp only [VRel]) h
theorem Post.newLst {A:Around} {s:Shared} {cs:List Value} {vs:List V} {n:Nat} (st:St c A σ s.heap) (hl:cs.length<=sizeLine) (r:VRels s.heap (ownS c σ) vs cs) (h:P (.lst vs) σ) :
  Post c A σ s P (.ref s.heap.objs.size) { s with heap:=s.heap.push { cls:=.type "list",data:=.seq cs.toArray n } }:=Post.newSeq st hl r (fun z1 z2=>by simp only [VRel]) h
theorem Post.newLoc {A:Around} {s:Shared} {cs:List Value} {vs:List V} {n:Nat} (st:St c A σ s.heap) (hl:cs.length<=sizeLine) (r:VRels s.heap (ownS c σ) vs cs) (h:∀ a,a∉owned σ->a∉c.F->P (.ref a) ((a,.list vs)::σ)) :
  Post c A σ s P (.ref s.heap.objs.size) { s with heap:=s.heap.push { cls:=.type "list",data:=.seq cs.toArray n } }:=by
 have hn:∀ b∈(O.list vs).addrs s.heap.objs.size,s.heap.get? b=none:=fun b hb=>by
  simp only [O.addrs,List.mem_singleton] at hb;subst hb;exact get?_size _
 refine ⟨.ref s.heap.objs.size,_,h _ st.new st.newF,⟨(Ext.push _).kept,fun b o e=>⟨o,Ext.push _ b o e⟩,fun b z1 o e=>Ext.push _ b o e,.alloc hn,rfl,rfl⟩,st.alloc (.push _) hn (by simp [O.addrs]) ?_,by simp only [VRel]⟩
 exact ⟨cs,⟨n,Heap.get?_push_size _ rfl⟩,hl,VRels.mono (Ext.push _).kept (Grow.alloc hn).wider vs cs r⟩
theorem VRels.length {h:Heap} {own:List Addr}:∀ {vs:List V} {cs:List Value},VRels h own vs cs->cs.length=vs.length
 | [],_,r=>by simp only [VRels] at r;subst r;rfl
 | v::vs,cs,r=>by
  simp only [VRels] at r
  obtain ⟨c,cs',rfl,_,r⟩:=r
  simp [r.length]
theorem VRels.get {h:Heap} {own:List Addr}:∀ {vs:List V} {cs:List Value} {i:Nat} {v:V},VRels h own vs cs->vs[i]?=some v->∃ cv,cs[i]?=some cv/\VRel h own v cv
 | [],_,_,_,_,e=>by simp at e
 | v::vs,cs,0,_,r,e=>by
  simp only [VRels] at r
  obtain ⟨c,cs',rfl,r1,r⟩:=r
  simp only [List.getElem?_cons_zero,Option.some.injEq] at e;subst e
  exact ⟨c,rfl,r1⟩
 | v::vs,cs,i+1,w,r,e=>by
  simp only [VRels] at r
  obtain ⟨c,cs',rfl,r1,r⟩:=r
  simp only [List.getElem?_cons_succ] at e ⊢
  exact r.get e
theorem VRels.drop {h:Heap} {own:List Addr}:∀ {vs:List V} {cs:List Value} (n:Nat),VRels h own vs cs->VRels h own (vs.drop n) (cs.drop n)
 | _,_,0,r=>r
 | [],cs,n+1,r=>by simp only [VRels] at r;subst r;simp [VRels]
 | v::vs,cs,n+1,r=>by
  simp only [VRels] at r
  obtain ⟨c,cs',rfl,_,r⟩:=r
  exact r.drop n
theorem VRels.take {h:Heap} {own:List Addr}:∀ {vs:List V} {cs:List Value} (n:Nat),VRels h own vs cs->VRels h own (vs.take n) (cs.take n)
 | vs,cs,0,r=>by simp [VRels]
 | [],cs,n+1,r=>by simp only [VRels] at r;subst r;simp [VRels]
 | v::vs,cs,n+1,r=>by
  simp only [VRels] at r
  obtain ⟨c,cs',rfl,r1,r⟩:=r
  simp only [List.take_succ_cons,VRels]
  exact ⟨c,_,rfl,r1,r.take n⟩
theorem VRels.append {h:Heap} {own:List Addr}:∀ {vs ws:List V} {cs ds:List Value},VRels h own vs cs->VRels h own ws ds->VRels h own (vs++ws) (cs++ds)
 | [],ws,cs,ds,r,r'=>by simp only [VRels] at r;subst r;exact r'
 | v::vs,ws,cs,ds,r,r'=>by
  simp only [VRels] at r
  obtain ⟨c,cs',rfl,r1,r⟩:=r
  simp only [List.cons_append,VRels]
  exact ⟨c,_,rfl,r1,r.append r'⟩
theorem VRels.one {h:Heap} {own:List Addr} {v:V} {cv:Value} (r:VRel h own v cv):VRels h own [v] [cv]:=by simp only [VRels];exact ⟨cv,[],rfl,r,rfl⟩
theorem VRels.set {h:Heap} {own:List Addr}:∀ {vs:List V} {cs:List Value} (i:Nat) {v:V} {cv:Value},VRels h own vs cs->VRel h own v cv->VRels h own (vs.set i v) (cs.set i cv)
 | [],cs,i,v,cv,r,_=>by simp only [VRels] at r;subst r;simp [VRels]
 | w::vs,cs,0,v,cv,r,r'=>by
  simp only [VRels] at r
  obtain ⟨c,cs',rfl,r1,r⟩:=r
  simp only [List.set_cons_zero,VRels];exact ⟨cv,cs',rfl,r',r⟩
 | w::vs,cs,i+1,v,cv,r,r'=>by
  simp only [VRels] at r
  obtain ⟨c,cs',rfl,r1,r⟩:=r
  simp only [List.set_cons_succ,VRels];exact ⟨c,_,rfl,r1,r.set i r'⟩
theorem WEs_nil {P:List V->Led->Prop} (h:P [] σ):WEs c d sc [] m σ P X:=fun env A s E pos r=>⟨rfl,Calls.spliced_nil ⟨[],σ,⟨rfl,h⟩,.refl,r.st,by simp only [VRels]⟩⟩
theorem WEs_cons {e:Expr} {es:List Expr} {P:List V->Led->Prop} (h:WE c d sc e m σ (fun v σ₁=>WEs c d sc es m σ₁ (fun vs σ₂=>P (v::vs) σ₂) X) X)
  (hstar:∀ env,starEach (e::es) env=(false,eval e env)::starEach es env) (hstars:∀ env,(starEach es env).any (·.1)=false):WEs c d sc (e::es) m σ P X:=by
 intro env A s E pos r
 refine ⟨by rw [hstar];simpa using hstars env,?_⟩
 have hb:backTo pos (starEach (e::es) env)=(false,eval e env)::backTo pos (starEach es env):=by rw [hstar];rfl
 rw [hb]
 refine Calls.spliced_cons (wpAny_mono (h env A s E r) ?_ fun z1 z2 x=>x)
 rintro cv s₁ ⟨v,σ₁,h₁,t₁,hs₁,rv⟩
 refine wpAny_mono (h₁ env A s₁ E pos (r.step t₁ hs₁)).2 ?_ fun z1 z2 x=>x
 rintro cvs s₂ ⟨vs,σ₂,⟨hlen,h₂⟩,t₂,hs₂,rvs⟩
 exact ⟨v::vs,σ₂,⟨by simp [hlen],h₂⟩,t₁.trans t₂,hs₂,by simp only [VRels];exact ⟨cv,cvs,rfl,t₂.v rv,rvs⟩⟩
theorem WE_tuple {es:List Expr} {k:Nat} {pos:Pos} (h:WEs c d sc es m σ (fun vs σ₁=>P (.tup vs) σ₁) X) (hl:es.length<=1000):WE c d sc (.Tuple es k pos) m σ P X:=by
 intro env A s E r
 refine wpAny_Tuple_spliced (wpAny_mono (h env A s E pos r).2 ?_ fun z1 z2 x=>x)
 rintro cvs s₁ ⟨vs,σ₁,⟨hlen,h₁⟩,t₁,hs₁,rv⟩
 have hsz:cvs.length<=sizeLine:=by rw [rv.length,hlen,sizeLine_eq];(exact Ar.l01 (.le (.v 0) (.k 16777216)) [(.le (.v 0) (.k 1000))] (by kernel_rfl) hl)
 exact ⟨hsz,(Post.newTup hs₁ hsz rv h₁).step t₁⟩
theorem WE_list {es:List Expr} {pos:Pos} (h:WEs c d sc es m σ (fun vs σ₁=>P (.lst vs) σ₁) X) (hl:es.length<=1000):WE c d sc (.List es pos) m σ P X:=by
 intro env A s E r
 refine wpAny_List_spliced (wpAny_mono (h env A s E pos r).2 ?_ fun z1 z2 x=>x)
 rintro cvs s₁ ⟨vs,σ₁,⟨hlen,h₁⟩,t₁,hs₁,rv⟩
 have hsz:cvs.length<=sizeLine:=by rw [rv.length,hlen,sizeLine_eq];(exact Ar.l01 (.le (.v 0) (.k 16777216)) [(.le (.v 0) (.k 1000))] (by kernel_rfl) hl)
 exact ⟨hsz,(Post.newLst hs₁ hsz rv h₁).step t₁⟩
theorem WE_list_loc {es:List Expr} {pos:Pos} (h:WEs c d sc es m σ (fun vs σ₁=>∀ a,a∉owned σ₁->a∉c.F->P (.ref a) ((a,.list vs)::σ₁)) X) (hl:es.length<=1000):WE c d sc (.List es pos) m σ P X:=by
 intro env A s E r
 refine wpAny_List_spliced (wpAny_mono (h env A s E pos r).2 ?_ fun z1 z2 x=>x)
 rintro cvs s₁ ⟨vs,σ₁,⟨hlen,h₁⟩,t₁,hs₁,rv⟩
 have hsz:cvs.length<=sizeLine:=by rw [rv.length,hlen,sizeLine_eq];(exact Ar.l01 (.le (.v 0) (.k 16777216)) [(.le (.v 0) (.k 1000))] (by kernel_rfl) hl)
 exact ⟨hsz,(Post.newLoc hs₁ hsz rv h₁).step t₁⟩
theorem zaa {σ:Led} {a:Addr} {o:O} (h:σ.lookup a=some o):(a,o)∈σ:=by
 induction σ with
 | nil=>simp at h
 | cons x r ih=>
  obtain ⟨b,o'⟩:=x
  rw [List.lookup_cons] at h
  cases hb:a == b with
  | true=>rw [hb] at h;cases h;rw [beq_iff_eq.mp hb];exact .head _
  | false=>rw [hb] at h;exact .tail _ (ih h)
inductive IsLst (σ:Led):V->List V->Prop
 | lst (vs:List V):IsLst σ (.lst vs) vs
 | ref {a:Addr} {vs:List V}:σ.lookup a=some (.list vs)->IsLst σ (.ref a) vs
inductive LstQ (c:Cx) (σ:Led) (h:Heap) (vs:List V) (cv:Value):Prop
 | mk (a:Addr) (cs:List Value):cv=.ref a->PlainSeq h "list" a cs->cs.length<=sizeLine->VRels h (ownS c σ) vs cs->LstQ c σ h vs cv
theorem IsLst.plain {A:Around} {h:Heap} {v:V} {vs:List V} {cv:Value} (i:IsLst σ v vs) (st:St c A σ h) (r:VRel h (ownS c σ) v cv) :
  LstQ c σ h vs cv:=by
 cases i with
 | lst=>simp only [VRel] at r;obtain ⟨a,cs,e,_,p,hl,r⟩:=r;exact ⟨a,cs,e,p,hl,r⟩
 | ref hl=>
  simp only [VRel] at r
  obtain ⟨cs,p,hl',r'⟩:=st.objs _ _ (zaa hl)
  exact ⟨_,cs,r,p,hl',r'⟩
theorem PlainSeq.isList {h:Heap} {a:Addr} {cs:List Value} (p:PlainSeq h "list" a cs):h.IsList a cs.toArray:=let ⟨n,e⟩:=p;⟨_,e,rfl,n,rfl⟩
theorem PlainSeq.isTuple {h:Heap} {a:Addr} {cs:List Value} (p:PlainSeq h "tuple" a cs):h.IsTuple a cs.toArray:=let ⟨n,e⟩:=p;⟨_,e,rfl,n,rfl⟩
theorem WE_sub {v i:Expr} {pos:Pos} (h:WE c d sc v m σ (fun a σ₁=>WE c d sc i m σ₁ (fun b σ₂=>Op2 c d (PyProof.Rows.subscriptTail v i) a b σ₂ P) X) X):WE c d sc (.Subscript v i pos) m σ P X:=by
 intro env A s E r
 refine PyProof.Rows.Subscript_ (wpAny_mono (h env A s E r) ?_ fun z1 z2 x=>x)
 rintro ca s₁ ⟨a,σ₁,h₁,t₁,hs₁,ra⟩
 refine wpAny_mono (h₁ env A s₁ E (r.step t₁ hs₁)) ?_ fun z1 z2 x=>x
 rintro cb s₂ ⟨b,σ₂,h₂,t₂,hs₂,rb⟩
 exact wpAny_mono (h₂ A s₂ E ca cb r.a hs₂ (t₂.v ra) rb) (fun z1 z2 p=>(p.step t₂).step t₁) fun z1 z2 x=>x
noncomputable def place (i:Int) (n:Nat):Option Nat:=if 0<=i then (if i<n then some i.toNat else none) else if 0<=i+n then some (i+n).toNat else none
theorem zbr (i:Int) (n:Nat):seqIndex? i n=place i n:=by
 unfold place seqIndex?
 by_cases h:0<=i
 ·have h':¬ i<0:=by (exact Ar.l10 (.no (.ilt (.v 0) (.k 0))) [(.ile (.k 0) (.v 0))] (by kernel_rfl) h)
  by_cases h2:i<n <;> simp [h,h',h2]
 ·have h':i<0:=by (exact Ar.l10 (.ilt (.v 0) (.k 0)) [(.no (.ile (.k 0) (.v 0)))] (by kernel_rfl) h)
  by_cases h2:0<=i+n
  ·have:i+(n:Int)<n:=by (exact Ar.l11 (.ilt (.a (.v 0) (.c (.v 0))) (.c (.v 0))) [(.no (.ile (.k 0) (.v 0)))] (by kernel_rfl) h)
   simp [h,h',h2,this]
  ·simp [h,h',h2]
set_option tactic.hygienic true
theorem place_lt {i:Int} {n j:Nat} (h:place i n=some j):j<n/\-(n:Int)<=i/\i<n:=by
 unfold place at h
 split at h
 ·rename_i h0
  split at h
  ·rename_i h1
   cases h
   exact ⟨(Int.toNat_lt h0).mpr h1,Int.le_trans (Int.neg_nonpos_of_nonneg (Int.natCast_nonneg n)) h0,h1⟩
  ·cases h
 ·rename_i h0
  split at h
  ·rename_i h1
   cases h
   have h2:i+n<n:=Ar.l11 (.ilt (.a (.v 0) (.c (.v 0))) (.c (.v 0))) [(.no (.ile (.k 0) (.v 0)))] (by kernel_rfl) h0
   exact ⟨(Int.toNat_lt h1).mpr h2,Ar.l11 (.ile (.g (.c (.v 0))) (.v 0)) [(.ile (.k 0) (.a (.v 0) (.c (.v 0))))] (by kernel_rfl) h1,Ar.l11 (.ilt (.v 0) (.c (.v 0))) [(.no (.ile (.k 0) (.v 0)))] (by kernel_rfl) h0⟩
  ·cases h
set_option tactic.hygienic false
theorem zay {i:Int} {n:Nat} (h:0<=i) (h2:i<n):place i n=some i.toNat:=by unfold place;rw [if_pos h,if_pos h2]
noncomputable def za4 (slice:Expr):Prop:=∀ o i,subscripted slice false o i=operate [o,i] (getItem o i)
theorem Op_item_at {v slice:Expr} {lv:V} {vs:List V} {i:Int} {j:Nat} {w:V} (hl:IsLst σ lv vs) (hj:place i vs.length=some j) (hw:vs[j]?=some w) (h:P w σ)
  (hs:za4 slice):Op2 c d (PyProof.Rows.subscriptTail v slice) lv (.int i) σ P:=by
 intro A s E ca cb _ st ra rb
 have hq:=hl.plain st ra
 (try clear rs)
 obtain ⟨a,cs,rfl,p,hsz,rs⟩:=hq
 simp only [VRel] at rb;obtain ⟨u,rfl⟩:=rb
 obtain ⟨cv,hcv,rw'⟩:=rs.get hw
 have hlen:=rs.length
 obtain ⟨hj1,hj2,hj3⟩:=place_lt hj
 have hsz':sizeLine=16777216:=by rw [sizeLine_eq]
 refine PyProof.Rows.tail_any (T:="list") p.isList.typeIs list_getitem_lookup ?_ (hs _ _)
 by_cases h0:0<=i
 ·have:j=i.toNat:=by rw [zay h0 (by (exact Ar.l11 (.ilt (.v 0) (.c (.v 0))) [(.ilt (.v 0) (.c (.v 0)))] (by kernel_rfl) hj3))] at hj;exact (Option.some.inj hj).symm
  subst this
  exact wpAny_getItem_list p.isList h0 (by lia) (by simpa using hcv) (Post.same' st h rw')
 ·have:j=(i+vs.length).toNat:=by unfold place at hj;rw [if_neg h0,if_pos (by (exact Ar.l11 (.ile (.k 0) (.a (.v 0) (.c (.v 0)))) [(.ile (.g (.c (.v 0))) (.v 0))] (by kernel_rfl) hj2))] at hj;exact (Option.some.inj hj).symm
  subst this
  exact wpAny_getItem_list_neg p.isList (by (exact Ar.l10 (.ilt (.v 0) (.k 0)) [(.no (.ile (.k 0) (.v 0)))] (by kernel_rfl) h0)) (by simp [hlen];(exact Ar.l11 (.ile (.g (.c (.v 0))) (.v 0)) [(.ile (.g (.c (.v 0))) (.v 0))] (by kernel_rfl) hj2)) (by lia) (by simpa [hlen] using hcv) (Post.same' st h rw')
theorem Op_item {v slice:Expr} {lv:V} {vs:List V} {i:Int} {w:V} (hl:IsLst σ lv vs) (h0:0<=i) (hw:vs[i.toNat]?=some w) (h:P w σ)
  (hs:za4 slice):Op2 c d (PyProof.Rows.subscriptTail v slice) lv (.int i) σ P:=
 Op_item_at hl (zay h0 (by have:=(List.getElem?_eq_some_iff.mp hw).1;lia)) hw h hs
theorem Op_titem_at {v slice:Expr} {vs:List V} {i:Int} {j:Nat} {w:V} (hj:place i vs.length=some j) (hw:vs[j]?=some w) (h:P w σ)
  (hs:za4 slice):Op2 c d (PyProof.Rows.subscriptTail v slice) (.tup vs) (.int i) σ P:=by
 intro A s E ca cb _ st ra rb
 simp only [VRel] at ra rb
 obtain ⟨a,cs,rfl,hno,⟨n,e⟩,hsz,rs⟩:=ra
 obtain ⟨u,rfl⟩:=rb
 obtain ⟨cv,hcv,rw'⟩:=rs.get hw
 have hlen:=rs.length
 obtain ⟨hj1,hj2,hj3⟩:=place_lt hj
 have hsz':sizeLine=16777216:=by rw [sizeLine_eq]
 refine PyProof.Rows.tail_any (T:="tuple") ⟨_,e,rfl⟩ F.slot_tuple_getitem.lookup ?_ (hs _ _)
 exact PySem.P.getItem_tuple (items:=cs.toArray) e (by lia) (by lia) (by rw [zbr];simpa [hlen] using hj) (by simpa using hcv) (Post.same' st h rw')
theorem Op_titem {v slice:Expr} {vs:List V} {i:Int} {w:V} (h0:0<=i) (hw:vs[i.toNat]?=some w) (h:P w σ)
  (hs:za4 slice):Op2 c d (PyProof.Rows.subscriptTail v slice) (.tup vs) (.int i) σ P:=
 Op_titem_at (zay h0 (by have:=(List.getElem?_eq_some_iff.mp hw).1;lia)) hw h hs
theorem Op_sitem {v slice:Expr} {x:Str} {i:Int} {k:Nat} (h0:0<=i) (hk:x.cps[i.toNat]?=some k) (hn:i<2 ^ 62) (h:P (.str ⟨#[k]⟩) σ)
  (hs:za4 slice):Op2 c d (PyProof.Rows.subscriptTail v slice) (.str x) (.int i) σ P:=by
 intro A s E ca cb _ st ra rb
 simp only [VRel] at ra rb
 obtain ⟨t,rfl⟩:=ra
 obtain ⟨u,rfl⟩:=rb
 refine PyProof.Rows.tail_any (T:="str") (typeIs_str s x t) F.slot_str_getitem.lookup ?_ (hs _ _)
 have hlt:=(Array.getElem?_eq_some_iff.mp hk).1
 refine PySem.P.getItem_str (c:=k) (by simp only [Bool.or_eq_false_iff,decide_eq_false_iff_not];lia) ?_ (Post.same st h (by simp only [VRel];exact ⟨_,rfl⟩))
 rw [zbr,zay h0 (by unfold Str.length;lia)]
 exact hk
noncomputable def clip (o:Option Int) (dflt n:Nat):Nat:=match o with
 | none=>dflt
 | some i=>(max 0 (min (if i<0 then i+n else i) n)).toNat
noncomputable def slice {α:Type} (lo hi:Option Int) (xs:List α):List α:=(xs.drop (clip lo 0 xs.length)).take (clip hi xs.length xs.length - clip lo 0 xs.length)
theorem bounds_clip (lo hi:Option Int) (n:Nat):sliceBounds lo hi none n=(((clip lo 0 n:Nat):Int),((clip hi n n:Nat):Int),1):=by
 have key:∀ (o:Option Int) (dn:Nat),(match o with | none=>(dn:Int) | some i=>max 0 (min (if i<0 then i+(n:Int) else i) n))=((clip o dn n:Nat):Int):=by
  intro o dn
  cases o with
  | none=>rfl
  | some i=>exact (Int.toNat_of_nonneg (Int.le_max_left _ _)).symm
 unfold sliceBounds
 simp only [Option.getD_none,show (1:Int) > 0 by decide,if_true]
 rw [← key lo 0,← key hi n]
 rfl
theorem slicePick_slice (cs:List Value) (lo hi:Option Int):slicePick cs.toArray lo hi none=(slice lo hi cs).toArray:=by
 unfold slicePick slice
 rw [bounds_clip]
 simp only [sliceRange_one,pick_run,List.size_toArray]
theorem strIdx_clip (lo hi:Option Int) (n:Nat):Builtin.Str.strSliceIndices lo hi 1 n=(List.range (clip hi n n - clip lo 0 n)).map (clip lo 0 n+·):=by
 rw [← sliceRange_one]
 have h:=bounds_clip lo hi n
 have h1:=congrArg Prod.fst h
 have h2:=congrArg (fun x=>x.2.1) h
 dsimp only at h1 h2
 rw [← h1,← h2]
 rfl
noncomputable def zaz (lo hi:Option Int) (x:Str):Str:=⟨(slice lo hi x.cps.toList).toArray⟩
inductive PostO (c:Cx) (A:Around) (σ:Led) (s:Shared) (P:Option Int->Led->Prop) (cv:Value) (s':Shared):Prop
 | mk (o:Option Int) (σ':Led):IsPart cv o->P o σ'->Step c.F (owned σ) (owned σ') s s'->St c A σ' s'.heap->PostO c A σ s P cv s'
theorem PostO.imp {A:Around} {s s':Shared} {P P':Option Int->Led->Prop} {cv:Value} (k:∀ v σ',P v σ'->P' v σ') (x:PostO c A σ s P cv s'):PostO c A σ s P' cv s':=by
 obtain ⟨v,σ',q,hp,t,u⟩:=x
 exact ⟨v,σ',q,k v σ' hp,t,u⟩
noncomputable def WEo (c:Cx) (d:Nat) (sc:Scope) (e:Option Expr) (m:AEnv) (σ:Led) (P:Option Int->Led->Prop) (X:XP):Prop:=
 ∀ (env:Env) (A:Around) (s:Shared) (E:Value->Shared->Prop),RE c d sc m σ X env A s E->
  wpAny c.M A (evalPart e env) (PostO c A σ s P) E s
theorem WEo_none {P:Option Int->Led->Prop} (h:P none σ):WEo c d sc none m σ P X:=fun z1 z2 z3 z4 r=>wpAny_pure ⟨none,σ,.none,h,.refl,r.st⟩
theorem WEo_some {e:Expr} {P:Option Int->Led->Prop} (h:WE c d sc e m σ (fun v σ₁=>∃ i,v=.int i/\P (some i) σ₁) X):WEo c d sc (some e) m σ P X:=by
 intro env A s E r
 rw [evalPart_some]
 refine wpAny_mono (h env A s E r) ?_ fun z1 z2 x=>x
 rintro cv s₁ ⟨v,σ₁,⟨i,rfl,h₁⟩,t₁,hs₁,rv⟩
 simp only [VRel] at rv;obtain ⟨t,rfl⟩:=rv
 exact ⟨some i,σ₁,.int i t,h₁,t₁,hs₁⟩
open PyProof.Rows in
theorem part_idx {prog:Program} {w:World} {A:Around} {E:Value->Shared->Prop} {s:Shared} {v:Value} {o:Option Int} {R:Option Int->Shared->Prop} (p:IsPart v o) (r:R o s):wpAny (model prog w) A (Builtin.Slice.slicePartIndex v) R E s:=by
 cases p with
 | none=>exact slicePart_none r
 | int i t=>exact slicePart_int r
theorem pick_tup (cs:List Value) (a n:Nat):((List.range n).filterMap fun (k:Nat)=>cs.toArray[((a:Int)+(k:Int) * 1).toNat]?)=(cs.drop a).take n:=by
 have h:=pick_run cs.toArray a n
 rw [List.filterMap_map] at h
 rw [← h]
 congr 1
 funext k
 rw [Int.mul_one]
 rfl
open PyProof.Rows in
theorem getItem_tup {prog:Program} {w:World} {A:Around} {E:Value->Shared->Prop} {s:Shared} {t sl:Addr} {cs:List Value} {vl vu:Value} {lo hi:Option Int} {a:Nat} {b:Int} {n:Nat} {Q:Value->Shared->Prop} (ht:IsTup s.heap t cs.toArray) (hs:s.heap.IsSliceOf sl vl vu .none) (pl:IsPart vl lo) (pu:IsPart vu hi)
  (e:Builtin.Slice.sliceAdjust lo hi 1 (cs.length:Int)=((a:Int),b)) (en:Builtin.Slice.slicePlaces (a:Int) b 1=n) (hn:n<cs.length) (hz:cs.length<=sizeLine)
  (h:Q (.ref s.heap.objs.size) { s with heap:=s.heap.push { cls:=.type "tuple",data:=.seq ((cs.drop a).take n).toArray } }):wpAny (model prog w) A (getItem (.ref t) (.ref sl)) Q E s:=by
 obtain ⟨os,hos,hcs,hds⟩:=id hs
 have hTs:s.TypeIs (.ref sl) "slice":=⟨os,hos,hcs⟩
 unfold getItem
 try with_reducible refine wpAny_holding ?_
 refine wpAny_bind (wpAny_sequenceKey ht.typeIs (by decide) ?_)
 refine wpAny_bind (wpAny_callSpecial?_slot (name:=Str.ofString "__getitem__") ht.typeIs slot_tuple_getitem
  (wpAny_call_entry slot_tuple_getitem ht.typeIs entry_tuple_getitem ?_ (args_tuple_getitem _ _)))
 show wpAny _ _ (Builtin.Tuple.tupleItemsOf (.ref t) >>= _) _ _ s
 refine wpAny_bind (tupleItemsOf_ ht ?_)
 refine wpAny_bind (wpAny_typeOf hTs ?_)
 rw [if_pos (by decide)]
 unfold Builtin.Slice.sliceApplied Builtin.Slice.sliceFields
 refine wpAny_bind (wpAny_bind (wpAny_bind (wpAny_field hos hds (x:=vl) rfl (wpAny_bind (wpAny_field hos hds (x:=vu) rfl (wpAny_bind (wpAny_field hos hds (x:=.none) rfl (wpAny_pure ?_))))))))
 refine wpAny_bind (slicePart_none ?_)
 show wpAny _ _ (if ((1:Int) == 0)=true then _ else _) _ _ s
 rw [if_neg (by decide)]
 refine wpAny_bind (part_idx pl (wpAny_bind (part_idx pu (wpAny_bind (wpAny_pure ?_)))))
 rw [show Builtin.Slice.sliceAdjust lo hi (none.getD 1) (cs.toArray.size:Int)=((a:Int),b) from e]
 refine wpAny_pure ?_
 show wpAny _ _ (if ((a:Int) == 0 && (1:Int) == 1 && Builtin.Slice.slicePlaces (a:Int) b 1 == cs.length)=true then _ else _) _ _ s
 rw [en,if_neg (fun q=>Nat.ne_of_lt hn (eq_of_beq (Bool.and_eq_true_iff.mp q).2))]
 show wpAny _ _ (Builtin.Tuple.tupleExact ((List.range (Builtin.Slice.slicePlaces (a:Int) b 1)).filterMap fun (k:Nat)=>cs.toArray[((a:Int)+(k:Int) * 1).toNat]?).toArray >>= _) _ _ s
 rw [en,pick_tup]
 refine wpAny_bind (m:=Builtin.Tuple.tupleExact _) (wpAny_newObj_type (wpAny_pure ⟨_,rfl,wpAny_pure h⟩) ?_)
 show ((cs.drop a).take n).length<=_
 rw [List.length_take]
 exact Nat.le_trans (Nat.min_le_left _ _) (Nat.le_trans (Nat.le_of_lt hn) hz)
inductive SliceOf (σ:Led) (lo hi:Option Int):V->V->Prop
 | lst {lv:V} {vs:List V}:IsLst σ lv vs->SliceOf σ lo hi lv (.lst (slice lo hi vs))
 | str {x:Str}:x.length<=sizeLine->SliceOf σ lo hi (.str x) (.str (zaz lo hi x))
 | tup {vs ws:List V} {a:Nat} {b:Int} {n:Nat}:Builtin.Slice.sliceAdjust lo hi 1 (vs.length:Int)=((a:Int),b)->Builtin.Slice.slicePlaces (a:Int) b 1=n->n<vs.length->(vs.drop a).take n=ws->SliceOf σ lo hi (.tup vs) (.tup ws)
theorem VRels.slice {h:Heap} {own:List Addr} {vs:List V} {cs:List Value} (lo hi:Option Int) (r:VRels h own vs cs):VRels h own (slice lo hi vs) (slice lo hi cs):=by
 unfold Mine.slice
 rw [r.length]
 exact (r.drop _).take _
theorem za0 {α:Type} (lo hi:Option Int) (xs:List α):(slice lo hi xs).length<=xs.length:=by
 unfold slice
 rw [List.length_take,List.length_drop]
 exact Nat.le_trans (Nat.min_le_right _ _) (Nat.sub_le _ _)
theorem pick_slice {l u:Option Int} {l' u':Option (Int × Tok)} {x:Str} (el':l'.map (·.1)=l) (eu':u'.map (·.1)=u):(slicePicked x l' u' none).filterMap (x.cps[·]?)=slice l u x.cps.toList:=by
 unfold slicePicked slice
 rw [el',eu']
 show (Builtin.Str.strSliceIndices l u 1 x.length).filterMap _=_
 rw [strIdx_clip,pick_run]
 simp [Str.length]
theorem slice_all {l u:Option Int} {l' u':Option (Int × Tok)} {x:Str} (el':l'.map (·.1)=l) (eu':u'.map (·.1)=u) (hfull':(slicePicked x l' u' none).length=x.length):zaz l u x=x:=by
 unfold zaz
 have hl:(slice l u x.cps.toList)=x.cps.toList:=by
  have h1:(slicePicked x l' u' none).length=clip u x.length x.length - clip l 0 x.length:=by
   unfold slicePicked;rw [el',eu']
   show (Builtin.Str.strSliceIndices l u 1 x.length).length=_
   rw [strIdx_clip];simp
  have hc:clip u x.length x.length<=x.length:=by
   cases u with
   | none=>simp [clip]
   | some j=>exact Int.toNat_le.mpr (Int.max_le.mpr ⟨Int.natCast_nonneg _,Int.min_le_right _ _⟩)
  have h2:x.cps.toList.length=x.length:=by simp [Str.length]
  unfold slice
  rw [h2]
  have h3:clip l 0 x.length=0\/x.length=0:=by
   rcases Nat.eq_zero_or_pos x.length with z | z
   ·exact .inr z
   ·exact .inl (Ar.l04 (.eq (.v 0) (.k 0)) [(.lt (.k 0) (.v 1)),(.eq (.v 2) (.v 1)),(.eq (.v 2) (.s (.v 3) (.v 0))),(.le (.v 3) (.v 1))] (by kernel_rfl) z hfull' h1 hc)
  rcases h3 with h3 | h3
  ·rw [h3,List.drop_zero,List.take_of_length_le (by (exact Ar.l05 (.le (.v 0) (.s (.v 1) (.k 0))) [(.eq (.v 2) (.v 3)),(.eq (.v 2) (.s (.v 1) (.v 4))),(.eq (.v 0) (.v 3))] (by kernel_rfl) hfull' h1 h2))]
  ·have:x.cps.toList=[]:=List.eq_nil_of_length_eq_zero (by (exact Ar.l02 (.eq (.v 0) (.k 0)) [(.eq (.v 0) (.v 1)),(.eq (.v 1) (.k 0))] (by kernel_rfl) h2 h3))
   rw [this];simp
 rw [hl]
theorem part_of {cl:Value} {l:Option Int} (pl:IsPart cl l):∃ l':Option (Int × Tok),cl=partValue l'/\l'.map (·.1)=l:=by
 cases pl with
 | none=>exact ⟨none,rfl,rfl⟩
 | int i t=>exact ⟨some (i,t),rfl,rfl⟩
section
variable {v:Expr} {lo hi:Option Expr} {p:Pos} {A:Around} {E:Value->Shared->Prop} {l u:Option Int} {cl cu ca:Value} {h:Heap} {g:Shared}
theorem tail_lst {a:V} {vs:List V} (hl:IsLst σ a vs) (pl:IsPart cl l) (pu:IsPart cu u) (e:g.heap=h.push { cls:=.type "slice",data:=.fields #[cl,cu,.none] }) (st:St c A σ g.heap) (ra:VRel g.heap (ownS c σ) a ca) (h₃:P (.lst (slice l u vs)) σ) :
  wpAny c.M A (PyProof.Rows.subscriptTail v (.Slice lo hi none p) ca (.ref h.objs.size)) (Post c A σ g P) E g:=by
 have hq:=hl.plain st ra
 (try clear rs)
 obtain ⟨a,cs,rfl,q,hsz,rs⟩:=hq
 refine PyProof.Rows.tail_any (T:="list") q.isList.typeIs list_getitem_lookup ?_ rfl
 refine wpAny_getItem_list_slice q.isList (e ▸ Heap.IsSliceOf.new ..) pl pu .none (by simp) ?_ (by simpa using hsz)
 rw [slicePick_slice]
 exact Post.newLst st (Nat.le_trans (za0 ..) hsz) (rs.slice l u) h₃
set_option tactic.hygienic true
theorem tail_str {x:Str} (hxs:x.length<=sizeLine) (pl:IsPart cl l) (pu:IsPart cu u) (e:g.heap=h.push { cls:=.type "slice",data:=.fields #[cl,cu,.none] }) (st:St c A σ g.heap) (ra:VRel g.heap (ownS c σ) (.str x) ca) (h₃:P (.str (zaz l u x)) σ) :
  wpAny c.M A (PyProof.Rows.subscriptTail v (.Slice lo hi none p) ca (.ref h.objs.size)) (Post c A σ g P) E g:=by
 simp only [VRel] at ra
 obtain ⟨t,rfl⟩:=ra
 refine PyProof.Rows.tail_any (T:="str") (typeIs_str _ x t) F.slot_str_getitem.lookup ?_ rfl
 obtain ⟨l',rfl,el'⟩:=part_of pl
 obtain ⟨u',rfl,eu'⟩:=part_of pu
 refine wpAny_getItem_str_slice (l:=l') (u:=u') (st:=none) ⟨_,e ▸ Heap.get?_push_size _ rfl,rfl,rfl⟩ rfl ?_
 have hpick:=pick_slice (x:=x) el' eu'
 unfold sliceMade
 split
 ·rename_i hfull
  rw [slice_all el' eu' (eq_of_beq (Bool.and_eq_true_iff.mp hfull).2)] at h₃
  exact Post.same' st h₃ (by simp only [VRel];exact ⟨_,rfl⟩)
 ·refine ⟨?_,Post.same st h₃ (by simp only [VRel];exact ⟨_,by rw [hpick];rfl⟩)⟩
  rw [hpick]
  show (slice l u x.cps.toList).toArray.size<=_
  have:=za0 l u x.cps.toList
  have h2:x.cps.toList.length=x.length:=by simp [Str.length]
  simp only [List.size_toArray]
  exact Nat.le_trans this (h2 ▸ hxs)
set_option tactic.hygienic false
theorem tail_tup {vs:List V} {a':Nat} {b:Int} {n:Nat} (e1:Builtin.Slice.sliceAdjust l u 1 (vs.length:Int)=((a':Int),b)) (e2:Builtin.Slice.slicePlaces (a':Int) b 1=n) (e3:n<vs.length) (pl:IsPart cl l) (pu:IsPart cu u) (e:g.heap=h.push { cls:=.type "slice",data:=.fields #[cl,cu,.none] }) (st:St c A σ g.heap) (ra:VRel g.heap (ownS c σ) (.tup vs) ca) (h₃:P (.tup ((vs.drop a').take n)) σ) :
  wpAny c.M A (PyProof.Rows.subscriptTail v (.Slice lo hi none p) ca (.ref h.objs.size)) (Post c A σ g P) E g:=by
 simp only [VRel] at ra
 obtain ⟨a,cs,rfl,hao,⟨m,q⟩,hsz,rs⟩:=ra
 refine PyProof.Rows.tail_any (T:="tuple") ⟨_,q,rfl⟩ F.slot_tuple_getitem.lookup ?_ rfl
 rw [← rs.length] at e1 e3
 refine getItem_tup ⟨_,q,rfl,_,rfl⟩ (e ▸ Heap.IsSliceOf.new ..) pl pu e1 e2 e3 hsz ?_
 refine Post.newTup st ?_ ((rs.drop _).take _) h₃
 rw [List.length_take]
 exact Nat.le_trans (Nat.min_le_left _ _) (Nat.le_trans (Nat.le_of_lt e3) hsz)
end
theorem WE_slice {v:Expr} {lo hi:Option Expr} {p pos:Pos}
  (h:WE c d sc v m σ (fun a σ₁=>WEo c d sc lo m σ₁ (fun l σ₂=>WEo c d sc hi m σ₂ (fun u σ₃=>∃ w,SliceOf σ₃ l u a w/\P w σ₃) X) X) X) :
  WE c d sc (.Subscript v (.Slice lo hi none p) pos) m σ P X:=by
 intro env A s E r
 refine PyProof.Rows.Subscript_ (wpAny_mono (h env A s E r) ?_ fun z1 z2 x=>x)
 rintro ca s₁ ⟨a,σ₁,h₁,t₁,hs₁,ra⟩
 refine wpAny_Slice (wpAny_mono (h₁ env A s₁ E (r.step t₁ hs₁)) ?_ fun z1 z2 x=>x)
 rintro cl s₂ ⟨l,σ₂,pl,h₂,t₂,hs₂⟩
 refine wpAny_mono (h₂ env A s₂ E ((r.step t₁ hs₁).step t₂ hs₂)) ?_ fun z1 z2 x=>x
 rintro cu s₃ ⟨u,σ₃,pu,⟨w,hw,h₃⟩,t₃,hs₃⟩
 rw [evalPart_none]
 refine wpAny_pure ?_
 have hx:=Ext.push (h:=s₃.heap) { cls:=.type "slice",data:=.fields #[cl,cu,.none] }
 have hs₄:=hs₃.ext hx
 have t₄:Step c.F (owned σ₃) (owned σ₃) s₃ { s₃ with heap:=s₃.heap.push { cls:=.type "slice",data:=.fields #[cl,cu,.none] } }:=.ext hx rfl rfl
 have ra':=t₄.v (t₃.v (t₂.v ra))
 have tt:=((t₁.trans t₂).trans t₃).trans t₄
 refine wpAny_mono ?_ (fun z1 z2 q=>Post.step tt q) fun z1 z2 x=>x
 cases hw with
 | lst hl=>exact tail_lst hl pl pu rfl hs₄ ra' h₃
 | tup e1 e2 e3 e4=>subst e4;exact tail_tup e1 e2 e3 pl pu rfl hs₄ ra' h₃
 | str hx=>exact tail_str hx pl pu rfl hs₄ ra' h₃
theorem Op_add_str {x y:Str} (hsz:x.length+y.length<=sizeLine) (h:P (.str (x++y)) σ):Op2 c d (binaryOp .Add) (.str x) (.str y) σ P:=by
 intro A s E ca cb _ st ra rb
 simp only [VRel] at ra rb;obtain ⟨t,rfl⟩:=ra;obtain ⟨u,rfl⟩:=rb
 refine SB.add (hsz:=hsz) (h:=fun t' k=>Post.same st h (by simp only [VRel];exact ⟨_,rfl⟩))
end Mine
end
section
namespace Mine
open PySem
variable {c:Cx} {d:Nat} {sc:Scope} {m:AEnv} {σ:Led} {P:V->Led->Prop} {X:XP} {K:Fl->AEnv->Led->Prop}
noncomputable def But (L:Addr) (h h':Heap):Prop:=∀ b o,b≠L->h.get? b=some o->h'.get? b=some o
theorem But.carries {own:List Addr} {h h':Heap} {L:Addr} {ob:Obj} (hL:h.get? L=some ob) (hq:¬ Frozen ob) (k:But L h h'):Carries own own h h':=fun a o e ha f=>
 ⟨k a o (fun q=>by subst q;rw [e] at hL;cases hL;exact hq f) e,ha⟩
theorem VRel.write {own:List Addr} {h h':Heap} {L:Addr} {ob:Obj} (hL:h.get? L=some ob) (hq:¬ Frozen ob) (k:But L h h') (v:V) (cv:Value) (r:VRel h own v cv):VRel h' own v cv:=r.carry (k.carries hL hq)
theorem VRels.write {own:List Addr} {h h':Heap} {L:Addr} {ob:Obj} (hL:h.get? L=some ob) (hq:¬ Frozen ob) (k:But L h h') (vs:List V) (cs:List Value) (r:VRels h own vs cs):VRels h' own vs cs:=r.carry (k.carries hL hq)
theorem ORel.write {own:List Addr} {h h':Heap} {L:Addr} {ob:Obj} (hL:h.get? L=some ob) (hq:¬ Frozen ob) (k:But L h h') {K:Base} {a:Addr} {o:O} (ha:L∉o.addrs a) (r:ORel K h own a o):ORel K h' own a o:=by
 cases o with
 | list vs=>
  obtain ⟨cs,⟨n,p⟩,hl,r⟩:=r
  exact ⟨cs,⟨n,k a _ (fun q=>ha (by simp [O.addrs,q])) p⟩,hl,VRels.write hL hq k vs cs r⟩
 | dictI _=>exact DictR.carry r (fun ob' e=>k a _ (fun q=>ha (by simp [O.addrs,q])) e) (k.carries hL hq)
 | dictS _=>exact DictR.carry r (fun ob' e=>k a _ (fun q=>ha (by simp [O.addrs,q])) e) (k.carries hL hq)
 | inst _ _ _=>exact InstR.carry r (fun b hb ob' e=>k b _ (fun q=>ha (by subst q;simpa [O.addrs] using hb)) e) (k.carries hL hq)
 | exc C=>obtain ⟨o,vs,e,q1,q2⟩:=r;exact ⟨o,vs,k a _ (fun q=>ha (by simp [O.addrs,q])) e,q1,q2⟩
theorem za8 {h h' base:Heap}:∀ {l:List Env},h.FunFrames base l->(∀ L∈l.filterMap (·.frame),∃ o,h'.get? L=some o/\∀ vs,o.data≠.fields vs)->h'.FunFrames base l
 | [],_,_=>trivial
 | env::l,hf,k=>by
  obtain ⟨hk,⟨L,o,hL,hn,ho,hd⟩,hr⟩:=hf
  obtain ⟨o',ho',hd'⟩:=k L (by simp [hL])
  exact ⟨hk,⟨L,o',hL,hn,ho',hd'⟩,za8 hr fun L' hL'=>k L' (by rw [List.filterMap_cons,hL];exact List.mem_cons_of_mem _ hL')⟩
theorem St.write {A:Around} {h h':Heap} {L:Addr} {ob ob':Obj} (st:St c A σ h) (hno:L∉owned σ) (h0:c.k.h0.get? L=none) (hL:h.get? L=some ob) (hq:¬ Frozen ob) (k:But L h h')
  (hL':h'.get? L=some ob') (hc:Obj.isDict ob->Obj.isDict ob') (hf:(∀ vs,ob.data≠.fields vs)->∀ vs,ob'.data≠.fields vs):St c A σ h':=by
 refine ⟨fun b o e=>k b o (fun q=>by rw [q,h0] at e;cases e) (st.keep b o e),st.nodup,st.fresh,fun a o hm=>?_,?_,fun b hb=>?_,fun b hb=>?_⟩
 ·exact (st.objs a o hm).write hL hq k fun q=>hno (mem_owned.mpr ⟨a,o,hm,q⟩)
 ·obtain ⟨l,hl,hfr,hd⟩:=st.frames
  refine ⟨l,hl,za8 hfr fun L' hL''=>?_,fun L' hL''=>⟨(hd L' hL'').1,(hd L' hL'').2.1,fun o e=>?_⟩⟩
  ·obtain ⟨_,o,ho,hnf⟩:=hfr.mem hL''
   by_cases e:L'=L
   ·subst e;rw [hL] at ho;cases ho;exact ⟨_,hL',hf hnf⟩
   ·exact ⟨o,k L' o e ho,hnf⟩
  ·obtain ⟨_,o',ho,hnf⟩:=hfr.mem hL''
   by_cases q:L'=L
   ·subst q
    rw [hL'] at e;cases e
    exact hc ((hd L' hL'').2.2 _ hL)
   ·rw [k L' o' q ho] at e;cases e;exact (hd L' hL'').2.2 _ ho
 ·obtain ⟨o,e⟩:=st.prot b hb
  by_cases q:b=L
  ·subst q;exact ⟨_,hL'⟩
  ·exact ⟨o,k b o q e⟩
 ·obtain ⟨q1,o,e⟩:=st.hid b hb
  refine ⟨q1,?_⟩
  by_cases q:b=L
  ·subst q;exact ⟨_,hL'⟩
  ·exact ⟨o,k b o q e⟩
theorem zbp {o:Obj} {es ep} (h:o.data=.dict es ep):¬ Frozen o:=fun f=>f.notDict ⟨_,_,h⟩
theorem not_seq_cell {o:Obj} {v} (h:o.data=.cell v):¬ Frozen o:=fun f=>by
 rcases f with ⟨xs,n,q⟩ | ⟨⟨xs,q⟩,_⟩ | ⟨_,_,_,q⟩ <;> rw [h] at q <;> cases q
theorem there_but {h h':Heap} {L:Addr} (hL:∃ o,h'.get? L=some o) (k:But L h h'):∀ b o,h.get? b=some o->∃ o',h'.get? b=some o':=fun b o e=>by
 by_cases q:b=L
 ·exact q ▸ hL
 ·exact ⟨o,k b o q e⟩
theorem Step.write {F own W:List Addr} {s:Shared} {h':Heap} {L:Addr} {t:Nat} (hW:L∈W) (hF:L∉F) (hL:∃ o,h'.get? L=some o) (k:But L s.heap h'):Step F (W++own) (W++own) s { s with heap:=h',toks:=t }:=
 ⟨Kept.of fun b o e hb=>k b o (fun q=>hb (by rw [q];exact List.mem_append_left _ hW)) e,there_but hL k,fun b hb o e=>k b o (fun q=>hF (q ▸ hb)) e,.refl,rfl,rfl⟩
noncomputable def AStored (c:Cx) (A:Around) (env:Env) (σ:Led) (s:Shared) (x:Str) (m':AEnv) (s':Shared):Prop:=
 (Step c.F (places env++owned σ) (places env++owned σ) s s'/\St c A σ s'.heap/\EnvRel c (ownS c σ) env m' s'.heap)/\
  ∃ L h' tk,s'={ s with heap:=h',toks:=tk }/\But L s.heap h'/\((env.kindOf x=some .local/\L=env.locals)\/(env.kindOf x=some .cell/\env.cells.lookup x=some L))
theorem zbt {A:Around} {s:Shared} {env:Env} {E:Value->Shared->Prop} {x:Str} {v:V} {cv:Value} (ok:EnvOk env) (st:St c A σ s.heap) (er:EnvRel c (ownS c σ) env m s.heap) (rv:VRel s.heap (ownS c σ) v cv)
  (hk:env.kindOf x=some .local\/env.kindOf x=some .cell) :
  wpAny c.M A (storeName env x cv) (fun z1 s'=>AStored c A env σ s x ((x,v)::m) s') E s:=by
 obtain ⟨mc,hn,hm⟩:=er.ns
 have hpl:(env.scope.kind == .class || (env.scope.kind == .module && env.locals != env.globals))=false:=by rw [ok.kind];rfl
 rcases hk with hk | hk
 ·refine wpAny_storeName_local hk hn (fun h' hn' hs'=>?_) hpl
  obtain ⟨oL,es,ep,hoL,hdL,_⟩:=id hn
  obtain ⟨oL',es',ep',hoL',hdL',_⟩:=id hn'
  have hq:=zbp hdL
  have kb:But env.locals s.heap h':=fun b o hb e=>(hs'.2 b hb).trans e
  refine ⟨⟨.write (by simp [places]) er.lnot.2.2 ⟨_,hoL'⟩ kb,st.write (fun q=>er.lnot.1 (List.mem_append_right _ q)) er.lnot.2.1 hoL hq kb hoL' (fun z1=>⟨_,_,hdL'⟩) (fun z1 vs e=>by rw [hdL'] at e;cases e),?_⟩,env.locals,h',_,rfl,kb,.inl ⟨hk,rfl⟩⟩
  refine ⟨⟨_,hn',fun y w hy hky=>?_⟩,fun y w hy hky=>?_,er.lnot,fun y a ha=>?_,er.apart⟩
  ·by_cases e:y=x
   ·subst e
    rw [List.lookup_cons_self] at hy;cases hy
    exact ⟨cv,by simp,rv.write hoL hq kb⟩
   ·rw [List.lookup_cons,beq_eq_false_iff_ne.mpr e] at hy
    obtain ⟨cw,e1,r⟩:=hm y w hy hky
    exact ⟨cw,by simp [e,e1],r.write hoL hq kb⟩
  ·have hne:y≠x:=fun q=>by subst q;rw [hk] at hky;simp at hky
   rw [List.lookup_cons,beq_eq_false_iff_ne.mpr hne] at hy
   obtain ⟨a,cw,e1,hc,r⟩:=er.cell y w hy hky
   obtain ⟨oc,hoc,hdc⟩:=hc
   exact ⟨a,cw,e1,⟨oc,kb a oc (er.cnot y a (mem_of_lookup e1)).2.1 hoc,hdc⟩,r.write hoL hq kb⟩
  ·obtain ⟨h1,h2,h3,h4,v',oc,hoc,hdc⟩:=er.cnot y a ha
   exact ⟨h1,h2,h3,h4,v',oc,kb a oc h2 hoc,hdc⟩
 ·obtain ⟨a,ha⟩:=ok.cell x (.inl hk)
  obtain ⟨h1,h2,h3,hF,v',hc⟩:=er.cnot x a (mem_of_lookup ha)
  refine wpAny_storeName_cell ok.kind hk ha hc fun h' hc' hs'=>?_
  obtain ⟨oL,hoL,hdL⟩:=id hc
  obtain ⟨oL',hoL',hdL'⟩:=id hc'
  have hq:=not_seq_cell hdL
  have kb:But a s.heap h':=fun b o hb e=>(hs'.2 b hb).trans e
  have hpa:a∈places env:=by simp only [places,List.mem_cons,List.mem_map];exact .inr ⟨(x,a),mem_of_lookup ha,rfl⟩
  refine ⟨⟨.write (t:=s.toks) hpa hF ⟨_,hoL'⟩ kb,st.write (fun q=>h1 (List.mem_append_right _ q)) h3 hoL hq kb hoL' (fun ⟨_,_,e⟩=>by rw [hdL] at e;cases e) (fun z1 vs e=>by rw [hdL'] at e;cases e),?_⟩,a,h',s.toks,rfl,kb,.inr ⟨hk,ha⟩⟩
  refine ⟨⟨mc,hn.sameBut hs' (Ne.symm h2),fun y w hy hky=>?_⟩,fun y w hy hky=>?_,er.lnot,fun y b hb=>?_,er.apart⟩
  ·have hne:y≠x:=fun q=>by subst q;rw [hk] at hky;simp at hky
   rw [List.lookup_cons,beq_eq_false_iff_ne.mpr hne] at hy
   obtain ⟨cw,e1,r⟩:=hm y w hy hky
   exact ⟨cw,e1,r.write hoL hq kb⟩
  ·by_cases e:y=x
   ·subst e
    rw [List.lookup_cons_self] at hy;cases hy
    exact ⟨a,cv,ha,hc',rv.write hoL hq kb⟩
   ·rw [List.lookup_cons,beq_eq_false_iff_ne.mpr e] at hy
    obtain ⟨b,cw,e1,hcb,r⟩:=er.cell y w hy hky
    have hba:b≠a:=fun q=>e (name_of_addr er.apart (mem_of_lookup e1) (q ▸ mem_of_lookup ha))
    obtain ⟨oc,hoc,hdc⟩:=hcb
    exact ⟨b,cw,e1,⟨oc,kb b oc hba hoc,hdc⟩,r.write hoL hq kb⟩
  ·obtain ⟨g1,g2,g3,g4,w,oc,hoc,hdc⟩:=er.cnot y b hb
   by_cases q:b=a
   ·subst q;exact ⟨g1,g2,g3,g4,some cv,hc'⟩
   ·exact ⟨g1,g2,g3,g4,w,oc,kb b oc q hoc,hdc⟩
end Mine
end
section
namespace Mine
open PySem
variable {c:Cx} {d:Nat} {sc:Scope} {m:AEnv} {σ:Led} {P:V->Led->Prop} {X:XP} {K:Fl->AEnv->Led->Prop}
theorem EnvRel.places {own:List Addr} {env:Env} {h:Heap} (er:EnvRel c own env m h):∀ b∈places env,∀ o,h.get? b=some o->¬ Frozen o:=by
 intro b hb o e
 simp only [Mine.places,List.mem_cons,List.mem_map] at hb
 rcases hb with rfl | ⟨⟨x,a⟩,hm,rfl⟩
 ·obtain ⟨mc,⟨oL,es,ep,ho,hd,_⟩,_⟩:=er.ns
  rw [ho] at e;cases e;exact zbp hd
 ·obtain ⟨_,_,_,_,v,oc,hoc,hdc⟩:=er.cnot x a hm
  dsimp only at e
  rw [hoc] at e;cases e;exact not_seq_cell hdc
theorem Step.carriesP {F own own' H:List Addr} {env:Env} {s s':Shared} (er:EnvRel c (H++own) env m s.heap) (t:Step F (places env++own) (places env++own') s s'):Carries (H++own) (H++own') s.heap s'.heap:=by
 intro a o e ha f
 have hn:a∉places env++own:=fun q=>(List.mem_append.mp q).elim (fun q=>er.places a q o e f) fun q=>ha (List.mem_append_right _ q)
 refine ⟨t.kept.exact e hn f.notDict,fun q=>?_⟩
 rcases List.mem_append.mp q with q | q
 ·exact ha (List.mem_append_left _ q)
 ·exact t.grow.notin hn e (List.mem_append_right _ q)
theorem Step.vps {own own' H:List Addr} {env:Env} {s s':Shared} {vs:List V} {cs:List Value} (er:EnvRel c (H++own) env m s.heap) (t:Step c.F (places env++own) (places env++own') s s') (r:VRels s.heap (H++own) vs cs):VRels s'.heap (H++own') vs cs:=r.carry (t.carriesP er)
theorem Step.vp {own own' H:List Addr} {env:Env} {s s':Shared} {v:V} {cv:Value} (er:EnvRel c (H++own) env m s.heap) (t:Step c.F (places env++own) (places env++own') s s') (r:VRel s.heap (H++own) v cv):VRel s'.heap (H++own') v cv:=by
 have:=t.vps er (VRels.one r)
 simp only [VRels] at this
 obtain ⟨c',cs',e,r,_⟩:=this
 cases e;exact r
theorem RS.estep {σ₁:Led} {env:Env} {A:Around} {s s₁:Shared} {E:Value->Shared->Prop} (x:RS c d sc m σ X env A s E) (t:Step c.F (owned σ) (owned σ₁) s s₁) (h:St c A σ₁ s₁.heap):RS c d sc m σ₁ X env A s₁ E:=
 x.step t.wider h (x.er.mono t.kept.wider t.grow.wider)
inductive PostA (c:Cx) (A:Around) (env:Env) (σ:Led) (s:Shared) (K:AEnv->Led->Prop) (s':Shared):Prop
 | mk (m':AEnv) (σ':Led):K m' σ'->Step c.F (places env++owned σ) (places env++owned σ') s s'->St c A σ' s'.heap->EnvRel c (ownS c σ') env m' s'.heap->PostA c A env σ s K s'
theorem PostA.step {A:Around} {env:Env} {σ₁:Led} {s s₁ s':Shared} {K:AEnv->Led->Prop} (st:Step c.F (places env++owned σ) (places env++owned σ₁) s s₁) (x:PostA c A env σ₁ s₁ K s'):PostA c A env σ s K s':=by
 obtain ⟨m',σ',hp,st',h,r⟩:=x
 exact ⟨m',σ',hp,st.trans st',h,r⟩
theorem PostA.imp {A:Around} {env:Env} {s s':Shared} {K K':AEnv->Led->Prop} (k:∀ m' σ',K m' σ'->K' m' σ') (x:PostA c A env σ s K s'):PostA c A env σ s K' s':=by
 obtain ⟨m',σ',hp,t,u,w⟩:=x
 exact ⟨m',σ',k m' σ' hp,t,u,w⟩
noncomputable def WA (c:Cx) (d:Nat) (sc:Scope) (t:Expr) (v:V) (m:AEnv) (σ:Led) (K:AEnv->Led->Prop) (X:XP):Prop:=
 ∀ (env:Env) (A:Around) (s:Shared) (E:Value->Shared->Prop) (cv:Value),RS c d sc m σ X env A s E->VRel s.heap (ownS c σ) v cv->wpAny c.M A (assign t env cv) (fun z1 s'=>PostA c A env σ s K s') E s
noncomputable def WAs (c:Cx) (d:Nat) (sc:Scope) (ts:List Expr) (vs:List V) (m:AEnv) (σ:Led) (K:AEnv->Led->Prop) (X:XP):Prop:=
 ∀ (env:Env) (A:Around) (s:Shared) (E:Value->Shared->Prop) (cvs:List Value),RS c d sc m σ X env A s E->VRels s.heap (ownS c σ) vs cvs->
  (assignEach ts env).length=vs.length/\(assignEach ts env).findIdx? (·.1)=none/\wpAny c.M A (assignInOrder ((assignEach ts env).map (·.2)) cvs) (fun z1 s'=>PostA c A env σ s K s') E s
noncomputable def isLoc (sc:Scope) (x:Str):Bool:=match sc.names.lookup x with
 | some .local | some .cell=>true
 | _=>false
theorem isLoc_kind {sc:Scope} {x:Str} (h:isLoc sc x=true):sc.names.lookup x=some .local\/sc.names.lookup x=some .cell:=by
 unfold isLoc at h
 split at h <;> simp_all
theorem WA_name {x:Str} {pos:Pos} {v:V} {K:AEnv->Led->Prop} (h:K ((x,v)::m) σ) (hk:isLoc sc x=true):WA c d sc (.Name x pos) v m σ K X:=by
 intro env A s E cv r rv
 refine wpAny_assign_Name (wpAny_mono (zbt r.ok r.st r.er rv (by unfold Env.kindOf;rw [r.sc];exact isLoc_kind hk)) ?_ fun z1 z2 x=>x)
 rintro _ s' ⟨⟨t,hs,er⟩,_⟩
 exact ⟨_,σ,h,t,hs,er⟩
theorem WAs_nil {K:AEnv->Led->Prop} (h:K m σ):WAs c d sc [] [] m σ K X:=by
 intro env A s E cvs r rv
 simp only [VRels] at rv;subst rv
 exact ⟨rfl,rfl,wpAny_pure ⟨m,σ,h,.refl,r.st,r.er⟩⟩
theorem WAs_cons {t:Expr} {ts:List Expr} {v:V} {vs:List V} {K:AEnv->Led->Prop} (h:WA c d sc t v m σ (fun m₁ σ₁=>WAs c d sc ts vs m₁ σ₁ K X) X)
  (hst:∀ env,assignEach (t::ts) env=(false,assign t env)::assignEach ts env) (hlen:∀ env,(assignEach ts env).length=vs.length)
  (hfi:∀ env,(assignEach ts env).findIdx? (·.1)=none):WAs c d sc (t::ts) (v::vs) m σ K X:=by
 intro env A s E cvs r rv
 simp only [VRels] at rv
 obtain ⟨cv,cvs',rfl,r1,rs⟩:=rv
 rw [hst env]
 refine ⟨by simp [hlen env],by simp [List.findIdx?_cons,hfi env],?_⟩
 show wpAny _ _ (do holding cvs' (assign t env cv);assignInOrder ((assignEach ts env).map (·.2)) cvs') _ _ _
 refine wpAny_bind (wpAny_holding (wpAny_mono (h env A s E cv r r1) ?_ fun z1 z2 x=>x))
 rintro _ s₁ ⟨m₁,σ₁,h₁,t₁,hs₁,er₁⟩
 exact wpAny_mono (h₁ env A s₁ E cvs' (r.step t₁ hs₁ er₁) (t₁.vps r.er rs)).2.2 (fun z1 z2 p=>p.step t₁) fun z1 z2 x=>x
theorem WA_tuple (hh:c.k.hd=true) {ts:List Expr} {k:Nat} {pos:Pos} {vs:List V} {K:AEnv->Led->Prop} (h:WAs c d sc ts vs m σ K X):WA c d sc (.Tuple ts k pos) (.tup vs) m σ K X:=by
 intro env A s E cv r rv
 simp only [VRel] at rv
 obtain ⟨a,cs,rfl,ha,p,hl,rs⟩:=rv
 have hlen:=rs.length
 obtain ⟨h1,h2,_⟩:=h env A s E cs r rs
 refine wpAny_assign_Tuple (r.a.handled hh) p.isTuple (by simp [h1,hlen]) h2 fun h' hx=>?_
 have hx':Ext s.heap h':=fun b o e=>hx b o (Nat.ne_of_lt (Heap.lt_size e)) e
 have t₁:Step c.F (owned σ) (owned σ) s { s with heap:=h' }:=.ext hx' rfl rfl
 have hs₁:St c A σ h':=r.st.ext hx'
 exact wpAny_mono (h env A { s with heap:=h' } E cs (r.estep t₁ hs₁) (t₁.vs rs)).2.2 (fun z1 z2 p=>p.step t₁.wider) fun z1 z2 x=>x
theorem WSs_nil (h:K .next m σ):WSs c d sc [] m σ K X:=fun env A s E r=>wpAny_execs_nil ⟨.next,m,σ,h,.refl,r.st,r.er,rfl⟩
noncomputable def after (K:Fl->AEnv->Led->Prop) (N:AEnv->Led->Prop):Fl->AEnv->Led->Prop
 | .next,m,σ=>N m σ
 | fl,m,σ=>K fl m σ
theorem WSs_cons {st:Stmt} {sts:List Stmt} (h:WS c d sc st m σ (after K fun m₁ σ₁=>WSs c d sc sts m₁ σ₁ K X) X):WSs c d sc (st::sts) m σ K X:=by
 intro env A s E r
 refine wpAny_execs_cons (wpAny_mono (h env A s E r) ?_ fun z1 z2 x=>x)
 rintro f s₁ ⟨fl,m₁,σ₁,h₁,t₁,hs₁,er₁,rf⟩
 cases fl with
 | next=>
  cases rf
  exact wpAny_mono (h₁ env A s₁ E (r.step t₁ hs₁ er₁)) (fun z1 z2 p=>p.step t₁) fun z1 z2 x=>x
 | brk=>cases rf;exact ⟨.brk,m₁,σ₁,h₁,t₁,hs₁,er₁,rfl⟩
 | cont=>cases rf;exact ⟨.cont,m₁,σ₁,h₁,t₁,hs₁,er₁,rfl⟩
 | ret v=>obtain ⟨cv,rfl,rv⟩:=rf;exact ⟨.ret v,m₁,σ₁,h₁,t₁,hs₁,er₁,cv,rfl,rv⟩
noncomputable def Sub (m' m:AEnv):Prop:=∀ x v,m'.lookup x=some v->m.lookup x=some v
theorem EnvRel.sub {own:List Addr} {env:Env} {m':AEnv} {h:Heap} (x:EnvRel c own env m h) (k:Sub m' m):EnvRel c own env m' h:=by
 obtain ⟨mc,hn,hm⟩:=x.ns
 exact ⟨⟨mc,hn,fun y v hy=>hm y v (k y v hy)⟩,fun y v hy=>x.cell y v (k y v hy),x.lnot,x.cnot,x.apart⟩
theorem WSs_sub {sts:List Stmt} {m':AEnv} (k:Sub m' m) (h:WSs c d sc sts m' σ K X):WSs c d sc sts m σ K X:=
 fun env A s E r=>h env A s E ⟨r.sc,r.ok,r.fr,r.a,r.st,r.er.sub k,r.e⟩
theorem WS_return {e:Expr} {pos:Pos} (h:WE c d sc e m σ (fun v σ₁=>K (.ret v) m σ₁) X):WS c d sc (.Return (some e) pos) m σ K X:=by
 intro env A s E r
 refine wpAny_Return_some (wpAny_mono (h env A s E r.re) ?_ fun z1 z2 x=>x)
 rintro cv s₁ ⟨v,σ₁,h₁,t₁,hs₁,rv⟩
 exact ⟨.ret v,m,σ₁,h₁,t₁.wider,hs₁,r.er.mono t₁.kept.wider t₁.grow.wider,cv,rfl,rv⟩
theorem WS_return_none {pos:Pos} (h:K (.ret .none) m σ):WS c d sc (.Return none pos) m σ K X:=
 fun env A s E r=>wpAny_Return_none ⟨.ret .none,m,σ,h,.refl,r.st,r.er,.none,rfl,by simp only [VRel]⟩
theorem WS_pass {pos:Pos} (h:K .next m σ):WS c d sc (.Pass pos) m σ K X:=fun env A s E r=>wpAny_Pass ⟨.next,m,σ,h,.refl,r.st,r.er,rfl⟩
theorem WS_continue {pos:Pos} (h:K .cont m σ):WS c d sc (.Continue pos) m σ K X:=fun env A s E r=>wpAny_Continue ⟨.cont,m,σ,h,.refl,r.st,r.er,rfl⟩
theorem WS_break {pos:Pos} (h:K .brk m σ):WS c d sc (.Break pos) m σ K X:=fun env A s E r=>wpAny_Break ⟨.brk,m,σ,h,.refl,r.st,r.er,rfl⟩
theorem WS_if {t:Expr} {b o:List Stmt} {pos:Pos} (h:WT c d sc t m σ (fun k σ₁=>if k=true then WSs c d sc b m σ₁ K X else WSs c d sc o m σ₁ K X) X):WS c d sc (.If t b o pos) m σ K X:=by
 intro env A s E r
 refine wpAny_If (wpAny_mono (h env A s E r.re) ?_ fun z1 z2 x=>x)
 rintro k s₁ ⟨σ₁,h₁,t₁,hs₁⟩
 cases k with
 | true=>exact wpAny_mono (h₁ env A s₁ E (r.estep t₁ hs₁)) (fun z1 z2 p=>p.step t₁.wider) fun z1 z2 x=>x
 | false=>exact wpAny_mono (h₁ env A s₁ E (r.estep t₁ hs₁)) (fun z1 z2 p=>p.step t₁.wider) fun z1 z2 x=>x
theorem WS_expr {e:Expr} {pos:Pos} (h:WE c d sc e m σ (fun z1 σ₁=>K .next m σ₁) X) (hs:∀ env,swapsWith e none pos.line env=pure false):WS c d sc (.Expr e pos) m σ K X:=by
 intro env A s E r
 refine wpAny_Expr_any (wpAny_mono (h env A s E r.re) ?_ fun z1 z2 x=>x) (by unfold interactive;rw [r.ok.kind];rfl) (hs env)
 rintro cv s₁ ⟨v,σ₁,h₁,t₁,hs₁,rv⟩
 exact ⟨.next,m,σ₁,h₁,t₁.wider,hs₁,r.er.mono t₁.kept.wider t₁.grow.wider,rfl⟩
theorem WS_assign {t v:Expr} {pos:Pos} (h:WE c d sc v m σ (fun w σ₁=>WA c d sc t w m σ₁ (fun m' σ'=>K .next m' σ') X) X)
  (hs:∀ env,env.scope=sc->swapsWithSole [t] v pos.line env=pure false) (hw:∀ env,swappedStores [t] v env=pure none)
  (he:∀ env,assignEach [t] env=[(false,assign t env)]):WS c d sc (.Assign [t] v pos) m σ K X:=by
 intro env A s E r
 refine wpAny_Assign_stores (wpAny_mono (h env A s E r.re) ?_ fun z1 z2 x=>x) (hs env r.sc) (hw env)
 rintro cv s₁ ⟨w,σ₁,h₁,t₁,hs₁,rw'⟩
 rw [he env]
 show wpAny _ _ (assign t env cv) _ _ _
 refine wpAny_mono (h₁ env A s₁ E cv (r.estep t₁ hs₁) rw') ?_ fun z1 z2 x=>x
 rintro _ s₂ ⟨m₂,σ₂,h₂,t₂,hs₂,er₂⟩
 exact ⟨.next,m₂,σ₂,h₂,t₁.wider.trans t₂,hs₂,er₂,rfl⟩
end Mine
end
section
namespace Mine
open PySem
variable {c:Cx} {d:Nat} {sc:Scope} {m:AEnv} {σ:Led} {P:V->Led->Prop} {X:XP} {K:Fl->AEnv->Led->Prop}
noncomputable def NoX:XP:=fun z1 z2=>False
theorem EOkS.nox {A:Around} {env:Env} {s:Shared} {E:Value->Shared->Prop}:EOkS c A NoX env σ s E:=fun z1 z2 z3 z4 h=>h.elim
theorem EOk.nox {A:Around} {own:List Addr} {s:Shared} {E:Value->Shared->Prop}:EOk c A NoX own s E:=fun z1 z2 z3 z4 h=>h.elim
noncomputable def Cx.pro (c:Cx) (G:List Addr):Cx:={ c with F:=G++c.F }
theorem St.pro {A:Around} {h:Heap} {G:List Addr} (st:St c A σ h) (hG:∀ b∈G,b∈owned σ):St (c.pro G) A σ h:=by
 obtain ⟨l,hl,hf,hd⟩:=st.frames
 refine ⟨st.keep,st.nodup,st.fresh,st.objs,⟨l,hl,hf,fun L hL=>⟨(hd L hL).1,fun hm=>?_,(hd L hL).2.2⟩⟩,fun b hb=>?_,st.hid⟩
 ·rcases List.mem_append.mp hm with q | q
  ·exact (hd L hL).1 (hG L q)
  ·exact (hd L hL).2.1 q
 ·rcases List.mem_append.mp hb with q | q
  ·exact st.there (hG b q)
  ·exact st.prot b q
theorem St.unpro {A:Around} {h:Heap} {G:List Addr} (st:St (c.pro G) A σ h):St c A σ h:=by
 obtain ⟨l,hl,hf,hd⟩:=st.frames
 exact ⟨st.keep,st.nodup,st.fresh,st.objs,⟨l,hl,hf,fun L hL=>⟨(hd L hL).1,fun hm=>(hd L hL).2.1 (List.mem_append_right _ hm),(hd L hL).2.2⟩⟩,fun b hb=>st.prot b (List.mem_append_right _ hb),st.hid⟩
theorem EnvRel.pro {env:Env} {h:Heap} {G:List Addr} (er:EnvRel c (ownS c σ) env m h) (hG:∀ b∈G,b∈owned σ):EnvRel (c.pro G) (ownS c σ) env m h:=by
 refine ⟨er.ns,er.cell,⟨er.lnot.1,er.lnot.2.1,fun hm=>?_⟩,fun x a ha=>?_,er.apart⟩
 ·rcases List.mem_append.mp hm with q | q
  ·exact er.lnot.1 (List.mem_append_right _ (hG _ q))
  ·exact er.lnot.2.2 q
 ·obtain ⟨h1,h2,h3,h4,h5⟩:=er.cnot x a ha
  refine ⟨h1,h2,h3,fun hm=>?_,h5⟩
  rcases List.mem_append.mp hm with q | q
  ·exact h1 (List.mem_append_right _ (hG _ q))
  ·exact h4 q
theorem EnvRel.unpro {own:List Addr} {env:Env} {h:Heap} {G:List Addr} (er:EnvRel (c.pro G) own env m h):EnvRel c own env m h:=by
 refine ⟨er.ns,er.cell,⟨er.lnot.1,er.lnot.2.1,fun hm=>er.lnot.2.2 (List.mem_append_right _ hm)⟩,fun x a ha=>?_,er.apart⟩
 obtain ⟨h1,h2,h3,h4,h5⟩:=er.cnot x a ha
 exact ⟨h1,h2,h3,fun hm=>h4 (List.mem_append_right _ hm),h5⟩
theorem Step.unpro {G own own':List Addr} {s s':Shared} (t:Step (c.pro G).F own own' s s'):Step c.F own own' s s':=⟨t.kept,t.there,fun b hb=>t.prot b (List.mem_append_right _ hb),t.grow,t.os,t.gens⟩
noncomputable def ButL (wr:List Addr) (h h':Heap):Prop:=∀ b o,b∉wr->h.get? b=some o->h'.get? b=some o
theorem ButL.carries {own wr:List Addr} {h h':Heap} (hq:∀ b∈wr,∀ o,h.get? b=some o->¬ Frozen o) (k:ButL wr h h'):Carries own own h h':=fun a o e ha f=>⟨k a o (fun q=>hq a q o e f) e,ha⟩
theorem VRel.writeL {own wr:List Addr} {h h':Heap} (hq:∀ b∈wr,∀ o,h.get? b=some o->¬ Frozen o) (k:ButL wr h h') (v:V) (cv:Value) (r:VRel h own v cv):VRel h' own v cv:=r.carry (k.carries hq)
theorem VRels.writeL {own wr:List Addr} {h h':Heap} (hq:∀ b∈wr,∀ o,h.get? b=some o->¬ Frozen o) (k:ButL wr h h') (vs:List V) (cs:List Value) (r:VRels h own vs cs):VRels h' own vs cs:=r.carry (k.carries hq)
theorem ORel.writeL {own wr:List Addr} {h h':Heap} (hq:∀ b∈wr,∀ o,h.get? b=some o->¬ Frozen o) (k:ButL wr h h') {K:Base} {a:Addr} {o:O} (ha:∀ b∈o.addrs a,b∉wr) (r:ORel K h own a o):ORel K h' own a o:=by
 cases o with
 | list vs=>
  obtain ⟨cs,⟨n,p⟩,hl,r⟩:=r
  exact ⟨cs,⟨n,k a _ (ha a (by simp [O.addrs])) p⟩,hl,VRels.writeL hq k vs cs r⟩
 | dictI _=>exact DictR.carry r (fun ob' e=>k a _ (ha a (by simp [O.addrs])) e) (k.carries hq)
 | dictS _=>exact DictR.carry r (fun ob' e=>k a _ (ha a (by simp [O.addrs])) e) (k.carries hq)
 | inst _ _ _=>exact InstR.carry r (fun b hb ob' e=>k b _ (ha b (by simpa [O.addrs] using hb)) e) (ButL.carries hq k)
 | exc C=>obtain ⟨o,vs,e,q1,q2⟩:=r;exact ⟨o,vs,k a _ (ha a (by simp [O.addrs])) e,q1,q2⟩
structure WrOk (c:Cx) (A:Around) (σ:Led) (wr:List Addr) (h:Heap):Prop where
 notown:∀ b∈wr,b∉owned σ
 base:∀ b∈wr,c.k.h0.get? b=none
 notF:∀ b∈wr,b∉c.F
 notH:∀ b∈wr,b∉c.H
 seq:∀ b∈wr,∀ o,h.get? b=some o->¬ Frozen o
 notfr:∀ l,A.frames=some l->∀ L∈l.filterMap (·.frame),L∉wr
theorem St.writeL {A:Around} {wr:List Addr} {h h':Heap} (st:St c A σ h) (w:WrOk c A σ wr h) (k:ButL wr h h'):St c A σ h':=by
 refine ⟨fun b o e=>k b o (fun q=>by rw [w.base b q] at e;cases e) (st.keep b o e),st.nodup,st.fresh,fun a o hm=>?_,?_,fun b hb=>?_,fun b hb=>?_⟩
 ·exact (st.objs a o hm).writeL w.seq k fun b hb q=>w.notown b q (mem_owned.mpr ⟨a,o,hm,hb⟩)
 ·obtain ⟨l,hl,hfr,hd⟩:=st.frames
  refine ⟨l,hl,za8 hfr fun L hL=>?_,fun L hL=>⟨(hd L hL).1,(hd L hL).2.1,fun o e=>?_⟩⟩
  ·obtain ⟨_,o,ho,hnf⟩:=hfr.mem hL
   exact ⟨o,k L o (w.notfr l hl L hL) ho,hnf⟩
  ·obtain ⟨_,o',e',_⟩:=hfr.mem hL
   rw [k L o' (w.notfr l hl L hL) e'] at e;cases e
   exact (hd L hL).2.2 o e'
 ·obtain ⟨o,e⟩:=st.prot b hb
  exact ⟨o,k b o (fun q=>w.notF b q hb) e⟩
 ·obtain ⟨q1,o,e⟩:=st.hid b hb
  exact ⟨q1,o,k b o (fun q=>w.notH b q hb) e⟩
theorem EnvRel.writeL {A:Around} {env:Env} {wr:List Addr} {h h':Heap} (er:EnvRel c (ownS c σ) env m h) (w:WrOk c A σ wr h) (hp:∀ b∈Mine.places env,b∉wr) (k:ButL wr h h'):EnvRel c (ownS c σ) env m h':=by
 obtain ⟨mc,hn,hm⟩:=er.ns
 have hL:env.locals∉wr:=hp _ (by simp [Mine.places])
 have hcp:∀ x b,(x,b)∈env.cells->b∉wr:=fun x b hm=>hp b (by simp only [Mine.places,List.mem_cons,List.mem_map];exact .inr ⟨_,hm,rfl⟩)
 have hcell:∀ {a:Addr} {v:Option Value},a∉wr->h.IsCell a v->h'.IsCell a v:=fun {a v} ha hc=>by
  obtain ⟨oc,hoc,hdc⟩:=hc
  exact ⟨oc,k a oc ha hoc,hdc⟩
 refine ⟨⟨mc,?_,fun y v hy hk=>?_⟩,fun y v hy hk=>?_,er.lnot,fun y a ha=>?_,er.apart⟩
 ·obtain ⟨oL,es,ep,ho,r⟩:=hn
  exact ⟨oL,es,ep,k _ _ hL ho,r⟩
 ·obtain ⟨cv,e,r⟩:=hm y v hy hk
  exact ⟨cv,e,VRel.writeL w.seq k v cv r⟩
 ·obtain ⟨a,cv,e,hc,r⟩:=er.cell y v hy hk
  exact ⟨a,cv,e,hcell (hcp _ _ (mem_of_lookup e)) hc,VRel.writeL w.seq k v cv r⟩
 ·obtain ⟨h1,h2,h3,h4,v,h5⟩:=er.cnot y a ha
  exact ⟨h1,h2,h3,h4,v,hcell (hcp _ _ ha) h5⟩
theorem iter_notFrozen {o:Obj} (h:∃ xs,o.data=.fields xs) (hc:o.cls≠.type "range"):¬ Frozen o:=fun f=>by
 obtain ⟨ys,hd⟩:=h
 rcases f with ⟨xs,n,q⟩ | ⟨_,q⟩ | ⟨_,_,_,q⟩
 ·rw [hd] at q;cases q
 ·exact hc q
 ·rw [hd] at q;cases q
theorem Step.writeL {F own own' wr:List Addr} {s s':Shared} {h':Heap} {tk:Nat} (t:Step F own own' s s') (hn:∀ b∈wr,s.heap.get? b=none) (hF:∀ b∈wr,b∉F) (k:ButL wr s'.heap h'):Step F own own' s { s' with heap:=h',toks:=tk }:=by
 refine ⟨fun b o e hb=>?_,fun b o e=>(t.there b o e).imp fun o' e'=>k b o' (fun q=>by rw [hn b q] at e;cases e) e',fun b hb o e=>k b o (fun q=>hF b q hb) (t.prot b hb o e),t.grow,t.os,t.gens⟩
 obtain ⟨sl,e',hs⟩:=t.kept b o e hb
 exact ⟨sl,k b _ (fun q=>by rw [hn b q] at e;cases e) e',hs⟩
noncomputable def IterOwn (o:Obj):Prop:=∀ n,o.cls=.type n->["enumerate","zip","dict_itemiterator","dict_reverseitemiterator","odict_iterator","itertools.zip_longest","itertools.pairwise"].contains n=false
theorem letOwned {M:Model} {A:Around} {E:Value->Shared->Prop} {s:Shared} {t:Expr} {I:Addr} {o:Obj} {v:Value} {Q:Unit->Shared->Prop} (ho:s.heap.get? I=some o) (hi:IterOwn o) (h:Q () s) :
  wpAny M A (letOwnedTupleGo t (.ref I) v) Q E s:=by
 have key:∀ es k z,wpAny M A (letOwnedTupleGo (.Tuple es k z) (.ref I) v) Q E s:=fun es k z=>by
  cases v with
  | ref a=>
   refine wpAny_bind (wpAny_load ho ?_)
   cases o with
   | mk cls dict data slots=>
    cases cls with
    | type n=>
     cases data with
     | fields vs=>
      show wpAny M A (if (["enumerate","zip","dict_itemiterator","dict_reverseitemiterator","odict_iterator","itertools.zip_longest","itertools.pairwise"].contains n && vs[0]? == some (rawInt a))=true then _ else pure ()) Q E s
      rw [hi n rfl]
      exact wpAny_pure h
     | _=>exact wpAny_pure h
    | _=>exact wpAny_pure h
  | _=>exact wpAny_pure h
 cases t with
 | Tuple es k z=>exact key es k z
 | List es z=>exact key es 0 z
 | _=>exact wpAny_pure h
structure ItOk (c:Cx) (A:Around) (σ:Led) (vs:List V) (hb h:Heap) (I:Addr) (fp wr:List Addr) (Pf:Nat->Value->Prop) (Stf:Nat->Heap->Prop):Prop where
 walks:Walks c.k.prog c.k.w A I fp wr vs.length Pf Stf
 size:vs.length<=sizeLine
 start:Stf 0 h
 ext:Ext hb h
 new:∀ b∈wr,hb.get? b=none
 obj:∀ i h,Stf i h->∀ b∈wr,∃ o,h.get? b=some o/\(∃ xs,o.data=.fields xs)/\o.cls≠.type "range"
 own:∀ i h,Stf i h->∃ o,h.get? I=some o/\IterOwn o
 fp:∀ b∈fp,b∈wr\/b∈c.F\/(b∉owned σ/\∃ o,hb.get? b=some o/\∃ xs n,o.data=.seq xs n)
 elem:∀ h' own',Carries (ownS c σ) own' hb h'->∀ i v x,vs[i]?=some v->Pf i x->VRel h' own' v x
inductive IterP (c:Cx) (A:Around) (σ:Led) (vs:List V) (s:Shared) (it:Value) (s':Shared):Prop
 | mk (I:Addr) (fp wr:List Addr) (Pf:Nat->Value->Prop) (Stf:Nat->Heap->Prop):it=.ref I->ItOk c A σ vs s.heap s'.heap I fp wr Pf Stf->s'.os=s.os->s'.gens=s.gens->IterP c A σ vs s it s'
noncomputable def IterS (c:Cx) (σ:Led) (lv:V) (vs:List V):Prop:=
 ∀ (A:Around) (s:Shared) (E:Value->Shared->Prop) (cv:Value),A.handled=none->St c A σ s.heap->VRel s.heap (ownS c σ) lv cv->
  wpAny c.M A (pyIter cv) (IterP c A σ vs s) E s
noncomputable def WLoop (c:Cx) (d:Nat) (sc:Scope) (t:Expr) (body:List Stmt) (K:Fl->AEnv->Led->Prop):List V->AEnv->Led->Prop
 | [],m,σ=>K .next m σ
 | v::vs,m,σ=>WA c d sc t v m σ (fun m₁ σ₁=>WSs c d sc body m₁ σ₁ (fun fl m₂ σ₂=>match fl with
   | .next | .cont=>WLoop c d sc t body K vs m₂ σ₂
   | .brk=>K .next m₂ σ₂
   | .ret w=>K (.ret w) m₂ σ₂) NoX) NoX
theorem env_no {own:List Addr} {env:Env} {h:Heap} {b:Addr} (er:EnvRel c own env m h) (hn:h.get? b=none):b∉places env:=fun hb=>by
 simp only [places,List.mem_cons,List.mem_map] at hb
 rcases hb with rfl | ⟨⟨x,a⟩,hm,rfl⟩
 ·obtain ⟨mc,⟨oL,es,ep,ho,_⟩,_⟩:=er.ns;rw [hn] at ho;cases ho
 ·obtain ⟨_,_,_,_,v,oc,hoc,_⟩:=er.cnot x a hm;rw [hn] at hoc;cases hoc
set_option genSizeOf false
set_option genInjectivity false
structure FQ where
 c:Cx
 G:List Addr
 d:Nat
 A:Around
 env:Env
 sc:Scope
 m:AEnv
 vs:List V
 σ:Led
 s:Shared
 I:Addr
 fp:List Addr
 wr:List Addr
 Pf:Nat->Value->Prop
 Stf:Nat->Heap->Prop
 hi:Heap
noncomputable abbrev FQ.cG (Q:FQ):Cx:=Q.c.pro Q.G
structure FQ.Ok (Q:FQ):Prop where
 hG:∀ b∈Q.G,b∈owned Q.σ
 scp:Q.env.scope=Q.sc
 ok:EnvOk Q.env
 fr:∃ outer,Q.A.frames=some (Q.env::outer)
 a:AOk Q.c.k Q.d Q.A
 st:St Q.c Q.A Q.σ Q.s.heap
 er:EnvRel Q.c (ownS Q.c Q.σ) Q.env Q.m Q.s.heap
 it:ItOk Q.cG Q.A Q.σ Q.vs Q.s.heap Q.hi Q.I Q.fp Q.wr Q.Pf Q.Stf
structure FQ.Core (Q:FQ) (m':AEnv) (σ':Led) (s':Shared):Prop where
 t:Step Q.cG.F (places Q.env++owned Q.σ) (places Q.env++owned σ') Q.s s'
 st:St Q.cG Q.A σ' s'.heap
 er:EnvRel Q.cG (ownS Q.c σ') Q.env m' s'.heap
structure FQ.At (Q:FQ) (j:Nat) (σ':Led) (h:Heap):Prop where
 stf:Q.Stf j h
 wo:∀ b∈Q.wr,b∉owned σ'
theorem zbh {o:Obj} (h:(∃ xs,o.data=.fields xs)\/∃ xs n,o.data=.seq xs n):¬ Obj.isDict o:=by
 rintro ⟨_,_,z⟩
 rcases h with ⟨xs,h⟩ | ⟨xs,n,h⟩ <;> rw [h] at z <;> cases z
section
variable {Q:FQ} {j:Nat} {m' m₅:AEnv} {σ' σ₅:Led} {s' s₅:Shared} {h':Heap} {tk:Nat}
theorem FQ.pn (q:Q.Ok):∀ b∈places Q.env,b∉Q.wr:=fun b hb hw=>env_no q.er (q.it.new b hw) hb
theorem FQ.wF (q:Q.Ok):∀ b∈Q.wr,b∉Q.cG.F:=fun b hb=>(q.st.pro q.hG).noF (q.it.new b hb)
theorem FQ.At.wok (q:Q.Ok) (a:Q.At j σ' s'.heap):WrOk Q.cG Q.A σ' Q.wr s'.heap:=⟨a.wo,fun b hb=>q.st.no0 (q.it.new b hb),FQ.wF q,fun b hb=>q.st.noH (q.it.new b hb),fun b hb o e=>by
 obtain ⟨o',e',q1,q2⟩:=q.it.obj j _ a.stf b hb
 rw [e] at e';cases e';exact iter_notFrozen q1 q2,fun l hl L hL hw=>q.st.noL (q.it.new L hw) hl hL⟩
theorem FQ.Core.turn (q:Q.Ok) (k:Q.Core m' σ' s') (a:Q.At j σ' s'.heap) (hk:ButL Q.wr s'.heap h'):Q.Core m' σ' { s' with heap:=h',toks:=tk }:=
 ⟨k.t.writeL q.it.new (FQ.wF q) hk,k.st.writeL (a.wok q) hk,k.er.writeL (a.wok q) (FQ.pn q) hk⟩
theorem FQ.Core.step (k:Q.Core m' σ' s') (t:Step Q.cG.F (places Q.env++owned σ') (places Q.env++owned σ₅) s' s₅) (st:St Q.cG Q.A σ₅ s₅.heap) (er:EnvRel Q.cG (ownS Q.c σ₅) Q.env m₅ s₅.heap):Q.Core m₅ σ₅ s₅:=⟨k.t.trans t,st,er⟩
theorem FQ.At.not (q:Q.Ok) (a:Q.At j σ' h') {b:Addr} (hb:b∈Q.wr):b∉places Q.env++owned σ':=fun z=>(List.mem_append.mp z).elim (fun z=>FQ.pn q b z hb) (a.wo b hb)
theorem FQ.At.step (q:Q.Ok) (k:Q.Core m' σ' s') (a:Q.At j σ' s'.heap) (t:Step Q.cG.F (places Q.env++owned σ') (places Q.env++owned σ₅) s' s₅):Q.At j σ₅ s₅.heap:=by
 refine ⟨q.it.walks.frame _ _ _ a.stf fun b hb o e=>?_,fun b hb hm=>?_⟩
 ·rcases q.it.fp b hb with z | z | ⟨z,ob,hob,hd⟩
  ·obtain ⟨o',e',hx,_⟩:=q.it.obj _ _ a.stf b z
   rw [e] at e';cases e'
   exact t.kept.exact e (a.not q z) (zbh (.inl hx))
  ·exact t.prot b z o e
  ·have hnot:b∉places Q.env++owned Q.σ:=fun y=>(List.mem_append.mp y).elim (fun y=>q.er.places b y ob hob (.inl hd)) z
   have hob':=k.t.kept.exact hob hnot (zbh (.inr hd))
   rw [hob'] at e;cases e
   exact t.kept.exact hob' (k.t.grow.notin hnot hob) (zbh (.inr hd))
 ·obtain ⟨o,e,_⟩:=q.it.obj _ _ a.stf b hb
  exact t.grow.notin (a.not q hb) e (List.mem_append_right _ hm)
theorem FQ.Core.fin (k:Q.Core m' σ' s') {σ₀:Led} {s₀:Shared} (t₁:Step Q.c.F (owned σ₀) (owned Q.σ) s₀ Q.s) {K:Fl->AEnv->Led->Prop} {fl:Fl} {f:Flow} (hk:K fl m' σ') (h:FlRel s'.heap (ownS Q.c σ') fl f):PostS Q.c Q.A Q.env σ₀ s₀ K f s':=
 ⟨fl,m',σ',hk,t₁.wider.trans k.t.unpro,k.st.unpro,k.er.unpro,h⟩
theorem FQ.Core.rs (q:Q.Ok) (k:Q.Core m' σ' s') {E:Value->Shared->Prop}:RS Q.cG Q.d Q.sc m' σ' NoX Q.env Q.A s' E:=⟨q.scp,q.ok,q.fr,q.a,k.st,k.er,.nox⟩
inductive FQ.Inv (Q:FQ) (t:Expr) (body:List Stmt) (K:Fl->AEnv->Led->Prop) (n:Nat) (s':Shared):Prop
 | mk (j:Nat) (m':AEnv) (σ':Led):n=Q.vs.length+1 - j->j<=Q.vs.length->WLoop Q.cG Q.d Q.sc t body K (Q.vs.drop j) m' σ'->Q.Core m' σ' s'->Q.At j σ' s'.heap->FQ.Inv Q t body K n s'
theorem FQ.next {t:Expr} {body:List Stmt} {K:Fl->AEnv->Led->Prop} (hj:j<Q.vs.length) (hW:WLoop Q.cG Q.d Q.sc t body K (Q.vs.drop (j+1)) m' σ') (k:Q.Core m' σ' s') (a:Q.At (j+1) σ' s'.heap):∃ n',n'<Q.vs.length+1 - j/\Q.Inv t body K n' s':=
 ⟨Q.vs.length+1 - (j+1),(by (exact Ar.l02 (.lt (.s (.a (.v 0) (.k 1)) (.a (.v 1) (.k 1))) (.s (.a (.v 0) (.k 1)) (.v 1))) [(.lt (.v 1) (.v 0))] (by kernel_rfl) hj)),j+1,m',σ',rfl,hj,hW,k,a⟩
theorem FQ.loop (q:Q.Ok) {t:Expr} {body:List Stmt} {K:Fl->AEnv->Led->Prop} {R:Result->Shared->Prop} (hR:∀ fl f m' σ' s',K fl m' σ'->Q.Core m' σ' s'->FlRel s'.heap (ownS Q.c σ') fl f->R (.ok f) s') {n:Nat} (h:Q.Inv t body K n s') :
  codeAny Q.c.M Q.A (.forLoop t (.ref Q.I) body [] Q.env) R s':=by
 refine codeAny_forLoop_any (Q.Inv t body K) (fun n s' h=>?_) n h
 obtain ⟨j,m',σ',rfl,hj,hW,k,a⟩:=h
 by_cases hlt:j<Q.vs.length
 ·refine q.it.walks.item j s' _ _ hlt a.stf fun v h' tk hP hStf' hk=>?_
  have k₃:Q.Core m' σ' { s' with heap:=h',toks:=tk }:=k.turn q a fun b o hb e=>hk b o hb e
  have a₃:Q.At (j+1) σ' h':=⟨hStf',a.wo⟩
  obtain ⟨oI,hoI,hown⟩:=q.it.own _ _ hStf'
  refine letOwned (s:={ s' with heap:=h',toks:=tk }) hoI hown ?_
  rw [List.drop_eq_getElem_cons hlt] at hW
  refine wpAny_mono (hW Q.env Q.A _ _ v (k₃.rs q) (q.it.elem h' _ (k₃.t.carriesP q.er) j Q.vs[j] v (List.getElem?_eq_getElem hlt) hP)) ?_ fun z1 z2 x=>x
  rintro _ s₄ ⟨m₄,σ₄,h₄,t₄,hs₄,er₄⟩
  refine wpAny_mono (h₄ Q.env Q.A s₄ _ ((k₃.rs q).step t₄ hs₄ er₄)) ?_ fun z1 z2 x=>x
  rintro f s₅ ⟨fl,m₅,σ₅,h₅,t₅,hs₅,er₅,rf⟩
  have t₃₅:=t₄.trans t₅
  have k₅:=k₃.step t₃₅ hs₅ er₅
  have a₅:=FQ.At.step q k₃ a₃ t₃₅
  cases fl with
  | next=>cases rf;exact FQ.next hlt h₅ k₅ a₅
  | cont=>cases rf;exact FQ.next hlt h₅ k₅ a₅
  | brk=>cases rf;exact hR .next .next m₅ σ₅ s₅ h₅ k₅ rfl
  | ret w=>
   obtain ⟨cv,rfl,rv⟩:=rf
   exact hR (.ret w) (.ret cv) m₅ σ₅ s₅ h₅ k₅ ⟨cv,rfl,rv⟩
 ·have hjl:j=Q.vs.length:=Nat.le_antisymm hj (Nat.not_lt.mp hlt)
  subst hjl
  refine q.it.walks.done s' _ _ a.stf fun h' tk hk=>?_
  rw [List.drop_length] at hW
  exact wpAny_execs_nil (hR .next .next m' σ' _ hW (k.turn q a fun b o hb e=>hk b o hb e) rfl)
end
theorem WS_for (hh:c.k.hd=true) {t iter:Expr} {body:List Stmt} {pos:Pos}
  (h:WE c d sc iter m σ (fun lv σ₁=>∃ vs G,(∀ b∈G,b∈owned σ₁)/\IterS (c.pro G) σ₁ lv vs/\WLoop (c.pro G) d sc t body K vs m σ₁) X)
  (hs:∀ env x,foldedSetIterable iter env x=pure x):WS c d sc (.For t iter body [] pos) m σ K X:=by
 intro env A s E r
 refine wpAny_For (wpAny_mono (h env A s E r.re) ?_ fun z1 z2 x=>x) (hs env)
 rintro cl s₁ ⟨lv,σ₁,⟨vs,G,hG,hI,hL⟩,t₁,hs₁,rl⟩
 have er₁:=r.er.mono t₁.kept.wider t₁.grow.wider
 refine wpAny_mono (hI A s₁ E cl (r.a.handled hh) (hs₁.pro hG) rl) ?_ fun z1 z2 x=>x
 rintro it s₂ ⟨I,fp,wr,Pf,Stf,rfl,ok,hos,hgens⟩
 refine FQ.loop (Q:=⟨c,G,d,A,env,sc,m,vs,σ₁,s₁,I,fp,wr,Pf,Stf,s₂.heap⟩) (K:=K) (n:=vs.length+1) ⟨hG,r.sc,r.ok,r.fr,r.a,hs₁,er₁,ok⟩ (fun fl f m' σ' s' hk k hf=>k.fin t₁ hk hf)
  ⟨0,m,σ₁,rfl,Nat.zero_le _,hL,⟨⟨ok.ext.kept,fun b o e=>⟨o,ok.ext b o e⟩,fun b z1 o e=>ok.ext b o e,.refl,hos,hgens⟩,(hs₁.pro hG).ext ok.ext,(er₁.pro hG).mono ok.ext.kept Grow.refl⟩,ok.start,fun b hb hm=>?_⟩
 obtain ⟨o,e⟩:=hs₁.there hm
 rw [ok.new b hb] at e;cases e
end Mine
end
section
namespace Mine
open PySem
variable {c:Cx} {d:Nat} {sc:Scope} {m:AEnv} {σ:Led} {P:V->Led->Prop} {X:XP} {K:Fl->AEnv->Led->Prop}
structure Noted (e:Addr) (cls:Value) (base:Heap) (fr:List Addr) (h h':Heap):Prop where
 pre:∃ oe vs,h.get? e=some oe/\oe.cls=cls/\oe.data=.fields vs
 keep:∀ b o,h.get? b=some o->b≠e->(∀ vs,o.data=.fields vs->o.cls=.type "traceback"->base.get? b≠none)->∃ sl,h'.get? b=some { o with slots:=sl }/\(b∉fr->sl=o.slots)
 there:∀ b o,h.get? b=some o->∃ o',h'.get? b=some o'
 exc:ExcAt e cls base h'
section
variable {M:Model} {A:Around} {E:Value->Shared->Prop} {s:Shared}
theorem note_new {base b0:Heap} {env:Env} {outer:List Env} {L e:Addr} {oe:Obj} {vs:Array Value} {head:Value} {had:Bool} {Q:Unit->Shared->Prop}
  (hfr:A.frames=some (env::outer)) (hl:s.heap.FunFrames b0 (env::outer)) (hf:env.frame=some L) (he:s.heap.get? e=some oe) (hen:base.get? e=none) (hbs:∀ b o,base.get? b=some o->∃ o',s.heap.get? b=some o')
  (hC:∃ C,oe.cls=.ref C) (hd:oe.data=.fields vs) (hsz:1<vs.size) (h:∀ h',Noted e oe.cls base ((env::outer).filterMap (·.frame)) s.heap h'->Q () { s with heap:=h' }) :
  wpAny M A (do let a ← frameOf env;let pl ← entryPlaceOf L had;let b ← EntryCells.newEntry head a .none (rawInt L) .none pl;setField (.ref e) 1 b) (fun z1 s'=>wpAny M A (setFlight (.ref e) none) Q E s') E s:=by
 have hene:e∉(env::outer).filterMap (·.frame):=fun hm=>by
  obtain ⟨_,o,ho,hnf⟩:=hl.mem hm
  rw [he] at ho;cases ho;exact hnf vs hd
 refine wpAny_bind (wpAny_frameOf_fun hfr hl hf fun h₁ hs₁=>?_)
 refine wpAny_bind (wpAny_entryPlaceOf fun pl hpl=>?_)
 unfold EntryCells.newEntry newFields
 refine wpAny_bind (wpAny_newObj_type ?_ (hpl.sizeOk5 _ _ _ _ _))
 have h3:(([head,.ref L,.none,rawInt L,.none]++(if pl.isEmpty then List.replicate 6 Value.none else pl)).toArray)[3]?=some (rawInt L):=by simp
 generalize ([head,.ref L,.none,rawInt L,.none]++(if pl.isEmpty then List.replicate 6 Value.none else pl)).toArray=fs at h3 ⊢
 have he₁:h₁.get? e=some oe:=(hs₁.2.1 e hene).trans he
 have hn₁:∀ b o,s.heap.get? b=some o->∃ sl,h₁.get? b=some { o with slots:=sl }/\(b∉(env::outer).filterMap (·.frame)->sl=o.slots):=fun b o q=>by
  obtain ⟨sl,e'⟩:=hs₁.2.2 b o q
  refine ⟨sl,e',fun hb=>?_⟩
  rw [hs₁.2.1 b hb,q] at e'
  exact (congrArg Obj.slots (Option.some.inj e')).symm
 have he₂:=Heap.get?_push_of_some (h:=h₁) { cls:=.type "traceback",dict:=none,data:=.fields fs } he₁
 refine wpAny_setField he₂ hd hsz ?_
 have hTe:h₁.objs.size≠e:=Nat.ne_of_gt (Heap.lt_size he₁)
 have hd₃:=Obj.data_mapFields hd (·.setIfInBounds 1 (Value.ref h₁.objs.size))
 have he₃:=Heap.get?_update_self (Obj.mapFields (·.setIfInBounds 1 (Value.ref h₁.objs.size))) he₂ (Obj.isFreed_of_fields hd₃)
 have hT₃:=(Heap.get?_update_other (h₁.push { cls:=.type "traceback",dict:=none,data:=.fields fs }) (Obj.mapFields (·.setIfInBounds 1 (Value.ref h₁.objs.size))) (Ne.symm hTe)).trans (Heap.get?_push_size h₁ rfl)
 unfold setFlight
 refine wpAny_bind (wpAny_field he₃ hd₃ (x:=.ref h₁.objs.size) (by simp [hsz]) ?_)
 rw [if_pos (show (Value.ref h₁.objs.size != Value.none)=true from by simp)]
 refine wpAny_setField hT₃ rfl (Array.getElem?_eq_some_iff.mp h3).1 (h _ ?_)
 have keep:∀ b o,b≠e->h₁.get? b=some o->(((h₁.push { cls:=.type "traceback",dict:=none,data:=.fields fs }).update e (Obj.mapFields (·.setIfInBounds 1 (Value.ref h₁.objs.size)))).update h₁.objs.size
   (Obj.mapFields (·.setIfInBounds 3 ((none:Option Addr).elim Value.none fun f=>rawInt f)))).get? b=some o:=fun b o hbe hb=>by
  rw [Heap.get?_update_other _ _ (Nat.ne_of_gt (Heap.lt_size hb)),Heap.get?_update_other _ _ (Ne.symm hbe)]
  exact Heap.get?_push_of_some _ hb
 have hE:=(Heap.get?_update_other _ (Obj.mapFields (·.setIfInBounds 3 ((none:Option Addr).elim Value.none fun f=>rawInt f))) hTe).trans he₃
 have hT:=Heap.get?_update_self (Obj.mapFields (·.setIfInBounds 3 ((none:Option Addr).elim Value.none fun f=>rawInt f))) hT₃ (Obj.isFreed_of_fields (Obj.data_mapFields rfl _))
 refine ⟨⟨_,_,he,rfl,hd⟩,fun b o q hb z1=>?_,fun b o q=>?_,hen,hC,_,_,hE,Obj.cls_mapFields _ _,hd₃,.inr ⟨h₁.objs.size,_,_,by simp [hsz],?_,hTe,hT,Obj.cls_mapFields _ _,Obj.data_mapFields rfl _,?_⟩⟩
 ·obtain ⟨sl,q1,q2⟩:=hn₁ b o q
  exact ⟨sl,keep b _ hb q1,q2⟩
 ·by_cases hb:b=e
  ·rw [hb];exact ⟨_,hE⟩
  ·obtain ⟨sl,q1,_⟩:=hn₁ b o q
   exact ⟨_,keep b _ hb q1⟩
 ·cases q:base.get? h₁.objs.size with
  | none=>rfl
  | some o=>
   obtain ⟨o',q1⟩:=hbs _ _ q
   obtain ⟨sl,q2,_⟩:=hn₁ _ _ q1
   exact absurd (Heap.lt_size q2) (Nat.lt_irrefl _)
 ·have:=(Array.getElem?_eq_some_iff.mp h3).1
  simp [this]
theorem note_at {base b0:Heap} {env:Env} {outer:List Env} {L e:Addr} {cls:Value} {Q:Unit->Shared->Prop}
  (hfr:A.frames=some (env::outer)) (hl:s.heap.FunFrames b0 (env::outer)) (hf:env.frame=some L) (he:ExcAt e cls base s.heap) (hbs:∀ b o,base.get? b=some o->∃ o',s.heap.get? b=some o')
  (h:∀ h',Noted e cls base ((env::outer).filterMap (·.frame)) s.heap h'->Q () { s with heap:=h' }):wpAny M A (noteFrame (.ref e) env) (fun z1 s'=>wpAny M A (setFlight (.ref e) none) Q E s') E s:=by
 obtain ⟨hen,hC,oe,vs,ho,rfl,hd,h1⟩:=he
 unfold noteFrame
 simp only [hf]
 rcases h1 with h1 | ⟨T,oT,ts,h1,hnT,hTe,hT,hcT,hdT,h3⟩
 ·refine wpAny_bind (wpAny_field ho hd h1 ?_)
  rw [if_neg (by decide)]
  exact note_new hfr hl hf ho hen hbs hC hd (Array.getElem?_eq_some_iff.mp h1).1 h
 ·refine wpAny_bind (wpAny_field ho hd h1 ?_)
  rw [if_pos (show (Value.ref T != Value.none)=true from by simp)]
  refine wpAny_bind (wpAny_field hT hdT h3 ?_)
  rw [if_neg (show ¬ ((Value.none == rawInt L)=true) from by simp [rawInt])]
  refine wpAny_bind (wpAny_setField hT hdT (Array.getElem?_eq_some_iff.mp h3).1 ?_)
  have other:∀ b,b≠T->(s.heap.update T (Obj.mapFields (·.setIfInBounds 3 Value.none))).get? b=s.heap.get? b:=fun b hb=>Heap.get?_update_other _ _ (Ne.symm hb)
  have hT':=Heap.get?_update_self (Obj.mapFields (·.setIfInBounds 3 Value.none)) hT (Obj.isFreed_of_fields (Obj.data_mapFields hdT _))
  have thr:∀ b o,s.heap.get? b=some o->∃ o',(s.heap.update T (Obj.mapFields (·.setIfInBounds 3 Value.none))).get? b=some o':=fun b o q=>by
   by_cases hb:b=T
   ·rw [hb];exact ⟨_,hT'⟩
   ·exact ⟨o,(other b hb).trans q⟩
  refine note_new (base:=base) hfr (hl.of_keeps fun b o hb hnf=>⟨o,(other b fun q=>by rw [q,hT] at hb;cases hb;exact hnf ts hdT).trans hb,rfl⟩) hf ((other e (Ne.symm hTe)).trans ho) hen
   (fun b o q=>(hbs b o q).elim fun o' q'=>thr b o' q') hC hd (Array.getElem?_eq_some_iff.mp h1).1 fun h' x=>h h' ⟨⟨_,_,ho,rfl,hd⟩,fun b o q hb hc=>?_,fun b o q=>(thr b o q).elim fun o' q'=>x.there b o' q',x.exc⟩
  exact x.keep b o ((other b fun r=>by rw [r] at q hc;rw [hT] at q;cases q;exact hc _ hdT hcT hnT).trans q) hb hc
end
section
variable {e:Addr} {cls:Value} {base h h':Heap} {fr:List Addr} {b:Addr} {o:Obj}
theorem Noted.plain (n:Noted e cls base fr h h') (q:h.get? b=some o) (hd:∀ vs,o.data≠.fields vs):∃ sl,h'.get? b=some { o with slots:=sl }/\(b∉fr->sl=o.slots):=by
 obtain ⟨oe,vs,k1,_,k2⟩:=n.pre
 exact n.keep b o q (fun r=>by rw [r,k1] at q;cases q;exact hd vs k2) fun vs k=>absurd k (hd vs)
theorem Noted.old (n:Noted e cls base fr h h') (q:h.get? b=some o) (hb:base.get? b≠none):∃ sl,h'.get? b=some { o with slots:=sl }/\(b∉fr->sl=o.slots):=
 n.keep b o q (fun r=>hb (r ▸ n.exc.new)) fun z1 z2 z3=>hb
theorem Noted.carries {own:List Addr} (n:Noted e cls base fr h h') (hfr:∀ L∈fr,∀ o,h.get? L=some o->Obj.isDict o):Carries own own h h':=fun a o q ha f=>⟨by
 obtain ⟨oe,vs,k1,k0,k2⟩:=n.pre
 obtain ⟨C,rfl⟩:=n.exc.own
 obtain ⟨sl,r1,r2⟩:=n.keep a o q (fun r=>by
   rw [r,k1] at q;cases q
   rcases f with ⟨xs,n,r⟩ | ⟨_,r⟩ | ⟨_,_,_,r⟩
   ·rw [k2] at r;cases r
   ·rw [k0] at r;cases r
   ·rw [k2] at r;cases r) fun vs k k'=>by
   rcases f with ⟨xs,n,r⟩ | ⟨_,r⟩ | ⟨_,_,_,r⟩
   ·rw [k] at r;cases r
   ·rw [k'] at r;exact absurd r (by decide)
   ·rw [k] at r;cases r
 rw [r1,r2 fun hm=>f.notDict (hfr a hm o q)],ha⟩
theorem zbi {vs:Array Value} (k:Obj.isDict o):o.data≠.fields vs:=fun r=>by obtain ⟨es,ep,k⟩:=k;rw [k] at r;cases r
theorem St.noted {A:Around} {l:List Env} (st:St c A σ h) (hA:A.frames=some l) (n:Noted e cls base (l.filterMap (·.frame)) h h') (h0b:∀ b o,c.k.h0.get? b=some o->base.get? b≠none):St c A σ h':=by
 obtain ⟨l',hl',hf,hdd⟩:=st.frames
 have:l'=l:=by rw [hA] at hl';exact (Option.some.inj hl').symm
 subst this
 have car:=n.carries (own:=ownS c σ) fun L hL=>(hdd L hL).2.2
 have exact_:∀ a∈owned σ,∀ o,h.get? a=some o->(∀ vs,o.data≠.fields vs)->h'.get? a=some o:=fun a ha o q hd=>by
  obtain ⟨sl,r1,r2⟩:=n.plain q hd
  rw [r1,r2 fun hm=>(hdd a hm).1 ha]
 refine ⟨fun b o q=>?_,st.nodup,st.fresh,fun a x hm=>?_,⟨l',hA,hf.of_keeps fun b o q hd=>?_,fun L hL=>⟨(hdd L hL).1,(hdd L hL).2.1,fun o q=>?_⟩⟩,fun b hb=>?_,fun b hb=>⟨(st.hid b hb).1,?_⟩⟩
 ·obtain ⟨sl,r1,r2⟩:=n.old (st.keep b o q) (h0b b o q)
  rw [r1,r2 fun hm=>by rw [(hf.mem hm).1] at q;cases q]
 ·have ha:a∈owned σ:=mem_owned.mpr ⟨a,x,hm,by cases x <;> simp [O.addrs]⟩
  have r:=st.objs a x hm
  cases x with
  | list vs=>
   obtain ⟨cs,⟨k,p⟩,hsz,rs⟩:=r
   exact ⟨cs,⟨k,exact_ a ha _ p fun vs q=>by cases q⟩,hsz,rs.carry car⟩
  | dictI kvs=>
   refine DictR.carry r (fun o q=>exact_ a ha o q ?_) car
   obtain ⟨_,_,⟨o',es,ep,q',_,q2,_⟩,_⟩:=r
   rw [q'] at q;cases q;exact fun vs=>zbi ⟨es,ep,q2⟩
  | dictS kvs=>
   refine DictR.carry r (fun o q=>exact_ a ha o q ?_) car
   obtain ⟨_,_,⟨o',es,ep,q',_,q2,_⟩,_⟩:=r
   rw [q'] at q;cases q;exact fun vs=>zbi ⟨es,ep,q2⟩
  | inst C d fs=>
   have hd:d∈owned σ:=mem_owned.mpr ⟨a,_,hm,by simp [O.addrs]⟩
   refine InstR.carry r (fun b hb o q=>?_) car
   obtain ⟨o',mA,p1,p2,p3,p4,p5,⟨od,es,ep,p6,p7,_⟩,_⟩:=r
   rcases hb with rfl | rfl
   ·rw [p1] at q;cases q;exact exact_ _ ha _ p1 fun vs z=>by rw [p3] at z;cases z
   ·rw [p6] at q;cases q;exact exact_ _ hd _ p6 fun vs=>zbi ⟨es,ep,p7⟩
  | exc C=>
   obtain ⟨o,vs,q,k1,k2⟩:=r
   by_cases hae:a=e
   ·obtain ⟨oe,ws,p1,p2,_⟩:=n.pre
    obtain ⟨oe',ws',p3,p4,p5,_⟩:=n.exc.obj
    rw [hae] at q ⊢
    rw [p1] at q;cases q
    exact ⟨oe',ws',p3,by rw [p4,← p2,k1],p5⟩
   ·obtain ⟨sl,r1,_⟩:=n.keep a o q hae fun vs z1 k=>by rw [k1] at k;cases k
    exact ⟨_,vs,r1,k1,k2⟩
 ·obtain ⟨sl,r1,_⟩:=n.plain q hd
  exact ⟨_,r1,rfl⟩
 ·obtain ⟨_,o',q',_⟩:=hf.mem hL
  have hd:=(hdd L hL).2.2 o' q'
  obtain ⟨sl,r1,_⟩:=n.plain q' fun vs=>zbi hd
  rw [r1] at q;cases q;exact hd
 ·obtain ⟨o,q⟩:=st.prot b hb;exact n.there b o q
 ·obtain ⟨_,o,q⟩:=st.hid b hb;exact n.there b o q
theorem Step.noted {own own':List Addr} {s s':Shared} {A:Around} {l:List Env} (t:Step c.F own own' s s') (st:St c A σ s'.heap) (hA:A.frames=some l) (n:Noted e cls s.heap (l.filterMap (·.frame)) s'.heap h'):Step c.F own own' s { s' with heap:=h' }:=by
 obtain ⟨l',hl',hf,hdd⟩:=st.frames
 have:l'=l:=by rw [hA] at hl';exact (Option.some.inj hl').symm
 subst this
 refine ⟨fun b o q hb=>?_,fun b o q=>?_,fun b hb o q=>?_,t.grow,t.os,t.gens⟩
 ·obtain ⟨sl,r1,r2⟩:=t.kept b o q hb
  obtain ⟨sl',r3,r4⟩:=n.old r1 (by rw [q];intro k;cases k)
  refine ⟨sl',r3,fun hd=>?_⟩
  rw [← r2 hd]
  exact r4 fun hm=>hd (Obj.isDict_slots.mp ((hdd b hm).2.2 { o with slots:=sl } r1))
 ·obtain ⟨o',q'⟩:=t.there b o q;exact n.there b o' q'
 ·obtain ⟨sl,r1,r2⟩:=n.old (t.prot b hb o q) (by rw [q];intro k;cases k)
  show h'.get? b=some o
  rw [r1,r2 fun hm=>(hdd b hm).2.1 hb]
end
theorem Step.uncall {W own own':List Addr} {F:List Addr} {s s₁ s₂:Shared} (hext:Ext s.heap s₁.heap) (ho:s₁.os=s.os) (hg:s₁.gens=s.gens) (hn:∀ b∈W,s.heap.get? b=none) (t:Step F (W++own) (W++own') s₁ s₂):Step F own own' s s₂:=by
 refine ⟨fun b o e hb=>?_,fun b o e=>t.there b o (hext b o e),fun b hb o e=>t.prot b hb o (hext b o e),fun b hb=>?_,t.os.trans ho,t.gens.trans hg⟩
 ·exact t.kept b o (hext b o e) fun q=>(List.mem_append.mp q).elim (fun q=>by rw [hn b q] at e;cases e) hb
 ·rcases t.grow b (List.mem_append_right _ hb) with q | q
  ·rcases List.mem_append.mp q with q | q
   ·exact .inr (hn b q)
   ·exact .inl q
  ·refine .inr ?_
   cases e:s.heap.get? b with
   | none=>rfl
   | some o=>rw [hext b o e] at q;cases q
theorem St.undeep {A:Around} {env:Env} {l:List Env} {h:Heap} (hA:A.frames=some l) (st:St c (A.deeper env) σ h):St c A σ h:=by
 obtain ⟨l',hl',hf,hdd⟩:=st.frames
 have:l'=env::l:=by rw [Around.frames_deeper hA] at hl';exact (Option.some.inj hl').symm
 subst this
 refine ⟨st.keep,st.nodup,st.fresh,st.objs,⟨l,hA,hf.2.2,fun L hL=>hdd L ?_⟩,st.prot,st.hid⟩
 obtain ⟨L',_,e,_⟩:=hf.2.1
 rw [List.filterMap_cons,e];exact List.mem_cons_of_mem _ hL
end Mine
end
section
namespace Mine
open PySem
variable {c:Cx} {d:Nat} {sc:Scope} {m:AEnv} {σ:Led} {P:V->Led->Prop} {X:XP} {K:Fl->AEnv->Led->Prop}
inductive Rtn (σ:Led):V->Led->V->Prop
 | keep {v:V} {σ':Led}:σ'.Sublist σ->Rtn σ v σ' v
 | freeze {a:Addr} {vs:List V} {σ':Led}:σ.lookup a=some (.list vs)->σ'.Sublist (σ.filter fun p=>p.1 != a)->Rtn σ (.ref a) σ' (.lst vs)
theorem owned_sub {σ σ':Led} (h:σ'.Sublist σ):(owned σ').Sublist (owned σ):=by
 induction h with
 | slnil=>exact .slnil
 | cons x _ ih=>obtain ⟨a,o⟩:=x;exact ih.trans (List.sublist_append_right _ _)
 | cons_cons x _ ih=>obtain ⟨a,o⟩:=x;exact (List.Sublist.refl _).append ih
theorem St.sub {A:Around} {h:Heap} {σ':Led} (st:St c A σ h) (k:σ'.Sublist σ):St c A σ' h:=by
 have ko:=owned_sub k
 obtain ⟨l,hl,hf,hd⟩:=st.frames
 refine ⟨st.keep,ko.nodup st.nodup,fun a ha=>st.fresh a (ko.subset ha),fun a o hm=>?_,⟨l,hl,hf,fun L hL=>⟨fun q=>(hd L hL).1 (ko.subset q),(hd L hL).2⟩⟩,st.prot,fun b hb=>⟨fun q=>(st.hid b hb).1 (ko.subset q),(st.hid b hb).2⟩⟩
 exact (st.objs a o (k.subset hm)).mono Ext.refl (Grow.wider fun b hb=>.inl (ko.subset hb))
theorem Rtn.post {A:Around} {s s':Shared} {own:List Addr} {σ':Led} {v v':V} {cv:Value} (r:Rtn σ v σ' v') (t:Step c.F own (owned σ) s s') (st:St c A σ s'.heap) (rv:VRel s'.heap (ownS c σ) v cv) :
  Step c.F own (owned σ') s s'/\St c A σ' s'.heap/\VRel s'.heap (ownS c σ') v' cv:=by
 cases r with
 | keep k=>
  have ko:=owned_sub k
  exact ⟨⟨t.kept,t.there,t.prot,fun b hb=>t.grow b (ko.subset hb),t.os,t.gens⟩,st.sub k,VRel.mono Kept.refl (Grow.wider fun b hb=>.inl (ko.subset hb)) _ _ rv⟩
 | @freeze a vs σ' hl k=>
  have k':σ'.Sublist σ:=k.trans List.filter_sublist
  have ko:=owned_sub k'
  refine ⟨⟨t.kept,t.there,t.prot,fun b hb=>t.grow b (ko.subset hb),t.os,t.gens⟩,st.sub k',?_⟩
  simp only [VRel] at rv;subst rv
  obtain ⟨cs,p,hsz,rs⟩:=st.objs _ _ (zaa hl)
  simp only [VRel]
  refine ⟨a,cs,rfl,fun hm=>?_,p,hsz,VRels.mono Kept.refl (Grow.wider fun b hb=>.inl (ko.subset hb)) _ _ rs⟩
  have ha0:a∈owned σ:=mem_owned.mpr ⟨a,_,zaa hl,by simp [O.addrs]⟩
  replace hm:a∈owned σ':=(List.mem_append.mp hm).elim (fun q=>absurd ha0 (st.hid a q).1) id
  -- the address is borne once
  have hnd:=st.nodup
  have hm':a∈owned (σ.filter fun p=>p.1 != a):=(owned_sub k).subset hm
  obtain ⟨b,o,hbo,hab⟩:=mem_owned.mp hm'
  have hb:(b,o)∈σ/\b≠a:=by simpa using List.mem_filter.mp hbo
  have key:∀ (τ:Led),(owned τ).Nodup->(a,O.list vs)∈τ->(b,o)∈τ->b≠a->a∈o.addrs b->False:=by
   intro τ
   induction τ with
   | nil=>intro _ h;cases h
   | cons x τ ih=>
    obtain ⟨y,oy⟩:=x
    intro hnd h1 h2 hne ha
    obtain ⟨_,hnd2,hdis⟩:=List.nodup_append.mp hnd
    rcases List.mem_cons.mp h1 with q1 | q1 <;> rcases List.mem_cons.mp h2 with q2 | q2
    ·cases q1;cases q2;exact hne rfl
    ·cases q1;exact hdis a (by simp [O.addrs]) a (mem_owned.mpr ⟨b,o,q2,ha⟩) rfl
    ·cases q2;exact hdis a ha a (mem_owned.mpr ⟨a,_,q1,by simp [O.addrs]⟩) rfl
    ·exact ih hnd2 q1 q2 hne ha
  exact key σ hnd (zaa hl) hb.1 hb.2 hab
noncomputable def Ret (P:V->Led->Prop):Fl->AEnv->Led->Prop
 | .ret v,_,σ=>∃ v' σ',Rtn σ v σ' v'/\P v' σ'
 | .next,_,σ=>∃ σ',σ'.Sublist σ/\P .none σ'
 | _,_,_=>False
noncomputable def nodupB:List Str->Bool
 | []=>true
 | x::r=>!r.contains x && nodupB r
theorem zbq {l:List Str} (h:nodupB l=true):l.Nodup:=by
 induction l with
 | nil=>exact .nil
 | cons x r ih=>
  simp only [nodupB,Bool.and_eq_true,Bool.not_eq_true',List.contains_eq_mem,decide_eq_false_iff_not] at h
  exact List.nodup_cons.mpr ⟨h.1,ih h.2⟩
set_option tactic.hygienic true
theorem zbe:∀ (names:List (Str × NameKind)) (n:Nat) (acc:List (Str × Addr)) {x:Str} {a:Addr},(x,a)∈cellsFrom n names acc->(x,a)∈acc\/((x,NameKind.cell)∈names/\n<=a)
 | [],_,_,_,_,h=>.inl h
 | (y,k)::r,n,acc,x,a,h=>by
  unfold cellsFrom at h
  split at h
  ·rename_i hk
   have hk':k=.cell:=beq_iff_eq.mp hk
   subst hk'
   rcases zbe r (n+1) _ h with q | ⟨q1,q2⟩
   ·rcases List.mem_cons.mp q with q | q
    ·cases q;exact .inr ⟨.head _,Nat.le_refl _⟩
    ·exact .inl q
   ·exact .inr ⟨.tail _ q1,by (exact Ar.l02 (.le (.v 0) (.v 1)) [(.le (.a (.v 0) (.k 1)) (.v 1))] (by kernel_rfl) q2)⟩
  ·rcases zbe r n _ h with q | ⟨q1,q2⟩
   ·exact .inl q
   ·exact .inr ⟨.tail _ q1,q2⟩
theorem zaq:∀ (names:List (Str × NameKind)) (n:Nat) (acc:List (Str × Addr)),(cellsFrom n names acc).map (·.1)=((names.filter (·.2 == .cell)).map (·.1)).reverse++acc.map (·.1)
 | [],_,_=>by simp [cellsFrom]
 | (y,k)::r,n,acc=>by
  unfold cellsFrom
  split
  ·rename_i hk
   rw [zaq r]
   simp [List.filter_cons,hk]
  ·rename_i hk
   rw [zaq r]
   have:(k == NameKind.cell)=false:=by simpa using hk
   simp [List.filter_cons,this]
set_option tactic.hygienic false
theorem za1 {α:Type}:∀ {l:List (Str × α)},(l.map (·.1)).Nodup->∀ {x:Str} {a:α},(x,a)∈l->l.lookup x=some a
 | (y,b)::r,hn,x,a,h=>by
  simp only [List.map_cons,List.nodup_cons] at hn
  rw [List.lookup_cons]
  rcases List.mem_cons.mp h with q | q
  ·cases q;simp
  ·have:(x == y)=false:=by
    rw [beq_eq_false_iff_ne]
    rintro rfl
    exact hn.1 (List.mem_map.mpr ⟨_,q,rfl⟩)
   rw [this];exact za1 hn.2 q
theorem zaj:∀ {l:List (Str × Addr)} {x:Str},x∈l.map (·.1)->∃ a,l.lookup x=some a
 | (y,b)::r,x,h=>by
  rw [List.lookup_cons]
  cases hb:x == y with
  | true=>exact ⟨b,rfl⟩
  | false=>
   simp only [List.map_cons,List.mem_cons] at h
   rcases h with h | h
   ·subst h;simp at hb
   ·exact zaj h
noncomputable def scOk (sc:Scope) (names:List Str):Bool:=
 sc.kind == .function && !sc.isCoroutine && !sc.isGenerator && names.all (fun x=>isLoc sc x) && (sc.names.all fun p=>p.2 != .free && p.1 != ("__debug__":Str)) && nodupB ((sc.names.filter (·.2 == .cell)).map (·.1)) && nodupB names
inductive FnQ (h0:Heap) (f:Value) (names:List Str) (body:List Stmt) (sc:Scope):Prop
 | mk (a:Addr) (o:Obj) (fd:FuncData):f=.ref a->h0.get? a=some o->o.data=.func fd->h0.CodeRec fd.code fd.qualname->fd.body=.stmts body->fd.scope=sc->fd.closure=[]->fd.globals=mainGlobals->fd.builtins=builtinsNs->
  (∀ cs:List Value,cs.length=names.length->bindArgs fd ⟨cs,[]⟩=pure (names.zip cs))->FnQ h0 f names body sc
structure FnAt (c:Cx) (f:Value) (names:List Str) (body:List Stmt) (sc:Scope):Prop where
 at_:FnQ c.k.h0 f names body sc
theorem bindL_lookup {kindOf:Str->Option NameKind}:∀ (binds:List (Str × Value)) (m0:Str->Option Value),(binds.map (·.1)).Nodup->∀ x,kindOf x=some .local->bindL kindOf binds m0 x=(binds.lookup x).or (m0 x)
 | [],m0,_,x,_=>by simp [bindL]
 | (n,v)::r,m0,hn,x,hk=>by
  simp only [List.map_cons,List.nodup_cons] at hn
  unfold bindL
  rw [bindL_lookup r _ hn.2 x hk,List.lookup_cons]
  by_cases e:x=n
  ·subst e
   rw [if_pos hk,beq_self_eq_true]
   have:r.lookup x=none:=by
    cases q:r.lookup x with
    | none=>rfl
    | some w=>exact absurd (List.mem_map.mpr ⟨_,mem_of_lookup q,rfl⟩) hn.1
   rw [this];simp
  ·rw [beq_eq_false_iff_ne.mpr e]
   split <;> simp [e]
theorem bindC_lookup {kindOf:Str->Option NameKind}:∀ (binds:List (Str × Value)) (m0:Str->Option Value),(binds.map (·.1)).Nodup->∀ x,kindOf x≠some .local->bindC kindOf binds m0 x=(binds.lookup x).or (m0 x)
 | [],m0,_,x,_=>by simp [bindC]
 | (n,v)::r,m0,hn,x,hk=>by
  simp only [List.map_cons,List.nodup_cons] at hn
  unfold bindC
  rw [bindC_lookup r _ hn.2 x hk,List.lookup_cons]
  by_cases e:x=n
  ·subst e
   rw [if_neg hk,beq_self_eq_true]
   have:r.lookup x=none:=by
    cases q:r.lookup x with
    | none=>rfl
    | some w=>exact absurd (List.mem_map.mpr ⟨_,mem_of_lookup q,rfl⟩) hn.1
   rw [this];simp
  ·rw [beq_eq_false_iff_ne.mpr e]
   split <;> simp [e]
theorem zip_lookup {h:Heap} {own:List Addr}:∀ {names:List Str} {vs:List V} {cs:List Value} {x:Str} {v:V},VRels h own vs cs->(names.zip vs).lookup x=some v->∃ cv,(names.zip cs).lookup x=some cv/\VRel h own v cv
 | [],_,_,_,_,_,e=>by simp at e
 | _::_,[],_,_,_,_,e=>by simp at e
 | n::names,w::vs,cs,x,v,r,e=>by
  simp only [VRels] at r
  obtain ⟨cw,cs',rfl,r1,rs⟩:=r
  simp only [List.zip_cons_cons,List.lookup_cons] at e ⊢
  cases hb:x == n with
  | true=>rw [hb] at e;cases e;exact ⟨cw,rfl,r1⟩
  | false=>rw [hb] at e;exact zip_lookup rs e
theorem CallS_def {f:Value} {names:List Str} {body:List Stmt} {vs:List V} (hc:c.k.OK) (hf:FnAt c f names body sc) (hsc:scOk sc names=true) (hl:vs.length=names.length)
  (h:WSs c d sc body (names.zip vs) σ (Ret P) X):CallS c (d+1) f vs σ P X:=by
 intro A s E cs hA st rs hX
 obtain ⟨a,o,fd,rfl,ho,hd,hcode,hbody,hscope,hclo,hglob,hblt,hbind⟩:=hf.at_
 subst hscope
 simp only [scOk,Bool.and_eq_true,beq_iff_eq,Bool.not_eq_true',List.all_eq_true,bne_iff_ne,ne_eq] at hsc
 obtain ⟨⟨⟨⟨⟨⟨hk,hco⟩,hgen⟩,hnames⟩,hkinds⟩,hcells⟩,hnd⟩:=hsc
 have hnd':=zbq hnd
 have hlen:cs.length=names.length:=by rw [rs.length,hl]
 have hzip:(names.zip cs).map (·.1)=names:=by rw [List.map_fst_zip];(exact Ar.l02 (.le (.v 0) (.v 1)) [(.eq (.v 1) (.v 0))] (by kernel_rfl) hlen)
 have hkeys:((cellsFrom (s.heap.objs.size+1) fd.scope.names []).map (·.1)).Nodup:=by
  rw [zaq,List.map_nil,List.append_nil];exact (List.reverse_perm _).nodup_iff.mpr (zbq hcells)
 refine wpAny_call (codeAny_call_cells (by have:=hA.depth;unfold recursionLimit;(exact Ar.l02 (.lt (.v 0) (.k 1000)) [(.lt (.a (.v 0) (.a (.v 1) (.k 1))) (.k 900))] (by kernel_rfl) this)) (st.keep _ _ ho) hd (hc.nolimit.keeps st.keep) (hcode.keeps st.keep) hbody (hbind cs hlen) hclo ?_ ?_ hco hgen hk)
 ·intro x hx
  have hx1:x.1∈names:=by rw [← hzip];exact List.mem_map.mpr ⟨x,hx,rfl⟩
  rcases isLoc_kind (hnames x.1 hx1) with q | q
  ·exact .inl q
  ·refine .inr ⟨q,?_⟩
   obtain ⟨b,hb⟩:=zaj (l:=cellsFrom (s.heap.objs.size+1) fd.scope.names []) (x:=x.1) (by
    rw [zaq]
    simp only [List.map_nil,List.append_nil,List.mem_reverse,List.mem_map,List.mem_filter]
    exact ⟨_,⟨mem_of_lookup q,by simp⟩,rfl⟩)
   rw [hb];rfl
 ·intro s₁ ic
  have hE:callEnvC fd s.heap.objs.size a=newEnv fd.scope s.heap.objs.size fd.globals (cellsFrom (s.heap.objs.size+1) fd.scope.names []) (fd.qualname++".<locals>.") (some a) fd.code none fd.builtins:=rfl
  generalize henv:callEnvC fd s.heap.objs.size a=env at ic ⊢
  have eloc:env.locals=s.heap.objs.size:=by rw [← henv];rfl
  have escope:env.scope=fd.scope:=by rw [← henv];rfl
  have ecells:env.cells=cellsFrom (s.heap.objs.size+1) fd.scope.names []:=by rw [← henv];rfl
  have eglob:env.globals=mainGlobals:=by rw [← henv];exact hglob
  have eblt:env.builtins=builtinsNs:=by rw [← henv];exact hblt
  have eframe:env.frame=some env.locals:=by rw [← henv];rfl
  have ekind:∀ x,env.kindOf x=fd.scope.names.lookup x:=fun x=>by unfold Env.kindOf;rw [escope]
  have nofree:∀ x,env.kindOf x≠some .free:=fun x q=>by
   rw [ekind] at q;exact (hkinds _ (mem_of_lookup q)).1 rfl
  obtain ⟨⟨h₁,tk,hs₁⟩,hns,hkeep,hfresh⟩:=ic.toInCall
  have hext:Ext s.heap s₁.heap:=hkeep
  have ok:EnvOk env:=by
   refine ⟨by rw [escope];exact hk,?_,fun q=>nofree _ q,eglob,eblt,fun x q=>?_⟩
   ·rw [ekind]
    cases q:fd.scope.names.lookup ("__debug__":Str) with
    | none=>rfl
    | some k=>exact absurd rfl (hkinds _ (mem_of_lookup q)).2
   ·rcases q with q | q
    ·rw [ekind] at q
     rw [ecells]
     refine zaj ?_
     rw [zaq]
     simp only [List.map_nil,List.append_nil,List.mem_reverse,List.mem_map,List.mem_filter]
     exact ⟨_,⟨mem_of_lookup q,by simp⟩,rfl⟩
    ·exact absurd q (nofree x)
  have hpnew:∀ b∈places env,s.heap.get? b=none:=fun b hb=>by
   simp only [places,List.mem_cons,List.mem_map] at hb
   have hle:s.heap.objs.size<=b:=by
    rcases hb with rfl | ⟨⟨x,b'⟩,hm,rfl⟩
    ·(exact Ar.l02 (.le (.v 0) (.v 1)) [(.le (.v 0) (.v 1))] (by kernel_rfl) hfresh)
    ·rw [ecells] at hm
     rcases zbe _ _ _ hm with q | ⟨_,q⟩
     ·cases q
     ·dsimp only;(exact Ar.l02 (.le (.v 0) (.v 1)) [(.le (.a (.v 0) (.k 1)) (.v 1))] (by kernel_rfl) q)
   cases e:s.heap.get? b with
   | none=>rfl
   | some o=>exact absurd (Heap.lt_size e) (Nat.not_lt.mpr hle)
  have hpb:∀ b∈places env,b∉ownS c σ/\c.k.h0.get? b=none/\b∉c.F:=fun b hb=>by
   have hn:=hpnew b hb
   exact ⟨st.noS hn,st.no0 hn,st.noF hn⟩
  have hLp:env.locals∈places env:=by simp [places]
  have hcp:∀ x b,(x,b)∈env.cells->b∈places env:=fun x b hm=>by simp only [places,List.mem_cons,List.mem_map];exact .inr ⟨_,hm,rfl⟩
  have st₁:St c (A.deeper env) σ s₁.heap:=by
   have:=st.ext hext
   obtain ⟨l,hl,hf,hdd⟩:=this.frames
   refine ⟨this.keep,this.nodup,this.fresh,this.objs,⟨env::l,Around.frames_deeper hl,.cons (by rw [ok.kind];decide) eframe hns (hpb _ hLp).2.1 hf,fun L hL=>?_⟩,this.prot,this.hid⟩
   rw [List.filterMap_cons,eframe] at hL
   rcases List.mem_cons.mp hL with rfl | hL
   ·refine ⟨fun q=>(hpb _ hLp).1 (List.mem_append_right _ q),(hpb _ hLp).2.2,fun o e=>?_⟩
    obtain ⟨oL,es,ep,e',hd',_⟩:=hns
    rw [e'] at e;cases e;exact ⟨es,ep,hd'⟩
   ·exact hdd L hL
  have hA':AOk c.k d (A.deeper env):=⟨hA.handled,by have:=hA.depth;show A.depth+1+d<900;(exact Ar.l02 (.lt (.a (.a (.v 0) (.k 1)) (.v 1)) (.k 900)) [(.lt (.a (.v 0) (.a (.v 1) (.k 1))) (.k 900))] (by kernel_rfl) this),by have:=hA.units;show A.units+3+20 * d<9000;(exact Ar.l02 (.lt (.a (.a (.v 0) (.k 3)) (.m 20 (.v 1))) (.k 9000)) [(.lt (.a (.v 0) (.m 20 (.a (.v 1) (.k 1)))) (.k 9000))] (by kernel_rfl) this),by have:=hA.le;(exact Ar.l01 (.le (.v 0) (.k 100)) [(.le (.a (.v 0) (.k 1)) (.k 100))] (by kernel_rfl) this)⟩
  have rs₁:=VRels.mono hext.kept (Grow.refl (own:=ownS c σ)) vs cs rs
  have er₁:EnvRel c (ownS c σ) env (names.zip vs) s₁.heap:=by
   refine ⟨⟨_,hns,fun x v hx hkx=>?_⟩,fun x v hx hkx=>?_,hpb _ hLp,fun x b hm=>?_,ic.apart⟩
   ·obtain ⟨cv,e,r⟩:=zip_lookup rs₁ hx
    exact ⟨cv,by rw [bindL_lookup _ _ (by rw [hzip];exact hnd') x hkx,e];rfl,r⟩
   ·obtain ⟨b,hb⟩:=ok.cell x hkx
    obtain ⟨cv,e,r⟩:=zip_lookup rs₁ hx
    refine ⟨b,cv,hb,?_,r⟩
    have:=ic.cell x b hb
    rwa [bindC_lookup _ _ (by rw [hzip];exact hnd') x (fun q=>by rw [q] at hkx;simp at hkx),e] at this
   ·refine ⟨(hpb _ (hcp x b hm)).1,?_,(hpb _ (hcp x b hm)).2.1,(hpb _ (hcp x b hm)).2.2,_,ic.cell x b (za1 (by rw [ecells];exact hkeys) hm)⟩
    rw [eloc]
    rw [ecells] at hm
    rcases zbe _ _ _ hm with q | ⟨_,q⟩
    ·cases q
    ·exact Nat.ne_of_gt (Nat.lt_of_succ_le q)
  obtain ⟨l0,hl0,_⟩:=id st.frames
  have hos:s₁.os=s.os:=by rw [hs₁]
  have hgn:s₁.gens=s.gens:=by rw [hs₁]
  refine wpAny_mono (h env (A.deeper env) s₁ _ ⟨escope,ok,⟨l0,Around.frames_deeper hl0⟩,hA',st₁,er₁,fun e cls σ' s' hx t hs er he=>?_⟩) ?_ fun z1 z2 x=>x
  ·obtain ⟨l',hl',hf',_⟩:=id hs.frames
   have:l'=env::l0:=by rw [Around.frames_deeper hl0] at hl';exact (Option.some.inj hl').symm
   subst this
   refine wpAny_bind (note_at (base:=s₁.heap) hl' hf' eframe he (fun b o q=>t.there b o q) fun h' n=>?_)
   exact hX e cls σ' _ hx (Step.uncall hext hos hgn hpnew (t.noted hs hl' n)) (St.undeep hl0 (hs.noted hl' n fun b o q k=>by rw [st₁.keep b o q] at k;cases k)) (n.exc.sooner fun b o q=>⟨o,hext b o q⟩)
  rintro f s₂ ⟨fl,m₂,σ₂,h₂,t₂,hs₂,er₂,rf⟩
  have st₂:St c A σ₂ s₂.heap:=St.undeep hl0 hs₂
  have t₁₂:Step c.F (owned σ) (owned σ₂) s s₂:=Step.uncall hext hos hgn hpnew t₂
  cases fl with
  | ret v=>
   obtain ⟨cv,rfl,rv⟩:=rf
   obtain ⟨v',σ',hr,hp⟩:=h₂
   obtain ⟨q1,q2,q3⟩:=hr.post t₁₂ st₂ rv
   exact ⟨v',σ',hp,q1,q2,q3⟩
  | next=>
   cases rf
   obtain ⟨σ',hr,hp⟩:=h₂
   obtain ⟨q1,q2,q3⟩:=(Rtn.keep (v:=.none) hr).post (cv:=.none) t₁₂ st₂ (by simp only [VRel])
   exact ⟨.none,σ',hp,q1,q2,q3⟩
  | brk=>exact h₂.elim
  | cont=>exact h₂.elim
end Mine
end
section
namespace Mine
open PySem
variable {c:Cx} {d:Nat} {sc:Scope} {m:AEnv} {σ:Led} {P:V->Led->Prop} {X:XP} {K:Fl->AEnv->Led->Prop}
noncomputable def Cx.hide (c:Cx) (D:Addr):Cx:={ c with H:=D::c.H }
theorem St.hideNew {A:Around} {h h':Heap} {D:Addr} {ob:Obj} (st:St c A σ h) (x:Ext h h') (hn:h.get? D=none) (hD:h'.get? D=some ob):St (c.hide D) A σ h':=by
 have st':=st.ext x
 have hno:D∉owned σ:=fun q=>by obtain ⟨o,e⟩:=st.there q;rw [hn] at e;cases e
 refine ⟨st'.keep,st'.nodup,st'.fresh,fun a o hm=>?_,st'.frames,st'.prot,fun b hb=>?_⟩
 ·refine (st.objs a o hm).mono x fun b hb=>?_
  rcases List.mem_cons.mp hb with rfl | hb
  ·exact .inr hn
  ·exact .inl hb
 ·rcases List.mem_cons.mp hb with rfl | hb
  ·exact ⟨hno,ob,hD⟩
  ·exact st'.hid b hb
theorem St.unhide {A:Around} {h:Heap} {D:Addr} (st:St (c.hide D) A σ h):St c A σ h:=
 ⟨st.keep,st.nodup,st.fresh,fun a o hm=>(st.objs a o hm).mono Ext.refl fun b hb=>.inl (List.mem_cons_of_mem _ hb),st.frames,st.prot,fun b hb=>st.hid b (List.mem_cons_of_mem _ hb)⟩
theorem But.carriesHid {own:List Addr} {h h':Heap} {D:Addr} (hD:D∈own) (k:But D h h'):Carries own own h h':=fun a o e ha f=>⟨k a o (fun q=>ha (q ▸ hD)) e,ha⟩
theorem St.writeHid {A:Around} {h h':Heap} {D:Addr} {ob ob':Obj} (st:St c A σ h) (hD:D∈c.H) (h0:c.k.h0.get? D=none) (hob:h.get? D=some ob) (hnd:¬ Obj.isDict ob) (k:But D h h') (hob':h'.get? D=some ob'):St c A σ h':=by
 have hno:=(st.hid D hD).1
 have hc:Carries (ownS c σ) (ownS c σ) h h':=k.carriesHid (List.mem_append_left _ hD)
 refine ⟨fun b o e=>k b o (fun q=>by rw [q,h0] at e;cases e) (st.keep b o e),st.nodup,st.fresh,fun a o hm=>?_,?_,fun b hb=>?_,fun b hb=>?_⟩
 ·have hne:∀ b∈o.addrs a,b≠D:=fun b hb q=>hno (mem_owned.mpr ⟨a,o,hm,q ▸ hb⟩)
  have hr:=st.objs a o hm
  cases o with
  | list vs=>
   obtain ⟨cs,⟨n,p⟩,hl,r⟩:=hr
   exact ⟨cs,⟨n,k a _ (hne a (by simp [O.addrs])) p⟩,hl,r.carry hc⟩
  | dictI _=>exact DictR.carry hr (fun ob' e=>k a _ (hne a (by simp [O.addrs])) e) hc
  | dictS _=>exact DictR.carry hr (fun ob' e=>k a _ (hne a (by simp [O.addrs])) e) hc
  | inst _ _ _=>exact InstR.carry hr (fun b hb ob' e=>k b _ (hne b (by simpa [O.addrs] using hb)) e) hc
  | exc C=>obtain ⟨o,vs,e,q1,q2⟩:=hr;exact ⟨o,vs,k a _ (hne a (by simp [O.addrs])) e,q1,q2⟩
 ·obtain ⟨l,hl,hfr,hd⟩:=st.frames
  have hne:∀ L∈l.filterMap (·.frame),L≠D:=fun L hL q=>by subst q;exact hnd ((hd L hL).2.2 _ hob)
  refine ⟨l,hl,za8 hfr fun L hL=>?_,fun L hL=>⟨(hd L hL).1,(hd L hL).2.1,fun o e=>?_⟩⟩
  ·obtain ⟨_,o,ho,hnf⟩:=hfr.mem hL
   exact ⟨o,k L o (hne L hL) ho,hnf⟩
  ·obtain ⟨_,o',e',_⟩:=hfr.mem hL
   rw [k L o' (hne L hL) e'] at e;cases e
   exact (hd L hL).2.2 o e'
 ·obtain ⟨o,e⟩:=st.prot b hb
  by_cases q:b=D
  ·subst q;exact ⟨_,hob'⟩
  ·exact ⟨o,k b o q e⟩
 ·obtain ⟨q1,o,e⟩:=st.hid b hb
  refine ⟨q1,?_⟩
  by_cases q:b=D
  ·subst q;exact ⟨_,hob'⟩
  ·exact ⟨o,k b o q e⟩
theorem EnvRel.writeHid {env:Env} {h h':Heap} {D:Addr} (er:EnvRel c (ownS c σ) env m h) (hD:D∈c.H) (k:But D h h'):EnvRel c (ownS c σ) env m h':=by
 have hDo:D∈ownS c σ:=List.mem_append_left _ hD
 have hc:Carries (ownS c σ) (ownS c σ) h h':=k.carriesHid hDo
 obtain ⟨mc,⟨oL,es,ep,ho,r⟩,hm⟩:=er.ns
 have hcell:∀ {a:Addr} {v:Option Value},a∉ownS c σ->h.IsCell a v->h'.IsCell a v:=fun {a v} ha ⟨oc,hoc,hdc⟩=>⟨oc,k a oc (fun q=>ha (q ▸ hDo)) hoc,hdc⟩
 refine ⟨⟨mc,⟨oL,es,ep,k _ _ (fun q=>er.lnot.1 (q ▸ hDo)) ho,r⟩,fun y v hy hk=>?_⟩,fun y v hy hk=>?_,er.lnot,fun y a ha=>?_,er.apart⟩
 ·obtain ⟨cv,e,r⟩:=hm y v hy hk
  exact ⟨cv,e,r.carry hc⟩
 ·obtain ⟨a,cv,e,hcl,r⟩:=er.cell y v hy hk
  exact ⟨a,cv,e,hcell (er.cnot y a (mem_of_lookup e)).1 hcl,r.carry hc⟩
 ·obtain ⟨h1,h2,h3,h4,v,h5⟩:=er.cnot y a ha
  exact ⟨h1,h2,h3,h4,v,hcell h1 h5⟩
theorem codeAny_comp_any {prog:Program} {w:World} {A:Around} {R:Result->Shared->Prop} {s:Shared} {elt target iter:Expr} {ifs:List Expr} {scope:Scope} {pos:Pos} {it acc:Value} {env:Env} (I:Nat->Shared->Prop)
  (turn:∀ n s,I n s->wpAny (model prog w) A (pyNext it) (fun r s₁=>match r with
   | none=>R (.ok .next) s₁
   | some v=>wpAny (model prog w) A (letOwnedTupleGo target it v) (fun z1 s₁'=>wpAny (model prog w) A (assign target env v) (fun z1 s₂=>
     wpAny (model prog w) A (forIn ifs true fun c r=>if r=true then do let ok ← isTrue c env (eval c env);pure (ForInStep.yield ok) else pure (ForInStep.yield r)) (fun ok s₃=>
      if ok=true then wpAny (model prog w) A (eval elt env) (fun x s₄=>
       wpAny (model prog w) A (call (.builtin "list.append") [acc,x]) (fun z1 s₅=>∃ m,m<n/\I m s₅) (notedBy (model prog w) A env fun e s'=>R (.error e) s') s₄) (notedBy (model prog w) A env fun e s'=>R (.error e) s') s₃
      else ∃ m,m<n/\I m s₃) (notedBy (model prog w) A env fun e s'=>R (.error e) s') s₂) (notedBy (model prog w) A env fun e s'=>R (.error e) s') s₁') (notedBy (model prog w) A env fun e s'=>R (.error e) s') s₁) (notedBy (model prog w) A env fun e s'=>R (.error e) s') s)
  (n:Nat) (h:I n s):codeAny (model prog w) A (.compLoop (.ListComp elt [⟨target,iter,ifs,0⟩] scope pos) 0 it acc env) R s:=by
 refine codeAny_loop rfl I (fun n s hI=>?_) n h
 show wpAny _ A ((compTurn (.ListComp elt [⟨target,iter,ifs,0⟩] scope pos) 0 it acc env).onRaise (fun x=>do noteFrame x env;theTreesLotGoes x)) _ _ s
 refine wpAny_noted ?_
 rw [compTurn_list]
 refine wpAny_bind (wpAny_standAt (wpAny_bind (wpAny_mono (turn n s hI) (fun r s₁ h₁=>?_) fun z1 z2 h'=>h')))
 cases r with
 | none=>exact wpAny_pure h₁
 | some v=>
  refine wpAny_bind (wpAny_mono h₁ (fun z1 s₁' h₁'=>wpAny_bind (wpAny_mono h₁' (fun z1 s₂ h₂=>wpAny_bind (wpAny_mono h₂ (fun ok s₃ h₃=>?_) fun z1 z2 h'=>h')) fun z1 z2 h'=>h')) fun z1 z2 h'=>h')
  cases ok with
  | false=>exact wpAny_pure ⟨rfl,h₃⟩
  | true=>
   exact wpAny_bind (wpAny_bind (wpAny_mono h₃ (fun x s₄ h₄=>wpAny_bind (wpAny_mono h₄ (fun z1 s₅ h₅=>wpAny_pure (wpAny_pure ⟨rfl,h₅⟩)) fun z1 z2 h'=>h')) fun z1 z2 h'=>h'))
noncomputable def varOf:Option NameKind->Bool
 | some .cell | some .free=>true
 | _=>false
noncomputable def ownOf:Option NameKind->Bool
 | some .local | some .cell=>true
 | _=>false
noncomputable def compOk (scope sc:Scope) (xs:List Str):Bool:=
 scope.kind == .function && nodupB (scope.names.map (·.1)) &&
 (scope.names.all fun p=>p.1 != ("__debug__":Str) && p.1 != ("__classdict__":Str) && (p.2 != .free || varOf (sc.names.lookup p.1)) && (!ownOf (some p.2) || xs.contains p.1 || p.1 == (".0":Str))) &&
 xs.all fun x=>ownOf (scope.names.lookup x)
noncomputable def zbd (scope sc:Scope):Scope:=
 { scope with names:=scope.names.map fun (n,k)=>if (k == .free && sc.kind == .function && sc.names.lookup n == some .cell) then (n,.cell) else (n,k) }
set_option tactic.hygienic true
theorem lookup_relabelS {scope sc:Scope} {x:Str}:(zbd scope sc).names.lookup x=(scope.names.lookup x).map fun k=>if (k == .free && sc.kind == .function && sc.names.lookup x == some .cell) then .cell else k:=by
 unfold zbd
 dsimp only
 induction scope.names with
 | nil=>rfl
 | cons p r ih=>
  obtain ⟨n,k⟩:=p
  simp only [List.map_cons]
  by_cases hx:x=n
  ·subst hx
   split
   ·rename_i hc
    simp only [List.lookup_cons,beq_self_eq_true,Option.map_some]
    rw [if_pos hc]
   ·rename_i hc
    simp only [List.lookup_cons,beq_self_eq_true,Option.map_some]
    rw [if_neg hc]
  ·have hb:(x == n)=false:=beq_eq_false_iff_ne.mpr hx
   split <;> simp only [List.lookup_cons,hb] <;> exact ih
noncomputable def clOf (cells:List (Str × Addr)):List (Str × NameKind)->List (Str × Addr)->List (Str × Addr)
 | [],acc=>acc
 | (n,k)::r,acc=>if k == .free then clOf cells r ((n,(cells.lookup n).getD 0)::acc) else clOf cells r acc
set_option tactic.hygienic false
theorem closureFor_eq {scope:Scope} {env:Env} (h:∀ p∈scope.names,p.2=.free->∃ a,env.cells.lookup p.1=some a):closureFor scope env=pure (clOf env.cells scope.names []):=by
 unfold closureFor
 have key:∀ (names:List (Str × NameKind)) (acc:List (Str × Addr)),(∀ p∈names,p.2=.free->∃ a,env.cells.lookup p.1=some a)->
   (forIn names acc fun x cs=>match x with | (name,kind)=>if (kind == NameKind.free)=true then (do let a ← cellOf env name;pure (ForInStep.yield ((name,a)::cs))) else pure (ForInStep.yield cs))=(pure (clOf env.cells names acc):Sem _):=by
  intro names
  induction names with
  | nil=>intro acc _;rfl
  | cons p r ih=>
   intro acc hp
   obtain ⟨n,k⟩:=p
   rw [List.forIn_cons]
   have hr:=fun p hm=>hp p (List.mem_cons_of_mem _ hm)
   by_cases hk:(k == NameKind.free)=true
   ·obtain ⟨a,ha⟩:=hp (n,k) (.head _) (beq_iff_eq.mp hk)
    have e1:cellOf env n=pure a:=by unfold cellOf;rw [ha]
    simp only [hk,if_true,e1,pure_bind]
    rw [ih _ hr]
    simp only [clOf,hk,if_true,ha,Option.getD_some]
   ·have hk':(k == NameKind.free)=false:=by simpa using hk
    simp only [hk',Bool.false_eq_true,if_false,pure_bind]
    rw [ih _ hr]
    simp only [clOf,hk',Bool.false_eq_true,if_false]
 have:=key scope.names [] h
 simp only [bind_pure]
 exact this
set_option tactic.hygienic true
theorem mem_clOf:∀ (cells:List (Str × Addr)) (names:List (Str × NameKind)) (acc:List (Str × Addr)) {x:Str} {a:Addr},(x,a)∈clOf cells names acc->(x,a)∈acc\/((x,NameKind.free)∈names/\a=(cells.lookup x).getD 0)
 | _,[],_,_,_,h=>.inl h
 | cells,(n,k)::r,acc,x,a,h=>by
  unfold clOf at h
  split at h
  ·rename_i hk
   have hk':k=.free:=beq_iff_eq.mp hk
   subst hk'
   rcases mem_clOf cells r _ h with q | ⟨q1,q2⟩
   ·rcases List.mem_cons.mp q with q | q
    ·cases q;exact .inr ⟨.head _,rfl⟩
    ·exact .inl q
   ·exact .inr ⟨.tail _ q1,q2⟩
  ·rcases mem_clOf cells r _ h with q | ⟨q1,q2⟩
   ·exact .inl q
   ·exact .inr ⟨.tail _ q1,q2⟩
theorem keys_clOf:∀ (cells:List (Str × Addr)) (names:List (Str × NameKind)) (acc:List (Str × Addr)),(clOf cells names acc).map (·.1)=((names.filter (·.2 == .free)).map (·.1)).reverse++acc.map (·.1)
 | _,[],_=>by simp [clOf]
 | cells,(y,k)::r,acc=>by
  unfold clOf
  split
  ·rename_i hk
   rw [keys_clOf cells r]
   simp [List.filter_cons,hk]
  ·rename_i hk
   rw [keys_clOf cells r]
   have:(k == NameKind.free)=false:=by simpa using hk
   simp [List.filter_cons,this]
set_option tactic.hygienic false
theorem pairwise_keys {cells l:List (Str × Addr)} (hp:cells.Pairwise fun x y=>x.2≠y.2) (hn:(l.map (·.1)).Nodup) (hl:∀ x a,(x,a)∈l->cells.lookup x=some a):l.Pairwise fun x y=>x.2≠y.2:=by
 induction l with
 | nil=>exact .nil
 | cons p r ih=>
  simp only [List.map_cons,List.nodup_cons] at hn
  refine List.pairwise_cons.mpr ⟨fun q hq e=>?_,ih hn.2 fun x a h=>hl x a (.tail _ h)⟩
  have h1:=hl p.1 p.2 (.head _)
  have h2:=hl q.1 q.2 (.tail _ hq)
  have:p.1=q.1:=name_of_addr hp (mem_of_lookup h1) (e ▸ mem_of_lookup h2)
  exact hn.1 (this ▸ List.mem_map.mpr ⟨q,hq,rfl⟩)
theorem zb6:∀ (names:List (Str × NameKind)) (n:Nat) (acc:List (Str × Addr)),cellsFrom n names acc=cellsFrom n names []++acc
 | [],_,_=>rfl
 | (y,k)::r,n,acc=>by
  unfold cellsFrom
  split
  ·rw [zb6 r (n+1) ((y,n)::acc),zb6 r (n+1) [(y,n)]];simp
  ·exact zb6 r n acc
end Mine
end
section
set_option genSizeOf false
set_option genInjectivity false
namespace Mine
open PySem
variable {c:Cx} {d:Nat} {sc:Scope} {m:AEnv} {σ:Led} {P:V->Led->Prop} {X:XP} {K:Fl->AEnv->Led->Prop}
theorem ButL.refl {wr:List Addr} {h:Heap}:ButL wr h h:=fun z1 z2 z3 e=>e
theorem ButL.trans {wr:List Addr} {h h' h'':Heap} (x:ButL wr h h') (y:ButL wr h' h''):ButL wr h h'':=fun b o hb e=>y b o hb (x b o hb e)
theorem But.toL {wr:List Addr} {h h':Heap} {L:Addr} (x:But L h h') (hL:L∈wr):ButL wr h h':=fun b o hb e=>x b o (fun q=>hb (q ▸ hL)) e
theorem Ext.toL {wr:List Addr} {h h':Heap} (x:Ext h h'):ButL wr h h':=fun b o z1 e=>x b o e
theorem own_kind {k:Option NameKind} (h:ownOf k=true):k=some .local\/k=some .cell:=by
 cases k with
 | none=>cases h
 | some k=>cases k <;> first | exact .inl rfl | exact .inr rfl | cases h
theorem var_kind {k:Option NameKind} (h:varOf k=true):k=some .cell\/k=some .free:=by
 cases k with
 | none=>cases h
 | some k=>cases k <;> first | exact .inl rfl | exact .inr rfl | cases h
theorem assign_N {A:Around} {env:Env} {E:Value->Shared->Prop} {W:List Addr} (ok:EnvOk env) (hW:env.locals∈W) {x:Str} {p:Pos} {v:V} {cv:Value} {s:Shared}
  (hk:ownOf (env.kindOf x)=true) (hw:∀ L,env.kindOf x=some .cell->env.cells.lookup x=some L->L∈W)
  (st:St c A σ s.heap) (er:EnvRel c (ownS c σ) env m s.heap) (r:VRel s.heap (ownS c σ) v cv) :
  wpAny c.M A (assign (.Name x p) env cv) (fun z1 s'=>∃ h' tk,s'={ s with heap:=h',toks:=tk }/\ButL W s.heap h'/\St c A σ h'/\EnvRel c (ownS c σ) env ((x,v)::m) h') E s:=by
 refine wpAny_assign_Name (wpAny_mono (zbt ok st er r (own_kind hk)) ?_ fun z1 z2 x=>x)
 rintro _ s₁ ⟨⟨t₁,hs₁,er₁⟩,L,h',tk,rfl,kb,hL⟩
 have hLW:L∈W:=by
  rcases hL with ⟨_,rfl⟩ | ⟨q1,q2⟩
  ·exact hW
  ·exact hw L q1 q2
 exact ⟨h',tk,rfl,kb.toL hLW,hs₁,er₁⟩
noncomputable def tupOf (v:V):Option (List V):=V.casesOn v none (fun z1=>none) (fun z1=>none) (fun z1=>none) some (fun z1=>none) (fun z1 z2=>none) (fun z1 z2=>none) (fun z1=>none) (fun z1=>none)
theorem tupOf_some {v:V} {vs:List V} (h:tupOf v=some vs):v=.tup vs:=by
 cases v with
 | tup us=>exact congrArg _ (Option.some.inj h)
 | _=>cases h
noncomputable def bv (n:Nat) (v:V):Option (List V):=if n=1 then some [v] else (tupOf v).bind fun vs=>if vs.length=n then some vs else none
noncomputable def bnd {κ:Type} (xs:List κ) (v:V) (m:List (κ × V)):Option (List (κ × V)):=(bv xs.length v).map fun vs=>(xs.zip vs).reverseAux m
set_option tactic.hygienic true
theorem bv_many {n:Nat} {v:V} {vs:List V} (hn:n≠1) (h:bv n v=some vs):v=.tup vs/\vs.length=n:=by
 unfold bv at h
 rw [if_neg hn] at h
 obtain ⟨us,h1,h2⟩:=Option.bind_eq_some_iff.mp h
 split at h2
 ·rename_i q;cases h2;exact ⟨tupOf_some h1,q⟩
 ·cases h2
set_option tactic.hygienic false
theorem bv_len {n:Nat} {v:V} {vs:List V} (h:bv n v=some vs):vs.length=n:=by
 by_cases q:n=1
 ·unfold bv at h;rw [if_pos q] at h;cases h;exact q.symm
 ·exact (bv_many q h).2
noncomputable def NmsAre:List Expr->List Str->Prop
 | [],xs=>xs=[]
 | t::ts,xs=>∃ x p xs',t=.Name x p/\xs=x::xs'/\NmsAre ts xs'
inductive TgtIs:Expr->List Str->Prop
 | one {x:Str} {p:Pos}:TgtIs (.Name x p) [x]
 | many {ts:List Expr} {k:Nat} {p:Pos} {xs:List Str}:NmsAre ts xs->xs.length≠1->TgtIs (.Tuple ts k p) xs
theorem bnd_pre {xs:List Str} {v:V} {m m₁:AEnv} (h:bnd xs v m=some m₁):∃ pre:AEnv,(∀ m',bnd xs v m'=some (pre++m'))/\m₁=pre++m/\∀ x,(pre.lookup x=none ↔ x∉xs):=by
 obtain ⟨vs,h1,rfl⟩:=Option.map_eq_some_iff.mp h
 refine ⟨(xs.zip vs).reverse,fun m'=>?_,List.reverseAux_eq,fun x=>?_⟩
 ·unfold bnd;rw [h1,Option.map_some,List.reverseAux_eq]
 ·rw [List.lookup_eq_none_iff]
  have hm:(xs.zip vs).map (·.1)=xs:=List.map_fst_zip (Nat.le_of_eq (bv_len h1).symm)
  constructor
  ·intro k hm'
   rw [← hm] at hm'
   obtain ⟨p,hp,e⟩:=List.mem_map.mp hm'
   exact bne_iff_ne.mp (k p (List.mem_reverse.mpr hp)) e.symm
  ·exact fun k p hp=>bne_iff_ne.mpr fun e=>k (by rw [← hm];exact List.mem_map.mpr ⟨p,List.mem_reverse.mp hp,e.symm⟩)
theorem names_each {env:Env} {ts:List Expr}:∀ {xs:List Str},NmsAre ts xs->(assignEach ts env).length=xs.length/\(assignEach ts env).findIdx? (·.1)=none:=by
 induction ts with
 | nil=>intro xs h;cases (show xs=[] from h);exact ⟨rfl,rfl⟩
 | cons t ts ih=>
  rintro _ ⟨x,p,xs',rfl,rfl,h'⟩
  obtain ⟨e1,e2⟩:=ih h'
  refine ⟨congrArg (·+1) e1,?_⟩
  show ((false,_)::assignEach ts env).findIdx? _=none
  rw [List.findIdx?_cons,e2];rfl
theorem assign_Ns {A:Around} {env:Env} {E:Value->Shared->Prop} {W:List Addr} (ok:EnvOk env) (hW:env.locals∈W) (hp:∀ b∈W,b∈places env) {ts:List Expr}:∀ {xs:List Str} {vs:List V} {cs:List Value} {m:AEnv} {s:Shared},NmsAre ts xs->vs.length=xs.length->
  (∀ x∈xs,ownOf (env.kindOf x)=true)->(∀ x∈xs,∀ L,env.kindOf x=some .cell->env.cells.lookup x=some L->L∈W)->
  St c A σ s.heap->EnvRel c (ownS c σ) env m s.heap->VRels s.heap (ownS c σ) vs cs->
  wpAny c.M A (assignInOrder ((assignEach ts env).map (·.2)) cs) (fun z1 s'=>∃ h' tk,s'={ s with heap:=h',toks:=tk }/\ButL W s.heap h'/\St c A σ h'/\EnvRel c (ownS c σ) env ((xs.zip vs).reverseAux m) h') E s:=by
 induction ts with
 | nil=>
  intro xs vs cs m s h hl _ _ st er rs
  cases (show xs=[] from h)
  cases (List.eq_nil_of_length_eq_zero hl)
  cases (show cs=[] from rs)
  exact wpAny_pure ⟨s.heap,s.toks,rfl,.refl,st,er⟩
 | cons t ts ih=>
  rintro _ vs cs m s ⟨x,p,xs',rfl,rfl,h'⟩ hl hk hw st er rs
  cases vs with
  | nil=>cases hl
  | cons v vs=>
   obtain ⟨cv,cs',rfl,r,rs'⟩:=rs
   show wpAny _ _ (do holding cs' (assign (.Name x p) env cv);assignInOrder ((assignEach ts env).map (·.2)) cs') _ _ _
   refine wpAny_bind (wpAny_holding (wpAny_mono (assign_N ok hW (hk x (.head _)) (hw x (.head _)) st er r) ?_ fun z1 z2 x=>x))
   rintro _ s₁ ⟨h₁,tk₁,rfl,kb₁,st₁,er₁⟩
   refine wpAny_mono (ih (s:={ s with heap:=h₁,toks:=tk₁ }) h' (Nat.succ.inj hl) (fun y hy=>hk y (.tail _ hy)) (fun y hy=>hw y (.tail _ hy)) st₁ er₁ (rs'.carry fun a o e ha f=>⟨kb₁ a o (fun w=>er.places a (hp a w) o e f) e,ha⟩)) ?_ fun z1 z2 x=>x
   rintro _ s₂ ⟨h₂,tk₂,rfl,kb₂,st₂,er₂⟩
   exact ⟨h₂,tk₂,rfl,kb₁.trans kb₂,st₂,er₂⟩
theorem assign_T {A:Around} {env:Env} {E:Value->Shared->Prop} {W:List Addr} (ok:EnvOk env) (hA:A.handled=none) (hW:env.locals∈W) {te:Expr} {xs:List Str} {v:V} {cv:Value} {s:Shared} {m₁:AEnv} (ht:TgtIs te xs) (hb:bnd xs v m=some m₁)
  (hk:∀ x∈xs,ownOf (env.kindOf x)=true) (hw:∀ x∈xs,∀ L,env.kindOf x=some .cell->env.cells.lookup x=some L->L∈W) (hp:∀ b∈W,b∈places env)
  (st:St c A σ s.heap) (er:EnvRel c (ownS c σ) env m s.heap) (r:VRel s.heap (ownS c σ) v cv) :
  wpAny c.M A (assign te env cv) (fun z1 s'=>∃ h' tk,s'={ s with heap:=h',toks:=tk }/\ButL W s.heap h'/\St c A σ h'/\EnvRel c (ownS c σ) env m₁ h') E s:=by
 cases ht with
 | one=>cases (Option.some.inj hb:(_,v)::m=m₁);exact assign_N ok hW (hk _ (.head _)) (hw _ (.head _)) st er r
 | many hn hx=>
  obtain ⟨vs,hv,rfl⟩:=Option.map_eq_some_iff.mp hb
  obtain ⟨rfl,hl⟩:=bv_many hx hv
  obtain ⟨a,cs,rfl,ha,p,hsz,rs⟩:=r
  have hlen:=rs.length
  obtain ⟨h1,h2⟩:=names_each (env:=env) hn
  refine wpAny_assign_Tuple hA p.isTuple (by simp [h1,hlen,hl]) h2 fun h' hx=>?_
  have hx':Ext s.heap h':=fun b o e=>hx b o (Nat.ne_of_lt (Heap.lt_size e)) e
  have t₁:Step c.F (owned σ) (owned σ) s { s with heap:=h' }:=.ext hx' rfl rfl
  refine wpAny_mono (assign_Ns ok hW hp (s:={ s with heap:=h' }) hn hl hk hw (st.ext hx') (er.mono t₁.kept.wider t₁.grow.wider) (t₁.vs rs)) ?_ fun z1 z2 x=>x
  rintro _ s₂ ⟨h₂,tk₂,rfl,kb₂,st₂,er₂⟩
  exact ⟨h₂,tk₂,rfl,hx'.toL.trans kb₂,st₂,er₂⟩
theorem lookup_filter_key {f:Str->Bool} (m:AEnv) (x:Str):(m.filter fun p=>f p.1).lookup x=if f x=true then m.lookup x else none:=by
 induction m with
 | nil=>exact (ite_self _).symm
 | cons p r ih=>
  obtain ⟨y,v⟩:=p
  rw [List.filter_cons,List.lookup_cons]
  by_cases hx:x=y
  ·subst hx
   rw [beq_self_eq_true]
   cases hf:f x with
   | true=>rw [if_pos rfl,List.lookup_cons,beq_self_eq_true];rfl
   | false=>rw [if_neg Bool.false_ne_true,ih,hf];rfl
  ·rw [beq_eq_false_iff_ne.mpr hx]
   split
   ·rw [List.lookup_cons,beq_eq_false_iff_ne.mpr hx];exact ih
   ·exact ih
noncomputable def WIfs (c:Cx) (d:Nat) (sc:Scope) (ifs:List Expr) (m:AEnv) (σ:Led) (P:Bool->Led->Prop):Prop:=match ifs with
 | []=>P true σ
 | [e]=>WT c d sc e m σ P NoX
 | _=>False
noncomputable def WComp (c:Cx) (d:Nat) (sc:Scope) (xs:List Str) (ifs:List Expr) (elt:Expr) (m:AEnv) (Kf:List V->Led->Prop):List V->List V->Led->Prop
 | [],acc,σ=>Kf acc σ
 | v::vs,acc,σ=>∃ m₁,bnd xs v m=some m₁/\WIfs c d sc ifs m₁ σ (fun b σ₁=>if b=true then WE c d sc elt m₁ σ₁ (fun w σ₂=>WComp c d sc xs ifs elt m Kf vs (acc++[w]) σ₂) NoX else WComp c d sc xs ifs elt m Kf vs acc σ₁)
theorem wpAny_newEnv_comp {M:Model} {A:Around} {E:Value->Shared->Prop} {s:Shared} {scope:Scope} {g:Addr} {cl:List (Str × Addr)} {q:Str} {env:Env} {Q:Env->Shared->Prop}
  (h:Q (newEnv scope s.heap.objs.size g (cellsFrom (s.heap.objs.size+1) scope.names cl) q none .none (some env) builtinsNs) { s with heap:=pushCells (s.heap.push { cls:=.type "dict",data:=.dict #[] }) scope.names }) :
  wpAny M A (newFunctionEnv scope g cl [] q none .none (some env)) Q E s:=by
 simp only [newFunctionEnv,Option.isSome_some,if_true]
 refine wpAny_bind (wpAny_alloc ?_)
 refine wpAny_bind (wpAny_layCells _ (fun name kind cells=>by cases hkc:kind == NameKind.cell <;> simp [hkc]) _ _ _ _ ?_)
 rw [show ({ s with heap:=s.heap.push { cls:=.type "dict",data:=.dict #[] } }:Shared).heap.objs.size=s.heap.objs.size+1 from Heap.size_push ..]
 exact wpAny_bind (wpAny_pure (wpAny_pure h))
theorem WIfs.run {ifs:List Expr} {P:Bool->Led->Prop} (h:WIfs c d sc ifs m σ P) {env:Env} {A:Around} {s:Shared} {E:Value->Shared->Prop} (r:RE c d sc m σ NoX env A s E) {Q:Bool->Shared->Prop}
  (hQ:∀ b σ' s',P b σ'->Step c.F (owned σ) (owned σ') s s'->St c A σ' s'.heap->Q b s') :
  wpAny c.M A (forIn ifs true fun c r=>if r=true then do let ok ← isTrue c env (eval c env);pure (ForInStep.yield ok) else pure (ForInStep.yield r)) Q E s:=by
 cases ifs with
 | nil=>exact wpAny_tests_nil (hQ true σ s h .refl r.st)
 | cons e1 es=>
  cases es with
  | cons _ _=>exact h.elim
  | nil=>
   refine wpAny_tests_one (wpAny_mono (h env A s E r) ?_ fun z1 z2 x=>x)
   rintro b s₅ ⟨σ₅,h₅,t₅,st₅⟩
   exact hQ b σ₅ s₅ h₅ t₅ st₅
structure CQ where
 c:Cx
 G:List Addr
 d:Nat
 A:Around
 env:Env
 S:Scope
 te:Expr
 xs:List Str
 ifs:List Expr
 elt:Expr
 m:AEnv
 mb:AEnv
 Kf:List V->Led->Prop
 vs:List V
 σ:Led
 s:Shared
 D:Addr
 Ws:List Addr
 I:Addr
 fp:List Addr
 wr:List Addr
 Pf:Nat->Value->Prop
 Stf:Nat->Heap->Prop
 hi:Heap
noncomputable abbrev CQ.cD (Q:CQ):Cx:=(Q.c.pro Q.G).hide Q.D
structure CQ.Ok (Q:CQ):Prop where
 a:AOk Q.c.k Q.d Q.A
 ok:EnvOk Q.env
 sc:Q.env.scope=Q.S
 it:ItOk (Q.c.pro Q.G) Q.A Q.σ Q.vs Q.s.heap Q.hi Q.I Q.fp Q.wr Q.Pf Q.Stf
 wrOk:∀ σ' h',(∀ b∈Q.wr,b∉owned σ')->(∀ b∈Q.wr,∀ o,h'.get? b=some o->¬ Frozen o)->WrOk Q.cD Q.A σ' Q.wr h'
 plwr:∀ b∈places Q.env,b∉Q.wr
 loc:Q.env.locals∈Q.Ws
 Wpl:∀ b∈Q.Ws,b∈places Q.env
 Wnew:∀ b∈Q.Ws,Q.s.heap.get? b=none
 WF:∀ b∈Q.Ws,b∉(Q.c.pro Q.G).F
 DW:Q.D∉Q.Ws
 Dwr:Q.D∉Q.wr
 Dnew:Q.s.heap.get? Q.D=none
 DF:Q.D∉(Q.c.pro Q.G).F
 D0:Q.c.k.h0.get? Q.D=none
 fpD:∀ b∈Q.fp,b≠Q.D/\b∉Q.Ws
 hh:Q.A.handled=none
 tgt:TgtIs Q.te Q.xs
 own1:∀ x∈Q.xs,ownOf (Q.env.kindOf x)=true
 own2:∀ x∈Q.xs,∀ L,Q.env.kindOf x=some .cell->Q.env.cells.lookup x=some L->L∈Q.Ws
 sub:∀ v m₁,bnd Q.xs v Q.m=some m₁->∃ m₂,bnd Q.xs v Q.mb=some m₂/\Sub m₁ m₂/\Sub Q.mb m₂
structure CQ.Core0 (Q:CQ) (acc:List V) (σ':Led) (ccs:List Value) (s':Shared):Prop where
 t:Step (Q.c.pro Q.G).F (owned Q.σ) (owned σ') Q.s s'
 st:St Q.cD Q.A σ' s'.heap
 er:EnvRel Q.cD (ownS Q.cD σ') Q.env Q.mb s'.heap
 pD:PlainSeq s'.heap "list" Q.D ccs
 acc:VRels s'.heap (ownS Q.cD σ') acc ccs
structure CQ.Core (Q:CQ) (j:Nat) (acc:List V) (σ':Led) (ccs:List Value) (s':Shared):Prop extends CQ.Core0 Q acc σ' ccs s' where
 stf:Q.Stf j s'.heap
 wo:∀ b∈Q.wr,b∉owned σ'
section
variable {Q:CQ} {j:Nat} {acc:List V} {σ' σ₅:Led} {ccs:List Value} {s' s₅:Shared} {h':Heap} {tk:Nat}
theorem CQ.Core.wok (q:Q.Ok) (k:Q.Core j acc σ' ccs s'):WrOk Q.cD Q.A σ' Q.wr s'.heap:=q.wrOk σ' _ k.wo fun b hb o e=>by
 obtain ⟨o',e',q1,q2⟩:=q.it.obj j _ k.stf b hb
 rw [e] at e';cases e';exact iter_notFrozen q1 q2
theorem CQ.Core.turn0 (q:Q.Ok) (k:Q.Core j acc σ' ccs s') (hk:ButL Q.wr s'.heap h'):Q.Core0 acc σ' ccs { s' with heap:=h',toks:=tk }:=
 ⟨k.t.writeL q.it.new (k.wok q).notF hk,k.st.writeL (k.wok q) hk,k.er.writeL (k.wok q) q.plwr hk,let ⟨n,e⟩:=k.pD;⟨n,hk _ _ q.Dwr e⟩,VRels.writeL (k.wok q).seq hk acc ccs k.acc⟩
theorem CQ.Core.set (q:Q.Ok) (k:Q.Core j acc σ' ccs s') (kb:ButL Q.Ws s'.heap h') (st:St Q.cD Q.A σ' h') (er:EnvRel Q.cD (ownS Q.cD σ') Q.env Q.mb h'):Q.Core j acc σ' ccs { s' with heap:=h',toks:=tk }:=
 ⟨⟨k.t.writeL q.Wnew q.WF kb,st,er,let ⟨n,e⟩:=k.pD;⟨n,kb _ _ q.DW e⟩,k.acc.carry fun a o e ha f=>⟨kb a o (fun w=>k.er.places a (q.Wpl a w) o e f) e,ha⟩⟩,q.it.walks.frame _ _ _ k.stf fun b hb o e=>kb b o (q.fpD b hb).2 e,k.wo⟩
theorem CQ.Core.step (q:Q.Ok) (k:Q.Core j acc σ' ccs s') (t:Step (Q.c.pro Q.G).F (owned σ') (owned σ₅) s' s₅) (st:St Q.cD Q.A σ₅ s₅.heap):Q.Core j acc σ₅ ccs s₅:=by
 refine ⟨⟨k.t.trans t,st,k.er.mono t.kept.wider t.grow.wider,?_,t.vs k.acc⟩,?_,fun b hb=>?_⟩
 ·obtain ⟨n,e⟩:=k.pD
  exact ⟨n,t.kept.exact e (k.st.hid Q.D (.head _)).1 PlainSeq.notDict⟩
 ·refine q.it.walks.frame _ _ _ k.stf fun b hb o e=>?_
  rcases q.it.fp b hb with w | w | ⟨w,ob,hob,hd⟩
  ·obtain ⟨o',e',hx,_⟩:=q.it.obj _ _ k.stf b w
   rw [e] at e';cases e'
   exact t.kept.exact e (k.wo b w) (zbh (.inl hx))
  ·exact t.prot b w o e
  ·have hob₄:s'.heap.get? b=some ob:=k.t.kept.exact hob w (zbh (.inr hd))
   rw [hob₄] at e;cases e
   exact t.kept.exact hob₄ (k.t.grow.notin w hob) (zbh (.inr hd))
 ·obtain ⟨o,e,_⟩:=q.it.obj _ _ k.stf b hb
  exact t.grow.notin (k.wo b hb) e
theorem CQ.Core.app (q:Q.Ok) (k:Q.Core j acc σ' ccs s') {w:V} {cx:Value} {n:Nat} (r:VRel s'.heap (ownS Q.cD σ') w cx) (kb:But Q.D s'.heap h') (e:h'.get? Q.D=some { cls:=.type "list",data:=.seq (ccs++[cx]).toArray n }) :
  Q.Core j (acc++[w]) σ' (ccs++[cx]) { s' with heap:=h' }:=by
 obtain ⟨n0,e0⟩:=k.pD
 have hD:Q.D∈Q.cD.H:=.head _
 exact ⟨⟨k.t.writeL (tk:=s'.toks) (wr:=[Q.D]) (fun b hb=>by rw [List.mem_singleton.mp hb];exact q.Dnew) (fun b hb=>by rw [List.mem_singleton.mp hb];exact q.DF) (kb.toL (.head _)),k.st.writeHid hD q.D0 e0 PlainSeq.notDict kb e,k.er.writeHid hD kb,⟨n,e⟩,
  (k.acc.append (VRels.one r)).carry (kb.carriesHid (List.mem_append_left _ hD))⟩,q.it.walks.frame _ _ _ k.stf fun b hb o e=>kb b o (q.fpD b hb).1 e,k.wo⟩
noncomputable def CQ.Inv (Q:CQ) (n:Nat) (s':Shared):Prop:=∃ j acc σ' ccs,n=Q.vs.length+1 - j/\j<=Q.vs.length/\ccs.length<=j/\WComp Q.cD Q.d Q.S Q.xs Q.ifs Q.elt Q.m Q.Kf (Q.vs.drop j) acc σ'/\Q.Core j acc σ' ccs s'
theorem CQ.Core.inv (k:Q.Core (j+1) acc σ' ccs s') (hj:j<Q.vs.length) (hl:ccs.length<=j+1) (hW:WComp Q.cD Q.d Q.S Q.xs Q.ifs Q.elt Q.m Q.Kf (Q.vs.drop (j+1)) acc σ'):∃ m,m<Q.vs.length+1 - j/\Q.Inv m s':=
 ⟨Q.vs.length+1 - (j+1),by (exact Ar.l02 (.lt (.s (.a (.v 0) (.k 1)) (.a (.v 1) (.k 1))) (.s (.a (.v 0) (.k 1)) (.v 1))) [(.lt (.v 1) (.v 0))] (by kernel_rfl) hj),j+1,acc,σ',ccs,rfl,hj,hl,hW,k⟩
theorem CQ.elem_ (q:Q.Ok) (k:Q.Core (j+1) acc σ' ccs s') (hj:j<Q.vs.length) (hl:ccs.length<=j) {m₁:AEnv} (er:EnvRel Q.cD (ownS Q.cD σ') Q.env m₁ s'.heap) {E:Value->Shared->Prop}
  (hW:WE Q.cD Q.d Q.S Q.elt m₁ σ' (fun w σ₂=>WComp Q.cD Q.d Q.S Q.xs Q.ifs Q.elt Q.m Q.Kf (Q.vs.drop (j+1)) (acc++[w]) σ₂) NoX) :
  wpAny Q.c.M Q.A (eval Q.elt Q.env) (fun xv s₄=>wpAny Q.c.M Q.A (call (.builtin "list.append") [.ref Q.D,xv]) (fun z1 s₅=>∃ m,m<Q.vs.length+1 - j/\Q.Inv m s₅) E s₄) E s':=by
 refine wpAny_mono (hW Q.env Q.A s' E ⟨q.sc,q.ok,q.a,k.st,er,.nox⟩) ?_ fun z1 z2 x=>x
 rintro cx s₆ ⟨w,σ₆,h₆,t₆,hSt₆,rw'⟩
 have k₆:=k.step q t₆ hSt₆
 refine wpAny_list_append_plain k₆.pD (fun h₇ hp₇ hs₇=>?_) (Nat.le_trans hl (Nat.le_trans (Nat.le_of_lt hj) q.it.size))
 obtain ⟨n,e₇⟩:=hp₇
 exact (k₆.app q rw' (fun b o hb e=>(hs₇.2 b hb).trans e) (n:=n) (by rw [e₇];simp)).inv hj (by rw [List.length_append];exact Nat.succ_le_succ hl) h₆
theorem CQ.loop (q:Q.Ok) {R:Result->Shared->Prop} (hR:∀ acc σ' ccs s',Q.Kf acc σ'->ccs.length<=sizeLine->Q.Core0 acc σ' ccs s'->R (.ok .next) s') {iter:Expr} {scope:Scope} {pos:Pos} {n:Nat} (h:Q.Inv n s') :
  codeAny Q.c.M Q.A (.compLoop (.ListComp Q.elt [⟨Q.te,iter,Q.ifs,0⟩] scope pos) 0 (.ref Q.I) (.ref Q.D) Q.env) R s':=by
 refine codeAny_comp_any Q.Inv (fun n s' h=>?_) n h
 obtain ⟨j,acc,σ',ccs,rfl,hj,hl,hW,k⟩:=h
 by_cases hlt:j<Q.vs.length
 ·refine q.it.walks.item j s' _ _ hlt k.stf fun v h' tk hP hStf' hk=>?_
  have k₃:Q.Core (j+1) acc σ' ccs { s' with heap:=h',toks:=tk }:=⟨k.turn0 q fun b o hb e=>hk b o hb e,hStf',k.wo⟩
  obtain ⟨oI,hoI,hown⟩:=q.it.own _ _ hStf'
  refine letOwned (s:={ s' with heap:=h',toks:=tk }) hoI hown ?_
  rw [List.drop_eq_getElem_cons hlt] at hW
  obtain ⟨m₁,hb,hW⟩:=hW
  obtain ⟨m₂,hb₂,sub₁,sub₂⟩:=q.sub _ _ hb
  have hrel:VRel h' (ownS Q.cD σ') Q.vs[j] v:=by
   refine q.it.elem h' _ (fun a o e ha f=>?_) j Q.vs[j] v (List.getElem?_eq_getElem hlt) hP
   have hn:a∉owned Q.σ:=fun q=>ha (List.mem_append_right _ q)
   refine ⟨k₃.t.kept.exact e hn f.notDict,fun hm=>?_⟩
   rcases List.mem_append.mp hm with w | w
   ·rcases List.mem_cons.mp w with w | w
    ·rw [w,q.Dnew] at e;cases e
    ·exact ha (List.mem_append_left _ w)
   ·exact k₃.t.grow.notin hn e w
  refine wpAny_mono (assign_T (c:=Q.cD) q.ok q.hh q.loc q.tgt hb₂ q.own1 q.own2 q.Wpl k₃.st k₃.er hrel) ?_ fun z1 z2 x=>x
  rintro _ s₄ ⟨h₄,tk₄,rfl,kb₄,hSt₄,her₄⟩
  have k₄:=k₃.set q (tk:=tk₄) kb₄ hSt₄ (her₄.sub sub₂)
  have er₄:=her₄.sub sub₁
  refine WIfs.run hW ⟨q.sc,q.ok,q.a,hSt₄,er₄,.nox⟩ fun b σ₅ s₅ h₅ t₅ st₅=>?_
  have k₅:=k₄.step q t₅ st₅
  cases b with
  | true=>exact CQ.elem_ q k₅ hlt hl (er₄.mono t₅.kept.wider t₅.grow.wider) h₅
  | false=>exact k₅.inv hlt (Nat.le_succ_of_le hl) h₅
 ·have hjl:j=Q.vs.length:=Nat.le_antisymm hj (Nat.not_lt.mp hlt)
  subst hjl
  refine q.it.walks.done s' _ _ k.stf fun h' tk hk=>?_
  rw [List.drop_length] at hW
  exact hR acc σ' ccs _ hW (Nat.le_trans hl q.it.size) (k.turn0 q fun b o hb e=>hk b o hb e)
end
structure CompK (scope sc:Scope) (xs:List Str):Prop where
 kind:scope.kind=.function
 nd:(scope.names.map (·.1)).Nodup
 deb:scope.names.lookup ("__debug__":Str)=none
 cld:scope.names.lookup ("__classdict__":Str)=none
 free:∀ x,scope.names.lookup x=some .free->varOf (sc.names.lookup x)=true
 own:∀ x,ownOf (scope.names.lookup x)=true->x∈xs\/x=(".0":Str)
 tgt:∀ x∈xs,ownOf (scope.names.lookup x)=true
theorem no_key {l:List (Str × NameKind)} {y:Str} (k:∀ p∈l,p.1≠y):l.lookup y=none:=by
 cases q:l.lookup y with
 | none=>rfl
 | some _=>exact absurd rfl (k _ (mem_of_lookup q))
theorem and_t {a b:Bool} (h:(a && b)=true):a=true/\b=true:=Bool.and_eq_true_iff.mp h
theorem or_t {a b:Bool} (h:(a || b)=true):a=true\/b=true:=Bool.or_eq_true_iff.mp h
theorem compK_of {scope sc:Scope} {xs:List Str} (h:compOk scope sc xs=true):CompK scope sc xs:=by
 have h0:=and_t (and_t h).1
 have h1:=and_t h0.1
 have hn:=fun p hp=>and_t (List.all_eq_true.mp h0.2 p hp)
 have hm:=fun p hp=>and_t (hn p hp).1
 refine ⟨eq_of_beq h1.1,zbq h1.2,no_key fun p hp=>bne_iff_ne.mp (and_t (hm p hp).1).1,no_key fun p hp=>bne_iff_ne.mp (and_t (hm p hp).1).2,fun x hx=>?_,fun x hx=>?_,List.all_eq_true.mp (and_t h).2⟩
 ·exact (or_t (hm _ (mem_of_lookup hx)).2).resolve_left fun q=>bne_iff_ne.mp q rfl
 ·cases z:scope.names.lookup x with
  | none=>rw [z] at hx;cases hx
  | some k=>
   rw [z] at hx
   rcases or_t (hn _ (mem_of_lookup z)).2 with q | q
   ·rcases or_t q with q | q
    ·rw [hx] at q;cases q
    ·exact .inl (List.contains_iff_mem.mp q)
   ·exact .inr (eq_of_beq q)
noncomputable abbrev ocl (scope:Scope) (C:Addr):List (Str × Addr):=cellsFrom (C+1) scope.names []
noncomputable abbrev ccl (scope:Scope) (env:Env):List (Str × Addr):=clOf env.cells scope.names []
noncomputable abbrev cWs (scope:Scope) (C:Addr):List Addr:=C::(ocl scope C).map (·.2)
noncomputable def cEnv (scope:Scope) (C:Addr) (env:Env):Env:={ newEnv scope C env.globals (ocl scope C++ccl scope env) env.qual none .none (some env) builtinsNs with scope:=zbd scope env.scope }
noncomputable def cmb (scope:Scope) (m:AEnv):AEnv:=m.filter fun p=>!ownOf (scope.names.lookup p.1)
section
variable {scope:Scope} {env:Env} {xs:List Str} {C:Addr}
theorem mem_kind {names:List (Str × NameKind)} {k:NameKind} {x:Str}:x∈((names.filter (·.2 == k)).map (·.1)).reverse++([]:List (Str × Addr)).map (·.1) ↔ (x,k)∈names:=by
 rw [List.map_nil,List.append_nil,List.mem_reverse,List.mem_map]
 constructor
 ·rintro ⟨⟨y,z⟩,h1,rfl⟩
  have:=List.mem_filter.mp h1
  exact eq_of_beq this.2 ▸ this.1
 ·exact fun h=>⟨_,List.mem_filter.mpr ⟨h,beq_self_eq_true k⟩,rfl⟩
theorem key_oc {x:Str}:x∈(ocl scope C).map (·.1) ↔ (x,NameKind.cell)∈scope.names:=by rw [zaq];exact mem_kind
theorem key_cl {x:Str}:x∈(ccl scope env).map (·.1) ↔ (x,NameKind.free)∈scope.names:=by rw [keys_clOf];exact mem_kind
theorem CompK.var (K:CompK scope env.scope xs) {x:Str} (hx:scope.names.lookup x=some .free):env.kindOf x=some .cell\/env.kindOf x=some .free:=var_kind (K.free x hx)
theorem mem_cl (K:CompK scope env.scope xs) (ok:EnvOk env) {x:Str} {a:Addr} (hm:(x,a)∈ccl scope env):env.cells.lookup x=some a/\(x,NameKind.free)∈scope.names:=by
 rcases mem_clOf _ _ _ hm with q | ⟨q1,q2⟩
 ·cases q
 ·obtain ⟨b,hb⟩:=ok.cell x (K.var (za1 K.nd q1))
  rw [hb] at q2
  exact ⟨q2 ▸ hb,q1⟩
theorem look_oc {x:Str} (hx:scope.names.lookup x=some .cell):∃ a,(cEnv scope C env).cells.lookup x=some a/\(x,a)∈ocl scope C:=by
 obtain ⟨a,ha⟩:=zaj (key_oc (C:=C).mpr (mem_of_lookup hx))
 exact ⟨a,by show (ocl scope C++ccl scope env).lookup x=_;rw [List.lookup_append,ha];rfl,mem_of_lookup ha⟩
theorem look_cl (K:CompK scope env.scope xs) (ok:EnvOk env) {x:Str} (hx:scope.names.lookup x=some .free):(cEnv scope C env).cells.lookup x=env.cells.lookup x:=by
 have h1:(ocl scope C).lookup x=none:=by
  cases q:(ocl scope C).lookup x with
  | none=>rfl
  | some a=>
   rw [za1 K.nd (key_oc.mp (List.mem_map.mpr ⟨_,mem_of_lookup q,rfl⟩))] at hx;cases hx
 obtain ⟨a,ha⟩:=zaj (key_cl (env:=env).mpr (mem_of_lookup hx))
 show (ocl scope C++ccl scope env).lookup x=_
 rw [List.lookup_append,h1,Option.none_or,ha,(mem_cl K ok (mem_of_lookup ha)).1]
theorem kind_c {x:Str}:(cEnv scope C env).kindOf x=(scope.names.lookup x).map fun k=>if (k == .free && env.scope.kind == .function && env.scope.names.lookup x == some .cell) then .cell else k:=lookup_relabelS
theorem kinds {x:Str}:((cEnv scope C env).kindOf x=some .local->scope.names.lookup x=some .local)/\(((cEnv scope C env).kindOf x=some .cell\/(cEnv scope C env).kindOf x=some .free)->scope.names.lookup x=some .cell\/scope.names.lookup x=some .free):=by
 rw [kind_c]
 cases scope.names.lookup x with
 | none=>exact ⟨id,id⟩
 | some k=>
  rw [Option.map_some]
  cases z:(k == .free && env.scope.kind == .function && env.scope.names.lookup x == some .cell) with
  | true=>
   have:=eq_of_beq (and_t (and_t z).1).1
   exact ⟨fun q=>(nomatch q),fun z1=>.inr (congrArg _ this)⟩
  | false=>exact ⟨id,id⟩
theorem cEnv_ok (K:CompK scope env.scope xs) (ok:EnvOk env):EnvOk (cEnv scope C env):=by
 refine ⟨K.kind,by rw [kind_c,K.deb];rfl,(by rw [kind_c,K.cld];exact fun q=>nomatch q),ok.globals,ok.builtins,fun x hx=>?_⟩
 rcases kinds.2 hx with q | q
 ·obtain ⟨a,ha,_⟩:=look_oc (C:=C) (env:=env) q;exact ⟨a,ha⟩
 ·rw [look_cl K ok q];exact ok.cell x (K.var q)
theorem CompK.own1 (K:CompK scope env.scope xs) {x:Str} (hx:x∈xs):ownOf ((cEnv scope C env).kindOf x)=true:=by
 rw [kind_c]
 rcases own_kind (K.tgt x hx) with q | q <;> rw [q] <;> rfl
theorem CompK.own2 (K:CompK scope env.scope xs) {x:Str} (hx:x∈xs) {L:Addr} (hk:(cEnv scope C env).kindOf x=some .cell) (hl:(cEnv scope C env).cells.lookup x=some L):L∈cWs scope C:=by
 rcases kinds.2 (.inl hk) with q | q
 ·obtain ⟨a,ha,hm⟩:=look_oc (C:=C) (env:=env) q
  rw [ha] at hl;cases hl
  exact .tail _ (List.mem_map.mpr ⟨_,hm,rfl⟩)
 ·have:=K.tgt x hx;rw [q] at this;cases this
theorem look_mb {m:AEnv} {x:Str}:(cmb scope m).lookup x=if ownOf (scope.names.lookup x)=true then none else m.lookup x:=by
 unfold cmb
 rw [lookup_filter_key (f:=fun x=>!ownOf (scope.names.lookup x))]
 cases ownOf (scope.names.lookup x) <;> rfl
theorem CompK.sub {sc:Scope} (K:CompK scope sc xs) {m m₁:AEnv} (hdot:m.lookup (".0":Str)=none) {v:V} (hb:bnd xs v m=some m₁):∃ m₂,bnd xs v (cmb scope m)=some m₂/\Sub m₁ m₂/\Sub (cmb scope m) m₂:=by
 obtain ⟨pre,hpre,e,hnone⟩:=bnd_pre hb
 refine ⟨pre++cmb scope m,hpre _,fun y w hy=>?_,fun y w hy=>?_⟩
 ·rw [e,List.lookup_append] at hy
  rw [List.lookup_append]
  cases q:pre.lookup y with
  | some u=>rw [q] at hy;exact hy
  | none=>
   rw [q,Option.none_or] at hy
   rw [Option.none_or,look_mb]
   cases ho:ownOf (scope.names.lookup y) with
   | false=>exact hy
   | true=>
    rcases K.own y ho with z | z
    ·exact absurd z ((hnone y).mp q)
    ·rw [z,hdot] at hy;cases hy
 ·rw [List.lookup_append]
  cases q:pre.lookup y with
  | none=>exact hy
  | some u=>
   have hm:y∈xs:=Classical.byContradiction fun k=>by rw [(hnone y).mpr k] at q;cases q
   rw [look_mb,K.tgt y hm] at hy;cases hy
theorem cWs_pl {b:Addr} (hb:b∈cWs scope C):b∈places (cEnv scope C env):=by
 rcases List.mem_cons.mp hb with q | q
 ·exact q ▸ .head _
 ·obtain ⟨p,hp,rfl⟩:=List.mem_map.mp q
  exact .tail _ (List.mem_map.mpr ⟨p,List.mem_append_left _ hp,rfl⟩)
end
structure Plc (h₁ h₄:Heap) (D:Addr) (scope:Scope):Prop where
 ext:Ext h₁ h₄
 new:∀ b,D<=b->h₁.get? b=none
 list:h₄.get? D=some { cls:=.type "list",data:=.seq ([]:List Value).toArray }
 ns:h₄.Ns (D+1) fun z1=>none
 cells:CellsOk h₄ (D+1+1) (ocl scope (D+1))
theorem plc_of {h₁ h₂:Heap} (x:Ext h₁ h₂) (scope:Scope):Plc h₁ (pushCells ((h₂.push { cls:=.type "list",data:=.seq ([]:List Value).toArray }).push { cls:=.type "dict",data:=.dict #[] }) scope.names) h₂.objs.size scope:=by
 generalize hl:h₂.push { cls:=.type "list",data:=.seq ([]:List Value).toArray }=h₃
 have x3:Ext h₂ h₃:=hl ▸ .push _
 have hC:h₃.objs.size=h₂.objs.size+1:=hl ▸ Heap.size_push ..
 have x4:Ext h₃ (pushCells (h₃.push { cls:=.type "dict",data:=.dict #[] }) scope.names):=fun b o e=>pushCells_keeps _ _ b o (Heap.get?_push_of_some _ e)
 refine ⟨(x.trans x3).trans x4,fun b hb=>?_,x4 _ _ (hl ▸ Heap.get?_push_size _ rfl),?_,?_⟩
 ·cases e:h₁.get? b with
  | none=>rfl
  | some o=>exact absurd hb (Nat.not_le.mpr (Heap.lt_size (x b o e)))
 ·have:=(Heap.Ns.new h₃ (.type "dict")).keeps fun b o e=>pushCells_keeps scope.names _ b o e
  rwa [hC] at this
 ·have:=cellsFrom_ok scope.names (h₃.push { cls:=.type "dict",data:=.dict #[] }) (h₂.objs.size+1+1) [] ⟨fun z1 z2 hm=>(nomatch hm),List.Pairwise.nil⟩ (by rw [Heap.size_push,hC];exact Nat.le_refl _)
  rwa [Heap.size_push,hC] at this
section
variable {scope:Scope} {env:Env} {xs:List Str} {D:Addr} {A:Around} {h₁ h₄:Heap} {G:List Addr}
theorem Plc.oc (p:Plc h₁ h₄ D scope) {x:Str} {a:Addr} (hm:(x,a)∈ocl scope (D+1)):D+1<a/\h₄.IsCell a none:=⟨(p.cells.empty x a hm).2,(p.cells.empty x a hm).1⟩
theorem Plc.ge (p:Plc h₁ h₄ D scope) {b:Addr} (hb:b∈cWs scope (D+1)):D<b:=by
 rcases List.mem_cons.mp hb with q | q
 ·exact q ▸ Nat.lt_succ_self D
 ·obtain ⟨⟨x,a⟩,hm,rfl⟩:=List.mem_map.mp q
  exact Nat.lt_of_succ_lt (p.oc hm).1
theorem Plc.cellOld (er:EnvRel c (ownS c σ) env m h₁) {x:Str} {a:Addr} (hl:env.cells.lookup x=some a):∃ o,h₁.get? a=some o:=by
 obtain ⟨_,o,e,_⟩:=(er.cnot x a (mem_of_lookup hl)).2.2.2.2
 exact ⟨o,e⟩
theorem Plc.notS (p:Plc h₁ h₄ D scope) (st:St c A σ h₁) {b:Addr} (hb:D<b):b∉ownS ((c.pro G).hide D) σ:=fun hm=>by
 have hn:=p.new b (Nat.le_of_lt hb)
 rcases List.mem_append.mp hm with q | q
 ·rcases List.mem_cons.mp q with q | q
  ·exact Nat.ne_of_gt hb q
  ·exact st.noH hn q
 ·exact st.noO hn q
theorem Plc.er (p:Plc h₁ h₄ D scope) (K:CompK scope env.scope xs) (ok:EnvOk env) (st:St c A σ h₁) (hG:∀ b∈G,b∈owned σ) (er:EnvRel c (ownS c σ) env m h₁):EnvRel ((c.pro G).hide D) (ownS ((c.pro G).hide D) σ) (cEnv scope (D+1) env) (cmb scope m) h₄:=by
 have growD:Grow (ownS (c.pro G) σ) (ownS ((c.pro G).hide D) σ) h₁:=fun b hb=>by
  rcases List.mem_append.mp hb with q | q
  ·rcases List.mem_cons.mp q with rfl | q
   ·exact .inr (p.new _ (Nat.le_refl _))
   ·exact .inl (List.mem_append_left _ q)
  ·exact .inl (List.mem_append_right _ q)
 have erD:EnvRel (c.pro G) (ownS ((c.pro G).hide D) σ) env m h₄:=(er.pro hG).mono p.ext.kept growD
 have stp:=st.pro hG
 have nw:∀ {a},D<a->h₁.get? a=none:=fun h=>p.new _ (Nat.le_of_lt h)
 refine ⟨⟨_,p.ns,fun x v hx hk=>?_⟩,fun x v hx hk=>?_,⟨p.notS st (Nat.lt_succ_self D),st.no0 (nw (Nat.lt_succ_self D)),stp.noF (nw (Nat.lt_succ_self D))⟩,fun x a hm=>?_,?_⟩
 ·rw [look_mb,kinds.1 hk] at hx;cases hx
 ·rcases kinds.2 hk with q | q
  ·rw [look_mb,q] at hx;cases hx
  ·rw [look_mb,q] at hx
   obtain ⟨a,cv,e,hc,r⟩:=erD.cell x v hx (K.var q)
   exact ⟨a,cv,(look_cl K ok q).trans e,hc,r⟩
 ·rcases List.mem_append.mp hm with q | q
  ·have:=p.oc q
   have hDa:D<a:=Nat.lt_of_succ_lt this.1
   exact ⟨p.notS st hDa,Nat.ne_of_gt this.1,st.no0 (nw hDa),stp.noF (nw hDa),none,this.2⟩
  ·have hl:=(mem_cl K ok q).1
   obtain ⟨h1,h2,h3,h4,v,h5⟩:=erD.cnot x a (mem_of_lookup hl)
   obtain ⟨o,e⟩:=Plc.cellOld er hl
   exact ⟨h1,fun (q:a=D+1)=>(by rw [q,nw (Nat.lt_succ_self D)] at e;cases e),h3,h4,v,h5⟩
 ·refine List.pairwise_append.mpr ⟨p.cells.apart,?_,fun u hu q hq e=>?_⟩
  ·refine pairwise_keys er.apart ?_ fun x a hm=>(mem_cl K ok hm).1
   rw [keys_clOf,List.map_nil,List.append_nil]
   exact (List.reverse_perm _).nodup_iff.mpr ((List.filter_sublist.map _).nodup K.nd)
  ·obtain ⟨o,he⟩:=Plc.cellOld er (mem_cl K ok (x:=q.1) (a:=q.2) hq).1
   rw [← e,nw (Nat.lt_of_succ_lt (p.oc (x:=u.1) (a:=u.2) hu).1)] at he;cases he
theorem Plc.pl (p:Plc h₁ h₄ D scope) (K:CompK scope env.scope xs) (ok:EnvOk env) (er:EnvRel c (ownS c σ) env m h₁) {b:Addr} (hb:b∈places (cEnv scope (D+1) env)):D<b\/∃ o,h₁.get? b=some o:=by
 rcases List.mem_cons.mp hb with q | q
 ·exact .inl (q ▸ Nat.lt_succ_self D)
 ·obtain ⟨⟨x,a⟩,hm,rfl⟩:=List.mem_map.mp q
  rcases List.mem_append.mp hm with q | q
  ·exact .inl (Nat.lt_of_succ_lt (p.oc q).1)
  ·exact .inr (Plc.cellOld er (mem_cl K ok q).1)
theorem St.hidePro {D:Addr} {h:Heap} (z:St ((c.pro G).hide D) A σ h):St (c.hide D) A σ h:=by
 obtain ⟨l,hl,hf,hd⟩:=z.frames
 exact ⟨z.keep,z.nodup,z.fresh,z.objs,⟨l,hl,hf,fun L hL=>⟨(hd L hL).1,fun q=>(hd L hL).2.1 (List.mem_append_right _ q),(hd L hL).2.2⟩⟩,fun b hb=>z.prot b (List.mem_append_right _ hb),z.hid⟩
theorem Plc.ok {s₁:Shared} {hi:Heap} (p:Plc s₁.heap h₄ D scope) (K:CompK scope env.scope xs) (ok:EnvOk env) (hA:AOk c.k d A) (hh:A.handled=none) (st:St c A σ s₁.heap) (hG:∀ b∈G,b∈owned σ) (er:EnvRel c (ownS c σ) env m s₁.heap) {te elt:Expr} {ifs:List Expr} (ht:TgtIs te xs) (hdot:m.lookup (".0":Str)=none) {Kf:List V->Led->Prop} {vs:List V} {I:Addr} {fp wr:List Addr} {Pf:Nat->Value->Prop} {Stf:Nat->Heap->Prop}
  (iok:ItOk (c.pro G) A σ vs s₁.heap hi I fp wr Pf Stf) (hwr:∀ b∈wr,b<D):CQ.Ok ⟨c,G,d,A,cEnv scope (D+1) env,zbd scope env.scope,te,xs,ifs,elt,m,cmb scope m,Kf,vs,σ,s₁,D,cWs scope (D+1),I,fp,wr,Pf,Stf,hi⟩:=by
 have stp:=st.pro hG
 have nW:∀ b∈cWs scope (D+1),s₁.heap.get? b=none:=fun b hb=>p.new b (Nat.le_of_lt (p.ge hb))
 have nD:=p.new D (Nat.le_refl _)
 refine ⟨hA,cEnv_ok K ok,rfl,iok,fun σ' h' h1 h2=>⟨h1,fun b hb=>st.no0 (iok.new b hb),fun b hb hm=>stp.noF (iok.new b hb) hm,fun b hb hm=>?_,h2,fun l hl L hL hw=>st.noL (iok.new L hw) hl hL⟩,fun b hb hw=>?_,.head _,fun b hb=>cWs_pl hb,nW,fun b hb=>stp.noF (nW b hb),fun q=>Nat.lt_irrefl _ (p.ge q),fun q=>Nat.lt_irrefl _ (hwr D q),nD,stp.noF nD,st.no0 nD,fun b hb=>?_,hh,ht,fun x hx=>K.own1 hx,fun x hx L=>K.own2 hx,fun v m₁ hb=>K.sub hdot hb⟩
 ·rcases List.mem_cons.mp hm with q | q
  ·exact Nat.ne_of_lt (hwr b hb) q
  ·exact st.noH (iok.new b hb) q
 ·rcases p.pl K ok er hb with q | ⟨o,e⟩
  ·exact Nat.lt_asymm q (hwr b hw)
  ·rw [iok.new b hw] at e;cases e
 ·rcases iok.fp b hb with q | q | ⟨_,ob,hob,_⟩
  ·exact ⟨Nat.ne_of_lt (hwr b q),fun z=>Nat.lt_asymm (p.ge z) (hwr b q)⟩
  ·exact ⟨fun (z:b=D)=>stp.noF nD (z ▸ q),fun z=>stp.noF (nW b z) q⟩
  ·exact ⟨fun (z:b=D)=>(by rw [z,nD] at hob;cases hob),fun z=>(by rw [nW b z] at hob;cases hob)⟩
end
theorem comp_core (hh:c.k.hd=true) {elt iter te:Expr} {xs:List Str} {ifs:List Expr} {scope:Scope} {pos:Pos} (ht:TgtIs te xs) (hok:compOk scope sc xs=true) (hdot:m.lookup (".0":Str)=none) {env:Env} {A:Around} {s₁:Shared} {E:Value->Shared->Prop} {σ₁:Led}
  (hsc:env.scope=sc) (ok:EnvOk env) (hA:AOk c.k d A) (st₁:St c A σ₁ s₁.heap) (er₁:EnvRel c (ownS c σ₁) env m s₁.heap) {lv:V} {vs:List V} {G:List Addr} {cl:Value} (hG:∀ b∈G,b∈owned σ₁)
  (hI:IterS (c.pro G) σ₁ lv vs) (rl:VRel s₁.heap (ownS c σ₁) lv cl) {Kf:List V->Led->Prop} (hW:∀ D,WComp ((c.pro G).hide D) d (zbd scope sc) xs ifs elt m Kf vs [] σ₁) {RR:Value->Addr->Result->Shared->Prop}
  (hRR:∀ D C s' σ' ws ccs,Kf ws σ'->Step c.F (owned σ₁) (owned σ') s₁ s'->St (c.hide D) A σ' s'.heap->PlainSeq s'.heap "list" D ccs->ccs.length<=sizeLine->VRels s'.heap (ownS (c.hide D) σ') ws ccs->
   s₁.heap.get? D=none->s₁.heap.get? C=none->C≠D->(∃ mc,s'.heap.Ns C mc)->C∉owned σ'->RR (.ref D) C (.ok .next) s') :
  wpAny c.M A (pyIter cl) (fun it s₂=>wpAny c.M A (newList []) (fun acc s₃=>wpAny c.M A (newFunctionEnv scope env.globals (clOf env.cells scope.names []) [] env.qual none .none (some env)) (fun cenv s₄=>
   codeAny c.M A (.compStart (.ListComp elt [⟨te,iter,ifs,0⟩] scope pos) 0 it acc { cenv with scope:=relabel scope env }) (RR acc cenv.locals) s₄) E s₃) E s₂) E s₁:=by
 subst hsc
 have K:=compK_of hok
 refine wpAny_mono (hI A s₁ E cl (hA.handled hh) (st₁.pro hG) rl) ?_ fun z1 z2 x=>x
 rintro it s₂ ⟨I,fp,wr,Pf,Stf,rfl,iok,hos,hgens⟩
 refine wpAny_newList ?_ (Nat.zero_le _)
 refine wpAny_newEnv_comp ?_
 have p:=plc_of iok.ext scope
 have hC:(s₂.heap.push { cls:=.type "list",data:=.seq ([]:List Value).toArray }).objs.size=s₂.heap.objs.size+1:=Heap.size_push ..
 have q:=p.ok K ok hA (hA.handled hh) st₁ hG er₁ (te:=te) (elt:=elt) (ifs:=ifs) ht hdot (Kf:=Kf) iok fun b hb=>by
  obtain ⟨o,e,_⟩:=iok.obj 0 _ iok.start b hb
  exact Heap.lt_size e
 have hst:St ((c.pro G).hide s₂.heap.objs.size) A σ₁ _:=(st₁.pro hG).hideNew p.ext (p.new _ (Nat.le_refl _)) p.list
 have her:=p.er K ok st₁ hG er₁
 dsimp only
 rw [hC,zb6]
 show codeAny c.M A (.compStart (.ListComp elt [⟨te,iter,ifs,0⟩] scope pos) 0 (.ref I) (.ref s₂.heap.objs.size) (cEnv scope (s₂.heap.objs.size+1) env)) (RR (.ref s₂.heap.objs.size) (s₂.heap.objs.size+1)) _
 have hstf:=iok.walks.frame 0 s₂.heap _ iok.start fun b z1 o e=>pushCells_keeps scope.names _ b o (Heap.get?_push_of_some { cls:=.type "dict",data:=.dict #[] } (Heap.get?_push_of_some { cls:=.type "list",data:=.seq ([]:List Value).toArray } e))
 generalize hh₄:pushCells ((s₂.heap.push { cls:=.type "list",data:=.seq ([]:List Value).toArray }).push { cls:=.type "dict",data:=.dict #[] }) scope.names=h₄ at *
 generalize hD:s₂.heap.objs.size=D at *
 clear hh₄ hD hC
 have loop:codeAny c.M A (.compLoop (.ListComp elt [⟨te,iter,ifs,0⟩] scope pos) 0 (.ref I) (.ref D) (cEnv scope (D+1) env)) (RR (.ref D) (D+1)) { s₂ with heap:=h₄ }:=by
  refine CQ.loop q (fun acc σ' ccs s' hk hl k=>?_) (n:=vs.length+1) ⟨0,[],σ₁,[],rfl,Nat.zero_le _,Nat.le_refl _,hW D,⟨⟨p.ext.kept,fun b o e=>⟨o,p.ext b o e⟩,fun b z1 o e=>p.ext b o e,.refl,hos,hgens⟩,hst,her,⟨_,p.list⟩,rfl⟩,hstf,fun b hb hm=>?_⟩
  ·refine hRR D (D+1) _ σ' acc ccs hk k.t.unpro k.st.hidePro k.pD hl k.acc (p.new D (Nat.le_refl _)) (p.new _ (Nat.le_succ D)) (Nat.succ_ne_self D) ?_ fun q=>k.er.lnot.1 (List.mem_append_right _ q)
   obtain ⟨mc,hn,_⟩:=k.er.ns;exact ⟨mc,hn⟩
  ·obtain ⟨o,e⟩:=st₁.there hm;rw [iok.new b hb] at e;cases e
 exact codeAny_compStart_list loop (iok.walks.self 0 _ _ _ hstf loop)
end Mine
end
section
namespace Mine
open PySem
variable {c:Cx} {d:Nat} {sc:Scope} {m:AEnv} {σ:Led} {P:V->Led->Prop} {X:XP} {K:Fl->AEnv->Led->Prop}
noncomputable def Made (F:List Addr) (loc:Bool) (P:V->Led->Prop) (ws:List V) (σ:Led):Prop:=if loc=true then ∀ a,a∉owned σ->a∉F->P (.ref a) ((a,.list ws)::σ) else P (.lst ws) σ
theorem made_post {A:Around} {s s':Shared} {own:List Addr} {D:Addr} {ws:List V} {ccs:List Value} {σ':Led} {loc:Bool} (hp:Made c.F loc P ws σ') (t:Step c.F own (owned σ') s s') (hD0:s.heap.get? D=none) (h0:c.k.h0.get? D=none) (hDH:D∉c.H) (hDF:D∉c.F)
  (st:St (c.hide D) A σ' s'.heap) (hpl:PlainSeq s'.heap "list" D ccs) (hl:ccs.length<=sizeLine) (rs:VRels s'.heap (ownS (c.hide D) σ') ws ccs) :
  ∃ v σ'',P v σ''/\Step c.F own (owned σ'') s s'/\St c A σ'' s'.heap/\VRel s'.heap (ownS c σ'') v (.ref D)/\∀ b∈owned σ'',b=D\/b∈owned σ':=by
 have hno:=(st.hid D (.head _)).1
 cases loc with
 | false=>
  refine ⟨.lst ws,σ',hp,t,st.unhide,?_,fun b hb=>.inr hb⟩
  simp only [VRel]
  exact ⟨D,ccs,rfl,fun q=>(List.mem_append.mp q).elim hDH hno,hpl,hl,VRels.mono Kept.refl (fun b hb=>.inl (List.mem_cons_of_mem _ hb)) _ _ rs⟩
 | true=>
  refine ⟨.ref D,(D,.list ws)::σ',hp D hno hDF,⟨t.kept,t.there,t.prot,fun b hb=>?_,t.os,t.gens⟩,?_,by simp only [VRel],fun b hb=>(List.mem_append.mp hb).imp (fun q=>by simpa [O.addrs] using q) id⟩
  ·rcases List.mem_append.mp hb with q | q
   ·simp only [O.addrs,List.mem_singleton] at q;subst q;exact .inr hD0
   ·exact t.grow b q
  ·have gw:Grow (ownS (c.hide D) σ') (ownS c ((D,.list ws)::σ')) s'.heap:=fun b hb=>by
    rcases List.mem_append.mp hb with q | q
    ·exact .inl (List.mem_append_left _ (List.mem_cons_of_mem _ q))
    ·rcases List.mem_append.mp q with q | q
     ·simp only [O.addrs,List.mem_singleton] at q;subst q;exact .inl (List.mem_append_left _ (.head _))
     ·exact .inl (List.mem_append_right _ q)
   obtain ⟨l,hl',hf,hd⟩:=st.frames
   refine ⟨st.keep,?_,?_,?_,⟨l,hl',hf,fun L hL=>⟨fun q=>?_,(hd L hL).2⟩⟩,st.prot,fun b hb=>⟨fun q=>?_,(st.hid b (List.mem_cons_of_mem _ hb)).2⟩⟩
   ·refine List.nodup_append.mpr ⟨by simp [O.addrs],st.nodup,fun b hb b' hb' e=>?_⟩
    simp only [O.addrs,List.mem_singleton] at hb;subst hb;subst e;exact hno hb'
   ·intro b hb
    rcases List.mem_append.mp hb with q | q
    ·simp only [O.addrs,List.mem_singleton] at q;subst q;exact h0
    ·exact st.fresh b q
   ·intro a o hm
    rcases List.mem_cons.mp hm with q | q
    ·cases q;exact ⟨ccs,hpl,hl,VRels.mono Kept.refl gw _ _ rs⟩
    ·exact (st.objs a o q).mono Ext.refl gw
   ·rcases List.mem_append.mp q with q | q
    ·simp only [O.addrs,List.mem_singleton] at q;subst q
     obtain ⟨n,e⟩:=hpl
     exact PlainSeq.notDict ((hd L hL).2.2 _ e)
    ·exact (hd L hL).1 q
   ·rcases List.mem_append.mp q with q | q
    ·simp only [O.addrs,List.mem_singleton] at q;subst q;exact hDH hb
    ·exact (st.hid b (List.mem_cons_of_mem _ hb)).1 q
theorem compOk_local {scope:Scope} {xs:List Str} (h:compOk scope sc xs=true):scope.kind=.function/\(∀ x∈scope.names,x.2=.local->scope.names.lookup x.1=some .local)/\∀ p∈scope.names,p.2=.free->varOf (sc.names.lookup p.1)=true:=by
 simp only [compOk,Bool.and_eq_true,beq_iff_eq,List.all_eq_true,bne_iff_ne,ne_eq,Bool.or_eq_true,Bool.not_eq_true',List.contains_eq_mem,decide_eq_true_eq] at h
 obtain ⟨⟨⟨hkind,hnd⟩,hnames⟩,_⟩:=h
 refine ⟨hkind,fun x hx hk=>?_,fun p hp hk=>?_⟩
 ·rw [← hk];exact za1 (zbq hnd) hx
 ·exact (hnames p hp).1.2.elim (absurd hk) id
theorem closure_of {scope:Scope} {env:Env} {xs:List Str} (ok:EnvOk env) (h:compOk scope env.scope xs=true):closureFor scope env=pure (clOf env.cells scope.names []):=
 closureFor_eq fun p hp hk=>ok.cell p.1 (var_kind ((compOk_local h).2.2 p hp hk))
theorem St.atC {c₀:Cx} (hk0:c.k=c₀.k) (hF0:c.F=c₀.F) {A:Around} {s₁ s':Shared} {C:Addr} {h':Heap} {σ' σ₁:Led} (st₁:St c₀ A σ₁ s₁.heap) (hC:s₁.heap.get? C=none) (hno:C∉owned σ') (hH:C∉c.H) (hn:∃ mc,s'.heap.Ns C mc) (hs:Heap.SameBut C s'.heap h'):WrOk c A σ' [C] s'.heap/\ButL [C] s'.heap h':=by
 refine ⟨⟨fun b hb=>by rw [List.mem_singleton.mp hb];exact hno,fun b hb=>?_,fun b hb hm=>?_,fun b hb=>by rw [List.mem_singleton.mp hb];exact hH,fun b hb o e=>?_,fun l hl L hL hm=>?_⟩,fun b o hb e=>(hs.2 b fun q=>hb (by simp [q])).trans e⟩
 ·rw [List.mem_singleton.mp hb,hk0]
  exact st₁.no0 hC
 ·rw [List.mem_singleton.mp hb,hF0] at hm
  exact st₁.noF hC hm
 ·rw [List.mem_singleton.mp hb] at e
  obtain ⟨mc,o',es,ep,e',hd,_⟩:=hn
  rw [e] at e';cases e';exact zbp hd
 ·rw [List.mem_singleton.mp hm] at hL
  exact st₁.noL hC hl hL
theorem WE_comp_made (hh:c.k.hd=true) {loc:Bool} {elt iter te:Expr} {ys:List Str} {ifs:List Expr} {scope:Scope} {pos:Pos} (ht:TgtIs te ys) (hok:compOk scope sc ys=true) (hdot:m.lookup (".0":Str)=none)
  (h:WE c d sc iter m σ (fun lv σ₁=>∃ vs G,(∀ b∈G,b∈owned σ₁)/\IterS (c.pro G) σ₁ lv vs/\∀ D,WComp ((c.pro G).hide D) d (zbd scope sc) ys ifs elt m (Made c.F loc P) vs [] σ₁) X)
  (hs:∀ env x,foldedSetIterable iter env x=pure x):WE c d sc (.ListComp elt [⟨te,iter,ifs,0⟩] scope pos) m σ P X:=by
 intro env A s E r
 obtain ⟨hkind,hloc,_⟩:=compOk_local hok
 rw [eval_ListComp]
 refine wpAny_comprehension_free (use:=none) rfl (hs env) (closure_of (xs:=ys) r.ok (by rw [r.sc];exact hok)) hkind hloc (wpAny_mono (h env A s E r) ?_ fun z1 z2 x=>x)
 rintro cl s₁ ⟨lv,σ₁,⟨vs,G,hG,hI,hW⟩,t₁,hs₁,rl⟩
 have er₁:=r.er.mono t₁.kept.wider t₁.grow.wider
 refine comp_core hh ht hok hdot r.sc r.ok r.a hs₁ er₁ hG hI rl hW (RR:=fun acc C=>compPost c.M A E none (Post c A σ s P) acc C) ?_
 intro D C s' σ' ws ccs hk hst hSt hpl hl hrs hDn hCn hCD hns hCo
 refine ⟨hns.choose,hns.choose_spec,fun h' hsb=>?_⟩
 have hCH:C∉(c.hide D).H:=fun q=>by
  rcases List.mem_cons.mp q with q | q
  ·exact hCD q
  ·exact hs₁.noH hCn q
 have hDH:D∉c.H:=hs₁.noH hDn
 have hDF:D∉c.F:=hs₁.noF hDn
 have hD0:c.k.h0.get? D=none:=hs₁.no0 hDn
 obtain ⟨wok,kb⟩:=St.atC (c:=c.hide D) (c₀:=c) rfl rfl hs₁ hCn hCo hCH hns hsb
 have hst':Step c.F (owned σ₁) (owned σ') s₁ { s' with heap:=h' }:=hst.writeL (tk:=s'.toks) (fun b hb=>by rw [List.mem_singleton.mp hb];exact hCn) (fun b hb hm=>wok.notF b hb hm) kb
 have hpl':PlainSeq h' "list" D ccs:=let ⟨k,e⟩:=hpl;⟨k,kb D _ (fun q=>hCD (List.mem_singleton.mp q).symm) e⟩
 obtain ⟨v,σ'',h1,h2,h3,h4,_⟩:=made_post (s:=s₁) (s':={ s' with heap:=h' }) hk hst' hDn hD0 hDH hDF (hSt.writeL wok kb) hpl' hl (VRels.writeL wok.seq kb _ _ hrs)
 exact ⟨v,σ'',h1,t₁.trans h2,h3,h4⟩
theorem WS_assign_comp_made (hh:c.k.hd=true) {loc:Bool} {elt iter te:Expr} {ys:List Str} {ifs:List Expr} {scope:Scope} {pos px p:Pos} {x:Str} (ht:TgtIs te ys) (hok:compOk scope sc ys=true) (hdot:m.lookup (".0":Str)=none)
  (hsw:(sc.names.lookup x == some .local && px.line == pos.line && !(scope.names.any fun (n,k)=>n == x && (k == .local || k == .cell)))=true) (hx:isLoc sc x=true)
  (h:WE c d sc iter m σ (fun lv σ₁=>∃ vs G,(∀ b∈G,b∈owned σ₁)/\IterS (c.pro G) σ₁ lv vs/\∀ D,WComp ((c.pro G).hide D) d (zbd scope sc) ys ifs elt m (Made c.F loc fun v σ'=>K .next ((x,v)::m) σ') vs [] σ₁) X)
  (hs:∀ env x,foldedSetIterable iter env x=pure x):WS c d sc (.Assign [.Name x px] (.ListComp elt [⟨te,iter,ifs,0⟩] scope pos) p) m σ K X:=by
 intro env A s E r
 obtain ⟨hkind,hloc,_⟩:=compOk_local hok
 have hsw':swapsWith (.ListComp elt [⟨te,iter,ifs,0⟩] scope pos) (some (.Name x px)) p.line env=pure true:=by
  have e:swapsWith (.ListComp elt [⟨te,iter,ifs,0⟩] scope pos) (some (.Name x px)) p.line env=pure (env.blockKind == .function && env.kindOf x == some .local && px.line == pos.line && !(scope.names.any fun (n,k)=>n == x && (k == .local || k == .cell))):=rfl
  rw [e]
  have hb:env.blockKind=.function:=by unfold Env.blockKind;rw [r.ok.kind];rfl
  simp only [Bool.and_eq_true] at hsw
  unfold Env.kindOf
  rw [hb,r.sc,hsw.1.1,hsw.1.2,hsw.2];rfl
 rw [exec_Assign_Name_used _ _ _ _ hsw']
 refine wpAny_bind (wpAny_standAt (wpAny_bind ?_))
 show wpAny _ _ (do let _ ← comprehension (.ListComp elt [⟨te,iter,ifs,0⟩] scope pos) scope env _ (newList []) false (eval iter env) (some _)) _ _ _
 refine wpAny_bind ?_
 refine wpAny_comprehension_free (use:=some (assign (.Name x px) env)) rfl (hs env) (closure_of (xs:=ys) r.ok (by rw [r.sc];exact hok)) hkind hloc (wpAny_mono (h env A s E r.re) ?_ fun z1 z2 x=>x)
 rintro cl s₁ ⟨lv,σ₁,⟨vs,G,hG,hI,hW⟩,t₁,hs₁,rl⟩
 have er₁:=r.er.mono t₁.kept.wider t₁.grow.wider
 refine comp_core hh ht hok hdot r.sc r.ok r.a hs₁ er₁ hG hI rl hW (RR:=fun acc C=>compPost c.M A E (some (assign (.Name x px) env)) (fun z1 s'=>wpAny c.M A (pure ()) (fun z1 s'=>wpAny c.M A (pure Flow.next) (PostS c A env σ s K) E s') E s') acc C) ?_
 intro D C s' σ' ws ccs hk hst hSt hpl hl hrs hDn hCn hCD hns hCo
 have hCH:C∉c.H:=hs₁.noH hCn
 have hDH:D∉c.H:=hs₁.noH hDn
 have hDF:D∉c.F:=hs₁.noF hDn
 have hD0:c.k.h0.get? D=none:=hs₁.no0 hDn
 obtain ⟨v,σ'',h1,h2,h3,h4,h5⟩:=made_post (s:=s₁) (s':=s') hk hst hDn hD0 hDH hDF hSt hpl hl hrs
 have er':=er₁.mono h2.kept.wider h2.grow.wider
 show wpAny _ _ (assign (.Name x px) env (.ref D)) _ _ _
 refine wpAny_assign_Name (wpAny_mono (zbt r.ok h3 er' h4 (by unfold Env.kindOf;rw [r.sc];exact isLoc_kind hx)) ?_ fun z1 z2 x=>x)
 rintro _ s₄ ⟨⟨t₄,hs₄,er₄⟩,L,hL',tk,rfl,kbL,hL⟩
 have hCL:C≠L:=fun q=>by
  obtain ⟨mc,⟨oL,_,_,e,_⟩,_⟩:=er₁.ns
  rcases hL with ⟨_,hL⟩ | ⟨_,hL⟩
  ·rw [← hL,← q,hCn] at e;cases e
  ·obtain ⟨_,_,_,_,v',oc,e',_⟩:=er₁.cnot x L (mem_of_lookup hL)
   rw [← q,hCn] at e';cases e'
 have hCo'':C∉owned σ'':=fun q=>(h5 C q).elim hCD hCo
 obtain ⟨mc,oC,es,ep,eC,hdC,hrest⟩:=hns
 refine ⟨mc,⟨oC,es,ep,kbL C oC hCL eC,hdC,hrest⟩,fun h' hsb=>?_⟩
 obtain ⟨wok,kb⟩:=St.atC (c:=c) (c₀:=c) (s':={ s' with heap:=hL',toks:=tk }) rfl rfl hs₁ hCn hCo'' hCH ⟨mc,oC,es,ep,kbL C oC hCL eC,hdC,hrest⟩ hsb
 refine wpAny_pure (wpAny_pure ?_)
 have t₁₄:Step c.F (places env++owned σ₁) (places env++owned σ'') s₁ { s' with heap:=hL',toks:=tk }:=h2.wider.trans t₄
 have t₁₅:=t₁₄.writeL (tk:=tk) (wr:=[C]) (fun b hb=>by rw [List.mem_singleton.mp hb];exact hCn) (fun b hb hm=>wok.notF b hb hm) kb
 refine ⟨.next,_,σ'',h1,t₁.wider.trans t₁₅,hs₄.writeL wok kb,er₄.writeL wok (fun b hb hC=>?_) kb,rfl⟩
 rw [List.mem_singleton.mp hC] at hb
 simp only [places,List.mem_cons,List.mem_map] at hb
 rcases hb with q | ⟨⟨z,a⟩,hm,q⟩
 ·obtain ⟨mc,⟨oL,_,_,e,_⟩,_⟩:=er₁.ns;rw [← q,hCn] at e;cases e
 ·obtain ⟨_,_,_,_,v',oc,e',_⟩:=er₁.cnot z a hm
  dsimp only at q;rw [q,hCn] at e';cases e'
theorem swaps_cell {elt t iter:Expr} {ifs:List Expr} {scope:Scope} {pos px:Pos} {line:Nat} {x:Str} (hx:(sc.names.lookup x == some .local)=false):∀ env,env.scope=sc->swapsWithSole [.Name x px] (.ListComp elt [⟨t,iter,ifs,0⟩] scope pos) line env=pure false:=by
 intro env he
 have e:swapsWithSole [.Name x px] (.ListComp elt [⟨t,iter,ifs,0⟩] scope pos) line env=pure (env.blockKind == .function && env.kindOf x == some .local && px.line == pos.line && !(scope.names.any fun (n,k)=>n == x && (k == .local || k == .cell))):=rfl
 rw [e];unfold Env.kindOf;rw [he,hx];simp
theorem IterOwn.of {o:Obj} {T:String} (h:o.cls=.type T) (hT:["enumerate","zip","dict_itemiterator","dict_reverseitemiterator","odict_iterator","itertools.zip_longest","itertools.pairwise"].contains T=false):IterOwn o:=fun n e=>by
 rw [h] at e;cases e;exact hT
theorem Iter_seqL {lv:V} {vs:List V} (hl:∀ {A:Around} {h:Heap} {cv:Value},St c A σ h->VRel h (ownS c σ) lv cv->∃ a cs,cv=.ref a/\PlainSeq h "list" a cs/\cs.length<=sizeLine/\VRels h (ownS c σ) vs cs/\(a∉owned σ\/a∈c.F)):IterS c σ lv vs:=by
 intro A s E cv hh st r
 obtain ⟨a,cs,rfl,p,hsz,rs,ha⟩:=hl st r
 have hlt:a<s.heap.objs.size:=by obtain ⟨n,e⟩:=p;exact Heap.lt_size e
 have hsize:cs.toArray.size=vs.length:=by rw [List.size_toArray,rs.length]
 have W:=Walks.list (prog:=c.k.prog) (w:=c.k.w) hh s.heap.objs.size a (Nat.ne_of_lt hlt) cs.toArray
 rw [hsize] at W
 refine wpAny_pyIter_list p.isList ⟨_,[s.heap.objs.size,a],[s.heap.objs.size],_,_,rfl,⟨W,by rw [← rs.length];exact hsz,⟨⟨_,Heap.get?_push_size _ rfl,rfl,rfl⟩,p.isList.push _⟩,.push _,fun b hb=>?_,fun i h hst b hb=>?_,fun i h hst=>?_,fun b hb=>?_,fun h' own' k i v x hv hx=>?_⟩,rfl,rfl⟩
 ·rw [List.mem_singleton.mp hb];exact get?_size _
 ·rw [List.mem_singleton.mp hb]
  obtain ⟨⟨o,ho,hc,hd⟩,_⟩:=hst
  exact ⟨o,ho,⟨_,hd⟩,by rw [hc];decide⟩
 ·obtain ⟨⟨o,ho,hc,hd⟩,_⟩:=hst
  exact ⟨o,ho,.of hc (by decide)⟩
 ·rcases List.mem_cons.mp hb with q | q
  ·left;rw [q];exact .head _
  ·right
   rw [List.mem_singleton.mp q]
   rcases ha with ha | ha
   ·right
    obtain ⟨n,e⟩:=p
    exact ⟨ha,_,e,_,_,rfl⟩
   ·left;exact ha
 ·have rs':=rs.carry k
  obtain ⟨cx,hcx,rx⟩:=rs'.get hv
  have hx:cs.toArray[i]?=some x:=hx
  simp only [List.getElem?_toArray] at hx
  rw [hcx] at hx;cases hx;exact rx
theorem zaf {vs:List V}:IterS c σ (.lst vs) vs:=Iter_seqL fun st r=>by
 simp only [VRel] at r
 obtain ⟨a,cs,e,ha,p,hsz,rs⟩:=r
 exact ⟨a,cs,e,p,hsz,rs,.inl fun q=>ha (List.mem_append_right _ q)⟩
theorem Iter_ref {a:Addr} {vs:List V} (hl:σ.lookup a=some (.list vs)) (hF:a∈c.F):IterS c σ (.ref a) vs:=Iter_seqL fun st r=>by
 simp only [VRel] at r
 obtain ⟨cs,p,hl',r'⟩:=st.objs _ _ (zaa hl)
 exact ⟨a,cs,r,p,hl',r',.inr hF⟩
theorem Iter_tup {vs:List V}:IterS c σ (.tup vs) vs:=by
 intro A s E cv hh st r
 simp only [VRel] at r
 obtain ⟨a,cs,rfl,ha,p,hsz,rs⟩:=r
 have hlt:a<s.heap.objs.size:=by obtain ⟨n,e⟩:=p;exact Heap.lt_size e
 have hsize:cs.toArray.size=vs.length:=by rw [List.size_toArray,rs.length]
 have W:=Walks.tuple (prog:=c.k.prog) (w:=c.k.w) hh s.heap.objs.size a (Nat.ne_of_lt hlt) cs.toArray
 rw [hsize] at W
 refine wpAny_pyIter_tuple p.isTuple ⟨_,[s.heap.objs.size,a],[s.heap.objs.size],_,_,rfl,⟨W,by rw [← rs.length];exact hsz,⟨⟨_,Heap.get?_push_size _ rfl,rfl,rfl⟩,p.isTuple.push _⟩,.push _,fun b hb=>?_,fun i h hst b hb=>?_,fun i h hst=>?_,fun b hb=>?_,fun h' own' k i v x hv hx=>?_⟩,rfl,rfl⟩
 ·rw [List.mem_singleton.mp hb];exact get?_size _
 ·rw [List.mem_singleton.mp hb]
  obtain ⟨⟨o,ho,hc,hd⟩,_⟩:=hst
  exact ⟨o,ho,⟨_,hd⟩,by rw [hc];decide⟩
 ·obtain ⟨⟨o,ho,hc,hd⟩,_⟩:=hst
  exact ⟨o,ho,.of hc (by decide)⟩
 ·rcases List.mem_cons.mp hb with q | q
  ·left;rw [q];exact .head _
  ·right;right
   rw [List.mem_singleton.mp q]
   obtain ⟨n,e⟩:=p
   exact ⟨fun q=>ha (List.mem_append_right _ q),_,e,_,_,rfl⟩
 ·have rs':=rs.carry k
  obtain ⟨cx,hcx,rx⟩:=rs'.get hv
  have hx:cs.toArray[i]?=some x:=hx
  simp only [List.getElem?_toArray] at hx
  rw [hcx] at hx;cases hx;exact rx
noncomputable def rangeL (lo hi:Int):List Int:=(List.range (hi - lo).toNat).map fun k=>lo+(k:Nat)
theorem zb1 (lo hi:Int):(rangeL lo hi).length=(hi - lo).toNat:=by simp [rangeL]
theorem rangeSize_one (lo hi:Int):Builtin.Range.rangeSize lo hi 1=((hi - lo).toNat:Int):=by
 unfold Builtin.Range.rangeSize
 by_cases h:lo<hi
 ·simp only [show (1:Int) > 0 by decide,if_true,h,Int.ediv_one];lia
 ·simp only [show (1:Int) > 0 by decide,if_true,h,if_false];lia
theorem Iter_rng {lo hi:Int} (h1:-1000000000000000<=lo) (h1':lo<=1000000000000000) (h2:-1000000000000000<=hi) (h2':hi<=1000000000000000) (h3:hi - lo<=16777216):IterS c σ (.rng lo hi) ((rangeL lo hi).map .int):=by
 intro A s E cv hh st r
 simp only [VRel] at r
 obtain ⟨a,t,u,v,rfl,ha,e⟩:=r
 have hlen:((rangeL lo hi).map V.int).length=(hi - lo).toNat:=by rw [List.length_map,zb1]
 have W:=Walks.range (prog:=c.k.prog) (w:=c.k.w) hh s.heap.objs.size lo 1 (hi - lo).toNat
 rw [← hlen] at W
 have hsm:Builtin.Range.small lo hi 1=true:=small_one (by lia) (by lia) (by lia) (by lia)
 refine wpAny_pyIter_range e hsm ⟨_,[s.heap.objs.size],[s.heap.objs.size],_,_,rfl,⟨W,by rw [hlen,sizeLine_eq];lia,?_,.push _,fun b hb=>?_,fun i h hst b hb=>?_,fun i h hst=>?_,fun b hb=>.inl hb,fun h' own' k i w x hv hx=>?_⟩,rfl,rfl⟩
 ·show IsRangeIter _ _ _ _ _
  rw [hlen,rangeSize_one]
  simp only [Int.ofNat_zero,Int.zero_mul,Int.add_zero,Int.sub_zero,Int.natCast_zero]
  exact Heap.get?_push_size _ rfl
 ·rw [List.mem_singleton.mp hb];exact get?_size _
 ·rw [List.mem_singleton.mp hb];exact ⟨_,hst,⟨_,rfl⟩,show Value.type "range_iterator"≠.type "range" by decide⟩
 ·exact ⟨_,hst,.of rfl (by decide)⟩
 ·obtain ⟨t,rfl⟩:=hx
  rw [List.getElem?_map] at hv
  cases q:(rangeL lo hi)[i]? with
  | none=>rw [q] at hv;cases hv
  | some z=>
   rw [q] at hv
   simp only [Option.map_some,Option.some.injEq] at hv
   subst hv
   simp only [rangeL,List.getElem?_map] at q
   cases q2:(List.range (hi - lo).toNat)[i]? with
   | none=>rw [q2] at q;cases q
   | some y=>
    rw [q2] at q
    have hy:y=i:=by
     obtain ⟨hi',hy⟩:=List.getElem?_eq_some_iff.mp q2
     rw [List.getElem_range] at hy;exact hy.symm
    subst hy
    simp only [Option.map_some,Option.some.injEq] at q
    subst q
    simp only [VRel,Int.mul_one]
    exact ⟨t,rfl⟩
noncomputable def signs (x:Str):List V:=x.cps.toList.map fun k=>.str ⟨#[k]⟩
theorem Iter_str {x:Str} (hsz:x.length<=sizeLine):IterS c σ (.str x) (signs x):=by
 intro A s E cv hh st r
 simp only [VRel] at r
 obtain ⟨t,rfl⟩:=r
 have hlen:(signs x).length=x.cps.size:=by simp [signs]
 have elem:∀ (h':Heap) (own':List Addr) i v y,(signs x)[i]?=some v->SignAt x i y->VRel h' own' v y:=fun h' own' i v y hv hx=>by
  obtain ⟨k,u,hk,rfl⟩:=hx
  simp only [signs,List.getElem?_map,Array.getElem?_toList,hk,Option.map_some,Option.some.injEq] at hv
  subst hv
  simp only [VRel];exact ⟨u,rfl⟩
 cases hasc:x.cps.all (·<128)
 ·have W:=Walks.strWide (prog:=c.k.prog) (w:=c.k.w) hh s.heap.objs.size x t
  rw [← hlen] at W
  refine wpAny_pyIter_wide hasc ⟨_,_,_,_,_,rfl,⟨W,by rw [hlen];exact hsz,⟨_,Heap.get?_push_size _ rfl,rfl,rfl⟩,.push _,fun b hb=>?_,fun i h hst b hb=>?_,fun i h hst=>?_,fun b hb=>.inl hb,fun h' own' z1=>elem h' own'⟩,rfl,rfl⟩
  ·rw [List.mem_singleton.mp hb];exact get?_size _
  ·rw [List.mem_singleton.mp hb]
   obtain ⟨o,ho,hc,hd⟩:=hst
   exact ⟨o,ho,⟨_,hd⟩,by rw [hc];decide⟩
  ·obtain ⟨o,ho,hc,hd⟩:=hst
   exact ⟨o,ho,.of hc (by decide)⟩
 ·have W:=Walks.strAscii (prog:=c.k.prog) (w:=c.k.w) hh s.heap.objs.size x t
  rw [← hlen] at W
  refine wpAny_pyIter_ascii hasc ⟨_,_,_,_,_,rfl,⟨W,by rw [hlen];exact hsz,⟨_,Heap.get?_push_size _ rfl,rfl,rfl⟩,.push _,fun b hb=>?_,fun i h hst b hb=>?_,fun i h hst=>?_,fun b hb=>.inl hb,fun h' own' z1=>elem h' own'⟩,rfl,rfl⟩
  ·rw [List.mem_singleton.mp hb];exact get?_size _
  ·rw [List.mem_singleton.mp hb]
   obtain ⟨o,ho,hc,hd⟩:=hst
   exact ⟨o,ho,⟨_,hd⟩,by rw [hc];decide⟩
  ·obtain ⟨o,ho,hc,hd⟩:=hst
   exact ⟨o,ho,.of hc (by decide)⟩
end Mine
end
section
namespace Mine
open PySem
variable {c:Cx} {d:Nat} {sc:Scope} {m:AEnv} {σ:Led} {P:V->Led->Prop} {X:XP}
noncomputable def Callee (c:Cx) (f:Value):Prop:=(∃ id,f=.builtin id)\/(∃ T,f=.type T)\/(∃ a o fd,f=.ref a/\c.k.h0.get? a=some o/\o.data=.func fd)\/∃ C N mN,f=.ref C/\PyProof.Rows.ClsAt c.k.h0 C N mN
theorem Callee.b {id:String}:Callee c (.builtin id):=.inl ⟨_,rfl⟩
theorem Callee.t {T:String}:Callee c (.type T):=.inr (.inl ⟨_,rfl⟩)
inductive ClsQ (h:Heap) (C N:Addr):Prop
 | mk (nm:_) (q:_) (bs:_) (sn:_) (sub:_) (col:_) (dd:_) (k0:_) (k1:_) (k2:_) (k3:_) (k5:_):h.get? C=some (excClassObj nm q C N bs [.type "object"] true sn sub false col dd k0 k1 k2 k3 k5 "object.__new__")->ClsQ h C N
theorem ClsQ.of {h:Heap} {C N:Addr} {mN:Str->Option Value} (K:PyProof.Rows.ClsAt h C N mN):ClsQ h C N:=by
 obtain ⟨nm,q,bs,sn,sub,col,dd,k0,k1,k2,k3,k5,e⟩:=K.obj
 exact ⟨nm,q,bs,sn,sub,col,dd,k0,k1,k2,k3,k5,e⟩
theorem FnAt.callee {f:Value} {names:List Str} {body:List Stmt} (h:FnAt c f names body sc):Callee c f:=by
 obtain ⟨a,o,fd,e,h1,h2,_⟩:=h.at_
 exact .inr (.inr (.inl ⟨a,o,fd,e,h1,h2⟩))
theorem za9 {M:Model} {A:Around} {E:Value->Shared->Prop} {s:Shared} {f:Value} {args:List (Bool × Sem Value)} {Q:Args->Shared->Prop} (hp:args.any (·.1)=false)
  (h:wpAny M A (spliced args) (fun vs s'=>Q ⟨vs,[]⟩ s') E s):wpAny M A (evalArgs f true args []) Q E s:=by
 rcases args with _ | ⟨⟨b,x⟩,rest⟩
 ·unfold evalArgs
  show wpAny M A (spliced [] >>= _) Q E s
  refine wpAny_bind (wpAny_mono h (fun vs s' h'=>?_) fun z1 z2 x=>x)
  refine wpAny_bind (wpAny_pure (wpAny_holding ?_))
  exact wpAny_bind (wpAny_pure (wpAny_bind (wpAny_pure (wpAny_pure h'))))
 ·simp only [List.any_cons,Bool.or_eq_false_iff] at hp
  obtain ⟨rfl,_⟩:=hp
  exact Calls.evalArgs_plain h
theorem callWith_type {M:Model} {A:Around} {E:Value->Shared->Prop} {s:Shared} {pos:Pos} {T:String} {first:List Value} {args:List (Bool × Sem Value)} {Q:Value->Shared->Prop} (hplain:args.any (·.1)=false)
  (h:wpAny M A (evalArgs (.type T) true args []) (fun a s₁=>wpAny M A (call (.type T) (first++a.pos) a.kw) Q E s₁) E s) :
  wpAny M A (callWith pos (.type T) first args []) Q E s:=by
 unfold callWith
 refine wpAny_bind (wpAny_holding (wpAny_mono h (fun a s₁ h₁=>wpAny_bind (wpAny_standAt ?_)) fun z1 z2 x=>x))
 simp only [hplain,List.any_nil,Bool.or_false]
 refine wpAny_bind (wpAny_pure ?_)
 exact wpAny_bind (wpAny_mono h₁ (fun r s₂ hr=>wpAny_bind (wpAny_holding (wpAny_point (wpAny_pure hr)))) fun z1 z2 x=>x)
theorem callWith_obj {prog:Program} {w:World} {A:Around} {E:Value->Shared->Prop} {s:Shared} {h₀:Heap} {C N:Addr} {mN:Str->Option Value} {pos:Pos} {first:List Value} {args:List (Bool × Sem Value)} {Q:Value->Shared->Prop} (K:PyProof.Rows.ClsAt h₀ C N mN) (hplain:args.any (·.1)=false)
  (h:wpAny (model prog w) A (evalArgs (.ref C) true args []) (fun a s₁=>(∀ b o,h₀.get? b=some o->s₁.heap.get? b=some o)/\wpAny (model prog w) A (call (.ref C) (first++a.pos) a.kw) Q E s₁) E s) :
  wpAny (model prog w) A (callWith pos (.ref C) first args []) Q E s:=by
 unfold callWith
 refine wpAny_bind (wpAny_holding (wpAny_mono h (fun a s₁ h₁=>wpAny_bind (wpAny_standAt ?_)) fun z1 z2 x=>x))
 obtain ⟨hk,hc⟩:=h₁
 obtain ⟨hh,g,d,t,os⟩:=s₁
 obtain ⟨nm,q,bs,sn,sub,col,dd,k0,k1,k2,k3,k5,hC⟩:=ClsQ.of (K.keeps hk)
 have f1:=tc_lookup
 have hT:(⟨hh,g,d,t,os⟩:Shared).TypeIs (.ref C) "type":=⟨_,hC,rfl⟩
 have hst:(args.any (fun x=>x.fst) || ([]:List (Option Str × Sem Value)).any fun x=>x.fst.isNone)=false:=by rw [hplain];rfl
 show wpAny _ _ (keeperOf (.ref C) >>= _) _ _ _
 unfold keeperOf specialOf
 repeat (any_goals (first | assumption | with_reducible refine wpAny_loadPart_at hC ?_ | with_reducible refine wpAny_load' hC ?_ | wp_step))
 rw [if_pos (by rfl),hst]
 show wpAny _ _ (call (.ref C) (first++a.pos) a.kw >>= fun r=>do holding [r] point;pure r) _ _ _
 exact wpAny_bind (wpAny_mono hc (fun r s' hr=>wpAny_bind (wpAny_holding (wpAny_point (wpAny_pure hr)))) fun z1 z2 x=>x)
theorem callWith_any {A:Around} {E:Value->Shared->Prop} {s:Shared} {pos:Pos} {f:Value} {first:List Value} {args:List (Bool × Sem Value)} {Q:Value->Shared->Prop} (hplain:args.any (·.1)=false) (hf:Callee c f)
  (h:wpAny c.M A (spliced args) (fun vs s₁=>(∀ b o,c.k.h0.get? b=some o->s₁.heap.get? b=some o)/\wpAny c.M A (call f (first++vs)) Q E s₁) E s) :
  wpAny c.M A (callWith pos f first args []) Q E s:=by
 rcases hf with ⟨id,rfl⟩ | ⟨T,rfl⟩ | ⟨a,o,fd,rfl,ho,hd⟩ | ⟨C,N,mN,rfl,K⟩
 ·exact Calls.callWith_builtin hplain (za9 hplain (wpAny_mono h (fun z1 z2 x=>x.2) fun z1 z2 x=>x))
 ·exact callWith_type hplain (za9 hplain (wpAny_mono h (fun z1 z2 x=>x.2) fun z1 z2 x=>x))
 ·exact Calls.callWith_function (o:=o) (fd:=fd) (za9 hplain (wpAny_mono h (fun z1 z2 x=>⟨⟨x.1 _ _ ho,hd⟩,x.2⟩) fun z1 z2 x=>x))
 ·exact callWith_obj K hplain (za9 hplain h)
theorem za3 {pos:Pos} {l:List (Bool × Sem Value)} (h:l.any (·.1)=false):(backTo pos l).any (·.1)=false:=by
 cases e:(backTo pos l).any (·.1) with
 | false=>rfl
 | true=>
  exfalso
  revert h e
  generalize hk:(·.1:Bool × Sem Value->Bool)=k
  cases l with
  | nil=>intro h e;simp [backTo] at e
  | cons x r=>cases r with
   | nil=>subst hk;intro h e;simp [backTo] at e h;simp [h] at e
   | cons y r=>subst hk;intro h e;simp [backTo] at e h;simp_all
theorem WE_call {f:Str} {p pos:Pos} {args:List Expr} (h:WE c d sc (.Name f p) m σ (fun fv σ₁=>∃ cv,fv=.raw cv/\Callee c cv/\WEs c d sc args m σ₁ (fun vs σ₂=>CallS c d cv vs σ₂ P X) X) X) :
  WE c d sc (.Call (.Name f p) args [] pos) m σ P X:=by
 intro env A s E r
 rw [arm_eval_Call_Name']
 refine wpAny_bind (wpAny_mono (h env A s E r) ?_ fun z1 z2 x=>x)
 rintro cf s₁ ⟨fv,σ₁,⟨cv,rfl,hcal,h₁⟩,t₁,hs₁,rf⟩
 simp only [VRel] at rf;subst rf
 obtain ⟨hp,hw⟩:=h₁ env A s₁ E pos (r.step t₁ hs₁)
 refine callWith_any (za3 hp) hcal (wpAny_mono hw ?_ fun z1 z2 x=>x)
 rintro cvs s₂ ⟨vs,σ₂,⟨_,h₂⟩,t₂,hs₂,rvs⟩
 refine ⟨hs₂.keep,?_⟩
 exact wpAny_mono (h₂ A s₂ E cvs r.a hs₂ rvs ((r.e.step t₁).step t₂)) (fun z1 z2 q=>(q.step t₂).step t₁) fun z1 z2 x=>x
theorem WE_call_def (hc:c.k.OK) {f:Str} {p pos:Pos} {args:List Expr} {cv:Value} (hk:sc.names.lookup f=some .globalImplicit) (hg:c.k.mg f=some cv) (hcal:Callee c cv)
  (h:WEs c d sc args m σ (fun vs σ₂=>CallS c d cv vs σ₂ P X) X):WE c d sc (.Call (.Name f p) args [] pos) m σ P X:=
 WE_call (WE_global hc hk hg (v:=.raw cv) (fun z1 z2=>by simp only [VRel]) ⟨cv,rfl,hcal,h⟩)
theorem WE_call_builtin (hc:c.k.OK) {f:Str} {p pos:Pos} {args:List Expr} {cv:Value} (hk:sc.names.lookup f=some .globalImplicit) (hg:c.k.mg f=none) (hb:c.k.mb f=some cv) (hcal:Callee c cv)
  (h:WEs c d sc args m σ (fun vs σ₂=>CallS c d cv vs σ₂ P X) X):WE c d sc (.Call (.Name f p) args [] pos) m σ P X:=
 WE_call (WE_builtin hc hk hg hb ⟨cv,rfl,hcal,h⟩)
noncomputable def Meth (c:Cx) (σ:Led) (ov:V) (name:Str) (T id:String):Prop:=PlainAttrs T/\Slot T name id/\typeOf (.builtin id)=pure (.type "method_descriptor")/\
 ∀ (A:Around) (s:Shared) (cv:Value),St c A σ s.heap->VRel s.heap (ownS c σ) ov cv->s.TypeIs cv T/\∀ a,cv=.ref a->∃ ob,s.heap.get? a=some ob/\ob.dict=none
noncomputable def zas (e:Expr):Bool:=e.ctorIdx != 16
theorem zax {o:Expr} {name:Str} {env:Env} {x:Sem Value} (h:zas o=true):attributeBase o name env x=x:=by
 cases o with
 | Call _ _ _ _=>exact Bool.noConfusion (show false=true from h)
 | _=>rfl
theorem WE_method {o:Expr} {name:Str} {apos pos:Pos} {args:List Expr} (hb:zas o=true) (hline:(apos.endLine == pos.line)=true)
  (h:WE c d sc o m σ (fun ov σ₁=>∃ T id,Meth c σ₁ ov name T id/\WEs c d sc args m σ₁ (fun vs σ₂=>CallS c d (.builtin id) (ov::vs) σ₂ P X) X) X)
  (hs:∀ env,(starEach args env).any (·.1)=false) (hn:args.length<30) :
  WE c d sc (.Call (.Attribute o name apos) args [] pos) m σ P X:=by
 intro env A s E r
 refine wpAny_Call_method_lateS (zax hb) ?_ hline (wpAny_mono (h env A s E r) ?_ fun z1 z2 x=>x)
 ·have h1:(backTo pos (starEach args env)).all (fun x=>!x.1)=true:=by
   have:=za3 (pos:=pos) (hs env)
   rw [List.any_eq_false] at this
   rw [List.all_eq_true]
   intro x hx
   simpa using this x hx
  rw [h1]
  simp only [Bool.true_and,Bool.and_eq_true,decide_eq_true_eq]
  exact ⟨rfl,by simpa using hn⟩
 ·rintro co s₁ ⟨ov,σ₁,⟨T,id,⟨pa,slot,hty,hm⟩,h₁⟩,t₁,hs₁,ro⟩
  obtain ⟨hT,hd⟩:=hm A s₁ co hs₁ ro
  refine ⟨T,id,pa,slot,hty,hT,hd,?_⟩
  obtain ⟨hp,hw⟩:=h₁ env A s₁ E pos (r.step t₁ hs₁)
  refine callWith_any (c:=c) (za3 hp) .b (wpAny_mono hw ?_ fun z1 z2 x=>x)
  rintro cvs s₂ ⟨vs,σ₂,⟨_,h₂⟩,t₂,hs₂,rvs⟩
  refine ⟨hs₂.keep,?_⟩
  refine wpAny_mono (h₂ A s₂ E (co::cvs) r.a hs₂ (by simp only [VRels];exact ⟨co,cvs,rfl,t₂.v ro,rvs⟩) ((r.e.step t₁).step t₂)) (fun z1 z2 q=>(q.step t₂).step t₁) fun z1 z2 x=>x
end Mine
end
section
namespace Mine
open PySem
variable {c:Cx} {d:Nat} {sc:Scope} {m:AEnv} {σ:Led} {P:V->Led->Prop} {X:XP}
theorem VRels.un1 {h:Heap} {own:List Addr} {v:V} {cs:List Value} (r:VRels h own [v] cs):∃ x,cs=[x]/\VRel h own v x:=by
 simp only [VRels] at r
 obtain ⟨x,_,rfl,r1,rfl⟩:=r
 exact ⟨x,rfl,r1⟩
theorem VRels.un2 {h:Heap} {own:List Addr} {v w:V} {cs:List Value} (r:VRels h own [v,w] cs):∃ x y,cs=[x,y]/\VRel h own v x/\VRel h own w y:=by
 simp only [VRels] at r
 obtain ⟨x,_,rfl,r1,y,_,rfl,r2,rfl⟩:=r
 exact ⟨x,y,rfl,r1,r2⟩
theorem zag {lv:V} {vs:List V} (hl:IsLst σ lv vs) (h:P (.int vs.length) σ):CallS c d (.builtin "len") [lv] σ P X:=by
 intro A s E cs _ st rs _
 obtain ⟨x,rfl,r⟩:=rs.un1
 have hq:=hl.plain st r
 (try clear rs)
 obtain ⟨a,cs,rfl,p,hsz,rs⟩:=hq
 have hsz':sizeLine=16777216:=by rw [sizeLine_eq]
 refine Calls.call_len_list p.isList (by simp only [List.size_toArray];lia) ?_
 rw [List.size_toArray,rs.length]
 exact Post.same st h (by simp only [VRel];exact ⟨_,rfl⟩)
theorem Call_len_tup {vs:List V} (h:P (.int vs.length) σ):CallS c d (.builtin "len") [.tup vs] σ P X:=by
 intro A s E cs _ st rs _
 obtain ⟨x,rfl,r⟩:=rs.un1
 simp only [VRel] at r
 obtain ⟨a,cs,rfl,hno,⟨n,e⟩,hsz,rs⟩:=r
 have hsz':sizeLine=16777216:=by rw [sizeLine_eq]
 refine PySem.P.len_tuple e (by simp only [List.size_toArray];lia) ?_
 rw [List.size_toArray,rs.length]
 exact Post.same st h (by simp only [VRel];exact ⟨_,rfl⟩)
theorem Call_len_str {x:Str} (hx:x.length<=1000000) (h:P (.int x.length) σ):CallS c d (.builtin "len") [.str x] σ P X:=by
 intro A s E cs _ st rs _
 obtain ⟨x,rfl,r⟩:=rs.un1
 simp only [VRel] at r
 obtain ⟨t,rfl⟩:=r
 exact PySem.P.len_str (by lia) (Post.same st h (by simp only [VRel];exact ⟨_,rfl⟩))
theorem VRels.raw2 {h:Heap} {own:List Addr} {v:V} {w:Value} {cs:List Value} (r:VRels h own [v,.raw w] cs):∃ x,cs=[x,w]/\VRel h own v x:=by
 obtain ⟨x,y,rfl,r1,r2⟩:=r.un2
 simp only [VRel] at r2;subst r2
 exact ⟨x,rfl,r1⟩
section isi
variable {i:Int} {b:Bool} {x:Str} {vs:List V}
theorem isi_int {T:String} {r:Bool} (hz:∀ {A:Around} {E:Value->Shared->Prop} {s:Shared} {t:Tok} {Q:Value->Shared->Prop},(∀ k,Q (.bool r) { s with toks:=k })->wpAny c.M A (call (.builtin "isinstance") [.int i t,.type T]) Q E s)
  (h:P (.bool r) σ):CallS c d (.builtin "isinstance") [.int i,.raw (.type T)] σ P X:=by
 intro A s E cs _ st rs _
 obtain ⟨y,rfl,ry⟩:=rs.raw2
 simp only [VRel] at ry;obtain ⟨t,rfl⟩:=ry
 exact hz fun k=>Post.same st h (by simp only [VRel])
theorem Isi_int_int (h:P (.bool true) σ):CallS c d (.builtin "isinstance") [.int i,.raw (.type "int")] σ P X:=isi_int (fun q=>IsiPair.int_int (q _)) h
theorem Isi_int_bool (h:P (.bool false) σ):CallS c d (.builtin "isinstance") [.int i,.raw (.type "bool")] σ P X:=isi_int (fun q=>IsiPair.int_bool (q _)) h
theorem Isi_int_str (h:P (.bool false) σ):CallS c d (.builtin "isinstance") [.int i,.raw (.type "str")] σ P X:=isi_int (fun q=>IsiPair.int_str (q _)) h
theorem Isi_int_tuple (h:P (.bool false) σ):CallS c d (.builtin "isinstance") [.int i,.raw (.type "tuple")] σ P X:=isi_int (fun q=>IsiPair.int_tuple (q _)) h
theorem Isi_int_list (h:P (.bool false) σ):CallS c d (.builtin "isinstance") [.int i,.raw (.type "list")] σ P X:=isi_int (fun q=>IsiPair.int_list (q _)) h
theorem isi_bool {T:String} {r:Bool} (hz:∀ {A:Around} {E:Value->Shared->Prop} {s:Shared} {Q:Value->Shared->Prop},(∀ k,Q (.bool r) { s with toks:=k })->wpAny c.M A (call (.builtin "isinstance") [.bool b,.type T]) Q E s)
  (h:P (.bool r) σ):CallS c d (.builtin "isinstance") [.bool b,.raw (.type T)] σ P X:=by
 intro A s E cs _ st rs _
 obtain ⟨y,rfl,ry⟩:=rs.raw2
 simp only [VRel] at ry;subst ry
 exact hz fun k=>Post.same st h (by simp only [VRel])
theorem Isi_bool_int (h:P (.bool true) σ):CallS c d (.builtin "isinstance") [.bool b,.raw (.type "int")] σ P X:=isi_bool (fun q=>IsiPair.bool_int (q _)) h
theorem Isi_bool_bool (h:P (.bool true) σ):CallS c d (.builtin "isinstance") [.bool b,.raw (.type "bool")] σ P X:=isi_bool (fun q=>IsiPair.bool_bool (q _)) h
theorem Isi_bool_str (h:P (.bool false) σ):CallS c d (.builtin "isinstance") [.bool b,.raw (.type "str")] σ P X:=isi_bool (fun q=>IsiPair.bool_str (q _)) h
theorem Isi_bool_tuple (h:P (.bool false) σ):CallS c d (.builtin "isinstance") [.bool b,.raw (.type "tuple")] σ P X:=isi_bool (fun q=>IsiPair.bool_tuple (q _)) h
theorem Isi_bool_list (h:P (.bool false) σ):CallS c d (.builtin "isinstance") [.bool b,.raw (.type "list")] σ P X:=isi_bool (fun q=>IsiPair.bool_list (q _)) h
theorem isi_str {T:String} {r:Bool} (hz:∀ {A:Around} {E:Value->Shared->Prop} {s:Shared} {t:Tok} {Q:Value->Shared->Prop},(∀ k,Q (.bool r) { s with toks:=k })->wpAny c.M A (call (.builtin "isinstance") [.str x t,.type T]) Q E s)
  (h:P (.bool r) σ):CallS c d (.builtin "isinstance") [.str x,.raw (.type T)] σ P X:=by
 intro A s E cs _ st rs _
 obtain ⟨y,rfl,ry⟩:=rs.raw2
 simp only [VRel] at ry;obtain ⟨t,rfl⟩:=ry
 exact hz fun k=>Post.same st h (by simp only [VRel])
theorem Isi_str_int (h:P (.bool false) σ):CallS c d (.builtin "isinstance") [.str x,.raw (.type "int")] σ P X:=isi_str (fun q=>IsiPair.str_int (q _)) h
theorem Isi_str_bool (h:P (.bool false) σ):CallS c d (.builtin "isinstance") [.str x,.raw (.type "bool")] σ P X:=isi_str (fun q=>IsiPair.str_bool (q _)) h
theorem Isi_str_str (h:P (.bool true) σ):CallS c d (.builtin "isinstance") [.str x,.raw (.type "str")] σ P X:=isi_str (fun q=>IsiPair.str_str (q _)) h
theorem Isi_str_tuple (h:P (.bool false) σ):CallS c d (.builtin "isinstance") [.str x,.raw (.type "tuple")] σ P X:=isi_str (fun q=>IsiPair.str_tuple (q _)) h
theorem Isi_str_list (h:P (.bool false) σ):CallS c d (.builtin "isinstance") [.str x,.raw (.type "list")] σ P X:=isi_str (fun q=>IsiPair.str_list (q _)) h
theorem isi_none {T:String} {r:Bool} (hz:∀ {A:Around} {E:Value->Shared->Prop} {s:Shared} {Q:Value->Shared->Prop},(∀ k,Q (.bool r) { s with toks:=k })->wpAny c.M A (call (.builtin "isinstance") [.none,.type T]) Q E s)
  (h:P (.bool r) σ):CallS c d (.builtin "isinstance") [.none,.raw (.type T)] σ P X:=by
 intro A s E cs _ st rs _
 obtain ⟨y,rfl,ry⟩:=rs.raw2
 simp only [VRel] at ry;subst ry
 exact hz fun k=>Post.same st h (by simp only [VRel])
theorem zbj {T T':String} {r:Bool} {lv:V} (hz:∀ {A:Around} {E:Value->Shared->Prop} {s:Shared} {a:Addr} {o:Obj} {Q:Value->Shared->Prop},s.heap.get? a=some o->o.cls=.type T'->(∀ k,Q (.bool r) { s with toks:=k })->wpAny c.M A (call (.builtin "isinstance") [.ref a,.type T]) Q E s)
  (hv:∀ {A:Around} {h:Heap} {x:Value},St c A σ h->VRel h (ownS c σ) lv x->∃ a o,x=.ref a/\h.get? a=some o/\o.cls=.type T')
  (h:P (.bool r) σ):CallS c d (.builtin "isinstance") [lv,.raw (.type T)] σ P X:=by
 intro A s E cs _ st rs _
 obtain ⟨y,rfl,ry⟩:=rs.raw2
 obtain ⟨a,o,rfl,e,hc⟩:=hv st ry
 exact hz e hc fun k=>Post.same st h (by simp only [VRel])
theorem cls_tup {A:Around} {h:Heap} {x:Value} (_:St c A σ h) (r:VRel h (ownS c σ) (.tup vs) x):∃ a o,x=.ref a/\h.get? a=some o/\o.cls=.type "tuple":=by
 simp only [VRel] at r
 obtain ⟨a,cs,rfl,_,⟨n,e⟩,_,_⟩:=r
 exact ⟨a,_,rfl,e,rfl⟩
theorem cls_lst {A:Around} {h:Heap} {x:Value} {lv:V} (hl:IsLst σ lv vs) (st:St c A σ h) (r:VRel h (ownS c σ) lv x):∃ a o,x=.ref a/\h.get? a=some o/\o.cls=.type "list":=by
 obtain ⟨a,cs,rfl,⟨n,e⟩,_,_⟩:=hl.plain st r
 exact ⟨a,_,rfl,e,rfl⟩
theorem Isi_tup_tuple (h:P (.bool true) σ):CallS c d (.builtin "isinstance") [.tup vs,.raw (.type "tuple")] σ P X:=zbj (fun e hc q=>IsiPair.tuple_tuple e hc (q _)) cls_tup h
theorem Isi_tup_list (h:P (.bool false) σ):CallS c d (.builtin "isinstance") [.tup vs,.raw (.type "list")] σ P X:=zbj (fun e hc q=>IsiPair.tuple_list e hc (q _)) cls_tup h
theorem Isi_tup_int (h:P (.bool false) σ):CallS c d (.builtin "isinstance") [.tup vs,.raw (.type "int")] σ P X:=zbj (fun e hc q=>IsiPair.tuple_int e hc (q _)) cls_tup h
theorem Isi_tup_bool (h:P (.bool false) σ):CallS c d (.builtin "isinstance") [.tup vs,.raw (.type "bool")] σ P X:=zbj (fun e hc q=>IsiPair.tuple_bool e hc (q _)) cls_tup h
theorem Isi_tup_str (h:P (.bool false) σ):CallS c d (.builtin "isinstance") [.tup vs,.raw (.type "str")] σ P X:=zbj (fun e hc q=>IsiPair.tuple_str e hc (q _)) cls_tup h
theorem Isi_lst_tuple {lv:V} (hl:IsLst σ lv vs) (h:P (.bool false) σ):CallS c d (.builtin "isinstance") [lv,.raw (.type "tuple")] σ P X:=zbj (fun e hc q=>IsiPair.list_tuple e hc (q _)) (cls_lst hl) h
theorem Isi_lst_list {lv:V} (hl:IsLst σ lv vs) (h:P (.bool true) σ):CallS c d (.builtin "isinstance") [lv,.raw (.type "list")] σ P X:=zbj (fun e hc q=>IsiPair.list_list e hc (q _)) (cls_lst hl) h
theorem Isi_lst_int {lv:V} (hl:IsLst σ lv vs) (h:P (.bool false) σ):CallS c d (.builtin "isinstance") [lv,.raw (.type "int")] σ P X:=zbj (fun e hc q=>IsiPair.list_int e hc (q _)) (cls_lst hl) h
theorem Isi_lst_bool {lv:V} (hl:IsLst σ lv vs) (h:P (.bool false) σ):CallS c d (.builtin "isinstance") [lv,.raw (.type "bool")] σ P X:=zbj (fun e hc q=>IsiPair.list_bool e hc (q _)) (cls_lst hl) h
theorem Isi_lst_str {lv:V} (hl:IsLst σ lv vs) (h:P (.bool false) σ):CallS c d (.builtin "isinstance") [lv,.raw (.type "str")] σ P X:=zbj (fun e hc q=>IsiPair.list_str e hc (q _)) (cls_lst hl) h
end isi
theorem Post.push {A:Around} {s:Shared} {v:V} {cv:Value} {o:Obj} {t:Nat} (st:St c A σ s.heap) (h:P v σ) (r:VRel (s.heap.push o) (ownS c σ) v cv) :
  Post c A σ s P cv { s with heap:=s.heap.push o,toks:=t }:=
 ⟨v,σ,h,⟨(Ext.push o).kept,fun b o' e=>⟨o',Ext.push o b o' e⟩,fun b z1 o' e=>Ext.push o b o' e,.refl,rfl,rfl⟩,st.ext (.push o),r⟩
theorem Call_range1 {n:Int} (h:P (.rng 0 n) σ):CallS c d (.type "range") [.int n] σ P X:=by
 intro A s E cs _ st rs _
 obtain ⟨x,rfl,r⟩:=rs.un1
 simp only [VRel] at r;obtain ⟨t,rfl⟩:=r
 refine call_range_1 (Post.push st h ?_)
 simp only [VRel]
 exact ⟨_,_,_,_,rfl,st.newS,Heap.get?_push_size _ rfl⟩
theorem Call_range2 {lo hi:Int} (h:P (.rng lo hi) σ):CallS c d (.type "range") [.int lo,.int hi] σ P X:=by
 intro A s E cs _ st rs _
 obtain ⟨x,y,rfl,r,r'⟩:=rs.un2
 simp only [VRel] at r r';obtain ⟨t,rfl⟩:=r;obtain ⟨u,rfl⟩:=r'
 refine call_range_2 (Post.push st h ?_)
 simp only [VRel]
 exact ⟨_,_,_,_,rfl,st.newS,Heap.get?_push_size _ rfl⟩
theorem Call_max (hh:c.k.hd=true) {a b:Int} (h:P (.int (max a b)) σ):CallS c d (.builtin "max") [.int a,.int b] σ P X:=by
 intro A s E cs hA st rs _
 obtain ⟨x,y,rfl,r,r'⟩:=rs.un2
 simp only [VRel] at r r';obtain ⟨t,rfl⟩:=r;obtain ⟨u,rfl⟩:=r'
 refine max_two_ints (hA.handled hh) fun h' tk k=>⟨.int (max a b),σ,h,.ext k rfl rfl,st.ext k,?_⟩
 simp only [VRel]
 by_cases q:b > a
 ·rw [if_pos q,show max a b=b from Int.max_eq_right (Int.le_of_lt q)];exact ⟨_,rfl⟩
 ·rw [if_neg q,show max a b=a from Int.max_eq_left (Int.not_lt.mp q)];exact ⟨_,rfl⟩
theorem Call_min (hh:c.k.hd=true) {a b:Int} (h:P (.int (min a b)) σ):CallS c d (.builtin "min") [.int a,.int b] σ P X:=by
 intro A s E cs hA st rs _
 obtain ⟨x,y,rfl,r,r'⟩:=rs.un2
 simp only [VRel] at r r';obtain ⟨t,rfl⟩:=r;obtain ⟨u,rfl⟩:=r'
 refine min_two_ints (hA.handled hh) fun h' tk k=>⟨.int (min a b),σ,h,.ext k rfl rfl,st.ext k,?_⟩
 simp only [VRel]
 by_cases q:b<a
 ·rw [if_pos q,show min a b=b from Int.min_eq_right (Int.le_of_lt q)];exact ⟨_,rfl⟩
 ·rw [if_neg q,show min a b=a from Int.min_eq_left (Int.not_lt.mp q)];exact ⟨_,rfl⟩
theorem VRels.strs {h:Heap} {own:List Addr}:∀ {ys:List Str} {cs:List Value},VRels h own (ys.map .str) cs->PyProof.Rows.StrsAre cs ys
 | [],_,r=>by simp only [List.map_nil,VRels] at r;subst r;exact .nil
 | y::ys,_,r=>by
  simp only [List.map_cons,VRels,VRel] at r
  obtain ⟨_,_,rfl,⟨t,rfl⟩,rs⟩:=r
  exact .cons y t (VRels.strs rs)
theorem Meth_join {x:Str}:Meth c σ (.str x) "join" "str" "str.join":=by
 refine ⟨F.plainAttrs_str,F.slot_str_join,F.type_str_join,fun A s cv st r=>?_⟩
 simp only [VRel] at r;obtain ⟨t,rfl⟩:=r
 exact ⟨typeIs_str _ _ _,fun a e=>by cases e⟩
theorem Call_join {x:Str} {ys:List Str} {lv:V} (hl:IsLst σ lv (ys.map .str)) (hok:(ys.map (·.length)).sum+ys.length * x.length<=16777216) (h:P (.str (Txt.join x ys)) σ):CallS c d (.builtin "str.join") [.str x,lv] σ P X:=by
 intro A s E cs _ st rs _
 obtain ⟨v,y,rfl,r,r'⟩:=rs.un2
 simp only [VRel] at r;obtain ⟨t,rfl⟩:=r
 have hq:=hl.plain st r'
 (try clear rs)
 obtain ⟨a,cs,rfl,p,hsz,rs⟩:=hq
 exact PyProof.Rows.join_list p.isList (by simpa using rs.strs) hok fun t' k=>Post.same st h (by simp only [VRel];exact ⟨_,rfl⟩)
end Mine
end
section
namespace Mine
open PySem
variable {c:Cx} {d:Nat} {sc:Scope} {m:AEnv} {σ:Led} {P P':V->Led->Prop} {X:XP}
noncomputable def stAt (p:Program) (i:Nat):Stmt:=p.main.body.getD i (.Pass ⟨0,0,0,0⟩)
noncomputable def bodyS (st:Stmt):List Stmt:=if h:st.ctorIdx=0 then Stmt.FunctionDef.elim (motive_2:=fun z1=>List Stmt) st h (fun z1 z2 b z3 z4 z5 z6 z7 z8 z9=>b) else []
noncomputable def scS (st:Stmt):Scope:=if h:st.ctorIdx=0 then Stmt.FunctionDef.elim (motive_2:=fun z1=>Scope) st h (fun z1 z2 z3 z4 z5 z6 sc z7 z8 z9=>sc) else { kind:=.function,names:=[],isGenerator:=false,isCoroutine:=false }
noncomputable def namesS (st:Stmt):List Str:=if h:st.ctorIdx=0 then Stmt.FunctionDef.elim (motive_2:=fun z1=>List Str) st h (fun z1 a z2 z3 z4 z5 z6 z7 z8 z9=>a.args.map (·.arg)) else []
theorem zip_filterMap:∀ {names:List Str} {cs:List Value},names.Nodup->cs.length=names.length->names.filterMap (fun n=>((names.zip cs).lookup n).map (n,·))=names.zip cs:=by
 have gen:∀ (names:List Str) (cs:List Value) (pre:List (Str × Value)),names.Nodup->cs.length=names.length->(∀ n∈names,pre.lookup n=none)->names.filterMap (fun n=>((pre++names.zip cs).lookup n).map (n,·))=names.zip cs:=by
  intro names
  induction names with
  | nil=>intro cs pre _ _ _;simp
  | cons n r ih=>
   intro cs pre hn hl hp
   cases cs with
   | nil=>simp at hl
   | cons v vs=>
    simp only [List.nodup_cons] at hn
    have h1:(pre++(n::r).zip (v::vs)).lookup n=some v:=by
     rw [List.lookup_append,hp n (List.mem_cons_self ..)];simp
    rw [List.filterMap_cons,h1]
    simp only [Option.map_some,List.zip_cons_cons,List.cons.injEq,true_and]
    have:=ih vs (pre++[(n,v)]) hn.2 (by simpa using hl) (fun x hx=>by
     rw [List.lookup_append,hp x (List.mem_cons_of_mem _ hx)]
     have:x≠n:=fun e=>hn.1 (e ▸ hx)
     simp [List.lookup_cons,beq_eq_false_iff_ne.mpr this])
    simpa using this
 intro names cs hn hl
 simpa using gen names cs [] hn hl (by simp)
theorem zip_lookup_some {names:List Str}:∀ {cs:List Value},cs.length=names.length->∀ n∈names,((names.zip cs).lookup n).isNone=false:=by
 induction names with
 | nil=>intro cs _ n hn;cases hn
 | cons a r ih=>
  intro cs hl n hn
  cases cs with
  | nil=>simp at hl
  | cons v vs=>
   simp only [List.zip_cons_cons,List.lookup_cons]
   cases hb:n == a with
   | true=>rfl
   | false=>
    have:n∈r:=by
     rcases List.mem_cons.mp hn with q | q
     ·subst q;simp at hb
     ·exact q
    exact ih (by simpa using hl) n this
theorem bindArgs_plain {fd:FuncData} {names:List Str} (h1:fd.params.posonlyargs=[]) (h2:fd.params.args.map (·.arg)=names) (h3:fd.params.vararg=none) (h4:fd.params.kwonlyargs=[]) (h5:fd.params.kwarg=none) (h6:fd.defaults=.none)
  (hn:names.Nodup) {cs:List Value} (hl:cs.length=names.length):bindArgs fd ⟨cs,[]⟩=pure (names.zip cs):=by
 have hmiss:(names.filter fun n=>((names.zip cs).lookup n).isNone)=[]:=by
  rw [List.filter_eq_nil_iff]
  intro n hn'
  rw [zip_lookup_some hl n hn'];simp
 obtain ⟨name,qualname,⟨po,ar,va,ko,kd,ka,de⟩,body,scope,globals,closure,defaults,kwdefaults,doc,pm,ann,code,ct,bl⟩:=fd
 dsimp only at h1 h2 h3 h4 h5 h6
 subst h1 h2 h3 h4 h5 h6
 refine (if_neg ?_).trans ((if_neg ?_).trans ?_)
 ·show ¬ (decide (cs.length > (ar.map (·.arg)).length) && true)=true
  rw [hl,decide_eq_false (Nat.lt_irrefl _)];decide
 ·show ¬ (!(((ar.map (·.arg)).take ((ar.map (·.arg)).length - (List.drop (0 - (ar.map (·.arg)).length) ([]:List Value)).length)).filter fun n=>(((ar.map (·.arg)).zip cs).lookup n).isNone).isEmpty)=true
  rw [List.drop_nil,List.length_nil,Nat.sub_zero,List.take_length,hmiss];decide
 ·dsimp only
  rw [show ((none:Option (Array Value)).getD #[]).toList=[] from rfl,List.drop_nil,List.zip_nil_right,List.forIn_nil]
  show pure (f:=Sem) (((ar.map fun y:Arg=>y.arg)++[]).filterMap fun n=>(((ar.map fun y:Arg=>y.arg).zip cs).lookup n).map (n,·))=_
  rw [List.append_nil,zip_filterMap hn hl]
structure Fn (k:Base) (x:Str) (st:Stmt):Prop where
 ex:∃ f,k.mg x=some f/\(∀ c:Cx,c.k=k->FnAt c f (namesS st) (bodyS st) (scS st))
noncomputable def Def (k:Base) (x:Str):Prop:=∃ f,k.mg x=some f/\Callee ⟨k,[],[]⟩ f
theorem Fn.def {k:Base} {x:Str} {st:Stmt} (h:Fn k x st):Def k x:=by
 obtain ⟨f,hg,hf⟩:=h.ex
 exact ⟨f,hg,(hf ⟨k,[],[]⟩ rfl).callee⟩
open PyProof.Rows PySem.Calls in
structure TopAt (k:Base) (q:Program) (loose:List Str):Prop where
 ok:k.OK
 fn:∀ d∈recsOf q,∃ a o pm code doc,k.mg d.name=some (.ref a)/\k.h0.get? a=some o/\o.data=.func (docDef d.name d.params d.body d.scope pm code doc)/\k.h0.CodeRec code d.name
 const:∀ x d,valOf q x=some d->∃ v,k.mg x=some v/\∀ h':Heap,Reads h' v d []
 free:∀ x,x∉startupNames->x∉loose->x∉(recsOf q).map (·.name)->x∉(litsOf q).map (·.1)->x∉(clssOf q loose).map (·.name)->k.mg x=none
 mbs:∀ x:Str,x≠"__name__"->k.mb x=bootBuiltins x
open PyProof.Rows PySem.Calls in
theorem TopAt.def_ {k:Base} {q:Program} {loose:List Str} (hp:TopAt k q loose) {x:Str} {i:Nat} {st:Stmt} {a:Arguments} {b:List Stmt} {r1 r2 r3 sc t1 t2 pos} (hi:q.main.body[i]?=some st) (hst:st=.FunctionDef x a b r1 r2 r3 sc t1 t2 pos) (hd:q.theDef x=some (a,b,sc))
  (h1:a.posonlyargs=[]) (h2:a.vararg=none) (h3:a.kwonlyargs=[]) (h4:a.kw_defaults=[]) (h5:a.kwarg=none) (h6:a.defaults=[]) (hn:nodupB (namesS st)=true):Fn k x st:=by
 subst hst
 have hm:(⟨x,a,b,sc,pos⟩:DefRec)∈recsOf q:=by
  refine List.mem_filterMap.mpr ⟨_,List.mem_of_getElem? hi,?_⟩
  dsimp only
  rw [hd]
  dsimp only
  rw [h6,h3,h4]
  rfl
 obtain ⟨f,o,pm,code,doc,q1,q2,q3,q4⟩:=hp.fn _ hm
 have hn':nodupB (a.args.map fun y:Arg=>y.arg)=true:=hn
 exact ⟨.ref f,q1,fun c hck=>⟨f,o,_,rfl,by rw [hck];exact q2,q3,by rw [hck];exact q4,rfl,rfl,rfl,rfl,rfl,fun cs hl=>bindArgs_plain h1 rfl h2 h3 h5 rfl (zbq hn') hl⟩⟩
noncomputable def CallN (c:Cx) (d:Nat) (x:Str) (vs:List V) (σ:Led) (P:V->Led->Prop) (X:XP):Prop:=∃ f,c.k.mg x=some f/\CallS c d f vs σ P X
theorem WE_callN (hc:c.k.OK) {f:Str} {p pos:Pos} {args:List Expr} (hdef:Def c.k f) (h:WEs c d sc args m σ (fun vs σ₂=>CallN c d f vs σ₂ P X) X) (hk:sc.names.lookup f=some .globalImplicit) :
  WE c d sc (.Call (.Name f p) args [] pos) m σ P X:=by
 obtain ⟨cv,hg,hcal⟩:=hdef
 refine WE_call_def hc hk hg hcal ?_
 intro env A s E pos r
 obtain ⟨h1,h2⟩:=h env A s E pos r
 refine ⟨h1,wpAny_mono h2 ?_ fun z1 z2 x=>x⟩
 rintro cvs s₁ ⟨vs,σ₁,⟨hl,f',hf',hcall⟩,r,r2,r3⟩
 rw [hg] at hf';cases hf'
 exact ⟨vs,σ₁,⟨hl,hcall⟩,r,r2,r3⟩
theorem CallN_def {x:Str} {st:Stmt} {vs:List V} (hc:c.k.OK) (hf:Fn c.k x st) {m₀:AEnv} (h:WSs c d (scS st) (bodyS st) m₀ σ (Ret P) X) (hsc:scOk (scS st) (namesS st)=true) (hl:vs.length=(namesS st).length) (hm:(namesS st).zip vs=m₀) :
  CallN c (d+1) x vs σ P X:=by
 obtain ⟨f,hg,hf⟩:=hf.ex
 subst hm
 exact ⟨f,hg,CallS_def hc (hf c rfl) hsc hl h⟩
noncomputable def Blt (k:Base) (x:Str) (v:Value):Prop:=k.mg x=none/\k.mb x=some v
theorem WE_callB (hc:c.k.OK) {f:Str} {p pos:Pos} {args:List Expr} {cv:Value} (hb:Blt c.k f cv) (h:WEs c d sc args m σ (fun vs σ₂=>CallS c d cv vs σ₂ P X) X) (hcal:Callee c cv) (hk:sc.names.lookup f=some .globalImplicit) :
  WE c d sc (.Call (.Name f p) args [] pos) m σ P X:=WE_call_builtin hc hk hb.1 hb.2 hcal h
theorem WE_blt (hc:c.k.OK) {x:Str} {pos:Pos} {cv:Value} (hb:Blt c.k x cv) (h:P (.raw cv) σ) (hk:sc.names.lookup x=some .globalImplicit):WE c d sc (.Name x pos) m σ P X:=WE_builtin hc hk hb.1 hb.2 h
open PyProof.Rows PySem.Calls in
noncomputable def unbound (q:Program) (loose:List Str) (x:Str):Bool:=!(startupNames.contains x) && !(loose.contains x) && !(((recsOf q).map (·.name)).contains x) && !(((litsOf q).map (·.1)).contains x) && !(((clssOf q loose).map (·.name)).contains x)
theorem TopAt.blt {k:Base} {q:Program} {loose:List Str} (hp:TopAt k q loose) {x:Str} {v:Value} (hu:unbound q loose x=true) (hn:x≠"__name__") (hb:bootBuiltins x=some v):Blt k x v:=by
 unfold unbound at hu
 simp only [Bool.and_eq_true,Bool.not_eq_true',List.contains_eq_mem,decide_eq_false_iff_not] at hu
 exact ⟨hp.free x hu.1.1.1.1 hu.1.1.1.2 hu.1.1.2 hu.1.2 hu.2,by rw [hp.mbs x hn,hb]⟩
theorem WE.mono {e:Expr} (h:WE c d sc e m σ P X) (k:∀ v σ',P v σ'->P' v σ'):WE c d sc e m σ P' X:=fun env A s E r=>
 wpAny_mono (h env A s E r) (fun z1 z2=>.imp k) fun z1 z2 x=>x
theorem WT.mono {e:Expr} {P P':Bool->Led->Prop} (h:WT c d sc e m σ P X) (k:∀ v σ',P v σ'->P' v σ'):WT c d sc e m σ P' X:=fun env A s E r=>
 wpAny_mono (h env A s E r) (fun z1 z2=>.imp (k _)) fun z1 z2 x=>x
theorem WSs.mono {sts:List Stmt} {K K':Fl->AEnv->Led->Prop} (h:WSs c d sc sts m σ K X) (k:∀ f m' σ',K f m' σ'->K' f m' σ'):WSs c d sc sts m σ K' X:=fun env A s E r=>
 wpAny_mono (h env A s E r) (fun z1 z2=>.imp k) fun z1 z2 x=>x
theorem law_core {prog:Program} {w:World} {s₁:Shared} {mg mb:Str->Option Value} (hk:(Base.mk prog w s₁.heap mg mb true).OK) {fa a:Addr} {items:List Value} {xs:List Int} {E:Value->Shared->Prop}
  (hl:s₁.heap.get? a=some { cls:=.type "list",data:=.seq items.toArray }) (hi:PyProof.Rows.IntsAre items xs) (hlen:xs.length<=63)
  (h:CallS ⟨⟨prog,w,s₁.heap,mg,mb,true⟩,[],[]⟩ 90 (.ref fa) [.lst (xs.map .int)] [] (fun v z1=>v=.bool true) NoX) :
  wpAny (model prog w) callerA (call (.ref fa) [.ref a]) (fun v s'=>v=.bool true/\(∀ b o,s₁.heap.get? b=some o->s'.heap.get? b=some o)/\s'.os=s₁.os/\s'.gens=s₁.gens) E s₁:=by
 have hints:∀ {items:List Value} {xs:List Int},PyProof.Rows.IntsAre items xs->VRels s₁.heap [] (xs.map V.int) items:=by
  intro items xs hi
  induction hi with
  | nil=>simp only [List.map_nil,VRels]
  | cons n t _ ih=>simp only [List.map_cons,VRels,VRel];exact ⟨_,_,rfl,⟨t,rfl⟩,ih⟩
 have hst:St ⟨⟨prog,w,s₁.heap,mg,mb,true⟩,[],[]⟩ callerA [] s₁.heap:=by
  refine ⟨fun z1 z2 e=>e,List.nodup_nil,fun z1 h=>(by cases h),fun z1 z2 h=>(by cases h),⟨[],rfl,?_,fun L h=>(by cases h)⟩,fun z1 h=>(by cases h),fun z1 h=>(by cases h)⟩
  exact trivial
 have hsz:items.length=xs.length:=by have:=(hints hi).length;simpa using this
 refine wpAny_mono (h callerA s₁ E [.ref a] ⟨fun z1=>rfl,by decide +kernel,by decide +kernel,by decide⟩ hst ?_ EOk.nox) ?_ fun z1 z2 x=>x
 ·simp only [VRels,VRel]
  exact ⟨_,_,rfl,⟨a,items,rfl,by simp [ownS,owned],⟨_,hl⟩,by rw [hsz,sizeLine_eq];lia,hints hi⟩,rfl⟩
 ·rintro v s' ⟨v',σ',hv,t,st,r⟩
  rw [hv] at r
  simp only [VRel] at r
  exact ⟨r,fun b o e=>st.keep b o e,t.os,t.gens⟩
end Mine
end
section
namespace Mine
open PySem
variable {c:Cx} {d:Nat} {sc:Scope} {m:AEnv} {σ:Led} {P P':V->Led->Prop} {X:XP} {K:Fl->AEnv->Led->Prop} {N:AEnv->Led->Prop}
theorem Cmp_eq_bool {a b:Bool} (h:P (.bool (a == b)) σ):Op2 c d (compareOp .Eq) (.bool a) (.bool b) σ P:=by
 intro A s E ca cb _ st ra rb
 simp only [VRel] at ra rb;subst ra;subst rb
 exact PyProof.Rows.eq_bool (Post.same' st h (by simp only [VRel]))
theorem Cmp_ne_bool {a b:Bool} (h:P (.bool (a != b)) σ):Op2 c d (compareOp .NotEq) (.bool a) (.bool b) σ P:=by
 intro A s E ca cb _ st ra rb
 simp only [VRel] at ra rb;subst ra;subst rb
 exact PyProof.Rows.ne_bool (Post.same' st h (by simp only [VRel]))
theorem Op_pow12 (h:P (.int 1000000000000) σ):Op2 c d (binaryOp .Pow) (.int 10) (.int 12) σ P:=
 Op_pow (x:=10) (n:=12) (by decide) (by decide +kernel) h
theorem zb4 {a:Int} (h1:-9223372036854775808<a) (h2:a<9223372036854775808):Builtin.Int.intBits a<=64:=by
 have hn:a.natAbs<2 ^ 63:=by lia
 unfold Builtin.Int.intBits
 by_cases hz:a.natAbs=0
 ·rw [hz];split <;> decide
 ·have:=(Nat.log2_lt hz).mpr hn
  split
  ·exact Nat.zero_le _
  ·(exact Ar.l01 (.le (.a (.v 0) (.k 1)) (.k 64)) [(.lt (.v 0) (.k 63))] (by kernel_rfl) this)
theorem mulOk_left {a b:Int} (h1:-9223372036854775808<a) (h2:a<9223372036854775808):IntMulOk a b:=IntMulOk.of_left (zb4 h1 h2)
theorem mulOk_right {a b:Int} (h1:-9223372036854775808<b) (h2:b<9223372036854775808):IntMulOk a b:=IntMulOk.of_right (zb4 h1 h2)
theorem Op_modp {x y:Int} (hy:0<y) (h:P (.int (x % y)) σ):Op2 c d (binaryOp .Mod) (.int x) (.int y) σ P:=
 Op_mod (by (exact Ar.l10 (.no (.ieq (.v 0) (.k 0))) [(.ilt (.k 0) (.v 0))] (by kernel_rfl) hy)) (by rw [Int.fmod_eq_emod_of_nonneg _ (by (exact Ar.l10 (.ile (.k 0) (.v 0)) [(.ilt (.k 0) (.v 0))] (by kernel_rfl) hy))];exact h)
theorem log2_small {y:Int} (hy:0<y) (h2:y<9223372036854775808):y.natAbs.log2<9000:=by
 have hn:y.natAbs<2 ^ 63:=by lia
 have:=(Nat.log2_lt (by lia)).mpr hn
 (exact Ar.l01 (.lt (.v 0) (.k 9000)) [(.lt (.v 0) (.k 63))] (by kernel_rfl) this)
theorem Op_divp {x y:Int} (hy:0<y) (h2:y<9223372036854775808) (h:P (.int (x / y)) σ):Op2 c d (binaryOp .FloorDiv) (.int x) (.int y) σ P:=
 Op_div (by (exact Ar.l10 (.no (.ieq (.v 0) (.k 0))) [(.ilt (.k 0) (.v 0))] (by kernel_rfl) hy)) (log2_small hy h2) (by rw [Int.fdiv_eq_ediv_of_nonneg _ (by (exact Ar.l10 (.ile (.k 0) (.v 0)) [(.ilt (.k 0) (.v 0))] (by kernel_rfl) hy))];exact h)
end Mine
namespace Mine
open PySem
theorem mem_rangeL {lo hi i:Int}:i∈rangeL lo hi ↔ lo<=i/\i<hi:=by
 unfold rangeL
 simp only [List.mem_map,List.mem_range]
 constructor
 ·rintro ⟨k,hk,rfl⟩
  exact ⟨Int.le_add_of_nonneg_right (Int.natCast_nonneg k),Int.add_lt_of_lt_sub_left (Int.lt_toNat.mp hk)⟩
 ·intro h
  refine ⟨(i - lo).toNat,?_,?_⟩
  ·exact (Int.toNat_lt_toNat (Int.sub_pos_of_lt (Int.lt_of_le_of_lt h.1 h.2))).mpr (Int.sub_lt_sub_right h.2 lo)
  ·rw [Int.toNat_of_nonneg (Int.sub_nonneg.mpr h.1)];rw [Int.add_comm,Int.sub_add_cancel]
theorem zad (x y:Str):(x++y).cps.toList=x.cps.toList++y.cps.toList:=by
 show (x.cps++y.cps).toList=_
 simp
theorem str_ext {x y:Str} (h:x.cps.toList=y.cps.toList):x=y:=by
 obtain ⟨⟨l⟩⟩:=x;obtain ⟨⟨l'⟩⟩:=y
 simp only at h;subst h;rfl
theorem zau (x:Str):x.length=x.cps.toList.length:=by simp [Str.length]
theorem join_signs:∀ (l:List Nat),Str.join (Str.ofString "") (l.map fun k=>(⟨#[k]⟩:Str))=⟨l.toArray⟩
 | []=>rfl
 | [k]=>rfl
 | k::k'::r=>by
  have ih:=join_signs (k'::r)
  simp only [List.map_cons] at ih
  simp only [List.map_cons,Str.join]
  rw [ih]
  apply str_ext
  rw [zad,zad]
  have:(Str.ofString "").cps.toList=[]:=by decide +kernel
  rw [this];rfl
end Mine
end
section
namespace Mine
open PySem PySem.W PyProof.Rows
theorem law_head {l:OpenLaw} {w:World} {s₀ s₁:Shared} {mg mb:Str->Option Value} {fa a:Addr} {items:List Value} {xs:List Int} (hk:(Base.mk l.row.prog w s₁.heap mg mb true).OK)
  (hw:Well w.params s₁.heap (.ref a) (ofPy (.list (xs.map .int)))) (hL:s₁.heap.IsList a items.toArray) (hi:IntsAre items xs) (hlen:xs.length<=63) (hg:s₁.gens=#[])
  (h:CallS ⟨⟨l.row.prog,w,s₁.heap,mg,mb,true⟩,[],[]⟩ 90 (.ref fa) [.lst (xs.map .int)] [] (fun v z1=>v=.bool true) NoX) :
  wpAny (model l.row.prog w) callerA (call (.ref fa) [.ref a]) (fun v s'=>GoodWG l.row.claim (classAt s₀.heap) (ExcName.means s₀.heap) [ofPy (.list (xs.map .int))] s₁ (.ok (.ret v)) s')
   (fun e s'=>GoodWG l.row.claim (classAt s₀.heap) (ExcName.means s₀.heap) [ofPy (.list (xs.map .int))] s₁ (.error e) s') s₁:=by
 obtain ⟨o,ho,hc,n,hd⟩:=hL
 have hobj:s₁.heap.get? a=some { cls:=.type "list",data:=.seq items.toArray }:=by
  have key:∀ (v:Value) (dd:WData) (ys:List WData),Well w.params s₁.heap v dd->v=.ref a->dd=.list ys->∃ vs:List Value,s₁.heap.get? a=some { cls:=.type "list",data:=.seq vs.toArray }:=by
   intro v dd ys hW
   cases hW <;> intro e1 e2 <;> first
    | (cases e2;done)
    | (cases e1;cases e2;exact ⟨_,by assumption⟩)
  have e2:∃ ys,ofPy (.list (xs.map .int))=.list ys:=by
   first
    | exact ⟨_,rfl⟩
    | (simp only [ofPy];exact ⟨_,rfl⟩)
  obtain ⟨ys,e2⟩:=e2
  obtain ⟨vs,hv⟩:=key _ _ ys hw rfl e2
  rw [hv] at ho
  cases ho
  simp only at hd
  cases hd
  exact hv
 refine wpAny_mono (law_core hk hobj hi hlen h) ?_ fun z1 z2 x=>x
 rintro v s' ⟨rfl,hkeep,hos,hgens⟩
 refine GoodW.toG ⟨.inl ⟨.bool true,.bool true,[],rfl,?_,?_,?_,?_⟩,hkeep,hos,hgens.trans hg⟩
 ·intro cls;rfl
 ·exact .bool _
 ·refine postW_of (X:=true) ?_ ?_ rfl
  ·have e:WShape.has [] (.bool true) .bool=true:=by decide +kernel
   exact e
  ·have e:same (WData.bool true) (WData.bool true)=true:=by decide +kernel
   show WTm.value [] (.eq .res (.lit (.bool true))) _=_
   simp [WTm.value,e]
 ·intro _;exact ⟨List.nodup_nil,fun a ha=>by cases ha⟩
end Mine
end
section
namespace Mine
open PySem PySem.SeqAt
variable {c:Cx} {d:Nat} {sc:Scope} {m:AEnv} {σ:Led} {P P':V->Led->Prop} {X:XP} {K:Fl->AEnv->Led->Prop} {N:AEnv->Led->Prop}
noncomputable def Const (k:Base) (x:Str) (v:V):Prop:=∃ cv,k.mg x=some cv/\∀ h own,VRel h own v cv
theorem WE_const (hc:c.k.OK) {x:Str} {pos:Pos} {v:V} (hv:Const c.k x v) (h:P v σ) (hk:sc.names.lookup x=some .globalImplicit):WE c d sc (.Name x pos) m σ P X:=by
 obtain ⟨cv,hg,hr⟩:=hv
 exact WE_global hc hk hg hr h
theorem TopAt.constI {k:Base} {q:Program} {loose:List Str} (hp:TopAt k q loose) {x:Str} {i:Int} (hv:PyProof.Rows.valOf q x=some (.int i)):Const k x (.int i):=by
 obtain ⟨v,h1,h2⟩:=hp.const x _ hv
 obtain ⟨t,rfl⟩:∃ t,v=.int i t:=by cases h2 default;exact ⟨_,rfl⟩
 exact ⟨_,h1,fun h own=>by simp only [VRel];exact ⟨t,rfl⟩⟩
theorem TopAt.constS {k:Base} {q:Program} {loose:List Str} (hp:TopAt k q loose) {x y:Str} (hv:PyProof.Rows.valOf q x=some (.str y)):Const k x (.str y):=by
 obtain ⟨v,h1,h2⟩:=hp.const x _ hv
 obtain ⟨t,rfl⟩:∃ t,v=.str y t:=by cases h2 default;exact ⟨_,rfl⟩
 exact ⟨_,h1,fun h own=>by simp only [VRel];exact ⟨t,rfl⟩⟩
theorem VRels.bools {h:Heap} {own:List Addr}:∀ {bs:List Bool} {cs:List Value},VRels h own (bs.map .bool) cs->cs=bs.map .bool
 | [],_,r=>by simp only [List.map_nil,VRels] at r;subst r;rfl
 | y::ys,_,r=>by
  simp only [List.map_cons,VRels,VRel] at r
  obtain ⟨_,_,rfl,rfl,rs⟩:=r
  rw [VRels.bools rs];rfl
theorem VRels.ints {h:Heap} {own:List Addr}:∀ {ys:List Int} {cs:List Value},VRels h own (ys.map .int) cs->∃ xs:Array (Int × Tok),cs.toArray=intItems xs/\xs.toList.map (·.1)=ys
 | [],_,r=>by simp only [List.map_nil,VRels] at r;subst r;exact ⟨#[],by simp [intItems],rfl⟩
 | y::ys,_,r=>by
  simp only [List.map_cons,VRels,VRel] at r
  obtain ⟨_,_,rfl,⟨t,rfl⟩,rs⟩:=r
  obtain ⟨xs,e1,e2⟩:=VRels.ints rs
  refine ⟨#[(y,t)]++xs,?_,by simp [e2]⟩
  have:∀ l:List (Int × Tok),intItems l.toArray=(l.map fun p=>Value.int p.1 p.2).toArray:=by intro l;simp [intItems]
  obtain ⟨l⟩:=xs
  rw [this] at e1
  have e3:(#[(y,t)]++(⟨l⟩:Array (Int × Tok)))=(((y,t)::l)).toArray:=by simp
  rw [e3,this]
  have e4:=congrArg Array.toList e1
  simp only at e4
  rw [List.map_cons,← e4]
theorem all_range {bs:List Bool} {tr:Nat->Bool} (h:∀ i b,bs[i]?=some b->tr i=b):(List.range bs.length).all tr=bs.all id:=by
 induction bs generalizing tr with
 | nil=>rfl
 | cons b r ih=>
  rw [List.length_cons,List.range_succ_eq_map,List.all_cons,List.all_map,List.all_cons,h 0 b rfl]
  rw [ih (tr:=tr∘Nat.succ) (fun i b hb=>h (i+1) b (by simpa using hb))];rfl
theorem Call_all (hh:c.k.hd=true) {bs:List Bool} {lv:V} (hl:IsLst σ lv (bs.map .bool)) (h:P (.bool (bs.all id)) σ):CallS c d (.builtin "all") [lv] σ P X:=by
 intro A s E cs hA st rs _
 obtain ⟨x,rfl,r⟩:=rs.un1
 have hq:=hl.plain st r
 (try clear rs)
 obtain ⟨a,cs,rfl,p,hsz,rs⟩:=hq
 have hcs:=rs.bools
 have hlt:a<s.heap.objs.size:=by obtain ⟨n,e⟩:=p;exact Heap.lt_size e
 refine call_all_walk (wpAny_pyIter_list p.isList ?_)
 refine ⟨_,_,_,_,_,_,fun i=>(bs[i]?).getD false,rfl,Walks.list (A:=A.in1) (hA.handled hh) _ a (Nat.ne_of_lt hlt) cs.toArray,⟨⟨_,Heap.get?_push_size _ rfl,rfl,rfl⟩,p.isList.push _⟩,?_,fun h' tk hk=>?_⟩
 ·intro i v s Q E hP hQ
  have hP:cs.toArray[i]?=some v:=hP
  rw [hcs,List.getElem?_toArray,List.getElem?_map] at hP
  cases e:bs[i]? with
  | none=>rw [e] at hP;cases hP
  | some b=>
   rw [e] at hP
   simp only [Option.map_some,Option.some.injEq] at hP
   subst hP
   have hQ:Q ((bs[i]?).getD false) s:=hQ
   rw [e] at hQ
   exact wpAny_truthy_bool hQ
 ·have hx:Ext s.heap h':=fun b o e=>hk b o (fun q=>by rw [List.mem_singleton.mp q] at e;exact absurd (Heap.lt_size e) (Nat.lt_irrefl _)) (Heap.get?_push_of_some _ e)
  have hlen:cs.toArray.size=bs.length:=by rw [List.size_toArray,hcs,List.length_map]
  rw [hlen,all_range (bs:=bs) (fun i b hb=>by rw [hb];rfl)]
  exact ⟨_,σ,h,.ext hx rfl rfl,st.ext hx,by simp only [VRel]⟩
theorem Call_sum (hh:c.k.hd=true) {ys:List Int} {lv:V} (hl:IsLst σ lv (ys.map .int)) (h:P (.int ys.sum) σ):CallS c d (.builtin "sum") [lv] σ P X:=by
 intro A s E cs hA st rs _
 obtain ⟨x,rfl,r⟩:=rs.un1
 have hq:=hl.plain st r
 (try clear rs)
 obtain ⟨a,cs,rfl,p,hsz,rs⟩:=hq
 obtain ⟨xs,e1,e2⟩:=rs.ints
 have hl':=p.isList
 rw [e1] at hl'
 have hlt:a<s.heap.objs.size:=by obtain ⟨n,e⟩:=p;exact Heap.lt_size e
 refine call_sum_walkG (iter_intList hl' fun s₂ e stt hfp hlI=>?_)
 subst e
 refine ⟨_,_,_,_,_,_,numAt xs,rfl,Walks.list (A:=A.in1) (hA.handled hh) _ a hlI (intItems xs),stt,hfp,(fun z1 z2=>intItems_at),fun h' tk t' hk=>?_⟩
 have hx:Ext s.heap h':=old_kept hk
 have hsum:preSum (numAt xs) (intItems xs).size=ys.sum:=by
  have:(intItems xs).size=xs.size:=by simp [intItems]
  rw [this,preSum_eq,List.take_of_length_le (by simp),e2]
 rw [hsum]
 exact ⟨_,σ,h,.ext hx rfl rfl,st.ext hx,by simp only [VRel];exact ⟨_,rfl⟩⟩
theorem Op_addl {va vb:V} {as bs:List V} (ha:IsLst σ va as) (hb:IsLst σ vb bs) (hsz:as.length+bs.length<=1000000) (h:P (.lst (as++bs)) σ):Op2 c d (binaryOp .Add) va vb σ P:=by
 intro A s E ca cb _ st ra rb
 have hq:=ha.plain st ra
 (try clear rs)
 obtain ⟨a,cs,rfl,⟨n,e⟩,_,rs⟩:=hq
 obtain ⟨b,ds,rfl,⟨n',e'⟩,_,rs'⟩:=hb.plain st rb
 have h1:=rs.length
 have h2:=rs'.length
 have hs':sizeLine=16777216:=by rw [sizeLine_eq]
 refine PySem.P.add_list (hsz:=by simp only [List.size_toArray];(exact Ar.l05 (.le (.a (.v 0) (.v 1)) (.v 2)) [(.le (.a (.v 3) (.v 4)) (.k 1000000)),(.eq (.v 0) (.v 3)),(.eq (.v 1) (.v 4)),(.eq (.v 2) (.k 16777216))] (by kernel_rfl) hsz h1 h2 hs')) e e' ?_
 have e3:cs.toArray++ds.toArray=(cs++ds).toArray:=by simp
 rw [e3]
 exact Post.newLst (n:=0) st (by rw [List.length_append];(exact Ar.l05 (.le (.a (.v 0) (.v 1)) (.v 2)) [(.le (.a (.v 3) (.v 4)) (.k 1000000)),(.eq (.v 0) (.v 3)),(.eq (.v 1) (.v 4)),(.eq (.v 2) (.k 16777216))] (by kernel_rfl) hsz h1 h2 hs')) (rs.append rs') h
theorem Call_list {lv:V} {vs:List V} (hl:IsLst σ lv vs) (h:P (.lst vs) σ):CallS c d (.type "list") [lv] σ P X:=by
 intro A s E cs hA st rs _
 obtain ⟨x,rfl,r⟩:=rs.un1
 have hq:=hl.plain st r
 (try clear rs)
 obtain ⟨a,cs,rfl,⟨n,e⟩,hsz,rs⟩:=hq
 refine call_list_seq (hsz:=by simpa using hsz) a (.inl rfl) e rfl rfl fun h' c' hx hn=>?_
 have hx:Ext s.heap h':=hx
 refine ⟨.lst vs,σ,h,.ext hx rfl rfl,st.ext hx,?_⟩
 simp only [VRel]
 exact ⟨_,cs,rfl,st.newS,⟨c',hn⟩,hsz,VRels.mono hx.kept .refl vs cs rs⟩
mutual
noncomputable def toD:V->PyData
 | .none=>.none
 | .bool b=>.bool b
 | .int i=>.int i
 | .str x=>.str x
 | .tup vs=>.tuple (toDs vs)
 | .lst vs=>.list (toDs vs)
 | _=>.none
noncomputable def toDs:List V->List PyData
 | []=>[]
 | v::vs=>toD v::toDs vs
end
mutual
noncomputable def isD:V->Bool
 | .none=>true
 | .bool _=>true
 | .int _=>true
 | .str x=>PyData.strOk x
 | .tup vs=>isDs vs
 | .lst vs=>isDs vs
 | _=>false
noncomputable def isDs:List V->Bool
 | []=>true
 | v::vs=>isD v && isDs vs
end
mutual
theorem isD_lay:∀ (v:V),isD v=true->(toD v).canLay0=true
 | .none,_=>by simp [toD,PyData.canLay0]
 | .bool _,_=>by simp [toD,PyData.canLay0]
 | .int _,_=>by simp [toD,PyData.canLay0]
 | .str x,h=>by simpa [toD,PyData.canLay0,isD] using h
 | .tup vs,h=>by simp only [toD,PyData.canLay0];exact isDs_lay vs (by simpa [isD] using h)
 | .lst vs,h=>by simp only [toD,PyData.canLay0];exact isDs_lay vs (by simpa [isD] using h)
 | .set _ _,h=>by simp [isD] at h
 | .rng _ _,h=>by simp [isD] at h
 | .ref _,h=>by simp [isD] at h
 | .raw _,h=>by simp [isD] at h
theorem isDs_lay:∀ (vs:List V),isDs vs=true->PyData.canLayAll0 (toDs vs)=true
 | [],_=>by simp [toDs,PyData.canLayAll0]
 | v::vs,h=>by
  simp only [isDs,Bool.and_eq_true] at h
  simp only [toDs,PyData.canLayAll0,Bool.and_eq_true]
  exact ⟨isD_lay v h.1,isDs_lay vs h.2⟩
end
mutual
theorem VRel.reads {h:Heap} {own:List Addr}:∀ (v:V) (cv:Value),isD v=true->VRel h own v cv->∃ as,Reads h cv (toD v) as
 | .none,_,_,r=>by simp only [VRel] at r;subst r;exact ⟨[],.none⟩
 | .bool b,_,_,r=>by simp only [VRel] at r;subst r;exact ⟨[],.bool b⟩
 | .int i,_,_,r=>by simp only [VRel] at r;obtain ⟨t,rfl⟩:=r;exact ⟨[],.int i t⟩
 | .str x,_,_,r=>by simp only [VRel] at r;obtain ⟨t,rfl⟩:=r;exact ⟨[],.str x t⟩
 | .tup vs,_,hd,r=>by
  simp only [VRel] at r
  obtain ⟨a,cs,rfl,_,⟨n,e⟩,_,rs⟩:=r
  obtain ⟨as,ra⟩:=VRels.reads vs cs (by simpa [isD] using hd) rs
  exact ⟨as,.tuple e rfl rfl (by simpa using ra)⟩
 | .lst vs,_,hd,r=>by
  simp only [VRel] at r
  obtain ⟨a,cs,rfl,_,⟨n,e⟩,_,rs⟩:=r
  obtain ⟨as,ra⟩:=VRels.reads vs cs (by simpa [isD] using hd) rs
  exact ⟨a::as,.list e rfl rfl (by simpa using ra)⟩
 | .set _ _,_,h,_=>by simp [isD] at h
 | .rng _ _,_,h,_=>by simp [isD] at h
 | .ref _,_,h,_=>by simp [isD] at h
 | .raw _,_,h,_=>by simp [isD] at h
theorem VRels.reads {h:Heap} {own:List Addr}:∀ (vs:List V) (cs:List Value),isDs vs=true->VRels h own vs cs->∃ as,ReadsAll h cs (toDs vs) as
 | [],_,_,r=>by simp only [VRels] at r;subst r;exact ⟨[],.nil⟩
 | v::vs,_,hd,r=>by
  simp only [isDs,Bool.and_eq_true] at hd
  simp only [VRels] at r
  obtain ⟨x,xs,rfl,r1,rs⟩:=r
  obtain ⟨as,ra⟩:=VRel.reads v x hd.1 r1
  obtain ⟨bs,rb⟩:=VRels.reads vs xs hd.2 rs
  exact ⟨as++bs,.cons ra rb⟩
end
inductive Dat (σ:Led):V->PyData->Prop
 | val {v:V}:isD v=true->Dat σ v (toD v)
 | ref {a:Addr} {vs:List V}:σ.lookup a=some (.list vs)->isDs vs=true->Dat σ (.ref a) (.list (toDs vs))
theorem Dat.reads {A:Around} {h:Heap} {v:V} {cv:Value} {x:PyData} (i:Dat σ v x) (st:St c A σ h) (r:VRel h (ownS c σ) v cv):(∃ as,Reads h cv x as)/\x.canLay0=true:=by
 cases i with
 | val hd=>exact ⟨VRel.reads v cv hd r,isD_lay v hd⟩
 | ref hl hd=>
  simp only [VRel] at r;subst r
  obtain ⟨cs,⟨n,e⟩,_,rs⟩:=st.objs _ _ (zaa hl)
  obtain ⟨as,ra⟩:=VRels.reads _ cs hd rs
  exact ⟨⟨_,.list e rfl rfl (by simpa using ra)⟩,by simp only [PyData.canLay0];exact isDs_lay _ hd⟩
theorem Cmp_notIn_d {va vb:V} {x:PyData} {ys:List PyData} (ha:Dat σ va x) (hb:Dat σ vb (.list ys)) (hx:x.depth<=20) (h:P (.bool (!ys.any fun y=>PyData.eqv y x)) σ):Op2 c d (compareOp .NotIn) va vb σ P:=by
 intro A s E ca cb hA st ra rb
 obtain ⟨⟨as,ra⟩,la⟩:=ha.reads st ra
 obtain ⟨⟨bs,rb⟩,lb⟩:=hb.reads st rb
 have hu:=hA.units
 have h2:cLine=9900:=by decide
 have h3:min (PyData.depthAll ys) x.depth<=x.depth:=Nat.min_le_right _ _
 exact notIn_list_reads rb ra (by simpa [PyData.canLay0] using lb) la (by (exact Ar.l05 (.lt (.a (.a (.v 0) (.k 1)) (.v 1)) (.v 2)) [(.le (.v 3) (.k 20)),(.lt (.a (.v 0) (.m 20 (.v 4))) (.k 9000)),(.eq (.v 2) (.k 9900)),(.le (.v 1) (.v 3))] (by kernel_rfl) hx hu h2 h3)) (Post.same' st h (by simp only [VRel]))
theorem WA.mono {t:Expr} {v:V} {K K':AEnv->Led->Prop} (h:WA c d sc t v m σ K X) (k:∀ m' σ',K m' σ'->K' m' σ'):WA c d sc t v m σ K' X:=fun env A s E cv r rv=>
 wpAny_mono (h env A s E cv r rv) (fun z1 z2=>.imp k) fun z1 z2 x=>x
theorem WA_sub {t:Expr} {v:V} {m':AEnv} {K:AEnv->Led->Prop} (k:Sub m' m) (h:WA c d sc t v m' σ K X):WA c d sc t v m σ K X:=
 fun env A s E cv r rv=>h env A s E cv ⟨r.sc,r.ok,r.fr,r.a,r.st,r.er.sub k,r.e⟩ rv
theorem bits_of_layable:∀ {xs:List Int},(PyData.list (xs.map .int)).layable0=true->∀ x∈xs,Builtin.Int.intBits x<=1048576:=by
 intro xs h
 have hw:PyData.weightAll (xs.map .int)<=1048576:=by
  simp only [PyData.layable0,Bool.and_eq_true,decide_eq_true_eq,PyData.weight] at h
  exact of_decide_eq_true h.2
 clear h
 induction xs with
 | nil=>intro x hx;cases hx
 | cons a r ih=>
  simp only [List.map_cons,PyData.weightAll,PyData.weight] at hw
  intro x hx
  rcases List.mem_cons.mp hx with rfl | hx
  ·show (if x == 0 then 0 else x.natAbs.log2+1)<=_
   (exact Ar.l02 (.le (.v 0) (.k 1048576)) [(.le (.a (.a (.v 0) (.k 1)) (.v 1)) (.k 1048576))] (by kernel_rfl) hw)
  ·exact ih (by (exact Ar.l02 (.le (.v 0) (.k 1048576)) [(.le (.a (.a (.v 1) (.k 1)) (.v 0)) (.k 1048576))] (by kernel_rfl) hw)) x hx
end Mine
namespace Mine
open PySem
end Mine
namespace Mine
open PySem
variable {c:Cx} {d:Nat} {σ:Led}
noncomputable def Sz (n:Nat) (x:Int):Prop:=x.natAbs<2 ^ n
set_option tactic.hygienic true
theorem Sz.bits {n:Nat} {x:Int} (h:Sz n x):Builtin.Int.intBits x<=n:=by
 unfold Builtin.Int.intBits
 split
 ·(exact Ar.l01 (.le (.k 0) (.v 0)) [] (by kernel_rfl) )
 ·rename_i hz
  have h0:x.natAbs≠0:=by simpa using hz
  have:=(Nat.log2_lt h0).mpr h
  (exact Ar.l02 (.le (.a (.v 0) (.k 1)) (.v 1)) [(.lt (.v 0) (.v 1))] (by kernel_rfl) this)
theorem Sz.of_bits {n:Nat} {x:Int} (h:Builtin.Int.intBits x<=n):Sz n x:=by
 unfold Builtin.Int.intBits at h
 unfold Sz
 split at h
 ·rename_i hz
  have:x=0:=by simpa using hz
  subst this
  exact Nat.two_pow_pos n
 ·rename_i hz
  have h0:x.natAbs≠0:=by simpa using hz
  exact (Nat.log2_lt h0).mp (by (exact Ar.l02 (.lt (.v 0) (.v 1)) [(.le (.a (.v 0) (.k 1)) (.v 1))] (by kernel_rfl) h))
set_option tactic.hygienic false
theorem Sz.mono {n k:Nat} {x:Int} (h:Sz n x) (hk:n<=k):Sz k x:=Nat.lt_of_lt_of_le h (Nat.pow_le_pow_right (by decide) hk)
theorem Sz.mul {n k:Nat} {x y:Int} (h:Sz n x) (h':Sz k y):Sz (n+k) (x * y):=by
 unfold Sz
 rw [Int.natAbs_mul,Nat.pow_add]
 exact Nat.mul_lt_mul'' h h'
theorem Sz.add {n:Nat} {x y:Int} (h:Sz n x) (h':Sz n y):Sz (n+1) (x+y):=by
 unfold Sz at *
 rw [Nat.pow_succ]
 have:=Int.natAbs_add_le x y
 lia
theorem Sz.small {x:Int} (h1:-9223372036854775808<x) (h2:x<9223372036854775808):Sz 64 x:=Sz.of_bits (zb4 h1 h2)
theorem Sz.div {n:Nat} {x y:Int} (h:Sz n x) (hy:0<y):Sz n (x / y):=Nat.lt_of_le_of_lt (Int.natAbs_ediv_le_natAbs x y) h
theorem Op_pow3 {P:V->Led->Prop} {x:Int} {n:Nat} (h:Sz n x) (hn:n<=40000000) (hq:P (.int (x ^ 3)) σ):Op2 c d (binaryOp .Pow) (.int x) (.int 3) σ P:=
 Op_pow (x:=x) (n:=3) (by decide) (by have:=h.bits;lia) hq
end Mine
end
section
namespace Mine
open PySem
variable {c:Cx} {d:Nat} {sc:Scope} {m:AEnv} {σ:Led} {P P':V->Led->Prop} {X:XP} {K:Fl->AEnv->Led->Prop} {N:AEnv->Led->Prop}
theorem clip_pos {n:Int} (hn:0<=n) (k l:Nat):clip (some n) k l=min n.toNat l:=by
 obtain ⟨i,rfl⟩:=Int.eq_ofNat_of_zero_le hn
 show (max 0 (min (if (i:Int)<0 then (i:Int)+l else i) l)).toNat=min i l
 rw [if_neg (Int.not_lt.mpr hn),Int.max_eq_right (Int.le_min.mpr ⟨hn,Int.natCast_nonneg l⟩)]
 rcases Nat.le_total i l with h | h
 ·rw [Int.min_eq_left (Int.ofNat_le.mpr h),Nat.min_eq_left h];rfl
 ·rw [Int.min_eq_right (Int.ofNat_le.mpr h),Nat.min_eq_right h];rfl
theorem slice_take {α:Type} (n:Int) (hn:0<=n) (xs:List α):slice none (some n) xs=xs.take n.toNat:=by
 unfold slice
 rw [clip_pos hn,List.take_eq_take_min (i:=n.toNat)];rfl
theorem slice_drop {α:Type} (n:Int) (hn:0<=n) (xs:List α):slice (some n) none xs=xs.drop n.toNat:=by
 unfold slice
 rw [clip_pos hn,List.drop_eq_drop_min (i:=n.toNat),List.take_of_length_le]
 rw [List.length_drop];exact Nat.le_refl _
end Mine
end
section
namespace Mine
open PySem
variable {c:Cx} {d:Nat} {sc:Scope} {m:AEnv} {σ:Led} {P:V->Led->Prop} {X:XP} {K:Fl->AEnv->Led->Prop}
noncomputable def upd (a:Addr) (o:O):Led->Led
 | []=>[]
 | (b,x)::r=>if b=a then (b,o)::r else (b,x)::upd a o r
theorem zbl {a:Addr} {o x:O} {r:Led}:upd a o ((a,x)::r)=(a,o)::r:=by simp [upd]
theorem upd_there {a b:Addr} {o x:O} {r:Led} (h:b≠a):upd a o ((b,x)::r)=(b,x)::upd a o r:=by simp [upd,h]
theorem zak {a:Addr} {o:O} {r:Led}:List.lookup a ((a,o)::r)=some o:=by simp
theorem za7 {a b:Addr} {o x:O} {r:Led} (h:a≠b) (h2:List.lookup a r=some o):List.lookup a ((b,x)::r)=some o:=by
 rw [List.lookup_cons,beq_eq_false_iff_ne.mpr h];exact h2
theorem O.self (a:Addr) (o:O):a∈o.addrs a:=by cases o <;> simp [O.addrs]
theorem owned_upd {a:Addr} {o o':O} (h1:o'.addrs a=o.addrs a):∀ {σ:Led},σ.lookup a=some o->owned (upd a o' σ)=owned σ
 | [],h=>by simp at h
 | (b,x)::r,h=>by
  rw [List.lookup_cons] at h
  by_cases q:b=a
  ·subst q
   simp only [beq_self_eq_true] at h
   cases h
   rw [zbl]
   show o'.addrs b++owned r=_
   rw [h1];rfl
  ·rw [beq_eq_false_iff_ne.mpr (fun e=>q e.symm)] at h
   rw [upd_there q]
   show x.addrs b++owned (upd a o' r)=x.addrs b++owned r
   rw [owned_upd h1 h]
theorem mem_upd {a:Addr} {o o':O}:∀ {σ:Led},(owned σ).Nodup->σ.lookup a=some o->∀ {b:Addr} {x:O},(b,x)∈upd a o' σ->(b=a/\x=o')\/((b,x)∈σ/\∀ z∈o.addrs a,z∉x.addrs b)
 | [],_,h,_,_=>by simp at h
 | (y,oy)::r,hnd,h,b,x=>by
  intro hm
  rw [List.lookup_cons] at h
  obtain ⟨_,hnd2,hdis⟩:=List.nodup_append.mp hnd
  by_cases q:y=a
  ·subst q
   simp only [beq_self_eq_true] at h
   cases h
   rw [zbl] at hm
   rcases List.mem_cons.mp hm with e | e
   ·cases e;exact .inl ⟨rfl,rfl⟩
   ·refine .inr ⟨.tail _ e,fun z hz hb=>hdis z hz z (mem_owned.mpr ⟨b,x,e,hb⟩) rfl⟩
  ·rw [beq_eq_false_iff_ne.mpr (fun e=>q e.symm)] at h
   rw [upd_there q] at hm
   rcases List.mem_cons.mp hm with e | e
   ·cases e
    exact .inr ⟨.head _,fun z hz hb=>hdis z hb z (mem_owned.mpr ⟨a,_,zaa h,hz⟩) rfl⟩
   ·rcases mem_upd hnd2 h e with e | e
    ·exact .inl e
    ·exact .inr ⟨.tail _ e.1,e.2⟩
theorem ORel.writeOwn {own:List Addr} {h h':Heap} {K:Base} {D a:Addr} {o:O} (hD:D∈own) (k:But D h h') (ha:D∉o.addrs a) (r:ORel K h own a o):ORel K h' own a o:=by
 cases o with
 | list vs=>
  obtain ⟨cs,⟨n,e⟩,hl,rs⟩:=r
  exact ⟨cs,⟨n,k a _ (fun q=>ha (by simp [O.addrs,q])) e⟩,hl,rs.carry (But.carriesHid hD k)⟩
 | dictI _=>exact DictR.carry r (fun ob' e=>k a _ (fun q=>ha (by simp [O.addrs,q])) e) (But.carriesHid hD k)
 | dictS _=>exact DictR.carry r (fun ob' e=>k a _ (fun q=>ha (by simp [O.addrs,q])) e) (But.carriesHid hD k)
 | inst _ _ _=>exact InstR.carry r (fun b hb ob' e=>k b _ (fun q=>ha (by subst q;simpa [O.addrs] using hb)) e) (But.carriesHid hD k)
 | exc C=>obtain ⟨o,vs,e,q1,q2⟩:=r;exact ⟨o,vs,k a _ (fun q=>ha (by simp [O.addrs,q])) e,q1,q2⟩
theorem zap {a:Addr} {o:O} (hl:σ.lookup a=some o):a∈owned σ:=mem_owned.mpr ⟨a,_,zaa hl,O.self _ _⟩
theorem St.updO {A:Around} {h h':Heap} {a D:Addr} {o o':O} (st:St c A σ h) (hl:σ.lookup a=some o) (hD:D∈o.addrs a) (ho:o'.addrs a=o.addrs a) (k:But D h h') (r:ORel c.k h' (ownS c σ) a o'):St c A (upd a o' σ) h':=by
 have hao:D∈owned σ:=mem_owned.mpr ⟨a,_,zaa hl,hD⟩
 have hown:owned (Mine.upd a o' σ)=owned σ:=owned_upd ho hl
 have hownS:ownS c (Mine.upd a o' σ)=ownS c σ:=by unfold ownS;rw [hown]
 have haS:D∈ownS c σ:=List.mem_append_right _ hao
 obtain ⟨l,hl',hf,hd⟩:=st.frames
 refine ⟨fun b o e=>k b o (fun q=>?_) (st.keep b o e),by rw [hown];exact st.nodup,by rw [hown];exact st.fresh,fun b o hm=>?_,⟨l,hl',za8 hf fun L hL=>?_,fun L hL=>⟨?_,(hd L hL).2.1,fun o e=>?_⟩⟩,fun b hb=>?_,fun b hb=>?_⟩
 ·subst q;rw [st.fresh _ hao] at e;cases e
 ·rw [hownS]
  rcases mem_upd st.nodup hl hm with ⟨rfl,rfl⟩ | ⟨hm',hne⟩
  ·exact r
  ·exact (st.objs b o hm').writeOwn haS k (hne D hD)
 ·obtain ⟨_,o,ho,hnf⟩:=hf.mem hL
  exact ⟨o,k L o (fun q=>(hd L hL).1 (q ▸ hao)) ho,hnf⟩
 ·rw [hown];exact (hd L hL).1
 ·obtain ⟨_,o',ho,_⟩:=hf.mem hL
  rw [k L o' (fun q=>(hd L hL).1 (q ▸ hao)) ho] at e
  cases e;exact (hd L hL).2.2 _ ho
 ·obtain ⟨o,e⟩:=st.prot b hb
  by_cases q:b=D
  ·subst q;exact r.there (ho ▸ hD)
  ·exact ⟨o,k b o q e⟩
 ·obtain ⟨q1,o,e⟩:=st.hid b hb
  rw [hown]
  exact ⟨q1,o,k b o (fun q=>q1 (q ▸ hao)) e⟩
theorem St.upd {A:Around} {h h':Heap} {a:Addr} {vs ws:List V} {cs:List Value} (st:St c A σ h) (hl:σ.lookup a=some (.list vs)) (k:But a h h') (p:PlainSeq h' "list" a cs) (hsz:cs.length<=sizeLine)
  (r:VRels h (ownS c σ) ws cs):St c A (upd a (.list ws) σ) h':=
 st.updO hl (O.self _ _) rfl k ⟨cs,p,hsz,r.carry (But.carriesHid (List.mem_append_right _ (zap hl)) k)⟩
theorem Step.updO {s:Shared} {h':Heap} {a D:Addr} {o o':O} {t:Nat} (hl:σ.lookup a=some o) (hD:D∈o.addrs a) (ho:o'.addrs a=o.addrs a) (hF:D∉c.F) (hL:∃ o,h'.get? D=some o) (k:But D s.heap h'):Step c.F (owned σ) (owned (upd a o' σ)) s { s with heap:=h',toks:=t }:=by
 have hao:D∈owned σ:=mem_owned.mpr ⟨a,_,zaa hl,hD⟩
 rw [owned_upd ho hl]
 exact ⟨Kept.of fun b o e hb=>k b o (fun q=>hb (q ▸ hao)) e,there_but hL k,fun b hb o e=>k b o (fun q=>hF (q ▸ hb)) e,.refl,rfl,rfl⟩
theorem Step.upd {s:Shared} {h':Heap} {a:Addr} {o o':O} {t:Nat} (hl:σ.lookup a=some o) (ho:o'.addrs a=o.addrs a) (hF:a∉c.F) (hL:∃ o,h'.get? a=some o) (k:But a s.heap h'):Step c.F (owned σ) (owned (upd a o' σ)) s { s with heap:=h',toks:=t }:=
 .updO hl (O.self _ _) ho hF hL k
theorem SameBut.but {a:Addr} {h h':Heap} (k:Heap.SameBut a h h'):But a h h':=fun b o hb e=>by rw [k.2 b hb];exact e
theorem zan {a:Addr} {vs:List V} (hl:σ.lookup a=some (.list vs)):Meth c σ (.ref a) "append" "list" "list.append":=by
 refine ⟨PySem.F.plainAttrs_list,PySem.F.slot_list_append,PySem.F.type_list_append,fun A s cv st r=>?_⟩
 obtain ⟨b,cs,rfl,p,_⟩:=(IsLst.ref hl).plain st r
 obtain ⟨n,e⟩:=id p
 exact ⟨p.isList.typeIs,fun b' q=>by cases q;exact ⟨_,e,rfl⟩⟩
theorem zao {a:Addr} {vs:List V} {v:V} (hl:σ.lookup a=some (.list vs)) (hF:a∉c.F) (hsz:vs.length<16777216) (h:P .none (upd a (.list (vs++[v])) σ)):CallS c d (.builtin "list.append") [.ref a,v] σ P X:=by
 intro A s E cs hA st rs _
 obtain ⟨x,y,rfl,r1,r2⟩:=rs.un2
 simp only [VRel] at r1;subst r1
 obtain ⟨cs,p,hl',rs'⟩:=st.objs _ _ (zaa hl)
 have hlen:=rs'.length
 refine wpAny_list_append_plain (items:=cs.toArray) p (fun h' hp hs=>?_) (by simpa using hl')
 have hk:But a s.heap h':=SameBut.but hs
 have hp':PlainSeq h' "list" a (cs++[y]):=by
  have e:cs.toArray.push y=(cs++[y]).toArray:=by simp
  rw [e] at hp;exact hp
 refine ⟨.none,_,h,.upd (t:=s.toks) hl rfl hF (hp'.elim fun z1 e=>⟨_,e⟩) hk,st.upd hl hk hp' ?_ (rs'.append (.one r2)),rfl⟩
 rw [List.length_append,sizeLine_eq];simp;lia
noncomputable def SetIt (c:Cx) (d:Nat) (ov iv v:V) (σ:Led) (K:Led->Prop):Prop:=
 ∀ (A:Around) (s:Shared) (E:Value->Shared->Prop) (co ci cv:Value),AOk c.k d A->St c A σ s.heap->VRel s.heap (ownS c σ) ov co->VRel s.heap (ownS c σ) iv ci->VRel s.heap (ownS c σ) v cv->
  wpAny c.M A (setItem co ci cv) (fun z1 s'=>PostK c A σ s K s') E s
theorem wpAny_assign_sub {M:Model} {A:Around} {E:Value->Shared->Prop} {s:Shared} {env:Env} {o i:Expr} {pos:Pos} {v:Value} {Q:Unit->Shared->Prop}
  (h:wpAny M A (eval o env) (fun ov s₂=>wpAny M A (eval i env) (fun iv s₃=>wpAny M A (setItem ov iv v) (fun z1 s₄=>Q () s₄) E s₃) E s₂) E s):wpAny M A (assign (.Subscript o i pos) env v) Q E s:=by
 rw [assign_Subscript]
 refine wpAny_bind (wpAny_holding (wpAny_mono h (fun ov s₂ h₂=>?_) fun z1 z2 x=>x))
 refine wpAny_bind (wpAny_holding (wpAny_mono h₂ (fun iv s₃ h₃=>?_) fun z1 z2 x=>x))
 exact wpAny_bind (wpAny_standAt (wpAny_bind (wpAny_holding (wpAny_mono h₃ (fun z1 s₄ h₄=>zbb h₄) fun z1 z2 x=>x))))
theorem WA_item {o i:Expr} {pos:Pos} {v:V} {K:AEnv->Led->Prop} (h:WE c d sc o m σ (fun ov σ₁=>WE c d sc i m σ₁ (fun iv σ₂=>SetIt c d ov iv v σ₂ (fun σ₃=>K m σ₃)) X) X):WA c d sc (.Subscript o i pos) v m σ K X:=by
 intro env A s E cv r rv
 refine wpAny_assign_sub (wpAny_mono (h env A s E r.re) ?_ fun z1 z2 x=>x)
 rintro co s₁ ⟨ov,σ₁,h₁,t₁,hs₁,ro⟩
 have r₁:=r.estep t₁ hs₁
 refine wpAny_mono (h₁ env A s₁ E r₁.re) ?_ fun z1 z2 x=>x
 rintro ci s₂ ⟨iv,σ₂,h₂,t₂,hs₂,ri⟩
 have r₂:=r₁.estep t₂ hs₂
 refine wpAny_mono (h₂ A s₂ E co ci cv r.a hs₂ (t₂.v ro) ri (t₂.v (t₁.v rv))) ?_ fun z1 z2 x=>x
 rintro _ s₃ ⟨σ₃,h₃,t₃,hs₃⟩
 exact ⟨m,σ₃,h₃,(t₁.trans (t₂.trans t₃)).wider,hs₃,r₂.er.mono t₃.kept.wider t₃.grow.wider⟩
theorem mapSeq_set_plain (its:Array Value) (n:Nat) (i:Nat) (x:Value):∃ n',Obj.mapSeq (·.setIfInBounds i x) { cls:=.type "list",data:=.seq its n }={ cls:=.type "list",data:=.seq (its.setIfInBounds i x) n' }:=by
 simp [Obj.mapSeq]
theorem setItem_at {prog:Program} {w:World} {A:Around} {E:Value->Shared->Prop} {s:Shared} {a:Addr} {cs:List Value} {k:Int} {t:Tok} {j:Nat} {v:Value} {Q:Unit->Shared->Prop} (p:PlainSeq s.heap "list" a cs) (hj:place k cs.length=some j) (hsz:cs.length<=sizeLine)
  (hQ:∀ h',PlainSeq h' "list" a (cs.set j v)->But a s.heap h'->Q () { s with heap:=h' }):wpAny (model prog w) A (setItem (.ref a) (.int k t) v) Q E s:=by
 obtain ⟨n,ho⟩:=id p
 have hl:=p.isList
 obtain ⟨hj1,hj2,hj3⟩:=place_lt hj
 rw [sizeLine_eq] at hsz
 unfold setItem
 refine wpAny_holding ?_
 refine wpAny_bind (wpAny_sequenceKey hl.typeIs (by decide) ?_)
 refine wpAny_bind (wpAny_callSpecial?_slot (name:=Str.ofString "__setitem__") hl.typeIs slot_list_setitem
  (wpAny_call_entry slot_list_setitem hl.typeIs entry_list_setitem ?_ (args_list_setitem _ _ _)))
 show wpAny _ _ (Builtin.List.listSubscript? (.int k t) >>= _) _ _ s
 have hfit:Builtin.List.listFitsIndex k=true:=by
  unfold Builtin.List.listFitsIndex
  simp
  omega
 refine wpAny_bind (wpAny_listSubscript_int hfit ?_)
 have hx':cs.toArray[j]?=some cs[j]:=by simp [hj1]
 obtain ⟨n',e'⟩:=mapSeq_set_plain cs.toArray n j v
 have hfin:PlainSeq (s.heap.update a (Obj.mapSeq (·.setIfInBounds j v))) "list" a (cs.set j v):=by
  refine ⟨n',?_⟩
  rw [Heap.get?_update_self _ ho (by rw [e'];rfl),e']
  simp
 have fin:=hQ _ hfin (SameBut.but (Heap.SameBut.update ..))
 cases k with
 | ofNat i=>
  have:j=i:=by
   have:=zay (i:=Int.ofNat i) (Int.natCast_nonneg i) hj3
   rw [hj] at this;exact Option.some.inj this
  subst this
  show wpAny _ _ ((seqItemAt a j >>= fun r=>pure (r.map (j,·))) >>= _) _ _ s
  refine wpAny_bind (wpAny_bind (wpAny_seqItemAt ho rfl (wpAny_pure ?_)))
  rw [hx']
  show wpAny _ _ (setSeqItemAt a j v >>= _) _ _ s
  exact wpAny_bind (wpAny_setSeqItemAt ho rfl (wpAny_bind (wpAny_pure (wpAny_pure ⟨.none,rfl,wpAny_pure fin⟩))))
 | negSucc i=>
  show wpAny _ _ ((Builtin.List.listItems (.ref a) >>= fun xs=>pure ((seqIndex? (Int.negSucc i) xs.size).bind fun i=>xs[i]?.map (i,·))) >>= _) _ _ s
  refine wpAny_bind (wpAny_bind ?_)
  show wpAny _ _ (seqItems? (.ref a) >>= _) _ _ s
  refine wpAny_bind (wpAny_seqItems ho rfl (wpAny_pure (wpAny_pure ?_)))
  rw [show seqIndex? (Int.negSucc i) cs.toArray.size=some j by rw [zbr];simpa using hj]
  simp only [Option.bind_some,hx',Option.map_some]
  show wpAny _ _ (setSeqItemAt a j v >>= _) _ _ s
  exact wpAny_bind (wpAny_setSeqItemAt ho rfl (wpAny_bind (wpAny_pure (wpAny_pure ⟨.none,rfl,wpAny_pure fin⟩))))
theorem Set_at {a:Addr} {vs:List V} {i:Int} {j:Nat} {v:V} {K:Led->Prop} (hl:σ.lookup a=some (.list vs)) (hF:a∉c.F) (hj:place i vs.length=some j) (h:K (upd a (.list (vs.set j v)) σ)):SetIt c d (.ref a) (.int i) v σ K:=by
 intro A s E co ci cv hA st ro ri rv
 simp only [VRel] at ro ri;subst ro;obtain ⟨t,rfl⟩:=ri
 obtain ⟨cs,p,hsz,rs⟩:=st.objs _ _ (zaa hl)
 refine setItem_at p (by rw [rs.length];exact hj) hsz fun h' p' k=>?_
 exact ⟨_,h,.upd (t:=s.toks) hl rfl hF (p'.elim fun z1 e=>⟨_,e⟩) k,st.upd hl k p' (by rw [List.length_set];exact hsz) (rs.set _ rv)⟩
theorem Set_list {a:Addr} {vs:List V} {i:Int} {v:V} {K:Led->Prop} (hl:σ.lookup a=some (.list vs)) (hF:a∉c.F) (h0:0<=i) (hi:i.toNat<vs.length) (h:K (upd a (.list (vs.set i.toNat v)) σ)):SetIt c d (.ref a) (.int i) v σ K:=
 Set_at hl hF (zay h0 ((Int.toNat_lt h0).mp hi)) h
end Mine
end
section
namespace Mine
open PySem
variable {c:Cx} {d:Nat} {sc:Scope} {m:AEnv} {σ:Led} {P:V->Led->Prop} {X:XP} {K:Fl->AEnv->Led->Prop}
section
variable {κ:Type} [DecidableEq κ]
noncomputable def putV (kvs:List (κ × V)) (k:κ) (v:V):List (κ × V):=
 if kvs.any (fun kv=>kv.1=k) then kvs.map (fun kv=>if kv.1=k then (kv.1,v) else kv) else kvs++[(k,v)]
theorem any_keys {α β:Type} {kvs:List (κ × α)} {cs:List (κ × β)} (e:cs.map (·.1)=kvs.map (·.1)) (k:κ):(cs.any fun kv=>decide (kv.1=k))=kvs.any fun kv=>decide (kv.1=k):=by
 have h:∀ {γ:Type} (l:List (κ × γ)),(l.any fun kv=>decide (kv.1=k))=(l.map (·.1)).any fun x=>decide (x=k):=fun l=>by rw [List.any_map];rfl
 rw [h,h,e]
theorem keys_put {α:Type} (l:List (κ × α)) (k:κ) (v:α):(l.map fun kv=>if kv.1=k then (kv.1,v) else kv).map (·.1)=l.map (·.1):=by
 rw [List.map_map]
 refine List.map_congr_left fun x z1=>?_
 show (if x.1=k then (x.1,v) else x).1=x.1
 split <;> rfl
theorem put_rel {h:Heap} {own:List Addr} {k:κ} {v:V} {cv:Value} (rv:VRel h own v cv):∀ (kvs:List (κ × V)) (cs:List (κ × Value)),cs.map (·.1)=kvs.map (·.1)->VRels h own (kvs.map (·.2)) (cs.map (·.2))->
  VRels h own ((kvs.map fun kv=>if kv.1=k then (kv.1,v) else kv).map (·.2)) ((cs.map fun kv=>if kv.1=k then (kv.1,cv) else kv).map (·.2))
 | [],[],_,r=>r
 | [],_::_,e,_=>by cases e
 | _::_,[],e,_=>by cases e
 | (a,x)::kvs,(b,y)::cs,e,r=>by
  simp only [List.map_cons,List.cons.injEq] at e
  obtain ⟨e1,e2⟩:=e
  simp only [List.map_cons,VRels] at r ⊢
  obtain ⟨y',cs',e3,r1,r2⟩:=r
  cases e3
  subst e1
  refine ⟨_,_,rfl,?_,put_rel rv kvs cs e2 r2⟩
  show VRel h own (if b=k then (b,v) else (b,x)).2 (if b=k then (b,cv) else (b,y)).2
  split
  ·exact rv
  ·exact r1
theorem put_both {h:Heap} {own:List Addr} {k:κ} {v:V} {cv:Value} {kvs:List (κ × V)} {cs:List (κ × Value)} (rv:VRel h own v cv) (e:cs.map (·.1)=kvs.map (·.1)) (r:VRels h own (kvs.map (·.2)) (cs.map (·.2))) :
  (stored cs k cv).map (·.1)=(putV kvs k v).map (·.1)/\VRels h own ((putV kvs k v).map (·.2)) ((stored cs k cv).map (·.2)):=by
 unfold stored putV
 rw [any_keys e k]
 cases kvs.any fun kv=>decide (kv.1=k) with
 | true=>exact ⟨(keys_put cs k cv).trans (e.trans (keys_put kvs k v).symm),put_rel rv kvs cs e r⟩
 | false=>
  simp only [Bool.false_eq_true,if_false,List.map_append,List.map_cons,List.map_nil]
  exact ⟨by rw [e],r.append (.one rv)⟩
structure DK (c:Cx) (knd:KeyKind c.k.prog c.k.w κ) (mk:List (κ × V)->O) (kv:κ->V):Prop where
 rel:∀ h own a kvs,ORel c.k h own a (mk kvs)=DictR c.k knd h own a kvs
 addrs:∀ a kvs,(mk kvs).addrs a=[a]
 key:∀ h own k cv,VRel h own (kv k) cv->knd.is k cv=true
variable {knd:KeyKind c.k.prog c.k.w κ} {mk:List (κ × V)->O} {kv:κ->V}
theorem Set_dict (D:DK c knd mk kv) {a:Addr} {kvs:List (κ × V)} {i:κ} {v:V} {K:Led->Prop} (hl:σ.lookup a=some (mk kvs)) (hF:a∉c.F) (hsz:kvs.length<=1000) (h:K (upd a (mk (putV kvs i v)) σ)):SetIt c d (.ref a) (kv i) v σ K:=by
 intro A s E co ci cv hA st ro ri rv
 simp only [VRel] at ro;subst ro
 have hr:=st.objs _ _ (zaa hl)
 rw [D.rel] at hr
 obtain ⟨cs,hs,p,e,rs⟩:=hr
 have hlen:cs.length=kvs.length:=by rw [← List.length_map (f:=fun x:κ × Value=>x.1),e,List.length_map]
 refine wpAny_setItem_pairs (hsz:=by rw [hlen,sizeLine_eq];lia) (D.key _ _ _ _ ri) p fun h' p' k=>?_
 have k':=SameBut.but k
 have ho:(mk (putV kvs i v)).addrs a=(mk kvs).addrs a:=by rw [D.addrs,D.addrs]
 obtain ⟨q1,q2⟩:=put_both (k:=i) rv e rs
 refine ⟨_,h,.upd hl ho hF (p'.elim fun z1 q=>q.elim fun z1 q=>q.elim fun z1 q=>⟨_,q.1⟩) k',st.updO hl (O.self _ _) ho k' ?_⟩
 rw [D.rel]
 exact ⟨_,hs,p',q1,q2.carry (But.carriesHid (List.mem_append_right _ (zap hl)) k')⟩
theorem Cmp_in_dict (D:DK c knd mk kv) {a:Addr} {kvs:List (κ × V)} {i:κ} (hl:σ.lookup a=some (mk kvs)) (h:P (.bool (kvs.any fun kv=>decide (kv.1=i))) σ):Op2 c d (compareOp .In) (kv i) (.ref a) σ P:=by
 intro A s E ci co hA st ri ro
 simp only [VRel] at ro;subst ro
 have hr:=st.objs _ _ (zaa hl)
 rw [D.rel] at hr
 obtain ⟨cs,hs,p,e,rs⟩:=hr
 refine wpAny_in_of (D.key _ _ _ _ ri) hs p.mapOf ?_
 have hv:(valueAt cs i).isSome=kvs.any fun kv=>decide (kv.1=i):=by
  rw [← any_keys e i];unfold valueAt
  rw [Option.isSome_map,Bool.eq_iff_iff,List.find?_isSome,List.any_eq_true]
 rw [hv]
 exact ⟨_,σ,h,.toks,st,by simp only [VRel]⟩
theorem WE_dict0 (hk:c.k.OK) (D:DK c knd mk kv) {pos:Pos} (h:∀ a,a∉owned σ->a∉c.F->P (.ref a) ((a,mk [])::σ)):WE c d sc (.Dict [] [] pos) m σ P X:=by
 intro env A s E r
 refine wpAny_Dict_empty ?_
 have hn:∀ b∈(mk []).addrs s.heap.objs.size,s.heap.get? b=none:=fun b hb=>by
  rw [D.addrs,List.mem_singleton] at hb;subst hb;exact get?_size _
 obtain ⟨o,es,ep,ho,_⟩:=hk.g
 have h3:mainGlobals<s.heap.objs.size:=Heap.lt_size (r.st.keep _ _ ho)
 refine ⟨.ref s.heap.objs.size,_,h _ r.st.new r.st.newF,⟨(Ext.push _).kept,fun b o e=>⟨o,Ext.push _ b o e⟩,fun b z1 o e=>Ext.push _ b o e,.alloc hn,rfl,rfl⟩,r.st.alloc (.push _) hn (by rw [D.addrs];simp) ?_,by simp only [VRel]⟩
 rw [D.rel]
 refine ⟨[],?_,Heap.DictOf.new _,rfl,rfl⟩
 rw [beq_eq_false_iff_ne]
 intro q
 rw [q] at h3
 exact absurd h3 (by decide)
end
theorem DK.int:DK c (intKind c.k.prog c.k.w) O.dictI V.int:=⟨fun z1 z2 z3 z4=>rfl,fun z1 z2=>rfl,fun h own k cv r=>by simp only [VRel] at r;obtain ⟨t,rfl⟩:=r;exact intKind_is _ _ k t⟩
theorem DK.str:DK c (strKind c.k.prog c.k.w) O.dictS V.str:=⟨fun z1 z2 z3 z4=>rfl,fun z1 z2=>rfl,fun h own k cv r=>by simp only [VRel] at r;obtain ⟨t,rfl⟩:=r;exact strKind_is _ _ k t⟩
theorem WT_sub {e:Expr} {m':AEnv} {P:Bool->Led->Prop} (k:Sub m' m) (h:WT c d sc e m' σ P X):WT c d sc e m σ P X:=fun env A s E r=>h env A s E ⟨r.sc,r.ok,r.a,r.st,r.er.sub k,r.e⟩
end Mine
end
section
namespace Mine
open PySem
variable {c:Cx} {d:Nat} {sc:Scope} {m:AEnv} {σ:Led} {P:V->Led->Prop} {X:XP} {K:Fl->AEnv->Led->Prop}
theorem Isi_none_int (h:P (.bool false) σ):CallS c d (.builtin "isinstance") [.none,.raw (.type "int")] σ P X:=isi_none (fun q=>IsiPair.NoneType_int (q _)) h
theorem cls_dict {A:Around} {h:Heap} {x:Value} {a:Addr} {kvs:List (Int × V)} (hl:σ.lookup a=some (.dictI kvs)) (st:St c A σ h) (r:VRel h (ownS c σ) (.ref a) x):∃ a o,x=.ref a/\h.get? a=some o/\o.cls=.type "dict":=by
 simp only [VRel] at r;subst r
 obtain ⟨cs,_,⟨o,es,ep,ho,hex,_⟩,_⟩:=st.objs _ _ (zaa hl)
 exact ⟨a,o,rfl,ho,hex.1⟩
theorem Op_addt {as bs:List V} (ha:as≠[]) (hb:bs≠[]) (hsz:as.length+bs.length<=1000) (h:P (.tup (as++bs)) σ):Op2 c d (binaryOp .Add) (.tup as) (.tup bs) σ P:=by
 intro A s E ca cb _ st ra rb
 simp only [VRel] at ra rb
 obtain ⟨a,cs,rfl,_,⟨n,e⟩,_,rs⟩:=ra
 obtain ⟨b,ds,rfl,_,⟨n',e'⟩,_,rs'⟩:=rb
 have h1:=rs.length
 have h2:=rs'.length
 have hlen:(cs++ds).length<=sizeLine:=by rw [List.length_append,h1,h2,sizeLine_eq];exact Nat.le_trans hsz (by decide)
 refine PySem.P.add_tuple (items:=cs.toArray) (items2:=ds.toArray) e e' ?_ ?_ ?_ (by simpa using hlen)
 ·intro q
  have q:cs=[]:=by simpa using q
  subst q;exact ha (List.eq_nil_of_length_eq_zero h1.symm)
 ·intro q
  have q:ds=[]:=by simpa using q
  subst q;exact hb (List.eq_nil_of_length_eq_zero h2.symm)
 ·have e3:cs.toArray++ds.toArray=(cs++ds).toArray:=by simp
  rw [e3]
  exact Post.newTup (n:=0) st hlen (rs.append rs') h
end Mine
end
section
set_option maxRecDepth 100000
namespace Mine
open PySem
open PyProof.Rows (ClsAt)
variable {c:Cx} {d:Nat} {sc:Scope} {m:AEnv} {σ:Led} {P:V->Led->Prop} {X:XP}
noncomputable def putF (x:Str) (v:V):List (Str × V)->List (Str × V)
 | []=>[(x,v)]
 | p::r=>if p.1=x then (x,v)::r else p::putF x v r
theorem lookup_putF {x:Str} {v:V} (y:Str):∀ fs:List (Str × V),(putF x v fs).lookup y=if y=x then some v else fs.lookup y
 | []=>by
  unfold putF
  rw [List.lookup_cons]
  by_cases h:y=x
  ·rw [if_pos h,beq_iff_eq.mpr h]
  ·rw [if_neg h,beq_eq_false_iff_ne.mpr h]
 | p::r=>by
  unfold putF
  by_cases hp:p.1=x
  ·rw [if_pos hp]
   obtain ⟨p1,p2⟩:=p
   dsimp only at hp
   subst hp
   rw [List.lookup_cons,List.lookup_cons]
   by_cases h:y=p1
   ·rw [if_pos h,beq_iff_eq.mpr h]
   ·rw [if_neg h,beq_eq_false_iff_ne.mpr h]
  ·rw [if_neg hp]
   obtain ⟨p1,p2⟩:=p
   dsimp only at hp
   rw [List.lookup_cons,List.lookup_cons,lookup_putF y r]
   by_cases h:y=p1
   ·rw [beq_iff_eq.mpr h]
    dsimp only
    rw [if_neg (fun q=>hp (h ▸ q))]
   ·rw [beq_eq_false_iff_ne.mpr h]
structure Cls (k:Base) (C N:Addr) (mN:Str->Option Value):Prop where
 at_:ClsAt k.h0 C N mN
 ga:mN "__getattribute__"=none
 gh:mN "__getattr__"=none
 sa:mN "__setattr__"=none
inductive IsField (k:Base) (C:Addr) (x:Str):Prop
 | mk (N:Addr) (mN:Str->Option Value):Cls k C N mN->mN x=none->typeLookup (.type "object") x=pure none->IsField k C x
inductive IsMeth (k:Base) (C:Addr) (x:Str) (f:Value):Prop
 | mk (N:Addr) (mN:Str->Option Value) (fa:Addr) (of:Obj) (fd:FuncData) (y:Option Value):Cls k C N mN->mN x=some (.ref fa)->f=.ref fa->k.h0.get? fa=some of->of.cls=.type "function"->of.data=.func fd->typeLookup (.type "object") x=pure y->IsMeth k C x f
inductive Fld (c:Cx) (σ:Led) (ov:V) (x:Str) (v:V):Prop
 | mk (a C dd:Addr) (fs:List (Str × V)):ov=.ref a->σ.lookup a=some (.inst C dd fs)->IsField c.k C x->fs.lookup x=some v->(∀ w,v≠.raw w)->Fld c σ ov x v
inductive MethI (c:Cx) (σ:Led) (ov:V) (x:Str) (f:Value):Prop
 | mk (a C dd:Addr) (fs:List (Str × V)):ov=.ref a->σ.lookup a=some (.inst C dd fs)->IsMeth c.k C x f->fs.lookup x=none->MethI c σ ov x f
inductive InstQ (h:Heap) (own:List Addr) (a C:Addr) (fs:List (Str × V)):Prop
 | mk (mA:Str->Option Value):h.Inst a C mA->(∀ x v,fs.lookup x=some v->∃ cv,mA x=some cv/\VRel h own v cv)->(∀ x,fs.lookup x=none->mA x=none)->InstQ h own a C fs
theorem InstR.inst {h:Heap} {own:List Addr} {a C dd:Addr} {fs:List (Str × V)} (r:InstR h own a C dd fs):InstQ h own a C fs:=by
 obtain ⟨o,mA,p1,p2,p3,p4,p5,p6,p7,p8⟩:=r
 exact ⟨mA,⟨o,p1,p2,(fun cc z=>by rw [p3] at z;cases z),.inr ⟨dd,p4,p5,p6⟩⟩,p7,p8⟩
theorem handed {h:Heap} {own:List Addr}:∀ {v:V} {cv:Value},VRel h own v cv->(∀ r,v≠.raw r)->handedOut cv=pure cv
 | .none,_,e,_=>by simp only [VRel] at e;subst e;rfl
 | .bool _,_,e,_=>by simp only [VRel] at e;subst e;rfl
 | .int _,_,e,_=>by simp only [VRel] at e;obtain ⟨_,rfl⟩:=e;rfl
 | .str _,_,e,_=>by simp only [VRel] at e;obtain ⟨_,rfl⟩:=e;rfl
 | .tup _,_,e,_=>by simp only [VRel] at e;obtain ⟨_,_,rfl,_⟩:=e;rfl
 | .lst _,_,e,_=>by simp only [VRel] at e;obtain ⟨_,_,rfl,_⟩:=e;rfl
 | .set _ _,_,e,_=>by simp only [VRel] at e;obtain ⟨_,_,_,_,rfl,_⟩:=e;rfl
 | .rng _ _,_,e,_=>by simp only [VRel] at e;obtain ⟨_,_,_,_,rfl,_⟩:=e;rfl
 | .ref _,_,e,_=>by simp only [VRel] at e;subst e;rfl
 | .raw _,_,_,h=>absurd rfl (h _)
theorem WE_attr {o:Expr} {x:Str} {pos:Pos} (hb:zas o=true) (h:WE c d sc o m σ (fun ov σ₁=>∃ v,Fld c σ₁ ov x v/\P v σ₁) X):WE c d sc (.Attribute o x pos) m σ P X:=by
 intro env A s E r
 refine PyProof.Rows.Attribute_any_ (wpAny_mono (h env A s E r) ?_ fun z1 z2 x=>x) (by rw [arm_eval_Attribute,zax hb])
 rintro co s₁ ⟨ov,σ₁,⟨v,⟨a,C,dd,fs,rfl,hl,⟨N,mN,K,hn,hB⟩,hf,hr⟩,h₁⟩,t₁,hs₁,ro⟩
 simp only [VRel] at ro;subst ro
 obtain ⟨mA,I,p7,_⟩:=InstR.inst (hs₁.objs _ _ (zaa hl))
 obtain ⟨cv,e1,e2⟩:=p7 x v hf
 obtain ⟨hh,g,dr,t,os⟩:=s₁
 obtain ⟨nm,q,bs,sn,sub,col,dd',k0,k1,k2,k3,k5,hC⟩:=ClsQ.of (K.at_.keeps hs₁.keep)
 exact load_attr hC (K.at_.keeps hs₁.keep).ns K.ga hn hB I e1 (handed e2 hr) ⟨v,σ₁,h₁,t₁.trans .toks,hs₁,e2⟩
noncomputable def SetAt (c:Cx) (d:Nat) (ov:V) (x:Str) (v:V) (σ:Led) (K:Led->Prop):Prop:=
 ∀ (A:Around) (s:Shared) (E:Value->Shared->Prop) (co cv:Value),AOk c.k d A->St c A σ s.heap->VRel s.heap (ownS c σ) ov co->VRel s.heap (ownS c σ) v cv->
  wpAny c.M A (setAttr co x cv) (fun z1 s'=>PostK c A σ s K s') E s
theorem WA_attr {o:Expr} {x:Str} {pos:Pos} {v:V} {K:AEnv->Led->Prop} (h:WE c d sc o m σ (fun ov σ₁=>SetAt c d ov x v σ₁ (fun σ₂=>K m σ₂)) X):WA c d sc (.Attribute o x pos) v m σ K X:=by
 intro env A s E cv r rv
 rw [assign_Attribute]
 refine wpAny_bind (wpAny_holding (wpAny_mono (h env A s E r.re) ?_ fun z1 z2 x=>x))
 rintro co s₁ ⟨ov,σ₁,h₁,t₁,hs₁,ro⟩
 have r₁:=r.estep t₁ hs₁
 refine wpAny_bind (wpAny_standAt (wpAny_bind (wpAny_holding (wpAny_mono (h₁ A s₁ E co cv r.a hs₁ ro (t₁.v rv)) ?_ fun z1 z2 x=>x))))
 rintro _ s₂ ⟨σ₂,h₂,t₂,hs₂⟩
 exact zbb ⟨m,σ₂,h₂,(t₁.trans t₂).wider,hs₂,r₁.er.mono t₂.kept.wider t₂.grow.wider⟩
theorem Set_attr {a C dd:Addr} {fs:List (Str × V)} {x:Str} {v:V} {K:Led->Prop} (hl:σ.lookup a=some (.inst C dd fs)) (hF:dd∉c.F) (hx:IsField c.k C x) (hsz:fs.length<=1000) (h:K (upd a (.inst C dd (putF x v fs)) σ)):SetAt c d (.ref a) x v σ K:=by
 intro A s E co cv hA st ro rv
 simp only [VRel] at ro;subst ro
 obtain ⟨N,mN,Kc,hn,hB⟩:=hx
 obtain ⟨o,mA,p1,p2,p3,p4,p5,p6,p7,p8⟩:=st.objs _ _ (zaa hl)
 obtain ⟨hh,g,dr,t,os⟩:=s
 obtain ⟨nm,q,bs,sn,sub,col,dd',k0,k1,k2,k3,k5,hC0⟩:=ClsQ.of Kc.at_
 have haC:a≠C:=fun q=>by rw [← q,st.fresh a (zap hl)] at hC0;cases hC0
 have hW:Within mA (fs.map (·.1)):=fun y hy=>by
  refine Classical.byContradiction fun k=>hy (p8 y ?_)
  rw [List.lookup_eq_none_iff]
  intro p hp
  rw [bne_iff_ne]
  exact fun e=>k (List.mem_map.mpr ⟨p,hp,e.symm⟩)
 refine store_attr PySem.F.store_object (st.keep _ _ hC0) (Kc.at_.keeps st.keep).ns Kc.sa hn hB haC ⟨o,p1,p2,fun cc z=>(by rw [p3] at z;cases z),.inr ⟨dd,p4,p5,p6⟩⟩ (ns:=fs.map (·.1)) (fun h' tk' I' hk hsame=>?_) hW (by rw [List.length_map,sizeLine_eq];exact Nat.le_trans hsz (by decide))
 obtain ⟨o₁,e₁,c₁,d₁,s₁,x₁⟩:=hsame o p1
 have ho:o₁=o:=by
  have:=x₁ dd p4
  obtain ⟨a1,a2,a3,a4⟩:=o
  obtain ⟨b1,b2,b3,b4⟩:=o₁
  dsimp only at *
  subst c₁ d₁ s₁
  rw [p4,this]
 subst ho
 have kb:But dd hh h':=fun b ob hb e=>by
  by_cases q:b=a
  ·subst q;rw [p1] at e;cases e;exact e₁
  ·exact hk b ob q (fun o₀ d₀ e0 e1=>by rw [p1] at e0;cases e0;rw [p4] at e1;cases e1;exact hb) e
 have hm:dd∈(O.inst C dd fs).addrs a:=by simp [O.addrs]
 have hdS:dd∈ownS c σ:=List.mem_append_right _ (mem_owned.mpr ⟨a,_,zaa hl,hm⟩)
 have car:=But.carriesHid hdS kb
 obtain ⟨o₂,z1,z2,z3,z4⟩:=I'
 rw [e₁] at z1;cases z1
 have hns:h'.Ns1 dd fun y=>if y=x then some cv else mA y:=by
  rcases z4 with ⟨z,_⟩ | ⟨d',z,_,z'⟩
  ·rw [p4] at z;cases z
  ·rw [p4] at z;cases z;exact z'
 refine ⟨_,h,.updO (t:=tk') hl hm rfl hF (let ⟨od,_,_,e,_⟩:=hns;⟨od,e⟩) kb,st.updO hl hm rfl kb ⟨o₁,_,e₁,p2,p3,p4,p5,hns,fun y w e=>?_,fun y e=>?_⟩⟩
 ·rw [lookup_putF] at e
  by_cases q:y=x
  ·rw [if_pos q] at e;cases e
   exact ⟨cv,by rw [if_pos q],rv.carry car⟩
  ·rw [if_neg q] at e
   obtain ⟨cw,q1,q2⟩:=p7 y w e
   exact ⟨cw,by rw [if_neg q];exact q1,q2.carry car⟩
 ·rw [lookup_putF] at e
  by_cases q:y=x
  ·rw [if_pos q] at e;cases e
  ·rw [if_neg q] at e;rw [if_neg q];exact p8 y e
theorem Call_getMethod {prog:Program} {w:World} {A:Around} {E:Value->Shared->Prop} {s:Shared} {env:Env} {o:Expr} {name:Str} {apos pos:Pos} {args:List Expr} {Q:Value->Shared->Prop} (hb:zas o=true)
  (hfew:methodCallForm (args.length+([]:List Keyword).length) (backTo pos (starEach args env)) (backToKw pos (keywordEach [] env))=true) (hline:(apos.endLine == pos.line)=true)
  (h:wpAny (model prog w) A (eval o env) (fun ov s₁=>∀ pl,wpAny (model prog w) A (getMethod ov name pl) (fun r s₂=>wpAny (model prog w) A (callWith pos r.1 r.2 (backTo pos (starEach args env)) []) Q E s₂) E s₁) E s) :
  wpAny (model prog w) A (eval (.Call (.Attribute o name apos) args [] pos) env) Q E s:=by
 rw [arm_eval_Call,zax hb]
 refine wpAny_bind (wpAny_mono h (fun ov s₁ h₁=>wpAny_bind (wpAny_standAt ?_)) fun z1 z2 e=>e)
 have hpos:methodCallPos true o env apos pos=pure pos:=by unfold methodCallPos;simp [hline]
 unfold methodCall
 rw [hfew]
 exact wpAny_bind (wpAny_holding (wpAny_mono (h₁ _) (fun r s₂ h₂=>wpAny_bind (wpAny_of_eq hpos h₂)) fun z1 z2 e=>e))
theorem WE_methI {o:Expr} {name:Str} {apos pos:Pos} {args:List Expr} (hb:zas o=true) (hline:(apos.endLine == pos.line)=true)
  (h:WE c d sc o m σ (fun ov σ₁=>∃ f,MethI c σ₁ ov name f/\WEs c d sc args m σ₁ (fun vs σ₂=>CallS c d f (ov::vs) σ₂ P X) X) X)
  (hs:∀ env,(starEach args env).any (·.1)=false) (hn:args.length<30) :
  WE c d sc (.Call (.Attribute o name apos) args [] pos) m σ P X:=by
 intro env A s E r
 refine Call_getMethod hb ?_ hline (wpAny_mono (h env A s E r) ?_ fun z1 z2 x=>x)
 ·have h1:(backTo pos (starEach args env)).all (fun x=>!x.1)=true:=by
   have:=za3 (pos:=pos) (hs env)
   rw [List.any_eq_false] at this
   rw [List.all_eq_true]
   intro x hx
   simpa using this x hx
  unfold methodCallForm
  rw [h1]
  simp only [Bool.true_and,Bool.and_eq_true,decide_eq_true_eq]
  exact ⟨rfl,hn⟩
 ·rintro co s₁ ⟨ov,σ₁,⟨f,⟨a,C,dd,fs,rfl,hl,⟨N,mN,fa,of,fd,y,K,k1,rfl,k2,k3,k4,k5⟩,hno⟩,h₁⟩,t₁,hs₁,ro⟩ pl
  simp only [VRel] at ro;subst ro
  obtain ⟨mA,I,_,p8⟩:=InstR.inst (hs₁.objs _ _ (zaa hl))
  obtain ⟨hp,hw⟩:=h₁ env A s₁ E pos (r.step t₁ hs₁)
  obtain ⟨nm,q,bs,sn,sub,col,dd',k0,k1',k2',k3',k5',hC⟩:=ClsQ.of (K.at_.keeps hs₁.keep)
  have key:wpAny c.M A (callWith pos (.ref fa) [.ref a] (backTo pos (starEach args env)) []) (Post c A σ s P) E s₁:=by
   refine callWith_any (c:=c) (za3 hp) (.inr (.inr (.inl ⟨fa,of,fd,rfl,k2,k4⟩))) (wpAny_mono hw ?_ fun z1 z2 x=>x)
   rintro cvs s₂ ⟨vs,σ₂,⟨_,h₂⟩,t₂,hs₂,rvs⟩
   refine ⟨hs₂.keep,?_⟩
   refine wpAny_mono (h₂ A s₂ E (.ref a::cvs) r.a hs₂ (by simp only [VRels];exact ⟨.ref a,cvs,rfl,by simp only [VRel],rvs⟩) ((r.e.step t₁).step t₂)) (fun z1 z2 q=>(q.step t₂).step t₁) fun z1 z2 x=>x
  obtain ⟨hh,g,dr,t,os⟩:=s₁
  exact method_of hC (K.at_.keeps hs₁.keep).ns K.ga K.gh k1 (hs₁.keep _ _ k2) k3 k5 I (p8 name hno) key
end Mine
end
section
set_option maxRecDepth 100000
namespace Mine
open PySem
noncomputable def VE:List Value:=[.type "ValueError",.type "Exception",.type "BaseException",.type "object"]
noncomputable def VN:String:="ValueError.__new__"
noncomputable def hush:List Str:=["__init__","__getattribute__","__getattr__","__class__"]
inductive OwnTl (h:Heap):List Value->Prop
 | base:OwnTl h VE
 | own {A:Addr} {c0:Value} {dd:Option Addr} {cd:ClassData} {sl:Array (Option Value)} {mA:Str->Option Value} {tl:List Value} :
   h.get? A=some { cls:=c0,dict:=dd,data:=.cls cd,slots:=sl }->h.Ns cd.ns mA->(∀ n∈hush,mA n=none)->OwnTl h tl->OwnTl h (.ref A::tl)
inductive OwnA (h:Heap) (C:Addr) (bm:List Value):Prop
 | mk (nm:_) (q:_) (N:Addr) (bs:_) (hdct:_) (sn:_) (sub:_) (ab:_) (col:_) (dd:_) (k0:_) (k1:_) (k2:_) (k3:_) (k5:_) (mN:Str->Option Value):h.get? C=some (excClassObj nm q C N bs bm hdct sn sub ab col dd k0 k1 k2 k3 k5 VN)->h.Ns N mN->(∀ n∈hush,mN n=none)->OwnA h C bm
structure OwnE (h:Heap) (C:Addr) (bm:List Value):Prop where
 at_:OwnA h C bm
 tl:OwnTl h bm
theorem OwnTl.keeps {h h':Heap} {tl:List Value} (T:OwnTl h tl) (hk:∀ b o,h.get? b=some o->h'.get? b=some o):OwnTl h' tl:=by
 induction T with
 | base=>exact .base
 | own hA hN hq _ ih=>exact .own (hk _ _ hA) (hN.keeps hk) hq ih
theorem OwnE.keeps {h h':Heap} {C:Addr} {bm:List Value} (x:OwnE h C bm) (hk:∀ b o,h.get? b=some o->h'.get? b=some o):OwnE h' C bm:=by
 obtain ⟨⟨nm,q,N,bs,hdct,sn,sub,ab,col,dd,k0,k1,k2,k3,k5,mN,h1,h2,h3⟩,tl⟩:=x
 exact ⟨⟨nm,q,N,bs,hdct,sn,sub,ab,col,dd,k0,k1,k2,k3,k5,mN,hk _ _ h1,h2.keeps hk,h3⟩,tl.keeps hk⟩
theorem OwnTl.tail {h:Heap} {tl:List Value} (T:OwnTl h tl):OwnTail h VE tl:=by
 induction T with
 | base=>exact .base
 | own hA hN hq _ ih=>exact .own hA hN (hq _ (.head _)) ih
theorem OwnTl.has {h:Heap} {tl:List Value} (T:OwnTl h tl) {X:String} (hb:VE.contains (.type X)=true):tl.contains (.type X)=true:=T.tail.hasType hb
section
variable {prog:Program} {w:World} {A:Around} {E:Value->Shared->Prop} {h:Heap} {g:Array GenState} {d:Drawn} {t:Nat} {os:OsState} {a:Addr} {o:Obj}
 {nm q:Str} {C N:Addr} {bs bm:List Value} {hdct:Bool} {sn:List Str} {sub:List Value} {ab:Bool} {col:Option Bool} {dd:Option Addr} {k0 k1 k2 k3 k5:Option Value} {mN:Str->Option Value}
theorem look_tl {M:Model} {tl:List Value} {n:Str} {y:Option Value} {Q:Option Value->Shared->Prop} (hn:n∈hush) (T:OwnTl h tl) (hrest:lookupAlong VE n=pure y) (hq:Q y ⟨h,g,d,t,os⟩):wpAny M A (lookupAlong tl n) Q E ⟨h,g,d,t,os⟩:=by
 induction T with
 | base=>rw [hrest];exact wpAny_pure hq
 | own hA hN hni _ ih=>
  rw [lookupAlong_cons]
  refine wpAny_bind (wpAny_classOwn_cls hA hN ?_)
  rw [hni n hn]
  exact ih
theorem look_own {M:Model} {n:Str} {y:Option Value} {Q:Option Value->Shared->Prop} (hn:n∈hush) (hC:h.get? C=some (excClassObj nm q C N bs bm hdct sn sub ab col dd k0 k1 k2 k3 k5 VN)) (hN:h.Ns N mN) (hmN:∀ n∈hush,mN n=none) (T:OwnTl h bm)
  (hB:typeLookup (.type "ValueError") n=pure y) (hq:Q y ⟨h,g,d,t,os⟩):wpAny M A (typeLookup (.ref C) n) Q E ⟨h,g,d,t,os⟩:=by
 have hrest:lookupAlong VE n=pure y:=by rw [typeLookup_eq,F.excBase_ValueError.mroIs] at hB;exact hB
 rw [typeLookup_eq]
 refine wpAny_bind (wpAny_mroOf_exc hC ?_)
 rw [lookupAlong_cons]
 refine wpAny_bind (wpAny_classOwn_exc hC hN ?_)
 rw [hmN n hn]
 exact look_tl hn T hrest hq
theorem ve_ga:Slot "ValueError" "__getattribute__" "BaseException.__getattribute__":=F.excAttr_ValueError.ga
theorem ve_noGa:typeLookup (.type "ValueError") "__getattr__"=pure none:=by rw [typeLookup_type,builtinLookup_eq_fast];kernel_rfl
theorem ve_class:typeLookup (.type "ValueError") "__class__"=pure (some (.builtin "object.__class__")):=by rw [typeLookup_type,builtinLookup_eq_fast];kernel_rfl
theorem cls_get {R:Result->Shared->Prop} (hC:h.get? C=some (excClassObj nm q C N bs bm hdct sn sub ab col dd k0 k1 k2 k3 k5 VN)) (T:OwnTl h bm) (hx:h.get? a=some o) (hc:o.cls=.ref C) (hq:R (.ok (.ret (.ref C))) ⟨h,g,d,t,os⟩) :
  codeAny (model prog w) A (.call (.builtin "getset_descriptor.__get__") ⟨[.builtin "object.__class__",.ref a,.ref C],[]⟩) R ⟨h,g,d,t,os⟩:=by
 have hT5:(⟨h,g,d,t,os⟩:Shared).TypeIs (.builtin "object.__class__") "getset_descriptor":=F.typeOf_object_class
 have hcB:(Value.ref C::bm).contains (.type (".".intercalate ("object.__class__".cutAt '.').dropLast))=true:=by
  rw [F.owner_object_class,List.contains_cons,T.has (X:="object") (by decide)];rfl
 refine codeAny_call_builtin F.slot_gs_get.plain F.entry_gs_get (F.slot_gs_get.check _ _ _ _ _ _ _ _ hT5 (F.args_gs_get _ _ _) ?_)
 repeat (any_goals (first | assumption | (with_reducible refine wpAny_loadPart_at hx ?_;rw [hc]) | (with_reducible refine wpAny_isSubtype_exc hC ?_;rw [hcB]) | wp_step))
 refine ⟨Code.quiet_builtin _ (by decide +kernel),codeAny_builtin F.entry_object_class ?_⟩
 repeat (any_goals (first | assumption | (with_reducible refine wpAny_loadPart_at hx ?_;rw [hc]) | wp_step))
theorem ga_check {M:Model} {nameV:Value} {Q:Unit->Shared->Prop} (hC:h.get? C=some (excClassObj nm q C N bs bm hdct sn sub ab col dd k0 k1 k2 k3 k5 VN)) (T:OwnTl h bm) (hx:h.get? a=some o) (hc:o.cls=.ref C) (hq:Q () ⟨h,g,d,t,os⟩) :
  wpAny M A (checkBuiltinCall "BaseException.__getattribute__" ⟨[.ref a,nameV],[]⟩) Q E ⟨h,g,d,t,os⟩:=by
 have hk:builtinKind "BaseException.__getattribute__"=some .slot:=by decide +kernel
 have hsplit:splitId "BaseException.__getattribute__"=some ("BaseException","__getattribute__"):=by decide +kernel
 have hcB:(Value.ref C::bm).contains (.type "BaseException")=true:=by rw [List.contains_cons,T.has (by decide)];rfl
 have ha:=F.args_bexc_ga (.ref a) nameV
 simp only [checkBuiltinCall,hk,hsplit]
 refine wpAny_bind ?_
 unfold isInstance
 repeat (first | (with_reducible refine wpAny_loadPart_at hx ?_;rw [hc]) | (with_reducible refine wpAny_isSubtype_exc hC ?_;rw [hcB]) | wp_step)
 exact hq
theorem cls_entry {tk:Tok} {Q:Fin->Shared->Prop} (hC:h.get? C=some (excClassObj nm q C N bs bm hdct sn sub ab col dd k0 k1 k2 k3 k5 VN)) (hN:h.Ns N mN) (hmN:∀ n∈hush,mN n=none) (T:OwnTl h bm) (hx:h.get? a=some o) (hc:o.cls=.ref C) (hq:Q (.done (.ret (.ref C))) ⟨h,g,d,t,os⟩) :
  wpAny (model prog w) A (Builtin.«object.__getattribute__» ⟨[.ref a,.str "__class__" tk],[]⟩) Q E ⟨h,g,d,t,os⟩:=by
 have hT5:(⟨h,g,d,t,os⟩:Shared).TypeIs (.builtin "object.__class__") "getset_descriptor":=F.typeOf_object_class
 have f5:=F.typeOf_object_class
 have f6:=F.slot_gs_get.lookup
 have f7:=F.slot_gs_set.lookup
 have hm:("__class__":Str)∈hush:=.tail _ (.tail _ (.tail _ (.head _)))
 repeat (any_goals (first | assumption | (with_reducible refine wpAny_loadPart_at hx ?_;rw [hc]) | with_reducible refine look_own hm hC hN hmN T ve_class ?_ | wp_step))
 refine cls_get hC T hx hc ?_
 repeat (any_goals (first | assumption | wp_step))
theorem cls_by {tk:Tok} {fill expr:Bool} {Q:Value->Shared->Prop} (hC:h.get? C=some (excClassObj nm q C N bs bm hdct sn sub ab col dd k0 k1 k2 k3 k5 VN)) (hN:h.Ns N mN) (hmN:∀ n∈hush,mN n=none) (T:OwnTl h bm) (hx:h.get? a=some o) (hc:o.cls=.ref C) (hq:Q (.ref C) ⟨h,g,d,t,os⟩) :
  wpAny (model prog w) A (getAttrBy (.ref a) (.str "__class__" tk) fill expr) Q E ⟨h,g,d,t,os⟩:=by
 have f3:=ve_ga.bind (.ref a)
 have hx0:(expr && onTheHeap (Value.builtin "BaseException.__getattribute__"))=false:=by cases expr <;> rfl
 have hx2:(Value.builtin "BaseException.__getattribute__" == Value.builtin "object.__getattribute__")=false:=by decide +kernel
 have hx1:(onTheHeap (Value.ref C) && Value.builtin "BaseException.__getattribute__" == Value.builtin "object.__getattribute__")=false:=by rw [hx2];rfl
 have hm1:("__getattribute__":Str)∈hush:=.tail _ (.head _)
 have hm2:("__getattr__":Str)∈hush:=.tail _ (.tail _ (.head _))
 repeat (any_goals (first | assumption | (with_reducible refine wpAny_loadPart_at hx ?_;rw [hc]) | with_reducible refine look_own hm1 hC hN hmN T ve_ga.lookup ?_ | with_reducible refine look_own hm2 hC hN hmN T ve_noGa ?_ | wp_step))
 refine codeAny_call_builtin ve_ga.plain F.entry_bexc_ga (ga_check hC T hx hc (cls_entry hC hN hmN T hx hc ?_))
 repeat (any_goals (first | assumption | wp_step))
theorem cls_attr {Q:Option Value->Shared->Prop} (hC:h.get? C=some (excClassObj nm q C N bs bm hdct sn sub ab col dd k0 k1 k2 k3 k5 VN)) (hN:h.Ns N mN) (hmN:∀ n∈hush,mN n=none) (T:OwnTl h bm) (hx:h.get? a=some o) (hc:o.cls=.ref C) (hq:Q (some (.ref C)) ⟨h,g,d,t+1,os⟩) :
  wpAny (model prog w) A (getAttr? (.ref a) "__class__") Q E ⟨h,g,d,t,os⟩:=by
 unfold getAttr? getAttrBy?
 repeat (any_goals (first | assumption | with_reducible apply cls_by hC hN hmN T hx hc | wp_step))
end
end Mine
end
section
set_option maxRecDepth 100000
namespace Mine
open PySem
section
variable {prog:Program} {w:World} {A:Around} {E:Value->Shared->Prop} {h:Heap} {g:Array GenState} {d:Drawn} {t:Nat} {os:OsState} {a:Addr} {o:Obj}
 {nm q:Str} {C N:Addr} {bs bm:List Value} {hdct:Bool} {sn:List Str} {sub:List Value} {ab:Bool} {col:Option Bool} {dd:Option Addr} {k0 k1 k2 k3 k5:Option Value} {mN:Str->Option Value}
inductive IsCls (h:Heap):Value->Prop
 | own {D:Addr} {bm:List Value}:OwnE h D bm->IsCls h (.ref D)
 | ve:IsCls h (.type "ValueError")
theorem IsCls.keeps {h h':Heap} {cv:Value} (x:IsCls h cv) (hk:∀ b o,h.get? b=some o->h'.get? b=some o):IsCls h' cv:=by
 cases x with
 | own x=>exact .own (x.keeps hk)
 | ve=>exact .ve
theorem type_cls {M:Model} {cv:Value} {Q:Value->Shared->Prop} (x:IsCls h cv) (hq:Q (.type "type") ⟨h,g,d,t,os⟩):wpAny M A (typeOf cv) Q E ⟨h,g,d,t,os⟩:=by
 cases x with
 | own x=>
  obtain ⟨nm,q,N,bs,hdct,sn,sub,ab,col,dd,k0,k1,k2,k3,k5,mN,hD,_⟩:=x.at_
  exact wpAny_bind (wpAny_loadPart_at hD (wpAny_pure hq))
 | ve=>exact wpAny_of_eq (a:=.type "type") (by kernel_rfl) hq
theorem is_cls {M:Model} {cv:Value} {Q:Bool->Shared->Prop} (x:IsCls h cv) (hq:Q true ⟨h,g,d,t,os⟩):wpAny M A (isType cv) Q E ⟨h,g,d,t,os⟩:=by
 cases x with
 | own x=>
  obtain ⟨nm,q,N,bs,hdct,sn,sub,ab,col,dd,k0,k1,k2,k3,k5,mN,hD,_⟩:=x.at_
  unfold isType loadHead
  exact wpAny_bind (wpAny_loadPart_at hD (wpAny_pure hq))
 | ve=>exact wpAny_of_eq (a:=true) rfl hq
theorem isi_nested {cv:Value} {dep:Int} {tk:Tok} {Q:Fin->Shared->Prop} (x:OwnE h C bm) (hx:h.get? a=some o) (hc:o.cls=.ref C) (k:IsCls h cv)
  (hq:∀ t',Q (.done (.ret (.bool ((Value.ref C::bm).contains cv)))) ⟨h,g,d,t',os⟩):wpAny (model prog w) A (Builtin.«isinstance.nested» ⟨[.ref a,cv,.int dep tk],[]⟩) Q E ⟨h,g,d,t,os⟩:=by
 obtain ⟨nm,q,N,bs,hdct,sn,sub,ab,col,dd,k0,k1,k2,k3,k5,mN,hC,hN,hmN⟩:=x.at_
 have T:=x.tl
 have kC:IsCls h (.ref C):=.own x
 cases he:(Value.ref C == cv) with
 | true=>
  rw [List.contains_cons,show (cv == Value.ref C)=true from by rw [beq_iff_eq] at he ⊢;exact he.symm] at hq
  have hq':=hq t
  repeat (any_goals (first | assumption | (with_reducible refine wpAny_loadPart_at hx ?_;rw [hc]) | wp_step))
 | false=>
  have he2:(Value.ref C::bm).contains cv=bm.contains cv:=by
   rw [List.contains_cons,show (cv == Value.ref C)=false from by rw [beq_eq_false_iff_ne] at he ⊢;exact fun q=>he q.symm];rfl
  cases hb:bm.contains cv with
  | true=>
   rw [he2,hb] at hq
   have hq':=hq t
   repeat (any_goals (first | assumption | (with_reducible refine wpAny_loadPart_at hx ?_;rw [hc]) | with_reducible apply type_cls k | with_reducible apply is_cls k | (with_reducible refine wpAny_isSubtype_exc hC ?_;rw [he2,hb]) | wp_step))
  | false=>
   rw [he2,hb] at hq
   have hq':=hq (t+1)
   repeat (any_goals (first | assumption | (with_reducible refine wpAny_loadPart_at hx ?_;rw [hc]) | with_reducible apply type_cls k | with_reducible apply is_cls k | with_reducible apply is_cls kC | with_reducible apply cls_attr hC hN hmN T hx hc | (with_reducible refine wpAny_isSubtype_exc hC ?_;rw [he2,hb]) | wp_step))
end
end Mine
end
section
set_option maxRecDepth 100000
namespace Mine
open PySem
variable {c:Cx} {d:Nat} {sc:Scope} {m:AEnv} {σ:Led} {P:V->Led->Prop} {X:XP} {K:Fl->AEnv->Led->Prop}
noncomputable def Asked (e C:Addr) (bm:List Value) (cvs:List Value) (s:Shared):Prop:=OwnE s.heap C bm/\(∃ o,s.heap.get? e=some o/\o.cls=.ref C)/\∀ cv∈cvs,IsCls s.heap cv
theorem ans_own {e C:Addr} {bm cvs:List Value} {cv:Value} (h:cv∈cvs):Answers (Asked e C bm cvs) (.ref e) cv ((Value.ref C::bm).contains cv):=fun dep tk prog w A R s hs=>by
 obtain ⟨⟨x,⟨o,q,k⟩,hc⟩,hq⟩:=hs
 obtain ⟨hp,g,dr,t,os⟩:=s
 exact isi_nested x q k (hc cv h) fun t'=>hq t'
section
variable {prog:Program} {w:World} {A:Around} {E:Value->Shared->Prop}
end
theorem Asked.of {A:Around} {s:Shared} {e C:Addr} {bm cvs:List Value} (st:St c A σ s.heap) (hl:σ.lookup e=some (.exc C)) (x:OwnE c.k.h0 C bm) (k:∀ cv∈cvs,IsCls c.k.h0 cv):Asked e C bm cvs s:=by
 obtain ⟨o,vs,q,k1,_⟩:=st.objs e _ (zaa hl)
 exact ⟨x.keeps st.keep,⟨o,q,k1⟩,fun cv q=>(k cv q).keeps st.keep⟩
theorem Isi_exc {e C:Addr} {bm:List Value} {cv:Value} (hl:σ.lookup e=some (.exc C)) (x:OwnE c.k.h0 C bm) (k:IsCls c.k.h0 cv) (h:P (.bool ((Value.ref C::bm).contains cv)) σ):CallS c d (.builtin "isinstance") [.ref e,.raw cv] σ P X:=by
 intro A s E cs hA st rs _
 obtain ⟨y,z,rfl,r,r'⟩:=rs.un2
 simp only [VRel] at r r';subst r;rw [r']
 refine call_isinstance (S:=fun z1 R s=>Asked e C bm [cv] s/\∀ tk,R (.ok (.ret (.bool ((Value.ref C::bm).contains cv)))) { s with toks:=tk }) (fun prog w A R s hs=>isinstance_outer (ans_own (.head _) 0 0 prog w A R s hs) (by intro q;cases q)) ⟨Asked.of st hl x fun cv q=>by rw [List.mem_singleton.mp q];exact k,fun tk=>?_⟩
 exact ⟨_,σ,h,.toks,st,by simp only [VRel]⟩
theorem exc_match {M:Model} {A:Around} {E:Value->Shared->Prop} {s:Shared} {e C D:Addr} {bm bm':List Value} {o:Obj} {Q:Bool->Shared->Prop} (x:OwnE s.heap C bm) (y:OwnE s.heap D bm') (he:s.heap.get? e=some o) (hc:o.cls=.ref C)
  (hq:Q ((Value.ref C::bm).contains (.ref D)) s):wpAny M A (excMatches (.ref e) (.ref D)) Q E s:=by
 obtain ⟨h,g,dr,t,os⟩:=s
 obtain ⟨nm,q,N,bs,hdct,sn,sub,ab,col,dd,k0,k1,k2,k3,k5,mN,hC,_⟩:=x.at_
 obtain ⟨nm',q',N',bs',hdct',sn',sub',ab',col',dd',k0',k1',k2',k3',k5',mN',hD,_⟩:=y.at_
 have hcB:(Value.ref D::bm').contains (.type "BaseException")=true:=by rw [List.contains_cons,y.tl.has (by decide),Bool.or_true]
 have f:=tc_notTuple
 unfold excMatches
 generalize hb:(Value.ref C::bm).contains (.ref D)=bb at hq
 repeat (first | (with_reducible refine wpAny_loadPart_at he ?_;rw [hc]) | with_reducible refine wpAny_loadPart_at hD ?_ | (with_reducible refine wpAny_isSubtype_exc hD ?_;rw [hcB]) | (with_reducible refine wpAny_isSubtype_exc hC ?_;rw [hb]) | wp_step)
 cases bb <;> (wp_walk;exact hq)
end Mine
end
section
set_option maxRecDepth 100000
namespace Mine
open PySem
variable {c:Cx} {d:Nat} {sc:Scope} {m:AEnv} {σ:Led} {P:V->Led->Prop} {X:XP} {K:Fl->AEnv->Led->Prop}
structure Exc (k:Base) (x:Str) (C:Addr) (bm:List Value):Prop where
 mg:k.mg x=some (.ref C)
 own:OwnE k.h0 C bm
theorem WE_cls (hc:c.k.OK) {x:Str} {C:Addr} {bm:List Value} {pos:Pos} (hx:Exc c.k x C bm) (hk:sc.names.lookup x=some .globalImplicit) (h:P (.raw (.ref C)) σ):WE c d sc (.Name x pos) m σ P X:=
 WE_global hc hk hx.mg (fun z1 z2=>by simp only [VRel]) h
theorem WS_raise (hc:c.k.OK) (hh:c.k.hd=true) {x:Str} {C:Addr} {bm:List Value} {args:List Expr} {np cpos pos:Pos} (hx:Exc c.k x C bm) (hk:sc.names.lookup x=some .globalImplicit) (hl:args.length<=1000)
  (h:WEs c d sc args m σ (fun z1 σ₁=>X (.ref C) σ₁) X):WS c d sc (.Raise (some (.Call (.Name x np) args [] cpos)) none pos) m σ K X:=by
 intro env A s E r
 obtain ⟨⟨nm,q,N,bs,hdct,sn,sub,ab,col,dd,k0,k1,k2,k3,k5,mN,hC,hN,hm⟩,T⟩:=hx.own
 refine wpAny_Raise_call_subT F.excBase_ValueError (nm:=nm) (q:=q) (C:=C) (N:=N) (bs:=bs) (bm:=bm) (hdct:=hdct) (sn:=sn) (sub:=sub) (ab:=ab) (col:=col) (dd:=dd) (k0:=k0) (k1:=k1) (k2:=k2) (k3:=k3) (k5:=k5) (mN:=mN) (T.has (by decide)) (r.a.handled hh) (za3 (h env A s E cpos r.re).1) (hm _ (.head _)) ?_
 refine wpAny_mono (WE_cls hc (P:=fun v σ'=>v=.raw (.ref C)/\σ'=σ) (pos:=np) hx hk ⟨rfl,rfl⟩ env A s E r.re) ?_ fun z1 z2 x=>x
 rintro f s₁ ⟨v,σ₁,⟨rfl,rfl⟩,t₁,st₁,rv⟩
 simp only [VRel] at rv;subst rv
 refine ⟨rfl,?_⟩
 obtain ⟨h1,h2⟩:=h env A s₁ E cpos (r.re.step t₁ st₁)
 refine za9 (za3 h1) (wpAny_mono h2 ?_ fun z1 z2 x=>x)
 rintro cvs s₂ ⟨vs,σ₂,⟨hlen,hX⟩,t₂,st₂,rs⟩
 refine ⟨rfl,?_,st₂.keep _ _ hC,hN.keeps st₂.keep,T.tail.keeps st₂.keep,fun h' e hm=>?_⟩
 ·show cvs.length<=sizeLine
  rw [rs.length,hlen,sizeLine_eq];exact Nat.le_trans hl (by decide)
 have hx:Ext s₂.heap h':=hm.keeps
 have t:=(t₁.trans t₂).trans (.ext (s':={ s₂ with heap:=h' }) hx rfl rfl)
 obtain ⟨tt,he,_⟩:=hm.there
 refine r.e e (.ref C) σ₂ _ hX t.wider (st₂.ext hx) (r.er.mono t.kept.wider t.grow.wider).nil ⟨?_,⟨C,rfl⟩,_,_,he,rfl,rfl,.inl rfl⟩
 cases q:s.heap.get? e with
 | none=>rfl
 | some o=>
  obtain ⟨o',q'⟩:=(t₁.trans t₂).there e o q
  rw [hm.new] at q';cases q'
end Mine
end
section
set_option maxRecDepth 100000
namespace Mine
open PySem
variable {c:Cx} {d:Nat} {sc:Scope} {m:AEnv} {σ:Led} {P:V->Led->Prop} {X:XP} {K:Fl->AEnv->Led->Prop} {h h' base:Heap} {A A':Around} {e C:Addr} {env:Env} {own:List Addr}
noncomputable def Cx.un (c:Cx):Cx:={ c with k:={ c.k with hd:=false } }
theorem orel_un {a:Addr} {o:O}:ORel c.un.k h own a o=ORel c.k h own a o:=by cases o <;> rfl
theorem St.un (hf:A'.frames=A.frames) (st:St c A σ h):St c.un A' σ h:=⟨st.keep,st.nodup,st.fresh,fun a o hm=>orel_un.mpr (st.objs a o hm),hf ▸ st.frames,st.prot,st.hid⟩
theorem St.reun (hf:A'.frames=A.frames) (st:St c.un A' σ h):St c A σ h:=⟨st.keep,st.nodup,st.fresh,fun a o hm=>orel_un.mp (st.objs a o hm),hf ▸ st.frames,st.prot,st.hid⟩
theorem EnvRel.un (er:EnvRel c own env m h):EnvRel c.un own env m h:=⟨er.ns,er.cell,er.lnot,er.cnot,er.apart⟩
theorem EnvRel.reun (er:EnvRel c.un own env m h):EnvRel c own env m h:=⟨er.ns,er.cell,er.lnot,er.cnot,er.apart⟩
noncomputable def NoExc (σ:Led):Prop:=∀ a C,σ.lookup a≠some (.exc C)
theorem led_mem {a:Addr} {o:O}:(owned σ).Nodup->(a,o)∈σ->σ.lookup a=some o:=by
 induction σ with
 | nil=>exact fun z1 h=>nomatch h
 | cons p r ih=>
  intro hn hm
  obtain ⟨_,h2,h3⟩:=List.nodup_append.mp hn
  rcases List.mem_cons.mp hm with e | e
  ·rw [← e];exact zak
  ·exact za7 (fun z=>h3 p.1 (O.self _ _) a (mem_owned.mpr ⟨a,o,e,O.self _ _⟩) z.symm) (ih h2 e)
theorem ExcAt.notin (he:ExcAt e (.ref C) base h) (st:St c A σ h) (hp:NoExc σ):e∉owned σ:=fun hm=>by
 obtain ⟨oe,vs,q1,q2,q3,_⟩:=he.obj
 obtain ⟨a,o,hm,hb⟩:=mem_owned.mp hm
 have r:=st.objs a o hm
 cases o with
 | list ws=>
  obtain ⟨cs,⟨n,p⟩,_⟩:=r
  rw [← List.mem_singleton.mp hb,q1] at p;cases p;cases q3
 | dictI kvs=>
  obtain ⟨_,_,⟨o',es,ep,p,_,p2,_⟩,_⟩:=r
  rw [← List.mem_singleton.mp hb,q1] at p;cases p;rw [p2] at q3;cases q3
 | dictS kvs=>
  obtain ⟨_,_,⟨o',es,ep,p,_,p2,_⟩,_⟩:=r
  rw [← List.mem_singleton.mp hb,q1] at p;cases p;rw [p2] at q3;cases q3
 | inst C d fs=>
  obtain ⟨o',mA,p1,p2,p3,p4,p5,⟨od,es,ep,p6,p7,_⟩,_⟩:=r
  simp only [O.addrs,List.mem_cons,List.not_mem_nil,or_false] at hb
  rcases hb with z | z
  ·rw [← z,q1] at p1;cases p1;rw [p3] at q3;cases q3
  ·rw [← z,q1] at p6;cases p6;rw [p7] at q3;cases q3
 | exc C'=>exact hp _ C' (led_mem st.nodup hm)
theorem ExcAt.unfrozen (he:ExcAt e (.ref C) base h) {o:Obj} (q:h.get? e=some o):¬ Frozen o/\¬ Obj.isDict o/\∀ v,o.data≠.cell v:=by
 obtain ⟨oe,vs,q1,q2,q3,_⟩:=he.obj
 rw [q1] at q;cases q
 refine ⟨fun f=>?_,fun k=>zbi k q3,fun v k=>by rw [q3] at k;cases k⟩
 rcases f with ⟨xs,n,k⟩ | ⟨_,k⟩ | ⟨_,_,_,k⟩
 ·rw [q3] at k;cases k
 ·rw [q2] at k;cases k
 ·rw [q3] at k;cases k
theorem ExcAt.carries (he:ExcAt e (.ref C) base h):Carries (ownS c σ) (ownS c ((e,.exc C)::σ)) h h:=fun a o q ha f=>⟨q,fun hm=>by
 rcases List.mem_append.mp hm with k | k
 ·exact ha (List.mem_append_left _ k)
 ·rcases List.mem_cons.mp k with k | k
  ·subst k;exact (he.unfrozen q).1 f
  ·exact ha (List.mem_append_right _ k)⟩
theorem St.hold (st:St c A σ h) (he:ExcAt e (.ref C) base h) (hp:NoExc σ) (h0b:∀ b o,c.k.h0.get? b=some o->base.get? b≠none) (hH:∀ b∈c.H,base.get? b≠none):St c A ((e,.exc C)::σ) h:=by
 have hn:=he.notin st hp
 have car:=he.carries (c:=c) (σ:=σ)
 have h0:c.k.h0.get? e=none:=by
  cases q:c.k.h0.get? e with
  | none=>rfl
  | some o=>exact absurd he.new (h0b _ _ q)
 obtain ⟨l,hl,hf,hdd⟩:=st.frames
 refine ⟨st.keep,List.nodup_cons.mpr ⟨hn,st.nodup⟩,fun a ha=>?_,fun a o hm=>?_,⟨l,hl,hf,fun L hL=>⟨fun k=>?_,(hdd L hL).2⟩⟩,st.prot,fun b hb=>⟨fun k=>?_,(st.hid b hb).2⟩⟩
 ·rcases List.mem_cons.mp ha with k | k
  ·rw [k];exact h0
  ·exact st.fresh a k
 ·rcases List.mem_cons.mp hm with k | k
  ·cases k
   obtain ⟨oe,vs,q1,q2,q3,_⟩:=he.obj
   exact ⟨oe,vs,q1,q2,q3⟩
  ·have r:=st.objs a o k
   cases o with
   | list vs=>obtain ⟨cs,p,hl,r⟩:=r;exact ⟨cs,p,hl,r.carry car⟩
   | dictI _=>exact DictR.carry r (fun z1 q=>q) car
   | dictS _=>exact DictR.carry r (fun z1 q=>q) car
   | inst _ _ _=>exact InstR.carry r (fun z1 z2 z3 q=>q) car
   | exc C'=>exact r
 ·rcases List.mem_cons.mp k with k | k
  ·subst k
   obtain ⟨_,o,q,_⟩:=hf.mem hL
   exact (he.unfrozen q).2.1 ((hdd L hL).2.2 o q)
  ·exact (hdd L hL).1 k
 ·rcases List.mem_cons.mp k with k | k
  ·subst k;exact hH b hb he.new
  ·exact (st.hid b hb).1 k
theorem EnvRel.hold (er:EnvRel c (ownS c σ) env m h) (he:ExcAt e (.ref C) base h):EnvRel c (ownS c ((e,.exc C)::σ)) env m h:=by
 have car:=he.carries (c:=c) (σ:=σ)
 have no:∀ a o,h.get? a=some o->a∉ownS c σ->(Obj.isDict o\/∃ v,o.data=.cell v)->a∉ownS c ((e,.exc C)::σ):=fun a o q ha k hm=>by
  rcases List.mem_append.mp hm with r | r
  ·exact ha (List.mem_append_left _ r)
  ·rcases List.mem_cons.mp r with r | r
   ·subst r
    rcases k with k | ⟨v,k⟩
    ·exact (he.unfrozen q).2.1 k
    ·exact (he.unfrozen q).2.2 v k
   ·exact ha (List.mem_append_right _ r)
 obtain ⟨mc,hn,hm⟩:=er.ns
 refine ⟨⟨mc,hn,fun x v q k=>(hm x v q k).imp fun cv r=>⟨r.1,r.2.carry car⟩⟩,fun x v q k=>?_,⟨?_,er.lnot.2⟩,fun x a q=>?_,er.apart⟩
 ·obtain ⟨a,cv,r1,r2,r3⟩:=er.cell x v q k
  exact ⟨a,cv,r1,r2,r3.carry car⟩
 ·obtain ⟨o,es,ep,q,q2,_⟩:=id hn
  exact no _ o q er.lnot.1 (.inl ⟨es,ep,q2⟩)
 ·obtain ⟨r1,r2,r3,r4,v,r5⟩:=er.cnot x a q
  obtain ⟨o,q1,q2⟩:=id r5
  exact ⟨no a o q1 r1 (.inr ⟨v,q2⟩),r2,r3,r4,v,r5⟩
set_option tactic.hygienic true
theorem flight_again {M:Model} {E:Value->Shared->Prop} {s:Shared} {cls:Value} {Q:Unit->Shared->Prop} (he:ExcAt e cls base s.heap) (hq:∀ h',(∀ b,h'.get? b=s.heap.get? b)->Q () { s with heap:=h' }):wpAny M A (setFlight (.ref e) none) Q E s:=by
 obtain ⟨_,_,oe,vs,ho,_,hd,h1⟩:=he
 unfold setFlight
 rcases h1 with h1 | ⟨T,oT,ts,h1,_,_,hT,_,hdT,h3⟩
 ·refine wpAny_bind (wpAny_field ho hd h1 ?_)
  rw [if_neg (by decide)]
  exact wpAny_pure (hq s.heap fun z1=>rfl)
 ·refine wpAny_bind (wpAny_field ho hd h1 ?_)
  rw [if_pos (show (Value.ref T != Value.none)=true from by simp)]
  refine wpAny_setField hT hdT (Array.getElem?_eq_some_iff.mp h3).1 (hq _ fun b=>?_)
  by_cases hb:b=T
  ·subst hb
   rw [Heap.get?_update_self _ hT (Obj.isFreed_of_fields (Obj.data_mapFields hdT _)),hT]
   obtain ⟨k1,k2,k3,k4⟩:=oT
   cases hdT
   obtain ⟨lt,h4⟩:=Array.getElem?_eq_some_iff.mp h3
   have:ts.setIfInBounds 3 ((none:Option Addr).elim Value.none fun f=>rawInt f)=ts:=by
    refine Array.ext (by simp) fun i h1 h2=>?_
    rw [Array.getElem_setIfInBounds]
    split
    ·rename_i q;subst q;exact h4.symm
    ·rfl
   show some (Obj.mk k1 k2 (.fields (ts.setIfInBounds 3 ((none:Option Addr).elim Value.none fun f=>rawInt f))) k4)=_
   rw [this]
  ·exact Heap.get?_update_other _ _ (Ne.symm hb)
end Mine
end
section
set_option maxRecDepth 100000
namespace Mine
open PySem
variable {c:Cx} {d:Nat} {sc:Scope} {m:AEnv} {σ:Led} {P:V->Led->Prop} {X:XP} {K:Fl->AEnv->Led->Prop} {h h' base:Heap} {A A':Around} {e C:Addr} {env:Env}
theorem unbind_name {s:Shared} {E:Value->Shared->Prop} {x:Str} {v:V} {pos:Pos} (ok:EnvOk env) (st:St c A σ s.heap) (er:EnvRel c (ownS c σ) env ((x,v)::m) s.heap) (hk:env.kindOf x=some .local) :
  wpAny c.M A (unbindBehindTheSuite env x pos) (fun z1 s'=>(Step c.F (places env++owned σ) (places env++owned σ) s s'/\St c A σ s'.heap/\EnvRel c (ownS c σ) env [] s'.heap)/\Carries (ownS c σ) (ownS c σ) s.heap s'.heap) E s:=by
 obtain ⟨mc,hn,hm⟩:=er.ns
 obtain ⟨cv,hv,_⟩:=hm x v (by rw [List.lookup_cons_self]) hk
 have hpl:(env.scope.kind == .class || (env.scope.kind == .module && env.locals != env.globals))=false:=by rw [ok.kind];rfl
 unfold unbindBehindTheSuite
 refine wpAny_onRaise (wpAny_unbindName_local hk hn hv hpl fun h' u hn' hs'=>?_)
 obtain ⟨oL,es,ep,hoL,hdL,_⟩:=id hn
 obtain ⟨oL',es',ep',hoL',hdL',_⟩:=id hn'
 have hq:=zbp hdL
 have kb:But env.locals s.heap h':=fun b o hb e=>(hs'.2 b hb).trans e
 refine ⟨⟨.write (t:=s.toks) (by simp [places]) er.lnot.2.2 ⟨_,hoL'⟩ kb,st.write (fun q=>er.lnot.1 (List.mem_append_right _ q)) er.lnot.2.1 hoL hq kb hoL' (fun z1=>⟨_,_,hdL'⟩) (fun z1 vs e=>by rw [hdL'] at e;cases e),?_⟩,kb.carries hoL hq⟩
 refine ⟨⟨_,hn',fun y w hy z1=>by cases hy⟩,(fun y w hy z1=>by cases hy),er.lnot,fun y a ha=>?_,er.apart⟩
 obtain ⟨h1,h2,h3,h4,v',oc,hoc,hdc⟩:=er.cnot y a ha
 exact ⟨h1,h2,h3,h4,v',oc,kb a oc h2 hoc,hdc⟩
theorem Step.through {F W0 W W1 W':List Addr} {s0 s s5:Shared} (t0:Step F W0 W s0 s) (tt:Step F W1 W' s s5) (hn:s0.heap.get? e=none) (hW:∀ b∈W1,b=e\/b∈W):Step F W0 W' s0 s5:=by
 refine ⟨fun b o q hb=>?_,fun b o q=>(t0.there b o q).elim fun o' q'=>tt.there b o' q',fun b hb o q=>tt.prot b hb o (t0.prot b hb o q),fun b hb=>?_,tt.os.trans t0.os,tt.gens.trans t0.gens⟩
 ·obtain ⟨sl,r1,r2⟩:=t0.kept b o q hb
  obtain ⟨sl',r3,r4⟩:=tt.kept b _ r1 fun hm=>by
   rcases hW b hm with k | k
   ·rw [k,hn] at q;cases q
   ·exact t0.grow.notin hb q k
  exact ⟨sl',r3,fun k=>(r4 k).trans (r2 k)⟩
 ·rcases tt.grow b hb with k | k
  ·rcases hW b k with k | k
   ·exact .inr (k ▸ hn)
   ·exact t0.grow b k
  ·refine .inr ?_
   cases q:s0.heap.get? b with
   | none=>rfl
   | some o=>obtain ⟨o',q'⟩:=t0.there b o q;rw [k] at q';cases q'
theorem EnvRel.noted {own fr:List Addr} {cls:Value} (er:EnvRel c own env [] h) (n:Noted e cls base fr h h'):EnvRel c own env [] h':=by
 obtain ⟨mc,⟨o,es,ep,ho,hd,k1,k2⟩,_⟩:=er.ns
 obtain ⟨sl,r1,_⟩:=n.plain ho fun vs=>zbi ⟨es,ep,hd⟩
 refine ⟨⟨mc,⟨_,es,ep,r1,hd,k1,k2⟩,fun z1 z2 q=>by cases q⟩,(fun z1 z2 q=>by cases q),er.lnot,fun x a q=>?_,er.apart⟩
 obtain ⟨r1,r2,r3,r4,v,oc,q1,q2⟩:=er.cnot x a q
 obtain ⟨sl,r5,_⟩:=n.plain q1 fun vs k=>by rw [q2] at k;cases k
 exact ⟨r1,r2,r3,r4,v,_,r5,q2⟩
noncomputable def WH (c:Cx) (d:Nat) (sc:Scope) (hs:List ExceptHandler) (C:Addr) (σ0 σ:Led) (K:Fl->AEnv->Led->Prop) (X:XP):Prop:=
 ∀ (env:Env) (A:Around) (s0 s:Shared) (E:Value->Shared->Prop) (e:Addr),RS c d sc [] σ X env A s E->Step c.F (places env++owned σ0) (places env++owned σ) s0 s->ExcAt e (.ref C) s0.heap s.heap->NoExc σ->(∀ b o,c.k.h0.get? b=some o->s0.heap.get? b≠none)->(∀ b∈c.H,s0.heap.get? b≠none)->
  wpAny c.M A (handleBy (.ref e) env hs) (PostS c A env σ0 s0 K) E s
theorem eval_cls {M:Model} {s:Shared} {E:Value->Shared->Prop} {mg:Str->Option Value} {x:Str} {pos:Pos} {cv:Value} {Q:Value->Shared->Prop} (ok:EnvOk env) (hk:env.kindOf x=some .globalImplicit) (hn:s.heap.Ns mainGlobals mg) (hg:mg x=some cv) (hq:Q cv s):wpAny M A (eval (.Name x pos) env) Q E s:=
 Calls.Name_function_global ok.kind hk (Calls.loadGlobal_global (mg:=mg) (by rw [ok.globals];exact hn) hg hq) (nodebug ok hk)
section
variable {x:Str} {D:Addr} {bm bm':List Value} {p pos:Pos} {rest:List ExceptHandler} {σ0:Led} (hc:c.k.OK) (hx:Exc c.k x D bm') (hk:sc.names.lookup x=some .globalImplicit) (own:OwnE c.k.h0 C bm)
include hc hx hk own
theorem WH_as {n:Str} {b₀:Stmt} {suite:List Stmt} (hyes:(Value.ref C::bm).contains (.ref D)=true) (hn:sc.names.lookup n=some .local) (h:∀ e,WSs c.un d sc (b₀::suite) [(n,.ref e)] ((e,.exc C)::σ) (fun fl z1 σ'=>K fl [] σ') NoX) :
  WH c d sc (.ExceptHandler (some (.Name x p)) (some n) (b₀::suite) pos::rest) C σ0 σ K X:=by
 intro env A s0 s E e r ts he hp h0b hH
 have hkn:env.kindOf n=some .local:=by unfold Env.kindOf;rw [r.sc];exact hn
 obtain ⟨oe,vs,q1,q2,q3,_⟩:=id he.obj
 refine wpAny_handleBy_cons (codeAny_handlers_test (eval_cls r.ok (by unfold Env.kindOf;rw [r.sc];exact hk) (hc.g.keeps r.st.keep) hx.mg (exc_match (own.keeps r.st.keep) (hx.own.keeps r.st.keep) q1 q2 ?_))) (by intro q;cases q)
 rw [hyes]
 refine codeAny_handlers_suite_as (flight_again he fun h' hs=>?_)
 have ext:Ext s.heap h':=fun b o q=>(hs b).trans q
 have hn:=he.notin r.st hp
 have st1:=St.un (A:=A) (A':=A.mark (some (.ref e))) rfl ((r.st.hold he hp h0b hH).ext ext)
 have er1:=((r.er.hold he).mono ext.kept .refl).un
 refine wpAny_mono (zbt (c:=c.un) (x:=n) (v:=.ref e) (s:={ s with heap:=h' }) r.ok st1 er1 (by simp only [VRel]) (.inl hkn)) ?_ fun z1 z2 x=>x
 rintro _ s₂ ⟨⟨t2,st2,er2⟩,_⟩
 refine wpAny_mono (h e env (A.mark (some (.ref e))) s₂ _ ⟨r.sc,r.ok,r.fr,⟨(fun k=>by cases k),r.a.depth,r.a.units,r.a.le⟩,st2,er2,.nox⟩) ?_ fun z1 z2 x=>x
 rintro f s₃ ⟨fl,m',σ',hK,t3,st3,er3,rf⟩
 refine wpAny_bind (wpAny_bindName (wpAny_mono (zbt (x:=n) (v:=.none) r.ok (St.reun (A:=A) (A':=A.mark (some (.ref e))) rfl st3) er3.reun (by simp only [VRel]) (.inl hkn)) ?_ fun z1 z2 x=>x))
 rintro _ s₄ ⟨⟨t4,st4,er4⟩,L,h4,tk4,e4,kb4,kd4⟩
 refine wpAny_mono (unbind_name r.ok st4 er4 hkn) ?_ fun z1 z2 x=>x
 rintro _ s₅ ⟨⟨t5,st5,er5⟩,car5⟩
 have tt:Step c.F (places env++owned ((e,.exc C)::σ)) (places env++owned σ') s s₅:=((((Step.ext ext rfl rfl:Step c.F _ _ s { s with heap:=h' }).trans t2).trans t3).trans t4).trans t5
 refine ⟨fl,[],σ',hK,ts.through tt he.new fun b hb=>?_,st5,er5,?_⟩
 ·rcases List.mem_append.mp hb with q | q
  ·exact .inr (List.mem_append_left _ q)
  ·rcases List.mem_cons.mp q with q | q
   ·exact .inl q
   ·exact .inr (List.mem_append_right _ q)
 ·cases fl with
  | ret v=>
   obtain ⟨cv,rfl,rv⟩:=rf
   exact ⟨cv,rfl,Step.vp er4 t5 (Step.vp er3.reun t4 rv)⟩
  | next=>exact rf
  | brk=>exact rf
  | cont=>exact rf
end
theorem WS_try {body:List Stmt} {h₀:ExceptHandler} {hs:List ExceptHandler} {pos:Pos} (X':XP) (hb:WSs c d sc body m σ K X') (hh:∀ cls σ',X' cls σ'->∃ C,cls=.ref C/\NoExc σ'/\WH c d sc (h₀::hs) C σ σ' K X):WS c d sc (.Try body (h₀::hs) [] [] pos) m σ K X:=by
 intro env A s E r
 refine wpAny_Try_except (wpAny_mono (hb env A s _ ⟨r.sc,r.ok,r.fr,r.a,r.st,r.er,fun e cls σ' s' hx t st er he=>?_⟩) ?_ fun z1 z2 x=>x)
 ·obtain ⟨C,rfl,hp,hw⟩:=hh cls σ' hx
  obtain ⟨outer,hfr⟩:=r.fr
  obtain ⟨l',hl',hf',_⟩:=id st.frames
  have:l'=env::outer:=by rw [hfr] at hl';exact (Option.some.inj hl').symm
  subst this
  obtain ⟨L,_,hL,_⟩:=id hf'.2.1
  refine note_at (base:=s.heap) hfr hf' hL he (fun b o q=>t.there b o q) fun h' n=>?_
  have h0b:∀ b o,c.k.h0.get? b=some o->s.heap.get? b≠none:=fun b o q k=>by rw [r.st.keep b o q] at k;cases k
  have t':=t.noted st hfr n
  exact hw env A s { s' with heap:=h' } E e ⟨r.sc,r.ok,r.fr,r.a,st.noted hfr n h0b,er.noted n,r.e.step t'⟩ t' n.exc hp h0b fun b q k=>by
   obtain ⟨_,o,q⟩:=r.st.hid b q;rw [q] at k;cases k
 ·rintro f s₁ x
  cases f with
  | next=>exact wpAny_execs_nil x
  | brk=>exact x
  | cont=>exact x
  | ret v=>exact x
end Mine
end
section
namespace Mine
namespace Tim
open PySem PySem.W PyProof.Rows
noncomputable def Tr (r:Nat->Nat) (n:Nat) {α:Type} (R:α->Prop) (t:KasT α):Prop:=KasT.rec (motive:=fun z1=>Prop) R (fun i j z1 ih=>i<n/\j<n/\ih (decide (r i<r j))) t
section
variable {r:Nat->Nat} {n:Nat} {α β:Type}
theorem Tr.bind {t:KasT α} {f:α->KasT β} {R:β->Prop} (h:Tr r n (fun a=>Tr r n R (f a)) t):Tr r n R (t.bind f):=by
 induction t with
 | ret a=>exact h
 | ask i j k ih=>exact ⟨h.1,h.2.1,ih _ h.2.2⟩
theorem Tr.wp {cmp:Nat->Nat->(Bool->Shared->Prop)->Shared->Prop} {s:Shared} (hc:∀ i j C,i<n->j<n->C (decide (r i<r j)) s->cmp i j C s) {t:KasT α} {R:α->Prop} {Q:α->Shared->Prop} (h:Tr r n R t) (hQ:∀ a,R a->Q a s):t.kasWp cmp Q s:=by
 induction t with
 | ret a=>exact hQ a h
 | ask i j k ih=>exact hc _ _ _ h.1 h.2.1 (ih _ h.2.2)
structure Pm (n:Nat) (p:Array Nat):Prop where
 perm:p.Perm (List.range n).toArray
 pos:0<n
noncomputable def Kp (r:Nat->Nat) (p:Array Nat) (i:Nat):Nat:=r (p.getD i 0)
noncomputable def Up (K:Nat->Nat) (a:Nat):Prop:=∀ i j,i<=j->j<a->K i<=K j
noncomputable def Dn (K:Nat->Nat) (a:Nat):Prop:=∀ i j,i<=j->j<a->K j<=K i
variable {p:Array Nat}
theorem Pm.size (h:Pm n p):p.size=n:=h.perm.size_eq.trans List.size_toArray |>.trans List.length_range
theorem Pm.lt (h:Pm n p) (i:Nat):p.getD i 0<n:=by
 by_cases q:i<p.size
 ·rw [Array.getD_eq_getD_getElem?,Array.getElem?_eq_getElem q]
  exact List.mem_range.mp ((Array.perm_iff_toList_perm.mp h.perm).mem_iff.mp (Array.mem_toList_iff.mpr (Array.getElem_mem q)))
 ·rw [Array.getD_eq_getD_getElem?,Array.getElem?_eq_none (Nat.le_of_not_lt q)];exact h.pos
theorem Kp_congr {p q:Array Nat} {i j:Nat} (h:p[i]?=q[j]?):Kp r p i=Kp r q j:=by unfold Kp;rw [Array.getD_eq_getD_getElem?,Array.getD_eq_getD_getElem?,h]
theorem Pm.rev (h:Pm n p) (i j:Nat):Pm n (kas_rev p i j):=⟨(mirror_perm _ _ _ _).trans h.perm,h.pos⟩
theorem Pm.bub (h:Pm n p) (i j:Nat):Pm n (bubble p i j):=⟨(bubble_perm _ _ _).trans h.perm,h.pos⟩
theorem Kp_rev (h:Pm n p) {i j:Nat} (hj:j<=n) (k:Nat):Kp r (kas_rev p i j) k=if i<=k/\k<j then Kp r p (i+j - 1 - k) else Kp r p k:=by
 have e:=getElem?_mirror_all (i:=i) (h.size.symm ▸ hj) k
 by_cases q:i<=k/\k<j
 ·rw [if_pos q] at e ⊢;exact Kp_congr e
 ·rw [if_neg q] at e ⊢;exact Kp_congr e
theorem Tr.ask {i j:Nat} {k:Bool->KasT α} {R:α->Prop} (h:Pm n p) (h1:Kp r p i<Kp r p j->Tr r n R (k true)) (h2:¬ Kp r p i<Kp r p j->Tr r n R (k false)):Tr r n R (.ask (p.getD i 0) (p.getD j 0) k):=by
 refine ⟨h.lt _,h.lt _,?_⟩
 by_cases q:Kp r p i<Kp r p j
 ·rw [show decide (r (p.getD i 0)<r (p.getD j 0))=true from decide_eq_true q];exact h1 q
 ·rw [show decide (r (p.getD i 0)<r (p.getD j 0))=false from decide_eq_false q];exact h2 q
theorem last {K:Nat->Nat} {m i j:Nat} (h1:1<=m) (hij:i<=j) (hj:j<m+1):j<m\/j=m/\(i=m\/i<=m - 1/\m - 1<m):=by
 rcases Nat.lt_or_eq_of_le (Nat.le_of_lt_succ hj) with q | q
 ·exact .inl q
 ·refine .inr ⟨q,?_⟩
  rcases Nat.lt_or_eq_of_le (q ▸ hij) with z | z
  ·exact .inr ⟨Nat.le_sub_one_of_lt z,Nat.sub_lt h1 (Nat.zero_lt_one)⟩
  ·exact .inl z
theorem Up.snoc {K:Nat->Nat} {m:Nat} (h:Up K m) (h1:1<=m) (hn:¬ K m<K (m - 1)):Up K (m+1):=fun i j hij hj=>by
 rcases last (K:=K) h1 hij hj with q | ⟨rfl,rfl | q⟩
 ·exact h i j hij q
 ·exact Nat.le_refl _
 ·exact Nat.le_trans (h _ _ q.1 q.2) (Nat.le_of_not_lt hn)
theorem Dn.snoc {K:Nat->Nat} {m:Nat} (h:Dn K m) (h1:1<=m) (hn:K m<=K (m - 1)):Dn K (m+1):=fun i j hij hj=>by
 rcases last (K:=K) h1 hij hj with q | ⟨rfl,rfl | q⟩
 ·exact h i j hij q
 ·exact Nat.le_refl _
 ·exact Nat.le_trans hn (h _ _ q.1 q.2)
theorem tr_asc {f m:Nat} {R:Nat->Prop} (hp:Pm n p) (h1:1<=m) (hu:Up (Kp r p) m) (h:∀ k,m<=k->k<=m+f->Up (Kp r p) k->(k=m+f\/Kp r p k<Kp r p (k - 1))->R k):Tr r n R (kas_asc p f m):=by
 induction f generalizing m with
 | zero=>exact h m (Nat.le_refl _) (Nat.le_refl _) hu (.inl rfl)
 | succ f ih=>
  refine Tr.ask hp (fun q=>h m (Nat.le_refl _) (Nat.le_add_right _ _) hu (.inr q)) fun q=>ih (Nat.le_succ_of_le h1) (hu.snoc h1 q) fun k a b c e=>h k (Nat.le_of_succ_le a) ?_ c (e.imp ?_ id)
  ·rwa [Nat.succ_add] at b
  ·rw [Nat.succ_add];exact id
structure DI (r:Nat->Nat) (n:Nat) (p:Array Nat) (m q:Nat):Prop where
 pm:Pm n p
 dn:Dn (Kp r p) m
 q1:q+1<=m
 le:m<=n
 eq:∀ i,m - (q+1)<=i->i<m->Kp r p i=Kp r p (m - 1)
theorem DI.start {m:Nat} (hp:Pm n p) (hd:Dn (Kp r p) m) (h1:1<=m) (h2:m<=n):DI r n p m 0:=⟨hp,hd,h1,h2,fun i a b=>congrArg _ (Nat.le_antisymm (Nat.le_sub_one_of_lt b) a)⟩
set_option tactic.hygienic true
theorem DI.same {m q:Nat} (h:DI r n p m q) (k:Nat):Kp r (kas_rev p (m - (q+1)) m) k=Kp r p k:=by
 rw [Kp_rev h.pm h.le]
 split
 ·rename_i z
  obtain ⟨z1,z2⟩:=z
  have q1:=h.q1
  rw [h.eq k z1 z2,h.eq _ (by (exact Ar.l03 (.le (.s (.v 0) (.a (.v 1) (.k 1))) (.s (.s (.a (.s (.v 0) (.a (.v 1) (.k 1))) (.v 0)) (.k 1)) (.v 2))) [(.lt (.v 2) (.v 0))] (by kernel_rfl) z2)) (by (exact Ar.l03 (.lt (.s (.s (.a (.s (.v 0) (.a (.v 1) (.k 1))) (.v 0)) (.k 1)) (.v 2)) (.v 0)) [(.le (.s (.v 0) (.a (.v 1) (.k 1))) (.v 2)),(.lt (.v 2) (.v 0))] (by kernel_rfl) z1 z2))]
 ·rfl
set_option tactic.hygienic false
theorem DI.turn {m q:Nat} (h:DI r n p m q):DI r n (kas_rev p (m - (q+1)) m) m 0:=.start (h.pm.rev _ _) (fun i j a b=>by rw [h.same,h.same];exact h.dn i j a b) (Nat.le_trans (Nat.le_add_left _ _) h.q1) h.le
theorem DI.more {m q:Nat} (h:DI r n p m q) (hm:m<n) (hl:Kp r p m<=Kp r p (m - 1)):DI r n p (m+1) 0:=.start h.pm (h.dn.snoc (Nat.le_trans (Nat.le_add_left _ _) h.q1) hl) (Nat.le_add_left _ _) hm
theorem tr_desc {f m q:Nat} {R:Array Nat × Nat × Nat->Prop} (hd:DI r n p m q) (hf:m+f<=n) (h:∀ p' m' q',m<=m'->m'<=m+f->DI r n p' m' q'->R (p',m',q')):Tr r n R (kas_desc f p m q):=by
 induction f generalizing m q p with
 | zero=>exact h p m q (Nat.le_refl _) (Nat.le_refl _) hd
 | succ f ih=>
  have h1:1<=m:=Nat.le_trans (Nat.le_add_left _ _) hd.q1
  have hm:m<n:=Nat.lt_of_lt_of_le (Nat.lt_add_of_pos_right (Nat.succ_pos f)) hf
  have e:m+1+f=m+(f+1):=Nat.succ_add_eq_add_succ m f
  have go:∀ {p' q'},DI r n p' (m+1) q'->Tr r n R (kas_desc f p' (m+1) q'):=fun d=>ih d (e ▸ hf) fun p' m' q' a b c=>h p' m' q' (Nat.le_of_succ_le a) (e ▸ b) c
  refine Tr.ask hd.pm (fun z=>?_) fun z=>Tr.ask hd.pm (fun y=>h p m q (Nat.le_refl _) (Nat.le_add_right _ _) hd) fun y=>go ?_
  ·show Tr r n R (if q > 0 then _ else _)
   split
   ·exact go (hd.turn.more hm (by rw [hd.same,hd.same];exact Nat.le_of_lt z))
   ·exact go (hd.more hm (Nat.le_of_lt z))
  ·have e:=Nat.le_antisymm (Nat.le_of_not_lt y) (Nat.le_of_not_lt z)
   refine ⟨hd.pm,hd.dn.snoc h1 (Nat.le_of_eq e),Nat.succ_le_succ hd.q1,hm,fun i a b=>?_⟩
   rw [Nat.add_sub_cancel]
   rcases Nat.lt_or_eq_of_le (Nat.le_of_lt_succ b) with w | w
   ·rw [e];exact hd.eq i (by rw [Nat.add_sub_add_right] at a;exact a) w
   ·rw [w]
theorem tr_tail3 {m:Nat} {R:Nat × Array Nat->Prop} (hp:Pm n p) (hd:Dn (Kp r p) m) (h1:1<=m) (h2:m<=n) (h:∀ k p',1<=k->k<=n->Pm n p'->Up (Kp r p') k->R (k,p')):Tr r n R (kas_tail3 m n p):=by
 have hp':=hp.rev 0 m
 refine Tr.bind (tr_asc hp' h1 (fun i j hij hj=>?_) fun k a b c z1=>h k _ (Nat.le_trans h1 a) (by rwa [Nat.add_sub_cancel' h2] at b) hp' c)
 rw [Kp_rev hp h2,Kp_rev hp h2,if_pos ⟨Nat.zero_le _,Nat.lt_of_le_of_lt hij hj⟩,if_pos ⟨Nat.zero_le _,hj⟩,Nat.zero_add]
 exact hd _ _ (Nat.sub_le_sub_left hij _) (Nat.lt_of_le_of_lt (Nat.sub_le _ _) (Nat.sub_lt h1 Nat.zero_lt_one))
theorem tr_descPart {m:Nat} {R:Nat × Array Nat->Prop} (hp:Pm n p) (hd:Dn (Kp r p) (m+1)) (h2:m+1<=n) (h:∀ k p',1<=k->k<=n->Pm n p'->Up (Kp r p') k->R (k,p')):Tr r n R (kas_descPart m n p):=by
 refine Tr.bind (tr_desc (.start hp hd (Nat.le_add_left _ _) h2) (Nat.le_of_eq (Nat.add_sub_cancel' h2)) fun p' m' q' a b d=>?_)
 have h1:1<=m':=Nat.le_trans (Nat.le_add_left _ _) a
 show Tr r n R (if q' > 0 then _ else _)
 split
 ·exact tr_tail3 d.turn.pm d.turn.dn h1 d.le h
 ·exact tr_tail3 d.pm d.dn h1 d.le h
theorem tr_count {R:Nat × Array Nat->Prop} (hp:Pm n p) (h:∀ k p',1<=k->k<=n->Pm n p'->Up (Kp r p') k->R (k,p')):Tr r n R (kas_count n p):=by
 have h0:1+(n - 1)=n:=Nat.add_sub_cancel' hp.pos
 refine Tr.bind (tr_asc hp (Nat.le_refl 1) (fun i j hij hj=>?_) fun m a b hu hor=>?_)
 ·rw [Nat.lt_one_iff.mp hj,Nat.lt_one_iff.mp (Nat.lt_of_le_of_lt hij hj)];exact Nat.le_refl _
 ·rw [h0] at b hor
  by_cases hm:m=n
  ·rw [if_pos (beq_iff_eq.mpr hm)];exact h m p a b hp hu
  ·rw [if_neg fun z=>hm (beq_iff_eq.mp z)]
   have hlt:=hor.resolve_left hm
   have hmn:m+1<=n:=Nat.lt_of_le_of_ne b hm
   by_cases hgt:m > 1
   ·rw [if_pos hgt]
    refine Tr.ask hp (fun z1=>h m p a b hp hu) fun hro=>tr_descPart (hp.rev 0 m) (fun i j hij hj=>?_) hmn h
    have hall:∀ k,k<m->Kp r (kas_rev p 0 m) k=Kp r p (m - 1):=fun k hk=>by
     have hk':0+m - 1 - k<=m - 1:=by rw [Nat.zero_add];exact Nat.sub_le _ _
     rw [Kp_rev hp b,if_pos ⟨Nat.zero_le _,hk⟩]
     exact Nat.le_antisymm (hu _ _ hk' (Nat.sub_lt a Nat.zero_lt_one)) (Nat.le_trans (Nat.le_of_not_lt hro) (hu 0 _ (Nat.zero_le _) (Nat.lt_of_le_of_lt hk' (Nat.sub_lt a Nat.zero_lt_one))))
    have hend:Kp r (kas_rev p 0 m) m=Kp r p m:=by rw [Kp_rev hp b,if_neg fun z=>Nat.lt_irrefl _ z.2]
    rcases last (K:=id) a hij hj with q | ⟨rfl,rfl | q⟩
    ·rw [hall _ q,hall _ (Nat.lt_of_le_of_lt hij q)];exact Nat.le_refl _
    ·exact Nat.le_refl _
    ·rw [hend,hall _ (Nat.lt_of_le_of_lt q.1 q.2)];exact Nat.le_of_lt hlt
   ·rw [if_neg hgt]
    have e:m=1:=Nat.le_antisymm (Nat.le_of_not_lt hgt) a
    subst e
    refine tr_descPart hp (Dn.snoc (fun i j hij hj=>?_) (Nat.le_refl 1) (Nat.le_of_lt hlt)) hmn h
    rw [Nat.lt_one_iff.mp hj,Nat.lt_one_iff.mp (Nat.lt_of_le_of_lt hij hj)];exact Nat.le_refl _
theorem mid {l u:Nat} (h:l<u):l<=(l+u) / 2/\(l+u) / 2<u:=⟨(Nat.le_div_iff_mul_le Nat.two_pos).mpr (by rw [Nat.mul_two];exact Nat.add_le_add_left (Nat.le_of_lt h) _),(Nat.div_lt_iff_lt_mul Nat.two_pos).mpr (by rw [Nat.mul_two];exact Nat.add_lt_add_right h _)⟩
set_option tactic.hygienic true
theorem tr_place {k f l u:Nat} {R:Nat->Prop} (hp:Pm n p) (hu:Up (Kp r p) k) (hlu:l<=u) (huk:u<=k) (hf:u<=l+f) (ha:∀ i,i<l->Kp r p i<=Kp r p k) (hb:∀ i,u<=i->i<k->Kp r p k<=Kp r p i)
  (h:∀ l,l<=k->(∀ i,i<l->Kp r p i<=Kp r p k)->(∀ i,l<=i->i<k->Kp r p k<=Kp r p i)->R l):Tr r n R (kas_place p k f l u):=by
 have stop:l=u->R l:=fun e=>h l (Nat.le_trans hlu huk) ha (e ▸ hb)
 induction f generalizing l u with
 | zero=>exact stop (Nat.le_antisymm hlu hf)
 | succ f ih=>
  show Tr r n R (if l ≥ u then _ else _)
  split
  ·rename_i z;exact stop (Nat.le_antisymm hlu z)
  ·rename_i z
   obtain ⟨m1,m2⟩:=mid (Nat.lt_of_not_le z)
   have mk:=Nat.lt_of_lt_of_le m2 huk
   refine Tr.ask hp (fun y=>?_) fun y=>?_
   ·refine ih m1 (Nat.le_of_lt mk) (Nat.le_of_lt_succ (Nat.lt_of_lt_of_le m2 hf)) ha (fun i a b=>Nat.le_trans (Nat.le_of_lt y) (hu _ _ a b)) fun e=>h l (Nat.le_trans hlu huk) ha fun i a b=>Nat.le_trans (Nat.le_of_lt y) (hu _ _ (e ▸ a) b)
   ·have ha':∀ i,i<(l+u) / 2+1->Kp r p i<=Kp r p k:=fun i a=>Nat.le_trans (hu _ _ (Nat.le_of_lt_succ a) mk) (Nat.le_of_not_lt y)
    exact ih m2 huk (Nat.le_trans hf (by rw [Nat.succ_add_eq_add_succ];exact Nat.add_le_add_right m1 _)) ha' hb fun e=>h _ mk ha' fun i a b=>hb i (Nat.le_trans (Nat.le_of_eq e.symm) a) b
set_option tactic.hygienic false
theorem Up.bub {k l:Nat} (hp:Pm n p) (hk:k<n) (hu:Up (Kp r p) k) (hl:l<=k) (ha:∀ i,i<l->Kp r p i<=Kp r p k) (hb:∀ i,l<=i->i<k->Kp r p k<=Kp r p i):Up (Kp r (bubble p k (k - l))) (k+1):=by
 have at_:∀ i,i<=k->Kp r (bubble p k (k - l)) i=if i=l then Kp r p k else if l<i then Kp r p (i - 1) else Kp r p i:=fun i hi=>by
  have e:=getElem?_bubble (hp.size.symm ▸ hk) (k - l) (Nat.sub_le _ _) i
  rw [Nat.sub_sub_self hl] at e
  by_cases h1:i=l
  ·rw [if_pos h1] at e ⊢;exact Kp_congr e
  ·rw [if_neg h1] at e ⊢
   by_cases h2:l<i
   ·rw [if_pos ⟨h2,hi⟩] at e;rw [if_pos h2];exact Kp_congr e
   ·rw [if_neg fun z=>h2 z.1] at e;rw [if_neg h2];exact Kp_congr e
 have pr:∀ {j},l<j->j<k+1->l<=j - 1/\j - 1<k:=fun a b=>⟨Nat.le_sub_one_of_lt a,Nat.lt_of_lt_of_le (Nat.sub_lt (Nat.lt_of_le_of_lt (Nat.zero_le _) a) Nat.zero_lt_one) (Nat.le_of_lt_succ b)⟩
 intro i j hij hj
 rw [at_ i (Nat.le_trans hij (Nat.le_of_lt_succ hj)),at_ j (Nat.le_of_lt_succ hj)]
 rcases Nat.lt_trichotomy i l with a | a | a
 ·rw [if_neg (Nat.ne_of_lt a),if_neg (Nat.lt_asymm a)]
  rcases Nat.lt_trichotomy j l with b | b | b
  ·rw [if_neg (Nat.ne_of_lt b),if_neg (Nat.lt_asymm b)];exact hu i j hij (Nat.lt_of_lt_of_le b hl)
  ·rw [if_pos b];exact ha i a
  ·rw [if_neg (Nat.ne_of_gt b),if_pos b];exact hu _ _ (Nat.le_trans (Nat.le_of_lt a) (pr b hj).1) (pr b hj).2
 ·rw [if_pos a]
  rcases Nat.lt_or_eq_of_le (a ▸ hij) with b | b
  ·rw [if_neg (Nat.ne_of_gt b),if_pos b];exact hb _ (pr b hj).1 (pr b hj).2
  ·rw [if_pos b.symm];exact Nat.le_refl _
 ·have b:=Nat.lt_of_lt_of_le a hij
  rw [if_neg (Nat.ne_of_gt a),if_pos a,if_neg (Nat.ne_of_gt b),if_pos b];exact hu _ _ (Nat.sub_le_sub_right hij 1) (pr b hj).2
noncomputable def Done (r:Nat->Nat) (n:Nat) (p:Array Nat):Prop:=p.Perm (List.range n).toArray/\Up (Kp r p) n
theorem tr_bin {f k:Nat} (hp:Pm n p) (hu:Up (Kp r p) k) (hf:k+f=n):Tr r n (Done r n) (kas_bin f p k):=by
 induction f generalizing k p with
 | zero=>exact ⟨hp.perm,(show k=n from hf) ▸ hu⟩
 | succ f ih=>
  have hk:k<n:=hf ▸ Nat.lt_add_of_pos_right (Nat.succ_pos f)
  refine Tr.bind (tr_place hp hu (Nat.zero_le _) (Nat.le_refl _) (Nat.le_add_left _ _) (fun i a=>absurd a (Nat.not_lt_zero _)) (fun i a b=>absurd a (Nat.not_le_of_lt b)) fun l hl a b=>?_)
  exact ih (hp.bub _ _) (.bub hp hk hu hl a b) (by rw [Nat.succ_add_eq_add_succ];exact hf)
set_option tactic.hygienic true
theorem tr_sort (h:0<n):Tr r n (Done r n) (kas_sort n):=by
 refine Tr.bind (tr_count ⟨.refl _,h⟩ fun k p' h1 h2 hp hu=>?_)
 show Tr r n _ (if k<n then _ else _)
 rw [Nat.max_eq_left h1]
 split
 ·exact tr_bin hp hu (Nat.add_sub_cancel' h2)
 ·rename_i z;exact ⟨hp.perm,Nat.le_antisymm h2 (Nat.le_of_not_lt z) ▸ hu⟩
end
end Tim
end Mine
end
section
namespace Mine
namespace Tim
open PySem PySem.W PyProof.Rows
variable {prog:Program} {w:World} {A:Around} {E:Value->Shared->Prop} {s:Shared}
noncomputable def sortLid:Nat:=64
theorem sortLid_le:sortLid<=16777217:=by decide
theorem line {n:Nat} (h:n<sortLid):n<=sizeLine:=by rw [sizeLine_eq];exact Nat.le_of_lt_succ (Nat.lt_of_lt_of_le h sortLid_le)
noncomputable def Ask (prog:Program) (w:World) (A:Around) (s:Shared) (κ:SortKind) (r:Nat->Nat) (vs:List Value):Prop:=
 ∀ i j,i<vs.length->j<vs.length->∀ (E:Value->Shared->Prop) (Q:Bool->Shared->Prop),Q (decide (r i<r j)) s->wpAny (model prog w) A (keyLt' κ (vs.getD i .none) (vs.getD j .none)) Q E s
structure Out (r:Nat->Nat) (vs:List Value) (out:Array Value):Prop where
 by_:∃ p,Done r vs.length p/\out=(p.toList.map fun i=>vs.getD i .none).toArray
theorem Out.len {r:Nat->Nat} {vs:List Value} {out:Array Value} (h:Out r vs out):out.size=vs.length:=by
 obtain ⟨p,hp,rfl⟩:=h.by_
 rw [List.size_toArray,List.length_map,Array.length_toList]
 exact hp.1.size_eq.trans (List.size_toArray.trans List.length_range)
theorem Out.sz {r:Nat->Nat} {vs:List Value} {out:Array Value} (h:Out r vs out) (hz:vs.length<sortLid):out.size<=sizeLine+1:=h.len ▸ Nat.le_succ_of_le (line hz)
theorem out_short {vs:List Value} {r:Nat->Nat} (h2:vs.toArray.size<2):Out r vs ((vs.toArray.zip vs.toArray).map (·.2)):=by
 refine ⟨(List.range vs.length).toArray,⟨.refl _,fun i j hij hj=>?_⟩,?_⟩
 ·rw [Nat.le_antisymm hij (Nat.le_trans (Nat.le_of_lt_succ (Nat.lt_of_lt_of_le hj (Nat.le_of_lt_succ h2))) (Nat.zero_le _))];exact Nat.le_refl _
 ·apply Array.toList_inj.mp
  rw [Array.toList_map,Array.toList_zip]
  refine (List.map_snd_zip (Nat.le_refl _)).trans (List.ext_getElem ?_ fun i h1 h3=>?_)
  ·exact (List.length_map _ |>.trans List.length_range).symm
  ·show vs[i]=(List.map _ _)[i]
   rw [List.getElem_map,List.getElem_range,List.getD_eq_getElem?_getD,List.getElem?_eq_getElem h1];rfl
theorem run_T {r:Nat->Nat} {vs:List Value} {κ:SortKind} (h2:2<=vs.length) (hz:vs.length<sortLid) (hC:Ask prog w A s κ r vs) :
  wpAny (model prog w) A ((sortRuns').run (SortSt.mk' κ (vs.toArray.zip vs.toArray) #[] 7 none)) (fun x s'=>s'=s/\failedOf x.2=none/\Out r vs ((arrOf x.2).map (·.2))) E s:=
 kat_run (ks:=vs) (Q:=fun st' s'=>s'=s/\failedOf st'=none/\Out r vs ((arrOf st').map (·.2))) (G:=fun p s'=>s'=s/\Done r vs.length p) rfl h2 hz (fun p st' s' z1 ha hf hG=>⟨hG.1,hf,p,hG.2,kat_snds rfl ha⟩)
  (Tr.wp (n:=vs.length) (fun i j C hi hj hc=>hC i j hi hj _ _ hc) (tr_sort (Nat.lt_of_lt_of_le Nat.zero_lt_two h2)) fun p hp=>⟨rfl,hp⟩)
theorem list_sort_T {r:Nat->Nat} {a:Addr} {vs:List Value} {n:Nat} {P:PySem.Fin->Shared->Prop} (ho:s.heap.get? a=some (seqObj "list" vs.toArray n)) (hz:vs.length<sortLid)
  (hask:2<=vs.length->∀ s':Shared,(∀ b o,b≠a->s.heap.get? b=some o->s'.heap.get? b=some o)->∃ κ,(∀ (E:Value->Shared->Prop) (Q:SortKind->Shared->Prop),Q κ s'->wpAny (model prog w) A (keyKind' vs.toArray) Q E s')/\Ask prog w A s' κ r vs)
  (h:∀ out:Array Value,Out r vs out->P (.done (.ret .none)) { s with heap:=sortedHeap s.heap a vs out }) :
  wpAny (model prog w) A (Builtin.«list.sort» ⟨[.ref a],[]⟩) P E s:=by
 rw [list_sort_plain]
 have ha:a<s.heap.objs.size:=Heap.lt_size ho
 have hz':vs.toArray.size<=sizeLine:=line hz
 refine wpAny_bind (listItems_at ho rfl ?_)
 refine wpAny_bind (listUpdate_at ho rfl ?_ hz' (Nat.zero_le _))
 obtain ⟨e1,ho1⟩:∃ e1,(s.heap.update a (Obj.mapSeq fun z1=>#[])).get? a=some (seqObj "list" #[] e1):=⟨_,get?_update_seq ho (fun z1=>#[])⟩
 refine wpAny_bind (seqEpoch_at ho1 rfl ?_)
 refine wpAny_bind (wpAny_newTuple ?_ (by simpa using hz'))
 refine wpAny_bind (wpAny_newList ?_ (Nat.zero_le _))
 refine wpAny_holding ?_
 have keep:∀ b o,b<s.heap.objs.size->(s.heap.update a (Obj.mapSeq fun z1=>#[])).get? b=some o->(((s.heap.update a (Obj.mapSeq fun z1=>#[])).push (seqObj "tuple" vs.toArray 0)).push (seqObj "list" #[] 0)).get? b=some o:=fun b o hlt e=>by
  rw [Heap.get?_push_ne _ _ _ (by rw [size_push',Heap.size_update];exact Nat.ne_of_lt (Nat.lt_succ_of_lt hlt)),Heap.get?_push_ne _ _ _ (by rw [Heap.size_update];exact Nat.ne_of_lt hlt)]
  exact e
 have ho6:=keep a _ ha ho1
 show wpAny (model prog w) A _ P E { s with heap:=((s.heap.update a (Obj.mapSeq fun z1=>#[])).push (seqObj "tuple" vs.toArray 0)).push (seqObj "list" #[] 0) }
 dsimp only
 by_cases h2:vs.toArray.size<2
 ·have o:=out_short (r:=r) h2
  rw [if_pos h2,if_pos h2]
  refine wpAny_bind (wpAny_pure ?_)
  rw [StateT.run_pure]
  refine wpAny_bind (wpAny_pure ?_)
  dsimp only
  refine wpAny_bind (seqEpoch_at ho6 rfl ?_)
  refine wpAny_bind (listUpdate_at ho6 rfl ?_ (Nat.zero_le _) (o.sz hz))
  simp only [bne_self_eq_false,Bool.false_eq_true,if_false]
  exact wpAny_pure (h _ o)
 ·rw [if_neg h2,if_neg h2]
  obtain ⟨κ,hk,hC⟩:=hask (Nat.le_of_not_lt h2) { s with heap:=((s.heap.update a (Obj.mapSeq fun z1=>#[])).push (seqObj "tuple" vs.toArray 0)).push (seqObj "list" #[] 0) } fun b o hb e=>keep b o (Heap.lt_size e) ((Heap.get?_update_ne _ _ _ _ hb).trans e)
  refine wpAny_bind (hk _ _ ?_)
  refine wpAny_bind (wpAny_mono (run_T (Nat.le_of_not_lt h2) hz hC) ?_ fun z1 z2 e=>e)
  rintro ⟨⟨⟩,st'⟩ s' ⟨rfl,hf,o⟩
  dsimp only
  refine wpAny_bind (seqEpoch_at ho6 rfl ?_)
  refine wpAny_bind (listUpdate_at ho6 rfl ?_ (Nat.zero_le _) (o.sz hz))
  rw [hf]
  simp only [bne_self_eq_false,Bool.false_eq_true,if_false]
  exact wpAny_pure (h _ o)
theorem sorted_C {x:Value} {Ok:Heap->List Value->(Nat->Nat)->Prop} {Q:Value->Shared->Prop}
  (hcol:∀ (Q':List Value->Shared->Prop) (E':Value->Shared->Prop),(∀ h' d tk vs r,Ok h' vs r->Q' vs { s with heap:=h',drawn:=d,toks:=tk })->wpAny (model prog w) A.in1 (collect x) Q' E' s)
  (hz:∀ h' vs r,Ok h' vs r->vs.length<sortLid)
  (hask:∀ h' vs r,Ok h' vs r->2<=vs.length->∀ (A':Around) (s':Shared),(∀ b o,h'.get? b=some o->s'.heap.get? b=some o)->∃ κ,(∀ (E:Value->Shared->Prop) (Q:SortKind->Shared->Prop),Q κ s'->wpAny (model prog w) A' (keyKind' vs.toArray) Q E s')/\Ask prog w A' s' κ r vs)
  (h:∀ h' d tk vs r (out:Array Value) h'' L,Ok h' vs r->Out r vs out->(∀ b o,h'.get? b=some o->h''.get? b=some o)->h'.get? L=none->(∃ n,h''.get? L=some (seqObj "list" out n))->Q (.ref L) { s with heap:=h'',drawn:=d,toks:=tk }) :
  wpAny (model prog w) A (call (.builtin "sorted") [x]) Q E s:=by
 refine Calls.call_function_entry kind_sorted plain_sorted entry_sorted (args_sorted1 _) ?_
 unfold Builtin.«sorted»
 refine wpAny_bind (m:=checkCount "sorted" 1 1 _) (wpAny_pure ?_)
 refine wpAny_bind (hcol _ _ fun h' d tk vs r hok=>?_)
 have hz1:=hz h' vs r hok
 refine wpAny_bind (wpAny_newList ?_ (line hz1))
 have hoL:(h'.push (seqObj "list" vs.toArray 0)).get? h'.objs.size=some (seqObj "list" vs.toArray 0):=Heap.get?_push_size _ rfl
 have keep:∀ b o,h'.get? b=some o->(h'.push (seqObj "list" vs.toArray 0)).get? b=some o:=fun b o e=>Heap.get?_push_of_some _ e
 show wpAny _ _ _ _ _ { s with heap:=h'.push (seqObj "list" vs.toArray 0),drawn:=d,toks:=tk }
 refine wpAny_bind (wpAny_holding (wpAny_call_entry slot_list_sort ⟨_,hoL,rfl⟩ entry_list_sort (list_sort_T (s:={ s with heap:=h'.push (seqObj "list" vs.toArray 0),drawn:=d,toks:=tk }) (r:=r) hoL hz1 (fun h2 s' hk'=>hask h' vs r hok h2 _ s' fun b o e=>?_) fun out a1=>⟨_,rfl,?_⟩) (args_list_sort _)))
 ·exact hk' b o (Nat.ne_of_lt (Heap.lt_size e)) (keep b o e)
 ·refine wpAny_pure ⟨_,rfl,h h' d tk vs r out _ h'.objs.size hok a1 (fun b o e=>?_) (Heap.get?_none_of_le (Nat.le_refl _)) (sortedHeap_at (out:=out) hoL)⟩
  have hlt:=Heap.lt_size e
  rw [sortedHeap_old (Nat.ne_of_lt hlt) (by rw [size_push'];exact Nat.lt_succ_of_lt hlt)]
  exact keep b o e
end Tim
end Mine
end
section
namespace Mine
open PySem PySem.W PyProof.Rows
variable {c:Cx} {d:Nat} {sc:Scope} {m:AEnv} {σ:Led} {P:V->Led->Prop} {X:XP} {K:Fl->AEnv->Led->Prop}
structure Lin {κ:Type} (lt:κ->κ->Bool):Prop where
 irrefl:∀ a,lt a a=false
 trans:∀ a b c,lt a b=true->lt b c=true->lt a c=true
 tot:∀ a b,lt a b=false->lt b a=false->a=b
theorem filter_le {α:Type} {p q:α->Bool} {l:List α} (h:∀ x,p x=true->q x=true):(l.filter p).length<=(l.filter q).length:=by
 induction l with
 | nil=>exact Nat.le_refl _
 | cons x l ih=>
  rw [List.filter_cons,List.filter_cons]
  by_cases hp:p x=true
  ·rw [if_pos hp,if_pos (h x hp)];exact Nat.succ_le_succ ih
  ·rw [if_neg hp]
   split
   ·exact Nat.le_succ_of_le ih
   ·exact ih
theorem filter_lt {α:Type} {p q:α->Bool} {l:List α} (h:∀ x,p x=true->q x=true) {y:α} (hy:y∈l) (h1:p y=false) (h2:q y=true):(l.filter p).length<(l.filter q).length:=by
 induction l with
 | nil=>cases hy
 | cons x l ih=>
  rw [List.filter_cons,List.filter_cons]
  rcases List.mem_cons.mp hy with e | hy
  ·subst e
   rw [h1,if_neg Bool.false_ne_true,if_pos h2]
   exact Nat.lt_succ_of_le (filter_le h)
  ·have ih:=ih hy
   by_cases hp:p x=true
   ·rw [if_pos hp,if_pos (h x hp)];exact Nat.succ_lt_succ ih
   ·rw [if_neg hp]
    split
    ·exact Nat.lt_succ_of_lt ih
    ·exact ih
noncomputable def rk {κ:Type} (lt:κ->κ->Bool) (ks:List κ) (a:κ):Nat:=(ks.filter fun u=>lt u a).length
theorem rk_lt {κ:Type} {lt:κ->κ->Bool} (L:Lin lt) {ks:List κ} {a b:κ} (ha:a∈ks):decide (rk lt ks a<rk lt ks b)=lt a b:=by
 cases h:lt a b with
 | true=>exact decide_eq_true (filter_lt (fun x hx=>L.trans _ _ _ hx h) ha (L.irrefl _) h)
 | false=>
  refine decide_eq_false (Nat.not_lt.mpr (filter_le fun x hx=>?_))
  cases h2:lt b a with
  | true=>exact L.trans _ _ _ hx h2
  | false=>rw [L.tot _ _ h h2];exact hx
noncomputable def rkAt {κ α:Type} (lt:κ->κ->Bool) (key:α->κ) (us:List α) (i:Nat):Nat:=(us[i]?.map fun a=>rk lt (us.map key) (key a)).getD 0
theorem rkAt_of {κ α:Type} {lt:κ->κ->Bool} {key:α->κ} {us:List α} {i:Nat} {a:α} (h:us[i]?=some a):rkAt lt key us i=rk lt (us.map key) (key a):=by unfold rkAt;rw [h];rfl
theorem rkAt_lt {κ α:Type} {lt:κ->κ->Bool} (L:Lin lt) {key:α->κ} {us:List α} {i j:Nat} {a b:α} (ha:us[i]?=some a) (hb:us[j]?=some b):decide (rkAt lt key us i<rkAt lt key us j)=lt (key a) (key b):=by
 rw [rkAt_of ha,rkAt_of hb]
 exact rk_lt L (List.mem_map_of_mem (List.mem_of_getElem? ha))
theorem VRels.at {h:Heap} {own:List Addr} {α:Type} {e:α->V} {us:List α} {vs:List Value} (r:VRels h own (us.map e) vs) {i:Nat} {a:α} (ha:us[i]?=some a):VRel h own (e a) (vs.getD i .none):=by
 obtain ⟨cv,q1,q2⟩:=r.get (i:=i) (v:=e a) (by rw [List.getElem?_map,ha];rfl)
 rw [List.getD_eq_getElem?_getD,q1];exact q2
theorem VRels.len {h:Heap} {own:List Addr} {α:Type} {e:α->V} {us:List α} {vs:List Value} (r:VRels h own (us.map e) vs):vs.length=us.length:=r.length.trans (List.length_map _)
theorem pick {κ:Type} {lt:κ->κ->Bool} (L:Lin lt) {α:Type} {e:α->V} {key:α->κ} {h:Heap} {own:List Addr} {us:List α} {vs:List Value} {out:Array Value} (r:VRels h own (us.map e) vs) (o:Tim.Out (rkAt lt key us) vs out) :
  ∃ ys:List α,ys.Perm us/\(ys.Pairwise fun a b=>lt (key b) (key a)=false)/\VRels h own (ys.map e) out.toList:=by
 obtain ⟨p,⟨hp,hu⟩,rfl⟩:=o.by_
 rw [r.len] at hp hu
 have hp':=Array.perm_iff_toList_perm.mp hp
 refine ⟨p.toList.filterMap fun i=>us[i]?,(hp'.filterMap _).trans (List.Perm.of_eq ?_),List.pairwise_filterMap.mpr (List.pairwise_iff_getElem.mpr fun i j hi hj hij a ha b hb=>?_),?_⟩
 ·have e1:(List.range us.length).map (fun i=>us[i]?)=us.map some:=List.ext_getElem (by rw [List.length_map,List.length_map,List.length_range]) fun i h1 h2=>by
   rw [List.getElem_map,List.getElem_map,List.getElem_range]
   exact List.getElem?_eq_getElem _
  have e2:List.filterMap (fun i=>us[i]?) (List.range us.length)=((List.range us.length).map fun i=>us[i]?).filterMap id:=by rw [List.filterMap_map];rfl
  rw [List.toList_toArray,e2,e1,List.filterMap_map]
  exact List.filterMap_some
 ·have e:∀ k (hk:k<p.toList.length),Tim.Kp (rkAt lt key us) p k=rkAt lt key us p.toList[k]:=fun k hk=>by
   unfold Tim.Kp
   rw [Array.getD_eq_getD_getElem?,Array.getElem?_eq_getElem (by rwa [Array.length_toList] at hk)];rfl
  have q:=hu i j (Nat.le_of_lt hij) (by rwa [hp'.length_eq,List.toList_toArray,List.length_range] at hj)
  rw [e i hi,e j hj] at q
  rw [← rkAt_lt L hb ha]
  exact decide_eq_false (Nat.not_lt.mpr q)
 ·have hm:∀ i∈p.toList,i<us.length:=fun i hi=>List.mem_range.mp (hp'.mem_iff.mp hi)
  rw [List.toList_toArray]
  generalize p.toList=l at hm
  induction l with
  | nil=>rfl
  | cons i l ih=>
   have hi:=List.getElem?_eq_getElem (hm i (.head _))
   rw [List.filterMap_cons_some hi]
   exact ⟨_,_,rfl,r.at hi,ih fun j hj=>hm j (.tail _ hj)⟩
theorem sorted_G {loc:Bool} {κ:Type} {lt:κ->κ->Bool} (L:Lin lt) {α:Type} (e:α->V) (key:α->κ) {x:Value} {xs:List α} {A:Around} {s:Shared} {E:Value->Shared->Prop} (st:St c A σ s.heap) (hz:xs.length<Tim.sortLid)
  (hcol:∀ (Q':List Value->Shared->Prop) (E':Value->Shared->Prop),(∀ h' d tk vs (us:List α),Ext s.heap h'->us.Perm xs->VRels h' (ownS c σ) (us.map e) vs->Q' vs { s with heap:=h',drawn:=d,toks:=tk })->wpAny c.M A.in1 (collect x) Q' E' s)
  (hask:∀ (A:Around) (s:Shared) (us:List α) (vs:List Value),2<=vs.length->VRels s.heap (ownS c σ) (us.map e) vs->∃ k,(∀ (E:Value->Shared->Prop) (Q:SortKind->Shared->Prop),Q k s->wpAny c.M A (keyKind' vs.toArray) Q E s)/\
   ∀ a b ca cb,VRel s.heap (ownS c σ) (e a) ca->VRel s.heap (ownS c σ) (e b) cb->∀ (E:Value->Shared->Prop) (Q:Bool->Shared->Prop),Q (lt (key a) (key b)) s->wpAny c.M A (keyLt' k ca cb) Q E s)
  (h:∀ ys:List α,ys.Perm xs->(ys.Pairwise fun a b=>lt (key b) (key a)=false)->Made c.F loc P (ys.map e) σ):wpAny c.M A (call (.builtin "sorted") [x]) (Post c A σ s P) E s:=by
 refine Tim.sorted_C (Ok:=fun h' vs r=>∃ us:List α,Ext s.heap h'/\us.Perm xs/\VRels h' (ownS c σ) (us.map e) vs/\r=rkAt lt key us) (fun Q' E' hq=>hcol Q' E' fun h' d tk vs us h1 h2 h3=>hq h' d tk vs _ ⟨us,h1,h2,h3,rfl⟩) ?_ ?_ ?_
 ·rintro h' vs _ ⟨us,_,h2,h3,_⟩
  rw [h3.len,h2.length_eq];exact hz
 ·rintro h' vs _ ⟨us,_,h2,h3,rfl⟩ hl A' s' hx
  obtain ⟨k,k1,k2⟩:=hask A' s' us vs hl (VRels.mono (Ext.kept hx) .refl _ _ h3)
  refine ⟨k,k1,fun i j hi hj E' Q hQ=>?_⟩
  rw [h3.len] at hi hj
  have ei:=List.getElem?_eq_getElem hi
  have ej:=List.getElem?_eq_getElem hj
  rw [rkAt_lt L ei ej] at hQ
  exact k2 _ _ _ _ ((h3.at ei).mono (Ext.kept hx) .refl _ _) ((h3.at ej).mono (Ext.kept hx) .refl _ _) E' Q hQ
 ·rintro h' d tk vs _ out h'' L' ⟨us,h1,h2,h3,rfl⟩ o hx hL ⟨n,pl⟩
  obtain ⟨ys,y1,y2,y3⟩:=pick L h3 o
  have hm:=h ys (y1.trans h2) y2
  have hx2:Ext s.heap h'':=fun b o e=>hx b o (h1 b o e)
  have hnew:s.heap.get? L'=none:=by
   cases q:s.heap.get? L' with
   | none=>rfl
   | some o=>rw [h1 _ _ q] at hL;cases hL
  have y4:=VRels.mono (Ext.kept hx) .refl _ _ y3
  have hl2:out.toList.length<=sizeLine:=by rw [Array.length_toList,o.len,h3.len,h2.length_eq];exact Tim.line hz
  have pl2:PlainSeq h'' "list" L' out.toList:=⟨n,by rw [Array.toArray_toList];exact pl⟩
  cases loc with
  | false=>exact ⟨.lst (ys.map e),σ,hm,.ext hx2 rfl rfl,st.ext hx2,L',_,rfl,st.noS hnew,pl2,hl2,y4⟩
  | true=>
   have hn:∀ b∈(O.list (ys.map e)).addrs L',s.heap.get? b=none:=fun b hb=>by
    rw [List.mem_singleton.mp hb];exact hnew
   exact ⟨.ref L',_,hm _ (fun q=>st.noS hnew (List.mem_append_right _ q)) (fun q=>st.noF hnew q),⟨hx2.kept,fun b o e=>⟨o,hx2 b o e⟩,fun b z1 o e=>hx2 b o e,.alloc hn,rfl,rfl⟩,st.alloc hx2 hn (by simp [O.addrs]) ⟨_,pl2,hl2,VRels.mono (Ext.kept hx) (Grow.alloc (o:=O.list (ys.map e)) fun b hb=>by rw [List.mem_singleton.mp hb];exact hL).wider _ _ y3⟩,rfl⟩
theorem col_list {α:Type} {e:α->V} {a:Addr} {vs:List Value} {us:List α} {A A':Around} {s:Shared} (p:PlainSeq s.heap "list" a vs) (hz:vs.length<=sizeLine) (r:VRels s.heap (ownS c σ) (us.map e) vs)
  (Q':List Value->Shared->Prop) (E':Value->Shared->Prop) (h:∀ h' d tk vs (ys:List α),Ext s.heap h'->ys.Perm us->VRels h' (ownS c σ) (ys.map e) vs->Q' vs { s with heap:=h',drawn:=d,toks:=tk }):wpAny c.M A (collect (.ref a)) Q' E' s:=by
 have hx:Ext s.heap ((s.heap.push (seqObj "list" #[] 0)).update s.heap.objs.size (Obj.mapSeq (·++vs.toArray))):=fun b o q=>by
  rw [Heap.get?_update_ne _ _ _ _ (Nat.ne_of_lt (Heap.lt_size q))];exact Heap.get?_push_of_some _ q
 exact collect_list p.isList (h _ s.drawn s.toks vs us hx (.refl _) (VRels.mono hx.kept .refl _ _ r)) hz
noncomputable def ltL:List Int->List Int->Bool
 | [],[]=>false
 | [],_::_=>true
 | _::_,[]=>false
 | x::xs,y::ys=>if x=y then ltL xs ys else decide (x<y)
theorem ltL_lin:Lin ltL:=by
 refine ⟨fun a=>?_,?_,?_⟩
 ·induction a with
  | nil=>rfl
  | cons x a ih=>simp [ltL,ih]
 ·intro a
  induction a with
  | nil=>
   intro b c h1 h2
   cases b with
   | nil=>cases h1
   | cons y b=>cases c with
    | nil=>cases h2
    | cons z c=>rfl
  | cons x a ih=>
   intro b c h1 h2
   cases b with
   | nil=>cases h1
   | cons y b=>cases c with
    | nil=>cases h2
    | cons z c=>
     simp only [ltL] at h1 h2 ⊢
     by_cases e1:x=y
     ·subst e1
      rw [if_pos rfl] at h1
      by_cases e2:x=z
      ·rw [if_pos e2] at h2 ⊢;exact ih b c h1 h2
      ·rw [if_neg e2] at h2 ⊢;exact h2
     ·rw [if_neg e1] at h1
      simp only [decide_eq_true_eq] at h1
      by_cases e2:y=z
      ·subst e2;rw [if_neg e1];simpa using h1
      ·rw [if_neg e2] at h2
       simp only [decide_eq_true_eq] at h2
       rw [if_neg (by (exact Ar.l30 (.no (.ieq (.v 0) (.v 1))) [(.ilt (.v 0) (.v 2)),(.ilt (.v 2) (.v 1))] (by kernel_rfl) h1 h2))];simp only [decide_eq_true_eq];(exact Ar.l30 (.ilt (.v 0) (.v 1)) [(.ilt (.v 0) (.v 2)),(.ilt (.v 2) (.v 1))] (by kernel_rfl) h1 h2)
 ·intro a
  induction a with
  | nil=>
   intro b h1 h2
   cases b with
   | nil=>rfl
   | cons y b=>cases h1
  | cons x a ih=>
   intro b h1 h2
   cases b with
   | nil=>cases h2
   | cons y b=>
    simp only [ltL] at h1 h2
    by_cases e:x=y
    ·subst e
     rw [if_pos rfl] at h1 h2
     rw [ih b h1 h2]
    ·rw [if_neg e] at h1
     rw [if_neg (fun q=>e q.symm)] at h2
     simp only [decide_eq_false_iff_not] at h1 h2
     lia
section
variable {prog:Program} {w:World} {A:Around} {E:Value->Shared->Prop} {s:Shared}
theorem oneLt_ints {b:Bool} {x y:Int} {t u:Tok} {Q:Bool->Shared->Prop} (h:Q (decide (x<y)) s):wpAny (model prog w) A (oneLt' b (.int x t) (.int y u)) Q E s:=by
 cases b with
 | true=>exact oneLt_int h
 | false=>exact kat_one _ _ (PySem.P.lt_int h)
theorem lex_ints {own:List Addr} {b:Bool} {Q:Bool->Shared->Prop} {ns:List Int}:∀ {ks:List Int} {cs ds:List Value} {i:Nat} {fin:Bool},VRels s.heap own (ns.map .int) cs->VRels s.heap own (ks.map .int) ds->fin=decide (ns.length<ks.length)->Q (ltL ns ks) s->KatLex prog w A b fin Q (cs.zip ds) i s:=by
 induction ns with
 | nil=>
  intro ks cs ds i fin r1 r2 hf h
  cases (show cs=[] from r1)
  subst hf
  cases ks <;> exact h
 | cons n ns ih=>
  intro ks cs ds i fin r1 r2 hf h
  obtain ⟨_,cs',rfl,⟨t,rfl⟩,r1⟩:=r1
  cases ks with
  | nil=>
   cases (show ds=[] from r2)
   subst hf
   exact h
  | cons k ks=>
   obtain ⟨_,ds',rfl,⟨u,rfl⟩,r2⟩:=r2
   refine wpAny_eqBool_int ?_
   by_cases e:n=k
   ·rw [if_pos (beq_iff_eq.mpr e)]
    refine ih r1 r2 (hf.trans ?_) ?_
    ·rw [List.length_cons,List.length_cons];exact decide_eq_decide.mpr Nat.succ_lt_succ_iff
    ·have:ltL (n::ns) (k::ks)=ltL ns ks:=if_pos e
     rwa [this] at h
   ·rw [if_neg fun q=>e (beq_iff_eq.mp q)]
    have:ltL (n::ns) (k::ks)=decide (n<k):=if_neg e
    rw [this] at h
    exact oneLt_ints h
theorem lt_tups {own:List Addr} {ns ks:List Int} {ca cb:Value} {fl:Bool} {Q:Bool->Shared->Prop} (r1:VRel s.heap own (.tup (ns.map .int)) ca) (r2:VRel s.heap own (.tup (ks.map .int)) cb) (h:Q (ltL ns ks) s):wpAny (model prog w) A (keyLt' (tuples' fl) ca cb) Q E s:=by
 obtain ⟨a,cs,rfl,_,⟨n,e1⟩,_,r1⟩:=r1
 obtain ⟨b,ds,rfl,_,⟨k,e2⟩,_,r2⟩:=r2
 exact kat_lt e1 rfl e2 rfl (lex_ints r1 r2 (by rw [List.size_toArray,List.size_toArray,r1.len,r2.len]) h)
theorem firsts_tups {own:List Addr} {α:Type} {e:α->V} {key:α->List Int} (he:∀ a,e a=.tup ((key a).map .int)) (hne:∀ a,key a≠[]) {xs:List α}:∀ {vs:List Value},VRels s.heap own (xs.map e) vs->∃ fs:List Value,KatTups s.heap vs fs/\fs.length=vs.length/\∀ f∈fs,∃ n t,f=.int n t:=by
 induction xs with
 | nil=>intro vs r;cases (show vs=[] from r);exact ⟨[],trivial,rfl,fun z1 h=>nomatch h⟩
 | cons x xs ih=>
  intro vs r
  obtain ⟨v,vs',rfl,r1,r2⟩:=r
  obtain ⟨fs,f1,f2,f3⟩:=ih r2
  rw [he x] at r1
  obtain ⟨a,cs,rfl,_,⟨n,q⟩,_,rs⟩:=r1
  cases hk:key x with
  | nil=>exact absurd hk (hne x)
  | cons k ks=>
   rw [hk] at rs
   obtain ⟨_,cs',rfl,⟨t,rfl⟩,_⟩:=rs
   exact ⟨_,.cons q rfl rfl rfl f1,congrArg (·+1) f2,fun f hf=>(List.mem_cons.mp hf).elim (fun e=>⟨k,t,e⟩) (f3 f)⟩
theorem kind_tups {own:List Addr} {α:Type} {e:α->V} {key:α->List Int} (he:∀ a,e a=.tup ((key a).map .int)) (hne:∀ a,key a≠[]) {xs:List α} {vs:List Value} {Q:SortKind->Shared->Prop} (r:VRels s.heap own (xs.map e) vs) (h2:2<=vs.length) (h:Q (tuples' true) s) :
  wpAny (model prog w) A (keyKind' vs.toArray) Q E s:=by
 obtain ⟨fs,f1,f2,f3⟩:=firsts_tups he hne r
 refine kat_kind (T:=.type "int") f1 (f2 ▸ Nat.lt_of_lt_of_le Nat.zero_lt_two h2) (fun v hv=>?_) rfl h
 obtain ⟨n,t,rfl⟩:=f3 v hv
 exact .now
end
theorem Call_sorted_tupL {loc:Bool} {α:Type} (e:α->V) (key:α->List Int) (he:∀ a,e a=.tup ((key a).map .int)) (hne:∀ a,key a≠[]) {xs:List α} {lv:V} (hl:IsLst σ lv (xs.map e)) (hz:xs.length<Tim.sortLid)
  (h:∀ ys:List α,ys.Perm xs->(ys.Pairwise fun a b=>ltL (key b) (key a)=false)->Made c.F loc P (ys.map e) σ):CallS c d (.builtin "sorted") [lv] σ P X:=by
 intro A s E cs hA st rs _
 obtain ⟨x,rfl,r⟩:=rs.un1
 have hq:=hl.plain st r
 (try clear rs)
 obtain ⟨a,vs,rfl,p,hsz,rs⟩:=hq
 exact sorted_G ltL_lin e key st hz (col_list (A':=A) p hsz rs) (fun A s us vs h2 r=>⟨tuples' true,fun E Q hQ=>kind_tups he hne r h2 hQ,fun a b ca cb ra rb E Q hQ=>lt_tups (he a ▸ ra) (he b ▸ rb) hQ⟩) h
theorem Call_sorted_tup {α:Type} (e:α->V) (key:α->List Int) (he:∀ a,e a=.tup ((key a).map .int)) (hne:∀ a,key a≠[]) {xs:List α} {lv:V} (hl:IsLst σ lv (xs.map e)) (hz:xs.length<Tim.sortLid)
  (h:∀ ys:List α,ys.Perm xs->(ys.Pairwise fun a b=>ltL (key b) (key a)=false)->P (.lst (ys.map e)) σ):CallS c d (.builtin "sorted") [lv] σ P X:=Call_sorted_tupL (loc:=false) e key he hne hl hz h
theorem ltI_lin:Lin (fun a b:Int=>decide (a<b)):=⟨fun a=>by simp,fun a b c h1 h2=>by simp at *;(exact Ar.l30 (.ilt (.v 0) (.v 1)) [(.ilt (.v 0) (.v 2)),(.ilt (.v 2) (.v 1))] (by kernel_rfl) h1 h2),fun a b h1 h2=>by simp at *;(exact Ar.l20 (.ieq (.v 0) (.v 1)) [(.ile (.v 1) (.v 0)),(.ile (.v 0) (.v 1))] (by kernel_rfl) h1 h2)⟩
theorem VRels.intsAre {h:Heap} {own:List Addr} {ns:List Int}:∀ {cs:List Value},VRels h own (ns.map .int) cs->IntsAre cs ns:=by
 induction ns with
 | nil=>intro cs r;cases (show cs=[] from r);exact .nil
 | cons n ns ih=>intro cs r;obtain ⟨_,_,rfl,⟨t,rfl⟩,rs⟩:=r;exact .cons _ _ (ih rs)
theorem sorted_ints {x:Value} {xs:List Int} {A:Around} {s:Shared} {E:Value->Shared->Prop} (st:St c A σ s.heap) (hz:xs.length<Tim.sortLid)
  (hcol:∀ (Q':List Value->Shared->Prop) (E':Value->Shared->Prop),(∀ h' d tk vs (us:List Int),Ext s.heap h'->us.Perm xs->VRels h' (ownS c σ) (us.map .int) vs->Q' vs { s with heap:=h',drawn:=d,toks:=tk })->wpAny c.M A.in1 (collect x) Q' E' s)
  (h:∀ ys:List Int,ys.Perm xs->(ys.Pairwise fun a b=>a<=b)->P (.lst (ys.map .int)) σ):wpAny c.M A (call (.builtin "sorted") [x]) (Post c A σ s P) E s:=by
 refine sorted_G (loc:=false) ltI_lin V.int id st hz hcol (fun A s us vs h2 r=>⟨oneType',fun E Q hQ=>?_,fun a b ca cb ra rb E Q hQ=>?_⟩) fun ys hp hs=>h ys hp (hs.imp fun q=>Int.not_lt.mp (of_decide_eq_false q))
 ·match vs,h2 with
  | v₁::v₂::vr,_=>rw [keyKind_ints (VRels.intsAre r)];exact wpAny_pure hQ
 ·obtain ⟨t,rfl⟩:=ra
  obtain ⟨u,rfl⟩:=rb
  exact oneLt_int hQ
theorem VRels.perm {h:Heap} {own:List Addr} {α:Type} {e:α->V} {cs ds:List Value} (p:ds.Perm cs):∀ {xs:List α},VRels h own (xs.map e) cs->∃ ys:List α,ys.Perm xs/\VRels h own (ys.map e) ds:=by
 induction p with
 | nil=>intro xs r;exact ⟨xs,.refl _,r⟩
 | cons x _ ih=>
  intro xs r
  cases xs with
  | nil=>cases (show (_::_:List Value)=[] from r)
  | cons a xs=>
   obtain ⟨cv,cs',e',r1,r2⟩:=r
   cases e'
   obtain ⟨ys,hp,hr⟩:=ih r2
   exact ⟨a::ys,hp.cons a,_,_,rfl,r1,hr⟩
 | swap x y l=>
  intro xs r
  cases xs with
  | nil=>cases (show (_::_:List Value)=[] from r)
  | cons a xs=>
   obtain ⟨_,_,e',r1,r⟩:=r
   cases e'
   cases xs with
   | nil=>cases (show (_::_:List Value)=[] from r)
   | cons b xs=>
    obtain ⟨_,_,e',r2,r3⟩:=r
    cases e'
    exact ⟨b::a::xs,List.Perm.swap a b xs,_,_,rfl,r2,_,_,rfl,r1,r3⟩
 | trans _ _ h1 h2=>
  intro xs r
  obtain ⟨ys,hp,hr⟩:=h2 r
  obtain ⟨zs,hp',hr'⟩:=h1 hr
  exact ⟨zs,hp'.trans hp,hr'⟩
end Mine
end
section
set_option maxRecDepth 100000
namespace Mine
open PySem
theorem perm_erase {α:Type}:∀ {l:List α} {i:Nat} {x:α},l[i]?=some x->(x::l.eraseIdx i).Perm l
 | [],i,x,h=>by cases h
 | y::l,0,x,h=>by cases h;exact .refl _
 | y::l,i+1,x,h=>(List.Perm.swap ..).trans ((perm_erase (l:=l) (i:=i) h).cons y)
theorem pick_go {α:Type} (next:Nat->Nat):∀ (fuel k:Nat) (left:List α) (out:Array α),left.length=fuel->(pickOrder.go next fuel k left out).toList.Perm (out.toList++left)
 | 0,k,left,out,e=>by
  rw [List.eq_nil_of_length_eq_zero e,List.append_nil];exact .refl _
 | fuel+1,k,left,out,e=>by
  have hlt:next k % left.length<left.length:=Nat.mod_lt _ (by rw [e];exact Nat.succ_pos _)
  have hx:left[next k % left.length]?=some left[next k % left.length]:=List.getElem?_eq_getElem hlt
  unfold pickOrder.go
  rw [hx]
  dsimp only
  refine (pick_go next fuel (k+1) _ _ (by rw [List.length_eraseIdx_of_lt hlt,e];rfl)).trans ?_
  rw [Array.toList_push,List.append_assoc]
  exact List.Perm.append_left _ (perm_erase hx)
theorem pick_perm {α:Type} (next:Nat->Nat) (xs:Array α):(pickOrder next xs).toList.Perm xs.toList:=pick_go next xs.size 0 xs.toList #[] (Array.length_toList ..)
section
variable {prog:Program} {w:World} {A:Around} {E:Value->Shared->Prop} {s:Shared}
theorem choose_any {src:Source} {n:Nat} {Q:Nat->Shared->Prop} (hn:n≠0) (h:∀ i d,i<n->Q i { s with drawn:=d }):wpAny (model prog w) A (choose src n) Q E s:=
 fun Γ p z1=>⟨hn,h _ _ (Nat.mod_lt _ (Nat.pos_of_ne_zero hn))⟩
theorem draw_any {α:Type}:∀ (n:Nat) (xs:List α) (s:Shared) {Q:List α->Shared->Prop},xs.length=n->(∀ ys d,ys.Perm xs->Q ys { s with drawn:=d })->wpAny (model prog w) A (drawOrder n xs) Q E s
 | 0,xs,s,Q,e,h=>by
  have:=h [] s.drawn (by rw [List.eq_nil_of_length_eq_zero e])
  unfold drawOrder
  exact wpAny_pure this
 | n+1,[],s,Q,e,h=>by cases e
 | n+1,x::xs,s,Q,e,h=>by
  unfold drawOrder
  refine wpAny_bind (choose_any (by simp) fun i d hi=>?_)
  have hx:(x::xs)[i]?=some (x::xs)[i]:=List.getElem?_eq_getElem hi
  rw [hx]
  dsimp only
  refine wpAny_bind (draw_any n _ _ (by rw [List.length_eraseIdx_of_lt hi,e];rfl) fun ys d' hp=>wpAny_pure (h _ _ ((hp.cons _).trans (perm_erase hx))))
end
theorem below_go {xs:Array Nat} {j:Nat} (hs:xs.toList.Pairwise (·<·)):∀ (fuel lo hi:Nat),hi - lo<=fuel->lo<=hi->hi<=xs.size->(∀ p v,p<lo->xs[p]?=some v->v<j)->(∀ p v,hi<=p->xs[p]?=some v->j<=v)->
  (∀ p v,p<SetTable.below.go xs j fuel lo hi->xs[p]?=some v->v<j)/\(∀ p v,SetTable.below.go xs j fuel lo hi<=p->xs[p]?=some v->j<=v)/\SetTable.below.go xs j fuel lo hi<=xs.size
 | 0,lo,hi,hf,h1,h2,a,b=>by
  have:lo=hi:=by (exact Ar.l02 (.eq (.v 0) (.v 1)) [(.le (.s (.v 1) (.v 0)) (.k 0)),(.le (.v 0) (.v 1))] (by kernel_rfl) hf h1)
  subst this
  unfold SetTable.below.go
  exact ⟨a,b,h2⟩
 | fuel+1,lo,hi,hf,h1,h2,a,b=>by
  unfold SetTable.below.go
  have mono:∀ p q v u,p<=q->xs[p]?=some v->xs[q]?=some u->v<=u:=fun p q v u hpq e1 e2=>by
   rcases Nat.lt_or_eq_of_le hpq with hpq | rfl
   ·rw [← Array.getElem?_toList] at e1 e2
    obtain ⟨q1,rfl⟩:=List.getElem?_eq_some_iff.mp e1
    obtain ⟨q2,rfl⟩:=List.getElem?_eq_some_iff.mp e2
    exact Nat.le_of_lt (List.pairwise_iff_getElem.mp hs p q q1 q2 hpq)
   ·rw [e1] at e2;cases e2;exact Nat.le_refl _
  by_cases hlt:lo<hi
  ·rw [if_pos hlt]
   have hm:(lo+hi) / 2<hi:=by omega
   have hm0:lo<=(lo+hi) / 2:=by omega
   obtain ⟨v,hv⟩:∃ v,xs[(lo+hi) / 2]?=some v:=⟨_,getElem?_pos xs _ (by (exact Ar.l03 (.lt (.v 0) (.v 1)) [(.le (.v 2) (.v 1)),(.lt (.v 0) (.v 2))] (by kernel_rfl) h2 hm))⟩
   have hg:xs.getD ((lo+hi) / 2) j=v:=by rw [Array.getD_eq_getD_getElem?,hv];rfl
   simp only [hg]
   by_cases hvj:v<j
   ·rw [if_pos hvj]
    exact below_go hs fuel _ hi (by (exact Ar.l04 (.le (.s (.v 0) (.a (.v 1) (.k 1))) (.v 2)) [(.le (.s (.v 0) (.v 3)) (.a (.v 2) (.k 1))),(.le (.v 3) (.v 1))] (by kernel_rfl) hf hm0)) (by (exact Ar.l02 (.le (.a (.v 0) (.k 1)) (.v 1)) [(.lt (.v 0) (.v 1))] (by kernel_rfl) hm)) h2 (fun p u hp e=>Nat.lt_of_le_of_lt (mono p _ u v (by (exact Ar.l02 (.le (.v 0) (.v 1)) [(.lt (.v 0) (.a (.v 1) (.k 1)))] (by kernel_rfl) hp)) e hv) hvj) b
   ·rw [if_neg hvj]
    exact below_go hs fuel lo _ (by (exact Ar.l04 (.le (.s (.v 0) (.v 1)) (.v 2)) [(.le (.s (.v 3) (.v 1)) (.a (.v 2) (.k 1))),(.lt (.v 0) (.v 3))] (by kernel_rfl) hf hm)) hm0 (by (exact Ar.l03 (.le (.v 0) (.v 1)) [(.le (.v 2) (.v 1)),(.lt (.v 0) (.v 2))] (by kernel_rfl) h2 hm)) a (fun p u hp e=>Nat.le_trans (Nat.not_lt.mp hvj) (mono _ p v u hp hv e))
  ·rw [if_neg hlt]
   have:lo=hi:=by (exact Ar.l02 (.eq (.v 0) (.v 1)) [(.le (.v 0) (.v 1)),(.no (.lt (.v 0) (.v 1)))] (by kernel_rfl) h1 hlt)
   subst this
   exact ⟨a,b,h2⟩
theorem below_spec {xs:Array Nat} (hs:xs.toList.Pairwise (·<·)) (j:Nat):(∀ p v,p<SetTable.below xs j->xs[p]?=some v->v<j)/\(∀ p v,SetTable.below xs j<=p->xs[p]?=some v->j<=v)/\SetTable.below xs j<=xs.size:=
 below_go hs xs.size 0 xs.size (by (exact Ar.l01 (.le (.s (.v 0) (.k 0)) (.v 0)) [] (by kernel_rfl) )) (Nat.zero_le _) (Nat.le_refl _) (fun p v h=>absurd h (Nat.not_lt_zero _)) fun p v h e=>by
  rw [Array.getElem?_eq_none h] at e;cases e
theorem below_zero {xs:Array Nat} (hs:xs.toList.Pairwise (·<·)):SetTable.below xs 0=0:=by
 obtain ⟨a,b,c⟩:=below_spec hs 0
 rcases Nat.eq_zero_or_pos (SetTable.below xs 0) with q | q
 ·exact q
 ·exact absurd (a 0 _ q (getElem?_pos xs 0 (Nat.lt_of_lt_of_le q c))) (Nat.not_lt_zero _)
theorem below_next {xs:Array Nat} (hs:xs.toList.Pairwise (·<·)) {i j:Nat} (h:xs[i]?=some j):SetTable.below xs (j+1)=i+1:=by
 obtain ⟨a,b,c⟩:=below_spec hs (j+1)
 have hlt:=(Array.getElem?_eq_some_iff.mp h).1
 have h1:i<SetTable.below xs (j+1):=Nat.lt_of_not_le fun q=>absurd (b i j q h) (Nat.not_succ_le_self _)
 refine Nat.le_antisymm (Nat.le_of_not_lt fun q=>?_) h1
 have h2:i+1<xs.size:=Nat.lt_of_lt_of_le q c
 have e2:=getElem?_pos xs (i+1) h2
 have:=a (i+1) _ q e2
 rw [← Array.getElem?_toList] at h
 obtain ⟨q1,q2⟩:=List.getElem?_eq_some_iff.mp h
 have h3:=List.pairwise_iff_getElem.mp hs i (i+1) q1 (by simpa using h2) (Nat.lt_succ_self _)
 rw [q2] at h3
 simp at h3 this
 omega
end Mine
end
section
namespace Mine
open PySem
theorem perm_unmap {α β:Type} {f:α->β} {xs ys:List β} (p:xs.Perm ys):∀ {l:List α},ys=l.map f->∃ m:List α,m.Perm l/\xs=m.map f:=by
 induction p with
 | nil=>intro l e;exact ⟨l,.refl _,e⟩
 | cons x _ ih=>
  intro l e
  cases l with
  | nil=>cases e
  | cons a l=>
   rw [List.map_cons] at e
   injection e with e1 e2
   obtain ⟨m,hm,e3⟩:=ih e2
   exact ⟨a::m,hm.cons a,by rw [List.map_cons,e3,e1]⟩
 | swap x y l0=>
  intro l e
  match l,e with
  | [],e=>cases e
  | [_],e=>simp at e
  | a::b::l,e=>
   simp only [List.map_cons,List.cons.injEq] at e
   exact ⟨b::a::l,.swap ..,by simp only [List.map_cons,e.1,e.2.1,e.2.2]⟩
 | trans _ _ h1 h2=>
  intro l e
  obtain ⟨m,hm,e'⟩:=h2 e
  obtain ⟨m',hm',e''⟩:=h1 e'
  exact ⟨m',hm'.trans hm,e''⟩
section
variable {prog:Program} {w:World} {K:Type} [DecidableEq K] {knd:KeyKind prog w K} {A:Around} {E:Value->Shared->Prop} {s:Shared}
structure SetL (knd:KeyKind prog w K) (led:Bool) (l:List (K × Value)) (es:Array (Int × Value)) (t:SetTable):Prop where
 ent:es.toList=l.map fun kv=>(knd.hash kv.1,kv.2)
 is:∀ kv∈l,knd.is kv.1 kv.2=true/\kv.2.scannable=true
 nodup:(l.map (·.1)).Nodup
 size:es.size<scanBound
 fits:t.fits es.size=true
 led:t.led=led
 rise:t.place.toList.Pairwise (·<·)
noncomputable def setObj (es:Array (Int × Value)) (ep:Nat) (t:SetTable):Obj:={ cls:=.type "set",data:=.set es ep t }
noncomputable def SetR (knd:KeyKind prog w K) (led:Bool) (l:List (K × Value)) (h:Heap) (a:Addr):Prop:=∃ es ep t,h.get? a=some (setObj es ep t)/\SetL knd led l es t
theorem SetL.elems {led:Bool} {l:List (K × Value)} {es:Array (Int × Value)} {t:SetTable} (S:SetL knd led l es t):ElemsOf knd es.toList:=fun e he=>by
 rw [S.ent] at he
 obtain ⟨kv,hk,rfl⟩:=List.mem_map.mp he
 exact ⟨⟨kv.1,(S.is kv hk).1,rfl⟩,(S.is kv hk).2⟩
noncomputable def NotLive (t:SetTable) (j:Nat):Prop:=t.place[SetTable.below t.place j]?≠some j
theorem slot_not {t:SetTable} {j:Nat} (h:∀ i,t.slot j≠.live i):NotLive t j:=fun q=>by
 refine h (SetTable.below t.place j) ?_
 unfold SetTable.slot
 simp only [q,beq_self_eq_true,if_true]
theorem advance_dummy (t:SetTable) (p:SetTable.Probe):(t.advance p).dummy=p.dummy:=by
 unfold SetTable.advance
 split <;> rfl
set_option tactic.hygienic true
theorem go_free {t:SetTable} {hA:Nat->Int} {h:Int}:∀ (fuel:Nat) (p:SetTable.Probe),(∀ d,p.dummy=some d->NotLive t d)->∀ j dm,SetTable.probe.go t hA h fuel p=some (.empty j dm)->NotLive t j/\∀ d,dm=some d->NotLive t d
 | 0,_,_,_,_,e=>by cases e
 | fuel+1,p,hp,j,dm,e=>by
  unfold SetTable.probe.go at e
  split at e
  ·rename_i hs
   cases e
   exact ⟨slot_not (fun i q=>by rw [hs] at q;cases q),hp⟩
  ·rename_i hs
   refine go_free fuel _ (fun d hd=>?_) j dm e
   rw [advance_dummy] at hd
   cases hd
   exact slot_not fun i q=>by rw [hs] at q;cases q
  ·split at e
   ·cases e
   ·exact go_free fuel _ (fun d hd=>hp d (by rw [advance_dummy] at hd;exact hd)) j dm e
theorem free_not {t:SetTable} {h:Int} {j:Nat} {b:Bool} (e:t.freeSlot h=some (j,b)):NotLive t j:=by
 unfold SetTable.freeSlot at e
 split at e
 ·rename_i j' dm hm
  obtain ⟨h1,h2⟩:=go_free _ _ (fun d hd=>by cases hd) _ _ hm
  cases dm with
  | none=>cases e;exact h1
  | some d=>cases e;exact h2 d rfl
 ·cases e
theorem put_rise {t:SetTable} {j:Nat} (hs:t.place.toList.Pairwise (·<·)) (hj:NotLive t j):(t.put j).1.place.toList.Pairwise (·<·):=by
 obtain ⟨h1,h2,h3⟩:=below_spec hs j
 have e:(t.put j).1.place.toList=t.place.toList.take (SetTable.below t.place j)++j::t.place.toList.drop (SetTable.below t.place j):=by
  show (SetTable.insertAt t.place (SetTable.below t.place j) j).toList=_
  unfold SetTable.insertAt
  simp [List.take_of_length_le,Array.toList_extract]
 rw [e,List.pairwise_append]
 refine ⟨hs.sublist (List.take_sublist ..),List.pairwise_cons.mpr ⟨fun v hv=>?_,hs.sublist (List.drop_sublist ..)⟩,fun u hu v hv=>?_⟩
 ·obtain ⟨i,hi⟩:=List.mem_iff_getElem?.mp hv
  rw [List.getElem?_drop,Array.getElem?_toList] at hi
  have hle:=h2 _ v (Nat.le_add_right _ i) hi
  rcases Nat.lt_or_ge j v with q | q
  ·exact q
  ·exfalso
   have hvj:v=j:=Nat.le_antisymm q hle
   subst hvj
   cases i with
   | zero=>exact hj hi
   | succ i=>
    obtain ⟨w,hw⟩:∃ w,t.place[SetTable.below t.place v]?=some w:=by
     have:=(Array.getElem?_eq_some_iff.mp hi).1
     exact ⟨_,Array.getElem?_eq_getElem (by omega)⟩
    have hwle:=h2 _ w (Nat.le_refl _) hw
    have hlt:w<v:=by
     have a1:=Array.getElem?_eq_some_iff.mp hw
     have a2:=Array.getElem?_eq_some_iff.mp hi
     have:=List.pairwise_iff_getElem.mp hs (SetTable.below t.place v) (SetTable.below t.place v+(i+1)) (by simpa using a1.1) (by simpa using a2.1) (by omega)
     simp only [Array.getElem_toList] at this
     rw [a1.2,a2.2] at this
     exact this
    omega
 ·have huv:u<j:=by
   obtain ⟨i,hi⟩:=List.mem_iff_getElem?.mp hu
   rw [List.getElem?_take] at hi
   split at hi
   ·rename_i q;exact h1 i u q (by rw [← Array.getElem?_toList];exact hi)
   ·cases hi
  rcases List.mem_cons.mp hv with q | q
  ·rw [q];exact huv
  ·obtain ⟨i,hi⟩:=List.mem_iff_getElem?.mp q
   rw [List.getElem?_drop,Array.getElem?_toList] at hi
   exact Nat.lt_of_lt_of_le huv (h2 _ v (Nat.le_add_right _ i) hi)
set_option tactic.hygienic false
theorem zbn (t:SetTable) (n:Nat):(t.standIn n).place.toList.Pairwise (·<·):=by
 show (Array.range n).toList.Pairwise (·<·)
 rw [Array.toList_range];exact List.pairwise_lt_range
set_option tactic.hygienic true
theorem lay_rise {t:SetTable} (es:Array (Int × Value)) (h:Int) (x:Value) (hs:t.place.toList.Pairwise (·<·)):(layNew t es h x).2.1.place.toList.Pairwise (·<·):=by
 unfold layNew
 split
 ·rename_i slot wd hf
  dsimp only
  unfold SetTable.orStandIn
  split
  ·exact put_rise hs (free_not hf)
  ·exact zbn _ _
 ·exact zbn _ _
theorem relay_rise (t:SetTable) (es:Array (Int × Value)) (n:Nat):(relayAll t es n).2.1.place.toList.Pairwise (·<·):=by
 unfold relayAll
 split
 ·rename_i t' order hr
  dsimp only
  split
  ·unfold SetTable.relaid SetTable.laid at hr
   simp only [Option.bind_eq_bind,Option.bind_eq_some_iff,Option.pure_def,Option.some.injEq,Prod.mk.injEq] at hr
   obtain ⟨owner,_,rfl,_⟩:=hr
   simp only
   rw [List.pairwise_map]
   refine List.Pairwise.filterMap _ (fun a a' haa b hb b' hb'=>?_) List.pairwise_lt_range
   simp only [Option.map_eq_some_iff,Option.mem_def] at hb hb'
   obtain ⟨_,_,rfl⟩:=hb
   obtain ⟨_,_,rfl⟩:=hb'
   exact haa
  ·exact zbn _ _
 ·exact zbn _ _
set_option tactic.hygienic false
theorem lay_led (t:SetTable) (es:Array (Int × Value)) (h:Int) (x:Value):(layNew t es h x).2.1.led=t.led:=by
 unfold layNew
 split
 ·dsimp only
  unfold SetTable.orStandIn
  split <;> rfl
 ·rfl
set_option tactic.hygienic true
theorem relay_led (t:SetTable) (es:Array (Int × Value)) (n:Nat):(relayAll t es n).2.1.led=t.led:=by
 unfold relayAll
 split
 ·rename_i t' order hr
  dsimp only
  split
  ·unfold SetTable.relaid SetTable.laid at hr
   simp only [Option.bind_eq_bind,Option.bind_eq_some_iff,Option.pure_def,Option.some.injEq,Prod.mk.injEq] at hr
   obtain ⟨_,_,rfl,_⟩:=hr
   rfl
  ·rfl
 ·rfl
set_option tactic.hygienic false
theorem store_set {a:Addr} {es es':Array (Int × Value)} {ep:Nat} {t t':SetTable} {Q:Unit->Shared->Prop} (ho:s.heap.get? a=some (setObj es ep t)) (hb:es'.size<scanBound)
  (h:∀ h',Heap.SameBut a s.heap h'->h'.get? a=some (setObj es' (ep+1) t')->Q () { s with heap:=h' }):wpAny (model prog w) A (storeSet a es' t') Q E s:=by
 refine wpAny_storeSet_of ho rfl (h _ (Heap.SameBut.update ..) ?_) (fits_of_scanBound hb)
 have:=Heap.get?_update_self (Obj.putSet es' t') ho (by rw [putSet_of es' t' rfl];rfl)
 rw [putSet_of es' t' rfl] at this;exact this
theorem setAdd_R {a:Addr} {led:Bool} {l:List (K × Value)} {k:K} {x:Value} {Q:Bool->Shared->Prop} (hkey:knd.is k x=true) (hsc:x.scannable=true) (hS:SetR knd led l s.heap a) (hroom:l.length+1<scanBound)
  (h:∀ h' l' b,Heap.SameBut a s.heap h'->SetR knd led l' h' a->l'.Perm (if k∈l.map (·.1) then l else l++[(k,x)])->Q b { s with heap:=h' }) :
  wpAny (model prog w) A (setAddHashed a x (knd.hash k)) Q E s:=by
 obtain ⟨es,ep,t,ho,S⟩:=hS
 have hel:=S.elems
 have hd:(setObj es ep t).data=.set es ep t:=rfl
 unfold setAddHashed setAddHashedIn
 refine wpAny_holding (wpAny_bind (wpAny_setState_of ho hd S.fits ?_))
 dsimp only
 rw [byScan_of hsc S.size hel]
 simp only [↓reduceIte]
 unfold setAddByScan
 refine wpAny_bind ?_
 refine wpAny_bind (wpAny_rule ?_)
 refine wpAny_bind (wpAny_setScan_of hkey ho hd S.fits hel ?_)
 have hmem:(∃ e∈es.toList,knd.is k e.2=true) ↔ k∈l.map (·.1):=by
  rw [S.ent]
  constructor
  ·rintro ⟨e,he,hp⟩
   obtain ⟨kv,hk,rfl⟩:=List.mem_map.mp he
   exact List.mem_map.mpr ⟨kv,hk,knd.inj _ _ _ (S.is kv hk).1 hp⟩
  ·intro hm
   obtain ⟨kv,hk,rfl⟩:=List.mem_map.mp hm
   exact ⟨_,List.mem_map.mpr ⟨kv,hk,rfl⟩,(S.is kv hk).1⟩
 cases hr:List.findIdx? (fun e=>knd.is k e.2) es.toList with
 | some j=>
  dsimp only
  obtain ⟨hj,hpj,_⟩:=List.findIdx?_eq_some_iff_getElem.mp hr
  refine wpAny_pure (wpAny_pure ?_)
  have e:s={ s with heap:=s.heap }:=by cases s;rfl
  rw [e]
  refine h s.heap l _ (Heap.SameBut.refl a s.heap) ⟨es,ep,t,ho,S⟩ ?_
  rw [if_pos (hmem.mp ⟨_,List.getElem_mem hj,hpj⟩)]
 | none=>
  dsimp only
  have hno:k∉l.map (·.1):=fun hm=>by
   obtain ⟨e,he,hp⟩:=hmem.mpr hm
   have:=List.findIdx?_eq_none_iff.mp hr e he
   rw [hp] at this;exact Bool.noConfusion this
  have hgw:∀ (b:Bool) {s₁:Shared} {Q':Unit->Shared->Prop},Q' () s₁->wpAny (model prog w) A (match b with | true=>rule "set.scan.the-table-gave-way" | false=>pure ()) Q' E s₁:=
   fun b s₁ Q' hq=>by cases b <;> first | exact wpAny_pure hq | exact wpAny_rule hq
  have hperm:=layNew_perm t es (knd.hash k) x
  have hfits:=layNew_fits t es (knd.hash k) x
  have hled:=(lay_led t es (knd.hash k) x).trans S.led
  have hrise:=lay_rise es (knd.hash k) x S.rise
  generalize hL:layNew t es (knd.hash k) x=L at hperm hfits hled hrise ⊢
  obtain ⟨es1,t1,wasDummy,gave⟩:=L
  dsimp only at hperm hfits hled hrise ⊢
  obtain ⟨l1,hl1,e1⟩:=perm_unmap (f:=fun kv:K × Value=>(knd.hash kv.1,kv.2)) (l:=l++[(k,x)]) hperm (by rw [Array.toList_push,S.ent,List.map_append];rfl)
  have hlen:es1.size=l.length+1:=by rw [← Array.length_toList,e1,List.length_map,hl1.length_eq,List.length_append];rfl
  have mk:∀ (es2:Array (Int × Value)) (t2:SetTable),List.Perm es2.toList es1.toList->t2.fits es2.size=true->t2.led=led->t2.place.toList.Pairwise (·<·)->∃ l2,l2.Perm (l++[(k,x)])/\SetL knd led l2 es2 t2:=fun es2 t2 p f hl hp=>by
   obtain ⟨l2,h2,e2⟩:=perm_unmap p e1
   have p2:=h2.trans hl1
   refine ⟨l2,p2,⟨e2,fun kv hkv=>?_,?_,?_,f,hl,hp⟩⟩
   ·rcases List.mem_append.mp (p2.mem_iff.mp hkv) with q | q
    ·exact S.is kv q
    ·rw [List.mem_singleton.mp q];exact ⟨hkey,hsc⟩
   ·rw [(p2.map (·.1)).nodup_iff,List.map_append,List.nodup_append]
    refine ⟨S.nodup,by simp,fun u hu v hv q=>?_⟩
    simp only [List.map_cons,List.map_nil,List.mem_singleton] at hv
    rw [q,hv] at hu;exact hno hu
   ·rw [← Array.length_toList,p.length_eq,Array.length_toList,hlen];exact hroom
  refine wpAny_bind (hgw _ ?_)
  have hend:∀ h' es2 ep2 t2 l2 b,Heap.SameBut a s.heap h'->h'.get? a=some (setObj es2 ep2 t2)->l2.Perm (l++[(k,x)])->SetL knd led l2 es2 t2->Q b { s with heap:=h' }:=fun h' es2 ep2 t2 l2 b sb e p S2=>h h' l2 b sb ⟨es2,ep2,t2,e,S2⟩ (by rw [if_neg hno];exact p)
  have fin:∀ t2:SetTable,t2.fits es1.size=true->t2.led=led->t2.place.toList.Pairwise (·<·)->wpAny (model prog w) A (do
    storeSet a es1 t2
    if (!wasDummy && t2.tooFull)=true then do
      (match (relayAll t2 es1 (SetTable.grown es1.size)).2.2 with | true=>rule "set.scan.the-table-gave-way" | false=>pure ())
      storeSet a (relayAll t2 es1 (SetTable.grown es1.size)).1 (relayAll t2 es1 (SetTable.grown es1.size)).2.1
      pure (some true)
     else pure (some true)) (fun r s'=>match r with | some b=>Q b s' | none=>False) E s:=by
   intro t2 f1 f2 f3
   refine wpAny_bind (store_set ho (by rw [hlen];exact hroom) fun h1 sb1 g1=>?_)
   split
   ·have hp:=relayAll_perm t2 es1 (SetTable.grown es1.size)
    have hf:=relayAll_fits t2 es1 (SetTable.grown es1.size)
    have q1:=relay_led t2 es1 (SetTable.grown es1.size)
    have q2:=relay_rise t2 es1 (SetTable.grown es1.size)
    generalize relayAll t2 es1 (SetTable.grown es1.size)=R at hp hf q1 q2 ⊢
    obtain ⟨l2,p2,S2⟩:=mk R.1 R.2.1 hp hf (q1.trans f2) q2
    refine wpAny_bind (hgw _ ?_)
    refine wpAny_bind (store_set (s:={ s with heap:=h1 }) g1 S2.size fun h2 sb2 g2=>wpAny_pure ?_)
    exact hend h2 _ _ _ l2 true (sb1.trans sb2) g2 p2 S2
   ·obtain ⟨l2,p2,S2⟩:=mk es1 t2 (.refl _) f1 f2 f3
    exact wpAny_pure (hend h1 _ _ _ l2 true sb1 g1 p2 S2)
  split
  ·refine wpAny_bind ?_
   rw [hashByValue_scannable 8 hsc]
   refine wpAny_pure ?_
   cases plainKind x with
   | true=>
    simp only [↓reduceIte]
    refine wpAny_mono (fin t1 hfits hled hrise) (fun r s' q=>?_) fun z1 z2 q=>q
    cases r with
    | none=>exact q.elim
    | some b=>exact wpAny_pure q
   | false=>
    refine wpAny_mono (fin { t1 with plain:=false } (SetTable.fits_plain_off hfits) hled hrise) (fun r s' q=>?_) fun z1 z2 q=>q
    cases r with
    | none=>exact q.elim
    | some b=>exact wpAny_pure q
  ·refine wpAny_bind (wpAny_pure ?_)
   simp only [↓reduceIte]
   refine wpAny_mono (fin t1 hfits hled hrise) (fun r s' q=>?_) fun z1 z2 q=>q
   cases r with
   | none=>exact q.elim
   | some b=>exact wpAny_pure q
end
end Mine
end
section
set_option maxRecDepth 100000
namespace Mine
open PySem PySem.Spec
section
variable {prog:Program} {w:World} {K:Type} [DecidableEq K] {knd:KeyKind prog w K} {A:Around} {E:Value->Shared->Prop} {s:Shared}
theorem SetR.at {led:Bool} {l:List (K × Value)} {h h':Heap} {a:Addr} (x:SetR knd led l h a) (k:∀ o,h.get? a=some o->h'.get? a=some o):SetR knd led l h' a:=
 let ⟨es,ep,t,e,S⟩:=x;⟨es,ep,t,k _ e,S⟩
theorem set_loop {R:Result->Shared->Prop} {I:Addr} {fp wr:List Addr} {G:Array GenState->Array GenState->Prop} {n:Nat} {P:Nat->Value->Prop} {St:Nat->Shared->Prop} (W:WalksS prog w A.in1 I fp wr G n P St) (S:Addr) (hSf:S∉fp) {led:Bool} (key:Nat->K)
  (hval:∀ i v,P i v->knd.is (key i) v=true/\v.scannable=true) (hb:n+1<scanBound) :
  ∀ (k i:Nat) (s:Shared) (l:List (K × Value)),n - i=k->i<=n->St i s->SetR knd led l s.heap S->l.length<=i->(∀ q,q∈l.map (·.1) ↔ ∃ j,j<i/\key j=q)->
   (∀ s' l',Moved (S::wr) G s s'->SetR knd led l' s'.heap S->(∀ q,q∈l'.map (·.1) ↔ ∃ j,j<n/\key j=q)->R (.ok (.ret .none)) s')->
   codeAny (model prog w) A (.builtin "set.update.loop" ⟨[.ref S,.ref I],[]⟩) R s:=by
 have hSw:S∉wr:=fun h=>hSf (W.sub _ h)
 have hsub:∀ b∈wr,b∈S::wr:=fun b hb=>List.mem_cons_of_mem _ hb
 intro k
 induction k with
 | zero=>
  intro i s l hk hi hst hS hl hm hR
  have hin:i=n:=Nat.le_antisymm hi (Nat.sub_eq_zero_iff_le.mp hk)
  subst hin
  refine codeAny_builtin PyProof.Rows.F.entry_set_update_loop ?_
  rw [Around.under_plainId PyProof.Rows.F.plain_set_update_loop _]
  show wpAny _ A.in1 (pyNext (.ref I) >>= _) _ _ s
  refine wpAny_bind (W.done s _ _ hst fun s' hm'=>?_)
  show wpAny _ A.in1 (ret Value.none) _ _ s'
  exact wpAny_pure (hR s' l (hm'.mono hsub) (hS.at fun o e=>hm'.heap S _ hSw e) hm)
 | succ k ih=>
  intro i s l hk hi hst hS hl hm hR
  have hlt:i<n:=by (exact Ar.l03 (.lt (.v 0) (.v 1)) [(.eq (.s (.v 1) (.v 0)) (.a (.v 2) (.k 1)))] (by kernel_rfl) hk)
  refine codeAny_builtin PyProof.Rows.F.entry_set_update_loop ?_
  rw [Around.under_plainId PyProof.Rows.F.plain_set_update_loop _]
  show wpAny _ A.in1 (pyNext (.ref I) >>= _) _ _ s
  refine wpAny_bind (W.item i s _ _ hlt hst fun v s' hP hst' hm'=>?_)
  obtain ⟨v1,v2⟩:=hval i v hP
  have hS':SetR knd led l s'.heap S:=hS.at fun o e=>hm'.heap S _ hSw e
  show wpAny _ A.in1 (holding [v] (setAdd S v) >>= _) _ _ s'
  refine wpAny_bind (wpAny_holding ?_)
  unfold setAdd
  refine wpAny_holding ?_
  refine wpAny_bind (knd.pyHash (k:=key i) v1 ?_)
  refine setAdd_R (s:={ s' with toks:=s'.toks+1 }) v1 v2 hS' (by (exact Ar.l05 (.lt (.a (.v 0) (.k 1)) (.v 1)) [(.lt (.a (.v 2) (.k 1)) (.v 1)),(.eq (.s (.v 2) (.v 3)) (.a (.v 4) (.k 1))),(.le (.v 0) (.v 3))] (by kernel_rfl) hb hk hl)) fun h' l' b hsb hS2 hp=>?_
  refine wpAny_pure ⟨plainId_quiet PyProof.Rows.F.plain_set_update_loop _,ih (i+1) _ l' (by (exact Ar.l03 (.eq (.s (.v 0) (.a (.v 1) (.k 1))) (.v 2)) [(.eq (.s (.v 0) (.v 1)) (.a (.v 2) (.k 1)))] (by kernel_rfl) hk)) hlt (W.frame _ s' _ _ hst' (Nat.le_succ _) fun b hb o e=>?_) hS2 ?_ (fun q=>?_) fun s'' l'' hm'' hS'' hq=>?_⟩
  ·rw [hsb.2 b (fun h:b=S=>hSf (by rw [← h];exact hb))];exact e
  ·rw [hp.length_eq]
   split
   ·(exact Ar.l02 (.le (.v 0) (.a (.v 1) (.k 1))) [(.le (.v 0) (.v 1))] (by kernel_rfl) hl)
   ·rw [List.length_append];simp;(exact Ar.l02 (.le (.v 0) (.v 1)) [(.le (.v 0) (.v 1))] (by kernel_rfl) hl)
  ·rw [(hp.map (·.1)).mem_iff]
   constructor
   ·intro hq
    split at hq
    ·obtain ⟨j,j1,j2⟩:=(hm q).mp hq;exact ⟨j,Nat.lt_succ_of_lt j1,j2⟩
    ·rw [List.map_append,List.mem_append] at hq
     rcases hq with hq | hq
     ·obtain ⟨j,j1,j2⟩:=(hm q).mp hq;exact ⟨j,Nat.lt_succ_of_lt j1,j2⟩
     ·simp only [List.map_cons,List.map_nil,List.mem_singleton] at hq;exact ⟨i,Nat.lt_succ_self _,hq.symm⟩
   ·rintro ⟨j,j1,rfl⟩
    rcases Nat.lt_or_eq_of_le (Nat.le_of_lt_succ j1) with j1 | rfl
    ·have:=(hm (key j)).mpr ⟨j,j1,rfl⟩
     split
     ·exact this
     ·rw [List.map_append];exact List.mem_append_left _ this
    ·split
     ·assumption
     ·rw [List.map_append];exact List.mem_append_right _ (by simp)
  ·refine hR s'' l'' (Moved.trans W.gtrans ((hm'.mono hsub).then_heap (Nat.le_succ _) fun b o hb e=>?_) hm'') hS'' hq
   rw [hsb.2 b (fun h:b=S=>hb (by rw [h];exact List.mem_cons_self))];exact e
theorem set_new (a:Value) {Q₁:Value->Shared->Prop}
  (h:Q₁ (.ref s.heap.objs.size) { s with heap:=s.heap.push (setObj #[] 0 (.fresh 0 0 !(w.params.followText "set-order"))) }) :
  codeAny (model prog w) A (.call (.builtin "set.__new__") ⟨[.type "set",a],[]⟩) (wants Q₁ E) s:=by
 refine codeAny_of_tree ?_
 show wpAny _ A.in1 (do checkBuiltinCall "set.__new__" ⟨[.type "set",a],[]⟩;again (.builtin "set.__new__" ⟨[.type "set",a],[]⟩)) _ _ s
 refine wpAny_bind (wpAny_of_eq (F.newCall_set_1 a) (wpAny_pure ⟨plainId_quiet F.plain_set_new _,codeAny_builtin F.entry_set_new ?_⟩))
 rw [Around.under_plainId F.plain_set_new _]
 unfold Builtin.«set.__new__» Builtin.Frozenset.newClass
 have hsub:=sub_set_self
 obtain ⟨hp,g,d,tk,os⟩:=s
 dsimp only
 wp_walk
 refine wpAny_askSetting (wpAny_pure ?_)
 dsimp only
 simp only [newObj]
 refine wpAny_bind (wpAny_alloc (wpAny_pure ?_))
 exact wpAny_pure h
set_option maxHeartbeats 3200000 in
theorem set_init {S l:Addr} {items:Array Value} {led:Bool} (key:Nat->K) {R:Result->Shared->Prop} (hh:A.handled=none) (hS:s.heap.get? S=some (setObj #[] 0 (.fresh 0 0 led))) (hl:s.heap.IsList l items) (hne0:l≠S)
  (hi:∀ i v,items[i]?=some v->knd.is (key i) v=true/\v.scannable=true) (hb:items.size+1<scanBound)
  (hR:∀ (h':Heap) (tk:Nat) (kvs:List (K × Value)),SetR knd led kvs h' S->(∀ q,q∈kvs.map (·.1) ↔ ∃ j,j<items.size/\key j=q)->(∀ b o,b≠S->s.heap.get? b=some o->h'.get? b=some o)->R (.ok (.ret .none)) { s with heap:=h',toks:=tk }) :
  codeAny (model prog w) A (.call (.builtin "set.__init__") ⟨[.ref S,.ref l],[]⟩) R s:=by
 have hT:s.TypeIs (.ref S) "set":=⟨_,hS,rfl⟩
 refine codeAny_call_builtin F.called_set.init.plain F.entry_set_init (check_set_init_1 hT ?_)
 have hl1:=hl
 obtain ⟨ol,hol,hcl,nl,hdl⟩:=hl
 obtain ⟨ocls,odict,odata,oslots⟩:=ol
 simp only at hcl hdl
 subst hcl;subst hdl
 have hsls:=F.sub_list_set
 have hslf:=F.sub_list_frozenset
 have hne:(Value.type "list" == Value.type "dict")=false:=by decide
 unfold Builtin.«set.__init__» noKeywords Builtin.Frozenset.updateFrom
 generalize hPI:pyIter=PI
 wp_walk
 subst hPI
 refine wpAny_pyIter_list hl1 ?_
 refine wpAny_bind (wpAny_runValue ?_)
 have hh3:A.in1.in1.handled=none:=by simp [hh]
 have hlS:l<s.heap.objs.size:=Heap.lt_size hol
 have hSlt:S<s.heap.objs.size:=Heap.lt_size hS
 have hSf:S∉[s.heap.objs.size,l]:=by
  simp only [List.mem_cons,List.not_mem_nil,or_false,not_or]
  exact ⟨Nat.ne_of_lt hSlt,hne0.symm⟩
 refine set_loop (knd:=knd) ((Walks.list hh3 _ l (Nat.ne_of_lt hlS) items).toS) S hSf key hi hb (items.size - 0) 0 _ [] (by (exact Ar.l01 (.eq (.s (.v 0) (.k 0)) (.s (.v 0) (.k 0))) [] (by kernel_rfl) )) (Nat.zero_le _)
  ⟨⟨_,Heap.get?_push_size _ rfl,rfl,rfl⟩,(hl1.push _)⟩ ⟨#[],0,_,Heap.get?_push_of_some _ hS,⟨rfl,by simp,by simp,by decide,rfl,rfl,.nil⟩⟩ (Nat.le_refl _) (fun q=>by simp) fun s' kvs hm hS' hq=>?_
 obtain ⟨h',g',d',tk',os'⟩:=s'
 have eg:g'=s.gens:=hm.gens
 have ed:d'=s.drawn:=hm.drawn
 have eo:os'=s.os:=hm.os
 subst eg;subst ed;subst eo
 show wpAny _ _ _ _ _ _
 refine wpAny_pure ?_
 show wpAny _ _ (ret Value.none) _ _ _
 refine wpAny_pure (hR h' tk' kvs hS' hq fun b o hbS e=>hm.heap b o ?_ (Heap.get?_push_of_some _ e))
 simp only [List.mem_cons,List.not_mem_nil,or_false,not_or]
 exact ⟨hbS,Nat.ne_of_lt (Heap.lt_size e)⟩
set_option maxHeartbeats 3200000 in
theorem call_set {l:Addr} {items:Array Value} (key:Nat->K) {Q:Value->Shared->Prop} (hh:A.handled=none) (hl:s.heap.IsList l items)
  (hi:∀ i v,items[i]?=some v->knd.is (key i) v=true/\v.scannable=true) (hb:items.size+1<scanBound)
  (h:∀ (h':Heap) (tk:Nat) (kvs:List (K × Value)),SetR knd (!(w.params.followText "set-order")) kvs h' s.heap.objs.size->(∀ q,q∈kvs.map (·.1) ↔ ∃ j,j<items.size/\key j=q)->
   (∀ b o,s.heap.get? b=some o->h'.get? b=some o)->Q (.ref s.heap.objs.size) { s with heap:=h',toks:=tk }) :
  wpAny (model prog w) A (call (.type "set") [.ref l]) Q E s:=by
 obtain ⟨c,tl,hmro⟩:=F.called_set.mro
 have hmade:=F.called_set.made
 have hsub:=F.called_set.sub
 refine wpAny_call (codeAny_of_tree ?_)
 show wpAny _ _ (callAny (.type "set") _) _ _ _
 refine wpAny_pure ⟨Code.quiet_builtin _ (by decide +kernel),codeAny_builtin F.entry_type_call ?_⟩
 rw [Around.under_plain (weight_type_call_type "set" [.ref l] []) rfl]
 have h1:=F.called_set.notType
 have h2:=F.called_set.canCreate
 have hct:=F.typeCall_set_1 (.ref l)
 repeat (any_goals (first | assumption | wp_step))
 obtain ⟨S,hSe⟩:∃ S,s.heap.objs.size=S:=⟨_,rfl⟩
 rw [hSe] at h
 refine codeAny_mono (set_new (.ref l) (E:=E) (Q₁:=fun obj s₁=>obj=.ref S/\∃ h1:Heap,s₁={ s with heap:=h1 }/\h1.get? S=some (setObj #[] 0 (.fresh 0 0 !(w.params.followText "set-order")))/\∀ b o,s.heap.get? b=some o->h1.get? b=some o) ⟨by rw [hSe],_,rfl,by rw [← hSe];exact Heap.get?_push_size _ rfl,fun b o e=>Heap.get?_push_of_some _ e⟩) fun r s₁ hr=>?_
 cases r with
 | error e=>exact hr
 | ok fl=>
  cases fl with
  | ret obj=>
   obtain ⟨rfl,h1,rfl,hS,hk⟩:=hr
   have hT:Shared.TypeIs { s with heap:=h1 } (.ref S) "set":=⟨_,hS,rfl⟩
   have hli:=F.called_set.init.lookup
   have hbi:=F.called_set.init.bind (.ref S)
   repeat (any_goals (first | assumption | wp_step))
   obtain ⟨ol,hol,hol2⟩:=hl
   have hlS:l≠S:=fun q=>absurd (Heap.lt_size hol) (by rw [q,hSe];exact Nat.lt_irrefl _)
   refine codeAny_mono (set_init (s:={ s with heap:=h1 }) (R:=wants (fun r s₂=>r=.none/\∃ h' tk kvs,s₂={ s with heap:=h',toks:=tk }/\
     SetR knd (!(w.params.followText "set-order")) kvs h' S/\(∀ q,q∈kvs.map (·.1) ↔ ∃ j,j<items.size/\key j=q)/\
     (∀ b o,s.heap.get? b=some o->h'.get? b=some o)) E) key (by simp [hh]) hS ⟨ol,hk _ _ hol,hol2⟩ hlS hi hb fun h' tk kvs q1 q2 q3=>⟨rfl,h',tk,kvs,rfl,q1,q2,fun b o e=>q3 b o (fun q=>absurd (Heap.lt_size e) (by rw [q,hSe];exact Nat.lt_irrefl _)) (hk b o e)⟩) fun r₂ s₂ hr₂=>?_
   cases r₂ with
   | error e=>exact hr₂
   | ok fl₂=>
    cases fl₂ with
    | ret r=>
     obtain ⟨rfl,h',tk,kvs,rfl,hS',hq,hk'⟩:=hr₂
     repeat (any_goals (first | assumption | wp_step))
     exact h _ _ kvs hS' hq hk'
    | _=>exact hr₂.elim
  | _=>exact hr.elim
end
end Mine
end
section
set_option maxRecDepth 100000
namespace Mine
open PySem
theorem slot_si_next:Slot "set_iterator" "__next__" "set_iterator.__next__":=
 .of (owner:="set_iterator") (n:="__next__") (by rw [typeLookup_type,builtinLookup_eq_fast];kernel_rfl) (by decide +kernel) (by decide +kernel) (by decide +kernel)
  (by first | exact .inl (by decide +kernel) | exact .inr (by decide +kernel)) (by rw [isSubtype_type];kernel_rfl)
theorem entry_si_next:entryFor table "set_iterator.__next__"=some Builtin.«set_iterator.__next__»:=entryFor_of_tree (by kernel_rfl)
theorem owner_si:Manifest.owners.lookup (String.ofList ['r','o','t','a','r','e','t','i','_','t','e','s'].reverse)=some Manifest.sig_set_iterator:=by kernel_rfl
theorem args_si_next (a:Value):argsOk "set_iterator.__next__" ⟨[a],[]⟩:=by
 unfold argsOk;rw [signature?_of (id:="set_iterator.__next__") (n:=['_','_','t','x','e','n','_','_']) (o:=['r','o','t','a','r','e','t','i','_','t','e','s']) (by kernel_rfl) owner_si];kernel_rfl
theorem entry_set_iter:entryFor table "set.__iter__"=some Builtin.«frozenset.__iter__»:=entryFor_alias (id':="frozenset.__iter__") (by kernel_rfl) rfl (by decide +kernel) (by kernel_rfl)
theorem slot_si_iter:Slot "set_iterator" "__iter__" "set_iterator.__iter__":=
 .of (owner:="set_iterator") (n:="__iter__") (by rw [typeLookup_type,builtinLookup_eq_fast];kernel_rfl) (by decide +kernel) (by decide +kernel) (by decide +kernel)
  (by first | exact .inl (by decide +kernel) | exact .inr (by decide +kernel)) (by rw [isSubtype_type];kernel_rfl)
theorem entry_si_iter:entryFor table "set_iterator.__iter__"=some Builtin.«dict_keyiterator.__iter__»:=entryFor_alias (id':="dict_keyiterator.__iter__") (by kernel_rfl) rfl (by decide +kernel) (by kernel_rfl)
theorem args_si_iter (a:Value):argsOk "set_iterator.__iter__" ⟨[a],[]⟩:=by
 unfold argsOk;rw [signature?_of (id:="set_iterator.__iter__") (n:=['_','_','r','e','t','i','_','_']) (o:=['r','o','t','a','r','e','t','i','_','t','e','s']) (by kernel_rfl) owner_si];kernel_rfl
section
variable {prog:Program} {w:World} {A:Around} {E:Value->Shared->Prop} {s:Shared}
inductive Mode (w:World) (a T:Addr) (es:Array (Int × Value)) (ep:Nat) (t:SetTable) (vs:List Value) (i:Nat) (h:Heap):Value->Prop
 | drawn (ps:List Nat) (n:Nat):h.get? T=some { cls:=.type "tuple",data:=.seq (ps.map fun p:Nat=>rawInt p).toArray n }->vs=ps.map (fun p=>(es.toList.getD p (0,.none)).2)->(∀ p∈ps,p<es.size)->Mode w a T es ep t vs i h (.ref T)
 | text (k:Nat):w.params.followText "set-order"=true->vs=(pickOrder (w.params.setOrder a ep) es).toList.map (·.2)->Mode w a T es ep t vs i h (rawInt k)
 | led (k:Nat):w.params.followText "set-order"=false->(!t.plain && decide (es.size > 1))=false->(!t.led && !es.isEmpty)=false->t.place.toList.Pairwise (·<·)->SetTable.below t.place k=i->vs=es.toList.map (·.2)->Mode w a T es ep t vs i h (rawInt k)
theorem Mode.at {a T:Addr} {es:Array (Int × Value)} {ep:Nat} {t:SetTable} {vs:List Value} {i:Nat} {h h':Heap} {v:Value} (x:Mode w a T es ep t vs i h v) (k:∀ o,h.get? T=some o->h'.get? T=some o):Mode w a T es ep t vs i h' v:=by
 cases x with
 | drawn ps n e e1 e2=>exact .drawn ps n (k _ e) e1 e2
 | text k e e1=>exact .text k e e1
 | led k e e1 e2 e3 e4 e5=>exact .led k e e1 e2 e3 e4 e5
noncomputable def itObj (first:Value) (i:Nat) (a:Addr) (n ep:Nat):Obj:={ cls:=.type "set_iterator",data:=.fields #[first,.int i 0,.ref a,.int n 0,.int ep 0] }
structure SIt (w:World) (a T I:Addr) (es:Array (Int × Value)) (ep:Nat) (t:SetTable) (vs:List Value) (i:Nat) (h:Heap):Prop where
 set:h.get? a=some (setObj es ep t)
 fits:t.fits es.size=true
 len:vs.length=es.size
 it:∃ first,h.get? I=some (itObj first i a es.size ep)/\Mode w a T es ep t vs i h first
theorem pyIter_si {a T I:Addr} {es:Array (Int × Value)} {ep:Nat} {t:SetTable} {vs:List Value} {i:Nat} {Q:Value->Shared->Prop} (st:SIt w a T I es ep t vs i s.heap) (h:Q (.ref I) s):wpAny (model prog w) A (pyIter (.ref I)) Q E s:=by
 obtain ⟨first,e,_⟩:=st.it
 have hT:s.TypeIs (.ref I) "set_iterator":=⟨_,e,rfl⟩
 refine wpAny_pyIter_slot hT slot_si_iter (wpAny_call_entry slot_si_iter hT entry_si_iter ?_ (args_si_iter _))
 show wpAny _ _ (ret (.ref I)) _ _ s
 exact wpAny_pure ⟨_,rfl,"set_iterator",_,hT,slot_si_next.lookup,h⟩
theorem it_upd {I a:Addr} {first x:Value} {i n ep j:Nat} {h:Heap} (e:h.get? I=some (itObj first i a n ep)):(h.update I (Obj.mapFields (·.setIfInBounds j x))).get? I=some { cls:=.type "set_iterator",data:=.fields (#[first,.int i 0,.ref a,.int n 0,.int ep 0].setIfInBounds j x) }:=
 Heap.get?_update_self (Obj.mapFields (·.setIfInBounds j x)) e rfl
theorem setNext_any {a T:Addr} {es:Array (Int × Value)} {ep:Nat} {t:SetTable} {vs:List Value} {i k:Nat} {Q:Option (Value × Nat)->Shared->Prop} (hset:s.heap.get? a=some (setObj es ep t)) (hf:t.fits es.size=true) (M:Mode w a T es ep t vs i s.heap (rawInt k))
  (h:∀ k',(∀ v,vs[i]?=some v->∀ h',Mode w a T es ep t vs (i+1) h' (rawInt ((k':Nat):Int)))->Q ((vs[i]?).map fun v=>(v,k')) s):wpAny (model prog w) A (setNext a k i ep) Q E s:=by
 have hd:(setObj es ep t).data=.set es ep t:=rfl
 unfold setNext setsByText
 refine wpAny_bind (wpAny_setState_of hset hd hf (wpAny_bind (wpAny_bind (wpAny_askSetting (wpAny_pure ?_)))))
 show wpAny _ _ (if w.params.followText "set-order"=true then _ else _) _ _ _
 generalize hr:rawInt (k:Int)=first at M
 cases M with
 | drawn ps n=>cases hr
 | text k' e1 e2=>
  rw [if_pos e1,if_neg (by simp)]
  unfold setWalk setsByText
  refine wpAny_bind (wpAny_bind (wpAny_setState_of hset hd hf (wpAny_bind (wpAny_bind (wpAny_askSetting (wpAny_pure ?_))))))
  show wpAny _ _ (if w.params.followText "set-order"=true then _ else _) _ _ _
  rw [if_pos e1]
  refine wpAny_bind (wpAny_askSetting (wpAny_pure (wpAny_pure ?_)))
  have hg:((pickOrder (w.params.setOrder a ep) es)[i]?).map (fun e=>(e.2,k))=(vs[i]?).map fun v=>(v,k):=by
   rw [e2,List.getElem?_map,Array.getElem?_toList,Option.map_map];rfl
  show Q (((pickOrder (w.params.setOrder a ep) es)[i]?).map (fun e=>(e.2,k))) s
  rw [hg]
  exact h k fun v z1 h'=>.text k e1 e2
 | led k' e1 e2 e3 e4 e5 e6=>
  obtain rfl:k'=k:=by
   have:((k:Nat):Int)=k':=(Value.int.inj hr).1
   omega
  rw [if_neg (by rw [e1];exact Bool.false_ne_true)]
  show wpAny _ _ (if (!t.plain && decide (es.size > 1))=true then _ else _) _ _ _
  rw [if_neg (by rw [e2];exact Bool.false_ne_true)]
  refine wpAny_bind ?_
  show wpAny _ _ (if (!t.led && !es.isEmpty)=true then _ else _) _ _ _
  rw [if_neg (by rw [e3];exact Bool.false_ne_true)]
  refine wpAny_pure (wpAny_pure ?_)
  have hpz:t.place.size=es.size:=by
   simp only [SetTable.fits,Bool.and_eq_true,beq_iff_eq] at hf;exact hf.1
  have hg:(match es[SetTable.below t.place k']?,t.place[SetTable.below t.place k']? with | some (_,x),some j=>some (x,j+1) | _,_=>(none:Option (Value × Nat)))=(vs[i]?).map fun v=>(v,t.place.getD i 0+1):=by
   rw [e5,e6,List.getElem?_map,Array.getElem?_toList]
   cases hq:es[i]? with
   | none=>rfl
   | some q=>
    have hpl:t.place[i]?=some (t.place.getD i 0):=by
     have:=(Array.getElem?_eq_some_iff.mp hq).1
     simp [hpz,this]
    rw [hpl];rfl
  show Q (match es[SetTable.below t.place k']?,t.place[SetTable.below t.place k']? with | some (_,x),some j=>some (x,j+1) | _,_=>(none:Option (Value × Nat))) s
  rw [hg]
  refine h _ fun v hv h'=>.led _ e1 e2 e3 e4 (below_next e4 ?_) e6
  rw [e6,List.getElem?_map] at hv
  obtain ⟨q,hq,_⟩:=Option.map_eq_some_iff.mp hv
  rw [Array.getElem?_toList] at hq
  have:=(Array.getElem?_eq_some_iff.mp hq).1
  simp [hpz,this]
theorem stop_any (hh:A.handled=none) {E':Value->Shared->Prop} {P:PySem.Fin->Shared->Prop}
  (hE:∀ e h',(∀ b o,s.heap.get? b=some o->h'.get? b=some o)->Shared.TypeIs { s with heap:=h' } e "StopIteration"->E' e { s with heap:=h' }) :
  wpAny (model prog w) A.in1 (newExc (.type "StopIteration") [] >>= fun e=>(raiseNew e:Sem PySem.Fin)) P E' s:=by
 refine wpAny_bind ?_
 simp only [newExc,newTuple]
 refine wpAny_bind (wpAny_newObj_type ?_ (by size_fits))
 refine wpAny_bind (m:=firstArgMember _ _) (wpAny_of_eq (a:=Value.none) (by first | rfl | (simp only [firstArgMember];rfl)) ?_)
 refine wpAny_newObj_type ?_ (by size_fits)
 simp only [raiseNew]
 refine wpAny_bind (wpAny_handled ?_)
 rw [show A.in1.handled=none from hh]
 refine wpAny_bind (wpAny_pure (wpAny_throw ?_))
 exact hE _ _ (fun b o e=>Heap.get?_push_of_some _ (Heap.get?_push_of_some _ e)) ⟨_,Heap.get?_push_size _ rfl,rfl⟩
theorem si_next {a T I:Addr} {es:Array (Int × Value)} {ep:Nat} {t:SetTable} {vs:List Value} {i:Nat} {Q:Option Value->Shared->Prop} (hh:A.handled=none) (hI:I≠a) (hTI:T≠I) (st:SIt w a T I es ep t vs i s.heap)
  (hQ1:∀ v h',vs[i]?=some v->SIt w a T I es ep t vs (i+1) h'->Heap.SameBut I s.heap h'->Q (some v) { s with heap:=h' })
  (hQ0:∀ h',vs[i]?=none->(∀ b o,b≠I->s.heap.get? b=some o->h'.get? b=some o)->Q none { s with heap:=h' }):wpAny (model prog w) A (pyNext (.ref I)) Q E s:=by
 obtain ⟨hset,hf,hlen,first,e,M⟩:=st
 have hT:s.TypeIs (.ref I) "set_iterator":=⟨_,e,rfl⟩
 unfold pyNext
 refine wpAny_bind (wpAny_attempt (wpAny_callSpecial?_slot (name:=Str.ofString "__next__") hT slot_si_next (wpAny_call_entry slot_si_next hT entry_si_next ?_ (args_si_next _))))
 have item:∀ (v:Value) (first':Value) (h1:Heap) (R:PySem.Fin->Shared->Prop) (E':Value->Shared->Prop),vs[i]?=some v->h1.get? I=some (itObj first' i a es.size ep)->Heap.SameBut I s.heap h1->(∀ h',(∀ o,s.heap.get? T=some o->h'.get? T=some o)->Mode w a T es ep t vs (i+1) h' first')->
   (∀ h',Q (some v) { s with heap:=h' }->R (.done (.ret v)) { s with heap:=h' })->wpAny (model prog w) A.in1 (setField (.ref I) 1 (rawInt ((i:Int)+1)) >>= fun z1=>ret v) R E' { s with heap:=h1 }:=by
  intro v first' h1 R E' hv e1 sb1 M1 hR
  refine wpAny_bind (wpAny_setField (s:={ s with heap:=h1 }) e1 rfl (by simp [itObj]) ?_)
  have sb2:Heap.SameBut I s.heap (h1.update I (Obj.mapFields (·.setIfInBounds 1 (rawInt ((i:Int)+1))))):=sb1.trans (Heap.SameBut.update ..)
  refine wpAny_pure (hR _ (hQ1 v _ hv ⟨(sb2.2 a hI.symm).trans hset,hf,hlen,first',?_,M1 _ fun o q=>(sb2.2 T hTI).trans q⟩ sb2))
  rw [it_upd e1]
  rfl
 have fin:∀ (h1:Heap) (R:PySem.Fin->Shared->Prop) (E':Value->Shared->Prop),vs[i]?=none->Heap.SameBut I s.heap h1->(∀ x h',Q none { s with heap:=h' }->Shared.TypeIs { s with heap:=h' } x "StopIteration"->E' x { s with heap:=h' })->
   (∃ o f,h1.get? I=some o/\o.data=.fields f/\f.size=5)->wpAny (model prog w) A.in1 (setField (.ref I) 2 .none >>= fun z1=>newExc (.type "StopIteration") [] >>= fun e=>(raiseNew e:Sem PySem.Fin)) R E' { s with heap:=h1 }:=by
  intro h1 R E' hv sb hE ⟨o,f,e1,e2,e3⟩
  refine wpAny_bind (wpAny_setField (s:={ s with heap:=h1 }) e1 e2 (by rw [e3];decide) ?_)
  refine stop_any hh fun x h' k q=>hE x h' (hQ0 h' hv fun b o hb eb=>k b o ?_) q
  have sb2:=sb.trans (Heap.SameBut.update h1 I (Obj.mapFields (·.setIfInBounds 2 Value.none)))
  exact (sb2.2 b hb).trans eb
 have last:∀ x h',Q none { s with heap:=h' }->Shared.TypeIs { s with heap:=h' } x "StopIteration"->
   wpAny (model prog w) A (match (Except.error x:Except Value (Option Value)) with
    | .ok (some v)=>pure (some v)
    | .ok none=>unsupported "iter:the-iterator's-class-has-lost-its-__next__-amid-the-walk"
    | .error e=>do if ← isInstance e (.type "StopIteration") then pure none else throw e) Q E { s with heap:=h' }:=
  fun x h' k q=>wpAny_bind (wpAny_isInstance (T:="StopIteration") (b:=true) q isSubtype_stop (wpAny_pure k))
 unfold Builtin.«set_iterator.__next__»
 refine wpAny_bind (wpAny_pure ?_)
 refine wpAny_bind (wpAny_fieldsOf e rfl ?_)
 show wpAny _ _ (setEntries a >>= _) _ _ s
 refine wpAny_bind (wpAny_setEntries_of hset rfl hf ?_)
 rw [if_neg (by simp)]
 have go:∀ k:Nat,first=rawInt k->∀ (R:PySem.Fin->Shared->Prop) (E':Value->Shared->Prop),(∀ v h',Q (some v) { s with heap:=h' }->R (.done (.ret v)) { s with heap:=h' })->(∀ x h',Q none { s with heap:=h' }->Shared.TypeIs { s with heap:=h' } x "StopIteration"->E' x { s with heap:=h' })->
   wpAny (model prog w) A.in1 (setNext a k i ep >>= fun r=>match r with
    | some (x,next)=>setField (.ref I) 0 (rawInt next) >>= fun z1=>setField (.ref I) 1 (rawInt ((i:Int)+1)) >>= fun z1=>ret x
    | none=>setField (.ref I) 2 .none >>= fun z1=>newExc (.type "StopIteration") [] >>= fun e=>(raiseNew e:Sem PySem.Fin)) R E' s:=by
  intro k hk R E' h1 h2
  refine wpAny_bind (setNext_any hset hf (hk ▸ M) fun k' hk'=>?_)
  cases hv:vs[i]? with
  | some v=>
   refine wpAny_bind (wpAny_setField e rfl (by simp [itObj]) ?_)
   refine item v (rawInt ((k':Nat):Int)) _ R E' hv ?_ (Heap.SameBut.update ..) (fun h' z1=>hk' v hv h') (h1 v)
   rw [it_upd e];rfl
  | none=>exact fin s.heap R E' hv (Heap.SameBut.refl ..) h2 ⟨_,_,e,rfl,rfl⟩
 cases M with
 | drawn ps n hTt e1 e2=>
  clear go
  show wpAny _ _ (seqItems? (.ref T) >>= _) _ _ s
  refine wpAny_bind (wpAny_seqItems hTt rfl ?_)
  dsimp only
  have hpi:(ps.map fun p:Nat=>rawInt p).toArray[(i:Int).toNat]?=(ps[i]?).map fun p:Nat=>rawInt p:=by simp
  rw [hpi]
  cases hp:ps[i]? with
  | none=>
   refine wpAny_bind (wpAny_setField e rfl (by simp [itObj]) ?_)
   exact fin _ _ _ (by rw [e1,List.getElem?_map,hp];rfl) (Heap.SameBut.update ..) last ⟨_,_,it_upd e,rfl,rfl⟩
  | some p=>
   have hpl:=e2 p (List.mem_of_getElem? hp)
   show wpAny _ _ (setNextDrawn a (p:Int).toNat (ep:Int).toNat >>= _) _ _ s
   refine wpAny_bind ?_
   unfold setNextDrawn
   refine wpAny_bind (wpAny_setState_of hset rfl hf ?_)
   dsimp only
   rw [if_neg (by simp)]
   have hes:es[(p:Int).toNat]?=some ((es.toList.getD p (0,.none)).1,(es.toList.getD p (0,.none)).2):=by simp [hpl]
   rw [hes]
   refine wpAny_pure ?_
   exact item _ (.ref T) s.heap _ _ (by rw [e1,List.getElem?_map,hp];rfl) e (Heap.SameBut.refl I s.heap) (fun h' k=>.drawn ps n (k _ hTt) e1 e2) fun h' q=>⟨_,rfl,wpAny_pure q⟩
 | text k e1 e2=>exact go k rfl _ _ (fun v h' q=>⟨_,rfl,wpAny_pure q⟩) last
 | led k e1 e2 e3 e4 e5 e6=>exact go k rfl _ _ (fun v h' q=>⟨_,rfl,wpAny_pure q⟩) last
theorem Walks.setIt (hh:A.handled=none) {a T I:Addr} (hI:I≠a) (hTI:T≠I) {es:Array (Int × Value)} {ep:Nat} {t:SetTable} {vs:List Value} :
  Walks prog w A I [I,a,T] [I] es.size (fun i v=>vs[i]?=some v) (fun i h=>SIt w a T I es ep t vs i h) where
 sub:=fun b hb=>by simp at hb;simp [hb]
 frame:=fun i h h' st hk=>by
  obtain ⟨hset,hf,hlen,first,e,M⟩:=st
  exact ⟨hk a (by simp) _ hset,hf,hlen,first,hk I (by simp) _ e,M.at fun o q=>hk T (by simp) o q⟩
 item:=fun i s Q E hi st hQ=>si_next hh hI hTI st (fun v h' hv st' sb=>hQ v h' s.toks hv st' fun b o hb e=>(sb.2 b (fun q=>hb (by simp [q]))).trans e) fun h' hv z1=>by
  rw [List.getElem?_eq_none_iff,st.len] at hv;exact absurd hi (Nat.not_lt.mpr hv)
 done:=fun s Q E st hQ=>si_next hh hI hTI st (fun v h' hv z1 z2=>by
  have:=(List.getElem?_eq_some_iff.mp hv).1
  rw [st.len] at this;exact absurd this (Nat.lt_irrefl _)) fun h' z1 k=>hQ h' s.toks fun b o hb e=>k b o (fun q=>hb (by simp [q])) e
 self:=fun i s Q E st hQ=>pyIter_si st hQ
end
end Mine
end
section
set_option maxRecDepth 100000
namespace Mine
open PySem
section
variable {prog:Program} {w:World} {A:Around} {E:Value->Shared->Prop} {s:Shared}
theorem pyIter_set {a:Addr} {es:Array (Int × Value)} {ep:Nat} {t:SetTable} {Q:Value->Shared->Prop} (ho:s.heap.get? a=some (setObj es ep t)) (hf:t.fits es.size=true) (hz:es.size<=sizeLine)
  (hled:t.led=!(w.params.followText "set-order")) (hr:t.plain=false\/t.place.toList.Pairwise (·<·))
  (hQ:∀ I T vs h' d,I≠a->T≠I->s.heap.get? I=none->(∀ b o,s.heap.get? b=some o->h'.get? b=some o)->(T=a\/s.heap.get? T=none)->vs.Perm (es.toList.map (·.2))->SIt w a T I es ep t vs 0 h'->Q (.ref I) { s with heap:=h',drawn:=d }) :
  wpAny (model prog w) A (pyIter (.ref a)) Q E s:=by
 have hT:s.TypeIs (.ref a) "set":=⟨_,ho,rfl⟩
 have hd:(setObj es ep t).data=.set es ep t:=rfl
 have hlt:=Heap.lt_size ho
 refine wpAny_pyIter_slot hT F.slot_set_iter (wpAny_call_entry F.slot_set_iter hT entry_set_iter ?_ (F.args_set_iter_1 _))
 unfold Builtin.«frozenset.__iter__» Builtin.Frozenset.slot0 Builtin.Frozenset.sizeOf setDrawn setsByText
 refine wpAny_bind (wpAny_bind (wpAny_pure (wpAny_pure ?_)))
 refine wpAny_bind (wpAny_bind (wpAny_setEntries_of ho hd hf (wpAny_pure ?_)))
 refine wpAny_bind (wpAny_bind (wpAny_setState_of ho hd hf ?_))
 refine wpAny_bind (wpAny_bind (wpAny_askSetting (wpAny_pure ?_)))
 refine wpAny_pure ?_
 show wpAny _ _ (if (!w.params.followText "set-order" && (!t.plain && decide (es.size > 1)))=true then _ else _) _ _ _
 have none_of:∀ (h:Heap) (o:Obj) b,h.objs.size<=b->h.get? b=none:=fun h z1 b q=>Heap.get?_none_of_le q
 cases hc:(!w.params.followText "set-order" && (!t.plain && decide (es.size > 1))) with
 | true=>
  rw [if_pos rfl]
  refine wpAny_bind (draw_any es.size _ s (List.length_range ..) fun ps d hp=>?_)
  refine wpAny_bind (wpAny_newTuple ?_ (by rw [List.length_map,hp.length_eq,List.length_range];exact hz))
  have hTn:(s.heap.push { cls:=.type "tuple",data:=.seq (ps.map fun i:Nat=>rawInt i).toArray }).get? s.heap.objs.size=some { cls:=.type "tuple",data:=.seq (ps.map fun i:Nat=>rawInt i).toArray }:=Heap.get?_push_size _ rfl
  have ho2:=Heap.get?_push_of_some (h:=s.heap) { cls:=.type "tuple",data:=.seq (ps.map fun i:Nat=>rawInt i).toArray } ho
  refine wpAny_bind (wpAny_setEpoch_of (s:={ s with heap:=s.heap.push { cls:=.type "tuple",data:=.seq (ps.map fun i:Nat=>rawInt i).toArray },drawn:=d }) ho2 hd hf ?_)
  refine wpAny_bind (wpAny_newObj_type ?_)
  refine wpAny_pure ⟨_,rfl,"set_iterator",_,⟨_,Heap.get?_push_size _ rfl,rfl⟩,slot_si_next.lookup,?_⟩
  have hsz:(s.heap.push { cls:=.type "tuple",data:=.seq (ps.map fun i:Nat=>rawInt i).toArray }).objs.size=s.heap.objs.size+1:=Heap.size_push ..
  refine hQ _ s.heap.objs.size (ps.map fun p=>(es.toList.getD p (0,.none)).2) _ d ?_ ?_ ?_ (fun b o e=>Heap.get?_push_of_some _ (Heap.get?_push_of_some _ e)) (.inr (Heap.get?_none_of_le (Nat.le_refl _))) ?_ ⟨Heap.get?_push_of_some _ ho2,hf,by rw [List.length_map,hp.length_eq,List.length_range],.ref s.heap.objs.size,?_,.drawn ps 0 (Heap.get?_push_of_some _ hTn) rfl fun p hpp=>List.mem_range.mp (hp.mem_iff.mp hpp)⟩
  ·rw [hsz];exact Nat.ne_of_gt (Nat.lt_succ_of_lt hlt)
  ·rw [hsz];exact Nat.ne_of_lt (Nat.lt_succ_self _)
  ·rw [hsz];exact Heap.get?_none_of_le (Nat.le_succ _)
  ·refine (hp.map _).trans (List.Perm.of_eq ?_)
   apply List.ext_getElem
   ·simp
   ·intro i h1 h2
    simp at h1
    simp [h1]
  ·exact Heap.get?_push_size _ rfl
 | false=>
  rw [if_neg Bool.false_ne_true]
  refine wpAny_bind (wpAny_pure ?_)
  refine wpAny_bind (wpAny_setEpoch_of ho hd hf ?_)
  refine wpAny_bind (wpAny_newObj_type ?_)
  refine wpAny_pure ⟨_,rfl,"set_iterator",_,⟨_,Heap.get?_push_size _ rfl,rfl⟩,slot_si_next.lookup,?_⟩
  have key:∀ vs:List Value,vs.Perm (es.toList.map (·.2))->(∀ h',Mode w a a es ep t vs 0 h' (rawInt ((0:Nat):Int)))->Q (.ref s.heap.objs.size) { s with heap:=s.heap.push { cls:=.type "set_iterator",data:=.fields [rawInt 0,rawInt 0,.ref a,rawInt es.size,rawInt ep].toArray } }:=fun vs p M=>by
   refine hQ _ a vs _ s.drawn (Nat.ne_of_gt hlt) (Nat.ne_of_lt hlt) (Heap.get?_none_of_le (Nat.le_refl _)) (fun b o e=>Heap.get?_push_of_some _ e) (.inl rfl) p ⟨Heap.get?_push_of_some _ ho,hf,by rw [p.length_eq,List.length_map,Array.length_toList],rawInt ((0:Nat):Int),Heap.get?_push_size _ rfl,M _⟩
  cases hw:w.params.followText "set-order" with
  | true=>exact key _ ((pick_perm _ es).map (·.2)) fun h'=>.text 0 hw rfl
  | false=>
   rw [hw] at hc hled
   simp only [Bool.not_false,Bool.true_and] at hc hled
   have hs:t.place.toList.Pairwise (·<·):=hr.elim (fun q=>by
    rw [q] at hc
    simp only [Bool.not_false,Bool.true_and,decide_eq_false_iff_not] at hc
    have hpz:t.place.size=es.size:=by
     simp only [SetTable.fits,Bool.and_eq_true,beq_iff_eq] at hf;exact hf.1
    rw [List.pairwise_iff_getElem]
    intro i j hi hj hij
    simp at hi hj
    omega) id
   exact key _ (.refl _) fun h'=>.led 0 hw hc (by rw [hled];rfl) hs (below_zero hs) rfl
theorem hint_set {a:Addr} {Q:Bool->Shared->Prop} (hT:s.TypeIs (.ref a) "set") (h:Q false s):wpAny (model prog w) A (Builtin.List.listLengthHint (.ref a)) Q E s:=by
 unfold Builtin.List.listLengthHint
 refine wpAny_bind (wpAny_specialOf hT F.slot_set_len.lookup ?_)
 generalize hid:("set.__len__":String)=id0
 wp_delta
 rw [show splitId id0=some ("set","__len__") from by subst hid;decide +kernel]
 subst hid
 refine wpAny_bind (wpAny_isInstance (T:="set") (b:=true) hT (by rw [isSubtype_type];kernel_rfl) ?_)
 refine wpAny_ite_split (fun hab=>absurd hab (by decide)) (fun z1=>?_)
 refine wpAny_ite_split (fun z1=>?_) (fun hab=>absurd (by decide +kernel) hab)
 exact wpAny_bind (wpAny_typeOf hT (wpAny_pure h))
theorem hint_dict {a:Addr} {Q:Bool->Shared->Prop} (hT:s.TypeIs (.ref a) "dict") (h:Q false s):wpAny (model prog w) A (Builtin.List.listLengthHint (.ref a)) Q E s:=by
 unfold Builtin.List.listLengthHint
 refine wpAny_bind (wpAny_specialOf hT F.slot_dict_len.lookup ?_)
 generalize hid:("dict.__len__":String)=id0
 wp_delta
 rw [show splitId id0=some ("dict","__len__") from by subst hid;decide +kernel]
 subst hid
 refine wpAny_bind (wpAny_isInstance (T:="dict") (b:=true) hT (by rw [isSubtype_type];kernel_rfl) ?_)
 refine wpAny_ite_split (fun hab=>absurd hab (by decide)) (fun z1=>?_)
 refine wpAny_ite_split (fun z1=>?_) (fun hab=>absurd (by decide +kernel) hab)
 exact wpAny_bind (wpAny_typeOf hT (wpAny_pure h))
theorem collect_src {D:Addr} {T:String} (hTt:T="dict"\/T="set") (hT:∀ h',(∀ b o,s.heap.get? b=some o->h'.get? b=some o)->Shared.TypeIs { s with heap:=h' } (.ref D) T) {n:Nat} (hn:n<=sizeLine) {Good:(Nat->Value->Prop)->Prop} {Q:List Value->Shared->Prop}
  (hint:∀ (s1:Shared) (Q':Bool->Shared->Prop) (E':Value->Shared->Prop),s1.TypeIs (.ref D) T->Q' false s1->wpAny (model prog w) A.in1 (Builtin.List.listLengthHint (.ref D)) Q' E' s1)
  (iter:∀ (h1:Heap) (Q':Value->Shared->Prop) (E':Value->Shared->Prop),(∀ b o,s.heap.get? b=some o->h1.get? b=some o)->(∀ (I:Addr) (fp:List Addr) (P:Nat->Value->Prop) (St:Nat->Heap->Prop) (h2:Heap) (d:Drawn),Walks prog w A.in1 I fp [I] n P St->St 0 h2->(∀ b∈fp,(∃ o,s.heap.get? b=some o)\/h1.get? b=none)->h1.get? I=none->(∀ b o,h1.get? b=some o->h2.get? b=some o)->Good P->Q' (.ref I) { s with heap:=h2,drawn:=d })->
   wpAny (model prog w) A.in1 (pyIter (.ref D)) Q' E' { s with heap:=h1 })
  (hQ:∀ h' d tk acc P,Good P->(∀ b o,s.heap.get? b=some o->h'.get? b=some o)->ItemsOf P acc n->Q acc.toList { s with heap:=h',drawn:=d,toks:=tk }):wpAny (model prog w) A (collect (.ref D)) Q E s:=by
 unfold collect
 refine wpAny_bind (wpAny_runValue (codeAny_builtin F.entry_proto_collect ?_))
 rw [Around.under_plainId F.plain_proto_collect _]
 show wpAny _ A.in1 (newList [] >>= fun l=>again (.builtin "list.__iadd__" ⟨[l,.ref D],[]⟩)) _ _ s
 refine wpAny_bind (wpAny_newObj_type ?_)
 refine wpAny_pure ⟨plainId_quiet F.plain_list_iadd _,codeAny_builtin F.entry_list_iadd ?_⟩
 rw [Around.under_plainId F.plain_list_iadd _]
 show wpAny _ A.in1 (Builtin.List.listExtendWith (.ref s.heap.objs.size) (.ref D) (.ref s.heap.objs.size)) _ _ _
 unfold Builtin.List.listExtendWith
 have hx1:∀ b o,s.heap.get? b=some o->(s.heap.push { cls:=.type "list",data:=.seq ([]:List Value).toArray }).get? b=some o:=fun b o e=>Heap.get?_push_of_some _ e
 have hT1:=hT _ hx1
 refine wpAny_bind (wpAny_typeOf hT1 ?_)
 have hDlt:D<s.heap.objs.size:=by
  obtain ⟨o,e,_⟩:=hT s.heap fun z1 z2 e=>e
  exact Heap.lt_size e
 have h1:Builtin.List.listSameRef (.ref s.heap.objs.size) (.ref D)=false:=beq_eq_false_iff_ne.mpr (Nat.ne_of_gt hDlt)
 have h2:(Value.type T == Value.type "list")=false/\(Value.type T == Value.type "tuple")=false:=by rcases hTt with rfl | rfl <;> decide
 simp only [h1,h2.1,h2.2,Bool.or_false,Bool.false_eq_true,if_false]
 refine wpAny_bind (iter _ _ _ hx1 fun I fp P St h2 d W st hfp hI hx2 good=>?_)
 have hx12:∀ b o,s.heap.get? b=some o->h2.get? b=some o:=fun b o e=>hx2 b o (hx1 b o e)
 refine wpAny_bind (wpAny_holding (hint { s with heap:=h2,drawn:=d } _ _ ?_ ?_))
 ·obtain ⟨o,e,c⟩:=hT h2 hx12
  exact ⟨o,e,c⟩
 have hS0:(s.heap.push { cls:=.type "list",data:=.seq ([]:List Value).toArray }).get? s.heap.objs.size=some { cls:=.type "list",data:=.seq ([]:List Value).toArray }:=Heap.get?_push_size _ rfl
 have hS₁:=hx2 _ _ hS0
 have hSf:s.heap.objs.size∉fp:=fun hm=>by
  rcases hfp _ hm with ⟨o,e⟩ | e
  ·exact absurd (Heap.lt_size e) (Nat.lt_irrefl _)
  ·rw [hS0] at e;cases e
 have hSI:s.heap.objs.size≠I:=fun q=>by rw [q] at hS0;rw [hS0] at hI;cases hI
 have hany:(["set","frozenset","dict","dict_keys","dict_values","dict_items"].any fun x=>Value.type T == Value.type x)=true:=by rcases hTt with rfl | rfl <;> decide
 show wpAny _ A.in1 (if (false || (["set","frozenset","dict","dict_keys","dict_values","dict_items"].any fun x=>Value.type T == Value.type x))=true then _ else _) _ _ _
 rw [if_pos (by rw [hany];rfl)]
 refine wpAny_bind (wpAny_rule ?_)
 refine wpAny_bind ?_
 show wpAny _ A.in1 (updateSeq s.heap.objs.size (·.push .none) >>= fun z1=>updateSeq s.heap.objs.size (·.pop)) _ _ _
 refine wpAny_bind (wpAny_updateSeq hS₁ rfl ?_)
 have hS₂:=Heap.get?_update_self (Obj.mapSeq (·.push Value.none)) hS₁ rfl
 refine wpAny_updateSeq hS₂ rfl ?_
 have hS₃:=Heap.get?_update_self (Obj.mapSeq (·.pop)) hS₂ rfl
 have oth:∀ b o,b≠s.heap.objs.size->h2.get? b=some o->((h2.update s.heap.objs.size (Obj.mapSeq (·.push Value.none))).update s.heap.objs.size (Obj.mapSeq (·.pop))).get? b=some o:=
  fun b o hb e=>(Heap.get?_update_other _ _ (Ne.symm hb)).trans ((Heap.get?_update_other _ _ (Ne.symm hb)).trans e)
 refine wpAny_pure ⟨plainId_quiet F.plain_extend_loop _,codeAny_extend_loopS W.toS hn _ hSf _ n 0 _ _ _ rfl (Nat.zero_le _) (W.frame 0 h2 _ st fun b hb o e=>oth b o (fun h=>hSf (h ▸ hb)) e) hS₃ (ItemsOf.nil P) fun s' acc' c' hm hS' hacc=>?_⟩
 show wpAny _ A (load s.heap.objs.size >>= _) _ _ s'
 refine wpAny_bind (wpAny_load hS' ?_)
 obtain ⟨h',g',d',tk',os'⟩:=s'
 have eg:g'=s.gens:=hm.gens
 have eo:os'=s.os:=hm.os
 subst eg;subst eo
 refine wpAny_pure (hQ h' d' tk' acc' P good (fun b o e=>?_) hacc)
 have hb1:b≠s.heap.objs.size:=Nat.ne_of_lt (Heap.lt_size e)
 refine hm.heap b o (by
  simp only [List.mem_cons,List.not_mem_nil,or_false,not_or]
  exact ⟨hb1,fun q=>by rw [← q,hx1 b o e] at hI;cases hI⟩) (oth b o hb1 (hx12 b o e))
end
end Mine
end
section
set_option maxRecDepth 100000
namespace Mine
open PySem PyProof.Rows
variable {c:Cx} {d:Nat} {sc:Scope} {m:AEnv} {σ:Led} {P:V->Led->Prop} {X:XP} {K:Fl->AEnv->Led->Prop}
theorem Call_sorted_setI (hh:c.k.hd=true) {ks:List Int} (hks:ks.length<Tim.sortLid) (h:∀ ys:List Int,ys.Perm ks->(ys.Pairwise fun a b=>a<=b)->P (.lst (ys.map .int)) σ) :
  CallS c d (.builtin "sorted") [.set (!(c.k.w.params.followText "set-order")) (ks.map .int)] σ P X:=by
 intro A s E cs hA st rs _
 obtain ⟨x,rfl,r⟩:=rs.un1
 simp only [VRel] at r
 obtain ⟨a,es,ep,t,rfl,ha,ho,⟨q1,q2,q3,q4⟩,rs⟩:=r
 refine sorted_ints (xs:=ks) st hks (fun Q' E' hq=>?_) h
 refine collect_src (D:=a) (T:="set") (n:=es.size) (Good:=fun P=>∃ vs:List Value,vs.Perm (es.toList.map (·.2))/\P=fun i v=>vs[i]?=some v) (.inr rfl) (fun h' hx=>⟨_,hx _ _ ho,rfl⟩) q2 (fun s1 Q1 E1 hT q=>hint_set hT q) (fun h1 Q1 E1 hx k=>?_) (fun h' d tk acc P' hg hx hacc=>?_)
 ·refine pyIter_set (s:={ s with heap:=h1 }) (hx _ _ ho) q1 q2 q3 q4 fun I T vs h' d hI hTI hn hx2 hT hp S=>?_
  refine k I [I,a,T] (fun i v=>vs[i]?=some v) _ h' d (Walks.setIt (by simp [hA.handled hh]) hI hTI) S (fun b hb=>?_) hn hx2 ⟨vs,hp,rfl⟩
  simp only [List.mem_cons,List.not_mem_nil,or_false] at hb
  rcases hb with rfl | rfl | rfl
  ·exact .inr hn
  ·exact .inl ⟨_,ho⟩
  ·rcases hT with rfl | hT
   ·exact .inl ⟨_,ho⟩
   ·exact .inr hT
 ·obtain ⟨vs,hp,rfl⟩:=hg
  have hv:acc.toList=vs:=by
   apply List.ext_getElem?
   intro i
   have hlen:vs.length=es.size:=by rw [hp.length_eq,List.length_map,Array.length_toList]
   rw [Array.getElem?_toList]
   cases e:acc[i]? with
   | some v=>exact (hacc.2 i v e).symm
   | none=>
    rw [Array.getElem?_eq_none_iff,hacc.1] at e
    rw [List.getElem?_eq_none (by rw [hlen];exact e)]
  obtain ⟨us,hu,hr⟩:=VRels.perm hp rs
  rw [hv]
  exact hq h' d tk vs us hx hu (VRels.mono (Ext.kept hx) .refl _ _ hr)
theorem Call_set_int (hh:c.k.hd=true) {xs:List Int} {lv:V} (hl:IsLst σ lv (xs.map .int)) (hz:xs.length<=1000) (h:∀ ks:List Int,ks.Nodup->(∀ k,k∈ks ↔ k∈xs)->P (.set (!(c.k.w.params.followText "set-order")) (ks.map .int)) σ):CallS c d (.type "set") [lv] σ P X:=by
 intro A s E cs hA st rs _
 obtain ⟨x,rfl,r⟩:=rs.un1
 have hq:=hl.plain st r
 (try clear rs)
 obtain ⟨a,vs,rfl,p,hsz,rs⟩:=hq
 have hlen:=rs.length
 rw [List.length_map] at hlen
 have hat:∀ i v,vs.toArray[i]?=some v->∃ t,v=.int (xs.getD i 0) t/\i<xs.length:=fun i v e=>by
  have hi:i<xs.length:=by
   rw [List.getElem?_toArray] at e
   rw [← hlen];exact (List.getElem?_eq_some_iff.mp e).1
  obtain ⟨cb,hcb,rb⟩:=rs.get (i:=i) (v:=.int xs[i]) (by simp [hi])
  rw [List.getElem?_toArray,hcb] at e
  cases e
  simp only [VRel] at rb
  obtain ⟨t,rfl⟩:=rb
  exact ⟨t,by simp [hi],hi⟩
 refine call_set (knd:=PySem.intKind c.k.prog c.k.w) (fun i=>xs.getD i 0) (hA.handled hh) p.isList (fun i v e=>?_) (by rw [List.size_toArray,hlen];unfold scanBound;omega) fun h' tk kvs hS hq hx=>?_
 ·obtain ⟨t,rfl,_⟩:=hat i v e
  exact ⟨intKind_is _ _ _ t,rfl⟩
 obtain ⟨es,ep,t,ho,S⟩:=hS
 have hno:s.heap.objs.size∉ownS c σ:=st.newS
 have hmem:∀ k,k∈kvs.map (·.1) ↔ k∈xs:=fun k=>by
  rw [hq k,List.size_toArray,hlen]
  constructor
  ·rintro ⟨j,hj,rfl⟩
   exact List.mem_of_getElem? (i:=j) (by simp [hj])
  ·intro hk
   obtain ⟨j,hj,rfl⟩:=List.mem_iff_getElem.mp hk
   exact ⟨j,hj,by simp [hj]⟩
 refine ⟨_,σ,h (kvs.map (·.1)) S.nodup hmem,.ext hx rfl rfl,st.ext hx,?_⟩
 simp only [VRel]
 refine ⟨_,es,ep,t,rfl,hno,ho,⟨S.fits,fits_of_scanBound S.size,S.led,?_⟩,?_⟩
 ·exact .inr S.rise
 ·rw [S.ent,List.map_map]
  have hk:=S.is
  clear S hmem hq ho
  induction kvs with
  | nil=>rfl
  | cons kv kvs ih=>
   simp only [List.map_cons,VRels]
   refine ⟨_,_,rfl,?_,ih fun kv' q=>hk kv' (.tail _ q)⟩
   have:=(hk kv (.head _)).1
   show VRel _ _ (.int kv.1) kv.2
   simp only [VRel]
   exact Value.isInt_shape this
theorem zbz (hh:c.k.hd=true) {a:Addr} {kvs:List (Int × V)} (hl:σ.lookup a=some (.dictI kvs)) (hz:kvs.length<Tim.sortLid) (h:∀ ys:List Int,ys.Perm (kvs.map (·.1))->(ys.Pairwise fun a b=>a<=b)->P (.lst (ys.map .int)) σ) :
  CallS c d (.builtin "sorted") [.ref a] σ P X:=by
 intro A s E cs hA st rs _
 obtain ⟨x,rfl,r⟩:=rs.un1
 simp only [VRel] at r
 subst r
 obtain ⟨cs,hs,p,e,rs⟩:=st.objs _ _ (zaa hl)
 obtain ⟨ep,hD⟩:∃ ep,s.heap.DictAt (PySem.intKind c.k.prog c.k.w) a cs ep:=by
  obtain ⟨o,es,ep,q⟩:=p
  exact ⟨ep,o,es,q⟩
 have hlen:cs.length=kvs.length:=by rw [← List.length_map (f:=fun x:Int × Value=>x.1),e,List.length_map]
 refine sorted_ints (xs:=kvs.map (·.1)) st (by rw [List.length_map];exact hz) (fun Q' E' hq=>?_) h
 refine collect_src (D:=a) (T:="dict") (n:=cs.length) (Good:=fun P=>P=fun i v=>∃ k x,cs[i]?=some (k,x)/\(PySem.intKind c.k.prog c.k.w).is k v=true) (.inl rfl) (fun h' hx=>?_) (by rw [hlen];exact Tim.line hz) (fun s1 Q1 E1 hT q=>hint_dict hT q) (fun h1 Q1 E1 hx k=>?_) (fun h' d tk acc P' hg hx hacc=>?_)
 ·obtain ⟨o,es,ho,hc,_⟩:=hD
  exact ⟨o,hx _ _ ho,hc.1⟩
 ·have hD1:=hD.at' (h':=h1) fun o e=>hx _ _ e
  refine wpAny_pyIter_dict (s:={ s with heap:=h1 }) hs hD1 ?_
  have hne:a≠h1.objs.size:=Nat.ne_of_lt hD1.lt_size
  refine k h1.objs.size [h1.objs.size,a] _ _ _ s.drawn (Walks.dictKeys (knd:=PySem.intKind c.k.prog c.k.w) (by simp [hA.handled hh]) _ a hne cs ep) ⟨⟨_,Heap.get?_push_size _ rfl,rfl,rfl⟩,hD1.push _⟩ (fun b hb=>?_) (Heap.get?_none_of_le (Nat.le_refl _)) (fun b o e=>Heap.get?_push_of_some _ e) rfl
  simp only [List.mem_cons,List.not_mem_nil,or_false] at hb
  rcases hb with rfl | rfl
  ·exact .inr (Heap.get?_none_of_le (Nat.le_refl _))
  ·obtain ⟨o,es,ho,_⟩:=hD
   exact .inl ⟨o,ho⟩
 ·subst hg
  refine hq h' d tk acc.toList (kvs.map (·.1)) hx (.refl _) ?_
  rw [← e]
  have key:∀ (n:Nat) (cs:List (Int × Value)) (l:List Value),l.length=cs.length->(∀ (j:Nat) v,l[j]?=some v->∃ k x,cs[j]?=some (k,x)/\(PySem.intKind c.k.prog c.k.w).is k v=true)->VRels h' (ownS c σ) ((cs.map (·.1)).map .int) l:=by
   intro n cs
   induction cs with
   | nil=>intro l hl _;rw [List.eq_nil_of_length_eq_zero hl];rfl
   | cons kv cs ih=>
    intro l hl hk
    cases l with
    | nil=>cases hl
    | cons v l=>
     simp only [List.map_cons,VRels]
     refine ⟨v,l,rfl,?_,ih l (Nat.succ.inj hl) fun j v' e=>hk (j+1) v' e⟩
     obtain ⟨k,x,e,q⟩:=hk 0 v rfl
     cases e
     simp only [VRel]
     exact Value.isInt_shape q
  exact key 0 cs acc.toList (by rw [Array.length_toList,hacc.1]) fun j v e=>hacc.2 j v (by rw [← Array.getElem?_toList];exact e)
end Mine
end
section
set_option maxRecDepth 100000
namespace Mine
open PySem
variable {c:Cx} {d:Nat} {sc:Scope} {m:AEnv} {σ:Led} {P:V->Led->Prop} {X:XP}
theorem dict_at {A:Around} {h:Heap} {a:Addr} {kvs:List (Int × V)} (st:St c A σ h) (hl:σ.lookup a=some (.dictI kvs)):DictR c.k (intKind c.k.prog c.k.w) h (ownS c σ) a kvs:=st.objs _ _ (zaa hl)
theorem vals_at {κ:Type} [BEq κ] [LawfulBEq κ] [DecidableEq κ] {h:Heap} {own:List Addr} {i:κ} {v:V}:∀ {kvs:List (κ × V)} {cs:List (κ × Value)},cs.map (·.1)=kvs.map (·.1)->VRels h own (kvs.map (·.2)) (cs.map (·.2))->kvs.lookup i=some v->∃ cv,valueAt cs i=some cv/\VRel h own v cv
 | [],_,_,_,h=>by cases h
 | (k,w)::kvs,[],e,_,_=>by cases e
 | (k,w)::kvs,(k',cw)::cs,e,r,h=>by
  simp only [List.map_cons,List.cons.injEq] at e
  obtain ⟨rfl,e⟩:=e
  simp only [List.map_cons,VRels] at r
  obtain ⟨_,_,e2,r1,rs⟩:=r
  simp only [List.cons.injEq] at e2
  obtain ⟨rfl,rfl⟩:=e2
  rw [List.lookup_cons] at h
  unfold valueAt
  cases q:i == k' with
  | true=>
   rw [q] at h;cases h
   have:i=k':=eq_of_beq q
   exact ⟨cw,by simp [this],r1⟩
  | false=>
   rw [q] at h
   obtain ⟨cv,h1,h2⟩:=vals_at e rs h
   refine ⟨cv,?_,h2⟩
   unfold valueAt at h1
   have:¬ k'=i:=fun z=>by rw [z,beq_self_eq_true] at q;cases q
   rw [List.find?_cons]
   simp only [this,decide_false]
   exact h1
theorem Op_ditemD {κ:Type} [BEq κ] [LawfulBEq κ] [DecidableEq κ] {knd:KeyKind c.k.prog c.k.w κ} {mk:List (κ × V)->O} {kv:κ->V} (D:DK c knd mk kv) {v slice:Expr} {a:Addr} {kvs:List (κ × V)} {i:κ} {w:V} (hl:σ.lookup a=some (mk kvs)) (hw:kvs.lookup i=some w) (h:P w σ) (hi:za4 slice):Op2 c d (PyProof.Rows.subscriptTail v slice) (.ref a) (kv i) σ P:=by
 intro A s E co ci hA st ro ri
 simp only [VRel] at ro;subst ro
 have hr:=st.objs _ _ (zaa hl)
 rw [D.rel] at hr
 obtain ⟨cs,hs,p,e,rs⟩:=hr
 obtain ⟨cw,h1,h2⟩:=vals_at e rs hw
 refine PyProof.Rows.tail_any (T:="dict") p.typeIs PySem.F.slot_dict_getitem.lookup ?_ (hi _ _)
 exact wpAny_getItem_of (D.key _ _ _ _ ri) p.mapOf h1 (Post.same st h h2)
theorem Op_ditem {v slice:Expr} {a:Addr} {kvs:List (Int × V)} {i:Int} {w:V} (hl:σ.lookup a=some (.dictI kvs)) (hw:kvs.lookup i=some w) (h:P w σ) (hi:za4 slice):Op2 c d (PyProof.Rows.subscriptTail v slice) (.ref a) (.int i) σ P:=Op_ditemD DK.int hl hw h hi
theorem Cmp_notIn_dict {a:Addr} {kvs:List (Int × V)} {i:Int} (hl:σ.lookup a=some (.dictI kvs)) (h:P (.bool (!(kvs.any fun kv=>decide (kv.1=i)))) σ):Op2 c d (compareOp .NotIn) (.int i) (.ref a) σ P:=by
 intro A s E ci co hA st ri ro
 simp only [VRel] at ro;subst ro
 obtain ⟨cs,hs,p,e,rs⟩:=dict_at st hl
 have hk:(intKind c.k.prog c.k.w).is i ci=true:=by simp only [VRel] at ri;obtain ⟨t,rfl⟩:=ri;exact intKind_is _ _ i t
 refine wpAny_notIn_of hk hs p.mapOf ?_
 have hv:(valueAt cs i).isSome=kvs.any fun kv=>decide (kv.1=i):=by
  rw [← any_keys e i];unfold valueAt
  rw [Option.isSome_map,Bool.eq_iff_iff,List.find?_isSome,List.any_eq_true]
 have hv':(valueAt cs i).isNone=!(kvs.any fun kv=>decide (kv.1=i)):=by rw [← hv];cases valueAt cs i <;> rfl
 first
 | (rw [hv'];exact ⟨_,σ,h,.toks,st,by simp only [VRel]⟩)
 | (rw [hv];exact ⟨_,σ,h,.toks,st,by simp only [VRel]⟩)
theorem Call_len_dictI {a:Addr} {kvs:List (Int × V)} (hl:σ.lookup a=some (.dictI kvs)) (hz:kvs.length<=1000) (h:P (.int kvs.length) σ):CallS c d (.builtin "len") [.ref a] σ P X:=by
 intro A s E cs hA st rs _
 obtain ⟨x,rfl,r⟩:=rs.un1
 simp only [VRel] at r;subst r
 obtain ⟨cs,hs,p,e,rs⟩:=dict_at st hl
 have hlen:cs.length=kvs.length:=by rw [← List.length_map (f:=fun x:Int × Value=>x.1),e,List.length_map]
 refine call_len_dict hs p (by rw [hlen];omega) ?_
 rw [hlen]
 exact Post.same st h (by simp only [VRel];exact ⟨_,rfl⟩)
theorem Meth_dpop {a:Addr} {kvs:List (Int × V)} (hl:σ.lookup a=some (.dictI kvs)):Meth c σ (.ref a) "pop" "dict" "dict.pop":=by
 refine ⟨PySem.F.plainAttrs_dict,PySem.F.slot_dict_pop,PySem.F.type_dict_pop,fun A s cv st r=>?_⟩
 simp only [VRel] at r;subst r
 obtain ⟨cs,hs,p,e,rs⟩:=dict_at st hl
 refine ⟨p.typeIs,fun b q=>?_⟩
 cases q
 obtain ⟨o,es,ep,ho,hc,_⟩:=p
 exact ⟨o,ho,hc.2.1⟩
noncomputable def dropK (i:Int) (kvs:List (Int × V)):List (Int × V):=kvs.filter fun kv=>decide (kv.1≠i)
theorem drop_rel {h:Heap} {own:List Addr} {i:Int}:∀ {kvs:List (Int × V)} {cs:List (Int × Value)},cs.map (·.1)=kvs.map (·.1)->VRels h own (kvs.map (·.2)) (cs.map (·.2))->
  (without cs i).map (·.1)=(dropK i kvs).map (·.1)/\VRels h own ((dropK i kvs).map (·.2)) ((without cs i).map (·.2))
 | [],[],_,_=>⟨rfl,rfl⟩
 | [],_::_,e,_=>by cases e
 | _::_,[],e,_=>by cases e
 | (k,w)::kvs,(k',cw)::cs,e,r=>by
  simp only [List.map_cons,List.cons.injEq] at e
  obtain ⟨rfl,e⟩:=e
  simp only [List.map_cons,VRels] at r
  obtain ⟨_,_,e2,r1,rs⟩:=r
  simp only [List.cons.injEq] at e2
  obtain ⟨rfl,rfl⟩:=e2
  obtain ⟨h1,h2⟩:=drop_rel (i:=i) e rs
  unfold without dropK at h1 h2 ⊢
  rw [List.filter_cons,List.filter_cons]
  by_cases q:k'=i
  ·simp only [q,ne_eq,not_true_eq_false,decide_false,Bool.false_eq_true,if_false]
   exact ⟨h1,h2⟩
  ·simp only [q,ne_eq,not_false_eq_true,decide_true,if_true]
   exact ⟨by rw [List.map_cons,List.map_cons,h1],by simp only [List.map_cons,VRels];exact ⟨_,_,rfl,r1,h2⟩⟩
theorem Call_dpop {a:Addr} {kvs:List (Int × V)} {i:Int} {v:V} (hl:σ.lookup a=some (.dictI kvs)) (hF:a∉c.F) (hz:kvs.length<=1000) (hv:kvs.lookup i=some v) (h:P v (upd a (.dictI (dropK i kvs)) σ)):CallS c d (.builtin "dict.pop") [.ref a,.int i] σ P X:=by
 intro A s E cs hA st rs _
 obtain ⟨x,y,rfl,r1,r2⟩:=rs.un2
 simp only [VRel] at r1 r2;subst r1
 obtain ⟨t,rfl⟩:=r2
 obtain ⟨cs,hs,p,e,rs⟩:=dict_at st hl
 have hlen:cs.length=kvs.length:=by rw [← List.length_map (f:=fun x:Int × Value=>x.1),e,List.length_map]
 obtain ⟨cv,h1,h2⟩:=vals_at e rs hv
 refine call_meetsIn PySem.F.slot_dict_pop p.typeIs PySem.F.entry_dict_pop (PySem.F.args_dict_pop_2 _ _) (meets_dict_pop_there (intKind c.k.prog c.k.w) a (intKind_is _ _ i t) [] (.inl rfl) rfl) ⟨cs,cv,p,by rw [hlen,sizeLine_eq];omega,h1,fun h' p' k=>?_⟩
 have k':=SameBut.but k
 have haS:a∈ownS c σ:=List.mem_append_right _ (zap hl)
 obtain ⟨q1,q2⟩:=drop_rel (i:=i) e rs
 have hr:ORel c.k h' (ownS c σ) a (.dictI (dropK i kvs)):=⟨_,hs,p',q1,q2.carry (But.carriesHid haS k')⟩
 refine ⟨v,_,h,.upd hl rfl hF (p'.elim fun z1 q=>q.elim fun z1 q=>q.elim fun z1 q=>⟨_,q.1⟩) k',st.updO hl (O.self _ _) rfl k' hr,?_⟩
 have:ownS c (upd a (.dictI (dropK i kvs)) σ)=ownS c σ:=by unfold ownS;rw [owned_upd (o:=.dictI kvs) (o':=.dictI (dropK i kvs)) rfl hl]
 rw [this]
 exact h2.carry (But.carriesHid haS k')
theorem Iter_dict {a:Addr} {kvs:List (Int × V)} (hl:σ.lookup a=some (.dictI kvs)) (hF:a∈c.F) (hz:kvs.length<=1000):IterS c σ (.ref a) (kvs.map fun kv=>.int kv.1):=by
 intro A s E cv hh st r
 simp only [VRel] at r;subst r
 obtain ⟨cs,hs,p,e,rs⟩:=dict_at st hl
 obtain ⟨ep,hD⟩:∃ ep,s.heap.DictAt (intKind c.k.prog c.k.w) a cs ep:=by
  obtain ⟨o,es,ep,q⟩:=p
  exact ⟨ep,o,es,q⟩
 have hlen:cs.length=kvs.length:=by rw [← List.length_map (f:=fun x:Int × Value=>x.1),e,List.length_map]
 have hne:a≠s.heap.objs.size:=Nat.ne_of_lt hD.lt_size
 have W:=Walks.dictKeys (knd:=intKind c.k.prog c.k.w) hh s.heap.objs.size a hne cs ep
 refine wpAny_pyIter_dict hs hD ⟨_,[s.heap.objs.size,a],[s.heap.objs.size],(fun i v=>∃ k x,cs[i]?=some (k,x)/\(intKind c.k.prog c.k.w).is k v=true),(fun i h=>h.IsKeyIter s.heap.objs.size a i cs.length ep/\h.DictAt (intKind c.k.prog c.k.w) a cs ep),rfl,⟨by rw [List.length_map,← hlen];exact W,by rw [List.length_map,sizeLine_eq];omega,⟨⟨_,Heap.get?_push_size _ rfl,rfl,rfl⟩,hD.push _⟩,.push _,fun b hb=>?_,fun i h hst b hb=>?_,fun i h hst=>?_,fun b hb=>?_,fun h' own' k i v x hv hx=>?_⟩,rfl,rfl⟩
 ·rw [List.mem_singleton.mp hb];exact get?_size _
 ·rw [List.mem_singleton.mp hb]
  obtain ⟨⟨o,ho,hc,hd⟩,_⟩:=hst
  exact ⟨o,ho,⟨_,hd⟩,by rw [hc];decide⟩
 ·obtain ⟨⟨o,ho,hc,hd⟩,_⟩:=hst
  exact ⟨o,ho,.of hc (by decide)⟩
 ·rcases List.mem_cons.mp hb with q | q
  ·left;rw [q];exact .head _
  ·right;left
   rw [List.mem_singleton.mp q];exact hF
 ·obtain ⟨ky,y,hy,hk⟩:=hx
  rw [List.getElem?_map] at hv
  have h1:(cs.map (·.1))[i]?=some ky:=by rw [List.getElem?_map,hy];rfl
  rw [e,List.getElem?_map] at h1
  cases z:kvs[i]? with
  | none=>rw [z] at hv;cases hv
  | some kv=>
   rw [z] at hv h1
   cases hv;cases h1
   simp only [VRel]
   exact Value.isInt_shape hk
section
variable {prog:Program} {w:World} {A:Around} {E:Value->Shared->Prop} {h:Heap} {g:Array GenState} {dr:Drawn} {t:Nat} {os:OsState}
variable {nm q:Str} {C N:Addr} {bs:List Value} {sn:List Str} {sub:List Value} {col:Option Bool} {dd:Option Addr} {k0 k1 k2 k3 k5:Option Value}
noncomputable def newI (h:Heap) (C:Addr):Heap:=(h.push { cls:=.type "dict",data:=.dict #[] }).push { cls:=.ref C,dict:=some h.objs.size,data:=.plain }
theorem newI_keeps {h:Heap} {C:Addr}:Ext h (newI h C):=fun b o e=>Heap.get?_push_of_some _ (Heap.get?_push_of_some _ e)
theorem call_newI {mN:Str->Option Value} {fI:Addr} {oI:Obj} {Q:Value->Shared->Prop}
  (hC:h.get? C=some (excClassObj nm q C N bs [.type "object"] true sn sub false col dd k0 k1 k2 k3 k5 "object.__new__")) (hn:h.Ns N mN) (hi:mN "__init__"=some (.ref fI)) (hfI:h.get? fI=some oI) (hfc:oI.cls=.type "function")
  (hq:wpAny (model prog w) (A.under (.builtin "type.__call__" ⟨[.ref C],[]⟩)) (call (.ref fI) [.ref (h.objs.size+1)]) (fun r s'=>r=.none/\Q (.ref (h.objs.size+1)) s') E ⟨newI h C,g,dr,t,os⟩) :
  wpAny (model prog w) A (call (.ref C) []) Q E ⟨h,g,dr,t,os⟩:=by
 have f1:=tc_lookup
 have f2:=tc_bind (.ref C)
 have hT:(⟨h,g,dr,t,os⟩:Shared).TypeIs (.ref C) "type":=⟨_,hC,rfl⟩
 have hmro:mroOf (.type "object")=pure [.type "object"]:=by kernel_rfl
 have hlk:typeLookup (.type "object") "__init__"=pure (some (.builtin "object.__init__")):=by rw [typeLookup_type,builtinLookup_eq_fast];kernel_rfl
 refine wpAny_call (codeAny_of_tree ?_)
 show wpAny _ _ (callAny (.ref C) _) _ _ _
 repeat (any_goals (first | assumption | with_reducible refine wpAny_loadPart_at hC ?_ | wp_step))
 refine ⟨rfl,?_⟩
 refine codeAny_call_builtin_at (Code.quiet_builtin _ (by decide +kernel)) entry_typeCall (wpAny_check_type_call_sub hC ?_)
 repeat (first | with_reducible refine wpAny_loadPart_at hC ?_ | with_reducible refine wpAny_madeBy_exc hC ?_ | wp_step)
 refine codeAny_call_builtin_code (Code.quiet_builtin _ PySem.F.objNew.quiet) (wpAny_check_obj_new PySem.F.objNew hC ?_)
 refine codeAny_obj_new PySem.F.objNew hC hn hi ?_
 show wpAny _ _ _ _ _ _
 have hC₁:=newI_keeps (C:=C) _ _ hC
 have hfI₁:=newI_keeps (C:=C) _ _ hfI
 have hn₁:(newI h C).Ns N mN:=let ⟨o,es,ep,e,r⟩:=hn;⟨o,es,ep,newI_keeps _ _ e,r⟩
 have hget:(newI h C).get? (h.objs.size+1)=some { cls:=.ref C,dict:=some h.objs.size,data:=.plain }:=by unfold newI;heap_get
 have hcC:(Value.ref C::[Value.type "object"]).contains (.ref C)=true:=by simp
 change wpAny _ _ _ _ _ ⟨newI h C,g,dr,t,os⟩
 unfold isInstance
 repeat (first | with_reducible refine wpAny_loadPart_at hget ?_ | (with_reducible refine wpAny_isSubtype_exc hC₁ ?_;rw [hcC]) | wp_step)
 show wpAny _ _ (typeLookup (.ref C) _) _ _ _
 refine wpAny_typeLookup_exc hC₁ hn₁ hmro hlk ?_
 rw [hi]
 refine wpAny_holding (wpAny_bind ?_)
 unfold bindSpecial
 refine wpAny_bind (wpAny_typeOf (T:="function") ⟨_,hfI₁,hfc⟩ ?_)
 rw [if_pos (by decide)]
 refine wpAny_pure (wpAny_bind (wpAny_mono hq (fun r s' hr=>?_) fun z1 z2 x=>x))
 obtain ⟨rfl,hQ⟩:=hr
 wp_walk
 exact hQ
end
theorem St.under {A A':Around} {h:Heap} (st:St c A σ h) (e:A'.frames=A.frames):St c A' σ h:=
 ⟨st.keep,st.nodup,st.fresh,st.objs,by rw [e];exact st.frames,st.prot,st.hid⟩
theorem Call_new {C N fI:Addr} {mN:Str->Option Value} {oI:Obj} (K:Cls c.k C N mN) (hi:mN "__init__"=some (.ref fI)) (hfI:c.k.h0.get? fI=some oI) (hfc:oI.cls=.type "function")
  (h:∀ a dd,a∉owned σ->dd∉owned σ->a∉c.F->dd∉c.F->a≠dd->CallS c d (.ref fI) [.ref a] ((a,.inst C dd [])::σ) (fun v σ'=>v=.none/\P (.ref a) σ') X):CallS c (d+1) (.ref C) [] σ P X:=by
 intro A s E cs hA st rs hX
 simp only [VRels] at rs;subst rs
 obtain ⟨hh,g,dr,t,os⟩:=s
 obtain ⟨nm,q,bs,sn,sub,col,dd',k0,k1,k2,k3,k5,hC⟩:=ClsQ.of (K.at_.keeps st.keep)
 have hn1:hh.get? (hh.objs.size+1)=none:=Heap.get?_none_of_le (Nat.le_succ _)
 have hn0:hh.get? hh.objs.size=none:=Heap.get?_none_of_le (Nat.le_refl _)
 have hne:hh.objs.size+1≠hh.objs.size:=Nat.succ_ne_self _
 have hgx:(newI hh C).get? (hh.objs.size+1)=some { cls:=.ref C,dict:=some hh.objs.size,data:=.plain }:=by unfold newI;heap_get
 have hgd:(newI hh C).get? hh.objs.size=some { cls:=.type "dict",data:=.dict #[] }:=Heap.get?_push_of_some _ (Heap.get?_push_at rfl rfl)
 have hns:(newI hh C).Ns1 hh.objs.size fun z1=>none:=Heap.Ns1.of_empty ⟨_,#[],_,hgd,rfl,fun e he=>absurd he (by simp),fun z1=>rfl⟩
 have hnew:∀ b∈(O.inst C hh.objs.size []).addrs (hh.objs.size+1),hh.get? b=none:=fun b hb=>by
  simp only [O.addrs,List.mem_cons,List.not_mem_nil,or_false] at hb
  rcases hb with rfl | rfl
  ·exact hn1
  ·exact hn0
 have st₁:St c A ((hh.objs.size+1,.inst C hh.objs.size [])::σ) (newI hh C):=st.alloc newI_keeps hnew (by simp [O.addrs]) ⟨_,_,hgx,rfl,rfl,rfl,Ne.symm hne,hns,(fun x v e=>by cases e),fun z1 z2=>rfl⟩
 have t₁:Step c.F (owned σ) (owned ((hh.objs.size+1,.inst C hh.objs.size [])::σ)) ⟨hh,g,dr,t,os⟩ ⟨newI hh C,g,dr,t,os⟩:=
  ⟨newI_keeps.kept,fun b o e=>⟨o,newI_keeps b o e⟩,fun b z1 o e=>newI_keeps b o e,.alloc hnew,rfl,rfl⟩
 refine call_newI hC (K.at_.keeps st.keep).ns hi (st.keep _ _ hfI) hfc ?_
 have hfr:(A.under (.builtin "type.__call__" ⟨[.ref C],[]⟩)).frames=A.frames:=by
  obtain ⟨f1,f2,f3,f4,f5⟩:=A
  cases f3 <;> rfl
 have hA':AOk c.k d (A.under (.builtin "type.__call__" ⟨[.ref C],[]⟩)):=by
  refine ⟨hA.handled,?_,?_,?_⟩
  ·have:=hA.depth
   show A.depth+1+d<900
   omega
  ·have:=hA.units
   have hu:(A.under (.builtin "type.__call__" ⟨[.ref C],[]⟩)).units=A.units+1:=rfl
   rw [hu]
   omega
  ·have:=hA.le;omega
 refine wpAny_mono (h _ _ (st.noO hn1) (st.noO hn0) (st.noF hn1) (st.noF hn0) hne _ _ E [.ref (hh.objs.size+1)] hA' (st₁.under hfr) (by simp only [VRels,VRel];exact ⟨_,_,rfl,rfl,rfl⟩) fun e cls σ' s' hx t' hs he=>?_) ?_ fun z1 z2 x=>x
 ·exact hX e cls σ' s' hx (t₁.trans t') (hs.under hfr.symm) (he.sooner t₁.there)
 ·rintro r s' ⟨v,σ',⟨rfl,hp⟩,t',hs,rv⟩
  simp only [VRel] at rv
  exact ⟨rv,.ref _,σ',hp,t₁.trans t',hs.under hfr.symm,by simp only [VRel]⟩
end Mine
end
section
namespace Mine
open PySem
variable {c:Cx} {d:Nat} {sc:Scope} {m:AEnv} {σ:Led} {P:V->Led->Prop} {X:XP} {K:Fl->AEnv->Led->Prop}
noncomputable def WPs (c:Cx) (d:Nat) (sc:Scope) (xs:List Str) (ks:List (Option Expr)) (es:List Expr) (m:AEnv) (σ:Led) (P:List V->Led->Prop) (X:XP):Prop:=
 ∀ (env:Env) (A:Around) (s:Shared) (E:Value->Shared->Prop) (pos:Pos),RE c d sc m σ X env A s E->
  wpAny c.M A (evalPairs (pairTrees ks es env pos)) (fun ps s'=>∃ vs σ',P vs σ'/\Step c.F (owned σ) (owned σ') s s'/\St c A σ' s'.heap/\∃ cs,xs.length=cs.length/\PySem.Carries (strKind c.k.prog c.k.w) ps (xs.zip cs)/\VRels s'.heap (ownS c σ') vs cs) E s
theorem WPs_nil {P:List V->Led->Prop} (h:P [] σ):WPs c d sc [] [] [] m σ P X:=fun env A s E pos r=>
 pairTrees_nil_walk ⟨[],σ,h,.refl,r.st,[],rfl,trivial,by simp only [VRels]⟩
theorem WPs_cons {x:Str} {xs:List Str} {ks:List (Option Expr)} {es:List Expr} {k e:Expr} {P:List V->Led->Prop} (hk:∀ P':V->Led->Prop,P' (.str x) σ->WE c d sc k m σ P' X)
  (h:WE c d sc e m σ (fun v σ₁=>WPs c d sc xs ks es m σ₁ (fun vs σ₂=>P (v::vs) σ₂) X) X):WPs c d sc (x::xs) (some k::ks) (e::es) m σ P X:=by
 intro env A s E pos r
 refine pairTrees_cons_walk (wpAny_mono (hk (fun v σ₁=>v=.str x/\σ₁=σ) ⟨rfl,rfl⟩ env A s E r) ?_ fun z1 z2 x=>x)
 rintro ck s₁ ⟨v,σ₁,⟨rfl,rfl⟩,t₁,hs₁,rk⟩
 refine wpAny_mono (h env A s₁ E (r.step t₁ hs₁)) ?_ fun z1 z2 x=>x
 rintro cv s₂ ⟨w,σ₂,h₂,t₂,hs₂,rv⟩
 refine wpAny_mono (h₂ env A s₂ E pos ((r.step t₁ hs₁).step t₂ hs₂)) ?_ fun z1 z2 x=>x
 rintro ps s₃ ⟨ws,σ₃,h₃,t₃,hs₃,cs,hl,hc,rs⟩
 exact ⟨w::ws,σ₃,h₃,(t₁.trans t₂).trans t₃,hs₃,cv::cs,by simp [hl],⟨DK.str.key _ _ _ _ rk,rfl,hc⟩,by simp only [VRels];exact ⟨cv,cs,rfl,t₃.v rv,rs⟩⟩
theorem WE_dictL (hk:c.k.OK) {xs:List Str} {ks:List (Option Expr)} {es:List Expr} {pos:Pos} (hall:ks.all (·.isSome)=true) (hl:ks.length=es.length) (h0:ks≠[]) (hlen:ks.length<=15) (hnd:xs.Nodup)
  (h:∀ a,a∉owned σ->a∉c.F->WPs c d sc xs ks es m ((a,.dictS [])::σ) (fun ws σ₁=>σ₁.lookup a=some (.dictS [])/\P (.ref a) (upd a (.dictS (xs.zip ws)) σ₁)) X):WE c d sc (.Dict ks es pos) m σ P X:=by
 intro env A s E r
 refine wpAny_Dict_walk (knd:=strKind c.k.prog c.k.w) hall hl h0 hlen ?_
 have hn:∀ b∈(O.dictS []).addrs s.heap.objs.size,s.heap.get? b=none:=fun b hb=>by
  rw [DK.str (c:=c).addrs,List.mem_singleton] at hb;subst hb;exact get?_size _
 obtain ⟨o,es',ep,ho,_⟩:=hk.g
 have h3:mainGlobals<s.heap.objs.size:=Heap.lt_size (r.st.keep _ _ ho)
 have st1:St c A ((s.heap.objs.size,.dictS [])::σ) (s.heap.push { cls:=.type "dict",data:=.dict #[] }):=by
  refine r.st.alloc (.push _) hn (by rw [DK.str (c:=c).addrs];simp) ?_
  rw [DK.str.rel]
  refine ⟨[],?_,Heap.DictOf.new _,rfl,rfl⟩
  rw [beq_eq_false_iff_ne]
  intro q
  rw [q] at h3
  exact absurd h3 (by decide)
 have t1:Step c.F (owned σ) (owned ((s.heap.objs.size,O.dictS [])::σ)) s { s with heap:=s.heap.push { cls:=.type "dict",data:=.dict #[] } }:=
  ⟨(Ext.push _).kept,fun b o e=>⟨o,Ext.push _ b o e⟩,fun b z1 o e=>Ext.push _ b o e,.alloc hn,rfl,rfl⟩
 refine wpAny_mono (h _ r.st.new r.st.newF env A _ E pos (r.step t1 st1)) ?_ fun z1 z2 x=>x
 rintro ps s₁ ⟨ws,σ₁,⟨hlk,hP⟩,t₂,hs₂,cs,hlc,hc,rs⟩
 have hr:=hs₂.objs _ _ (zaa hlk)
 rw [DK.str.rel] at hr
 obtain ⟨cs0,hsys,p,e,_⟩:=hr
 have e0:cs0=[]:=by simpa using e
 subst e0
 have hk1:(xs.zip cs).map (·.1)=xs:=List.map_fst_zip (by rw [hlc];exact Nat.le_refl _)
 have hwl:ws.length=cs.length:=rs.length.symm
 refine ⟨xs.zip cs,hc,p,fun h' p' hsb=>?_⟩
 have k':=SameBut.but hsb
 rw [merged_nil_of_nodup _ (by rw [hk1];exact hnd)] at p'
 refine ⟨.ref _,_,hP,(t1.trans t₂).trans (.upd hlk rfl r.st.newF (p'.elim fun z1 q=>q.elim fun z1 q=>q.elim fun z1 q=>⟨_,q.1⟩) k'),hs₂.updO hlk (O.self _ _) rfl k' ?_,by simp only [VRel]⟩
 rw [DK.str.rel]
 refine ⟨_,hsys,p',?_,?_⟩
 ·rw [hk1,List.map_fst_zip (by rw [hlc,hwl];exact Nat.le_refl _)]
 ·rw [List.map_snd_zip (by rw [hlc,hwl];exact Nat.le_refl _),List.map_snd_zip (by rw [hlc];exact Nat.le_refl _)]
  exact rs.carry (But.carriesHid (List.mem_append_right _ (zap hlk)) k')
end Mine
end
section
namespace Mine
open PySem
variable {c:Cx} {d:Nat} {sc:Scope} {m:AEnv} {σ:Led} {P:V->Led->Prop} {X:XP}
theorem VRels.un3 {h:Heap} {own:List Addr} {u v w:V} {cs:List Value} (r:VRels h own [u,v,w] cs):∃ x y z,cs=[x,y,z]/\VRel h own u x/\VRel h own v y/\VRel h own w z:=by
 simp only [VRels] at r
 obtain ⟨x,cs,rfl,r1,y,cs',rfl,r2,z,cs'',rfl,r3,rfl⟩:=r
 exact ⟨x,y,z,rfl,r1,r2,r3⟩
theorem Meth_dget {a:Addr} {kvs:List (Int × V)} (hl:σ.lookup a=some (.dictI kvs)):Meth c σ (.ref a) "get" "dict" "dict.get":=by
 refine ⟨PySem.F.plainAttrs_dict,PySem.F.slot_dict_get,PySem.F.type_dict_get,fun A s cv st r=>?_⟩
 simp only [VRel] at r;subst r
 obtain ⟨cs,hs,p,e,rs⟩:=dict_at st hl
 refine ⟨p.typeIs,fun b q=>?_⟩
 cases q
 obtain ⟨o,es,ep,ho,hc,_⟩:=p
 exact ⟨o,ho,hc.2.1⟩
theorem Call_dget {a:Addr} {kvs:List (Int × V)} {i:Int} {dv:V} (hl:σ.lookup a=some (.dictI kvs)) (h:P ((kvs.lookup i).getD dv) σ):CallS c d (.builtin "dict.get") [.ref a,.int i,dv] σ P X:=by
 intro A s E cs hA st rs _
 obtain ⟨x,y,z,rfl,r1,r2,r3⟩:=rs.un3
 simp only [VRel] at r1 r2;subst r1
 obtain ⟨t,rfl⟩:=r2
 obtain ⟨cs,hs,p,e,rs⟩:=dict_at st hl
 refine call_meetsIn PySem.F.slot_dict_get p.typeIs PySem.F.entry_dict_get (PySem.F.args_dict_get_3 _ _ _) (meets_dict_get_default (intKind c.k.prog c.k.w) a (intKind_is _ _ i t) hs z) ⟨_,p.mapOf,?_⟩
 cases q:kvs.lookup i with
 | some v=>
  obtain ⟨cv,h1,h2⟩:=vals_at e rs q
  rw [q] at h
  rw [h1]
  exact ⟨_,σ,h,.toks,st,h2⟩
 | none=>
  rw [q] at h
  have:valueAt cs i=none:=by
   have h1:(kvs.any fun kv=>decide (kv.1=i))=false:=by
    rw [List.any_eq_false]
    intro kv hkv
    have:=List.lookup_eq_none_iff.mp q kv hkv
    simpa using fun e=>by rw [e] at this;simp at this
   rw [← any_keys e i] at h1
   unfold valueAt
   rw [Option.map_eq_none_iff,List.find?_eq_none]
   exact List.any_eq_false.mp h1
  rw [this]
  exact ⟨_,σ,h,.toks,st,r3⟩
end Mine
end
section
namespace Mine
namespace Deal
noncomputable abbrev Row:=Nat × Nat × Int
structure Stock (W:Type) where
 nL:Nat
 nN:Nat
 wl:Nat->W
 last:Nat->Int
 cl:Nat->Int
 wn:Nat->W
 need:Nat->Int
 cn:Nat->Int
variable {W:Type} [DecidableEq W]
noncomputable def Stock.good (S:Stock W) (t l:Nat):Bool:=decide (S.wl t=S.wn l) && decide (S.need l<=S.last t)
structure BS where
 want:Int
 rest:List Int
 found:List Row
noncomputable def bStep (gd:Nat->Bool) (li:Nat) (s:BS) (t:Nat):BS:=
 if 0<min s.want (s.rest.getD t 0)/\gd t=true then
  ⟨s.want - min s.want (s.rest.getD t 0),s.rest.set t (s.rest.getD t 0 - min s.want (s.rest.getD t 0)),s.found++[(li,t,min s.want (s.rest.getD t 0))]⟩
 else s
theorem getD_set (l:List Int) (i j:Nat) (v:Int):(l.set i v).getD j 0=if i=j/\i<l.length then v else l.getD j 0:=by
 rw [List.getD_eq_getElem?_getD,List.getD_eq_getElem?_getD,List.getElem?_set]
 by_cases h:i=j
 ·subst h
  by_cases h2:i<l.length
  ·simp [h2]
  ·simp [h2]
 ·simp [h]
noncomputable def bLine (S:Stock W) (ts:List Nat) (s:List Int × List Row) (l:Nat):List Int × List Row:=
 ((ts.foldl (bStep (fun t=>S.good t l) l) ⟨S.cn l,s.1,s.2⟩).rest,(ts.foldl (bStep (fun t=>S.good t l) l) ⟨S.cn l,s.1,s.2⟩).found)
structure LotsOrder (S:Stock W) (ts:List Nat):Prop where
 nodup:ts.Nodup
 mem:∀ t,t∈ts ↔ t<S.nL
 asc:ts.Pairwise fun a b=>S.last a<=S.last b
noncomputable def bestOf (S:Stock W) (ts ls:List Nat):List Row:=(ls.foldl (bLine S ts) ((List.range S.nL).map S.cl,[])).2
structure LinesOrder (S:Stock W) (ls:List Nat):Prop where
 nodup:ls.Nodup
 mem:∀ l,l∈ls ↔ l<S.nN
 desc:ls.Pairwise fun a b=>S.need b<=S.need a
theorem getD_rangeMap (f:Nat->Int) (n t:Nat) (h:t<n):((List.range n).map f).getD t 0=f t:=by
 rw [List.getD_eq_getElem?_getD];simp [h]
end Deal
end Mine
end
section
set_option linter.unusedSectionVars false
namespace Mine
namespace Deal
section
variable {κ ι:Type} [DecidableEq κ]
noncomputable def tk (gd:κ->Bool) (ts:List κ) (w:Int) (r:κ->Int):List (κ × Int):=
 ts.rec (fun z1=>[]) (fun t z1 ih w=>if 0<min w (r t)/\gd t=true then (t,min w (r t))::ih (w - min w (r t)) else ih w) w
noncomputable def amt (xs:List (κ × Int)) (t:κ):Int:=xs.rec 0 fun x z1 ih=>(if x.1=t then x.2 else 0)+ih
noncomputable def tkl (gd:κ->ι->Bool) (want:ι->Int) (ts:List κ) (l:ι) (r:κ->Int):List (κ × Int):=tk (fun t=>gd t l) ts (want l) r
noncomputable def nxt (gd:κ->ι->Bool) (want:ι->Int) (ts:List κ) (l:ι) (r:κ->Int) (t:κ):Int:=r t - amt (tkl gd want ts l r) t
noncomputable def pl (gd:κ->ι->Bool) (want:ι->Int) (ts:List κ) (ls:List ι) (r:κ->Int):List (ι × κ × Int):=
 ls.rec (fun z1=>[]) (fun l z1 ih r=>(tkl gd want ts l r).map (Prod.mk l)++ih (nxt gd want ts l r)) r
noncomputable def amtR (p:ι->Bool) (D:List (ι × κ × Int)) (t:κ):Int:=((D.filter fun x=>p x.1 && decide (x.2.1=t)).map (·.2.2)).sum
theorem amt_cons (x:κ × Int) (xs:List (κ × Int)) (t:κ):amt (x::xs) t=(if x.1=t then x.2 else 0)+amt xs t:=rfl
theorem amt_no {x:κ × Int} {xs:List (κ × Int)} {t:κ} (h:¬ x.1=t):amt (x::xs) t=amt xs t:=by rw [amt_cons,if_neg h,Int.zero_add]
section
variable {gd:κ->Bool} {ts:List κ} {w:Int} {r:κ->Int} {t:κ}
theorem tk_yes (q:0<min w (r t)/\gd t=true):tk gd (t::ts) w r=(t,min w (r t))::tk gd ts (w - min w (r t)) r:=if_pos q
theorem tk_no (q:¬ (0<min w (r t)/\gd t=true)):tk gd (t::ts) w r=tk gd ts w r:=if_neg q
theorem tk_pos:∀ x∈tk gd ts w r,0<x.2/\x.1∈ts/\gd x.1=true:=by
 induction ts generalizing w with
 | nil=>exact fun x hx=>nomatch hx
 | cons t ts ih=>
  intro x hx
  by_cases q:0<min w (r t)/\gd t=true
  ·rw [tk_yes q] at hx
   rcases List.mem_cons.mp hx with rfl | hx
   ·exact ⟨q.1,.head _,q.2⟩
   ·exact (ih x hx).imp id (And.imp_left (.tail _))
  ·rw [tk_no q] at hx
   exact (ih x hx).imp id (And.imp_left (.tail _))
theorem amt_nonneg {xs:List (κ × Int)} (h:∀ x∈xs,0<x.2) (t:κ):0<=amt xs t:=by
 induction xs with
 | nil=>exact Int.le_refl 0
 | cons x xs ih=>
  refine Int.add_nonneg ?_ (ih fun y hy=>h y (.tail _ hy))
  split
  ·exact Int.le_of_lt (h x (.head _))
  ·exact Int.le_refl 0
theorem tk_nonneg:0<=amt (tk gd ts w r) t:=amt_nonneg (fun x hx=>(tk_pos x hx).1) t
theorem amt_none (hu:t∉ts):amt (tk gd ts w r) t=0:=by
 have h:∀ x∈tk gd ts w r,x.1≠t:=fun x hx q=>hu (q ▸ (tk_pos x hx).2.1)
 generalize tk gd ts w r=xs at h
 induction xs with
 | nil=>rfl
 | cons x xs ih=>rw [amt_no (h x (.head _)),ih fun y hy=>h y (.tail _ hy)]
theorem amt_me {a:Int} (hu:t∉ts):amt ((t,a)::tk gd ts w r) t=a:=by rw [amt_cons,if_pos rfl,amt_none hu,Int.add_zero]
theorem tk_le (hn:ts.Nodup) (h:0<=r t):amt (tk gd ts w r) t<=r t:=by
 induction ts generalizing w with
 | nil=>exact h
 | cons u ts ih=>
  obtain ⟨hu,hn⟩:=List.nodup_cons.mp hn
  by_cases q:0<min w (r u)/\gd u=true
  ·rw [tk_yes q]
   by_cases e:u=t
   ·subst e
    rw [amt_me hu]
    exact Int.min_le_right _ _
   ·rw [amt_no e];exact ih hn
  ·rw [tk_no q];exact ih hn
end
theorem amtR_append (p:ι->Bool) (D D':List (ι × κ × Int)) (t:κ):amtR p (D++D') t=amtR p D t+amtR p D' t:=by
 unfold amtR;rw [List.filter_append,List.map_append,List.sum_append]
theorem amtR_cons (p:ι->Bool) (x:ι × κ × Int) (D:List (ι × κ × Int)) (t:κ):amtR p (x::D) t=(if p x.1 && decide (x.2.1=t) then x.2.2 else 0)+amtR p D t:=by
 unfold amtR
 rw [List.filter_cons]
 split
 ·rfl
 ·exact (Int.zero_add _).symm
theorem amtR_one (p:ι->Bool) (l:ι) (xs:List (κ × Int)) (t:κ):amtR p (xs.map (Prod.mk l)) t=if p l=true then amt xs t else 0:=by
 induction xs with
 | nil=>exact (ite_self (0:Int)).symm
 | cons x xs ih=>
  rw [List.map_cons,amtR_cons,ih,amt_cons]
  cases p l
  ·rfl
  ·show (if decide _=true then _ else _)+amt xs t=_
   rw [if_pos rfl]
   by_cases e:x.1=t
   ·rw [if_pos (decide_eq_true e),if_pos e]
   ·rw [if_neg (by simpa using e),if_neg e]
theorem amtR_nonneg {p:ι->Bool} {D:List (ι × κ × Int)} (h:∀ x∈D,0<x.2.2) (t:κ):0<=amtR p D t:=by
 induction D with
 | nil=>exact Int.le_refl 0
 | cons x D ih=>
  rw [amtR_cons]
  refine Int.add_nonneg ?_ (ih fun y hy=>h y (.tail _ hy))
  split
  ·exact Int.le_of_lt (h x (.head _))
  ·exact Int.le_refl 0
section
variable {gd:κ->ι->Bool} {want:ι->Int} {ts:List κ} {ls:List ι} {r:κ->Int} {p:ι->Bool}
theorem pl_cons (l:ι):pl gd want ts (l::ls) r=(tkl gd want ts l r).map (Prod.mk l)++pl gd want ts ls (nxt gd want ts l r):=rfl
theorem pl_row:∀ x∈pl gd want ts ls r,x.1∈ls/\x.2.1∈ts/\gd x.2.1 x.1=true/\0<x.2.2:=by
 induction ls generalizing r with
 | nil=>exact fun x hx=>nomatch hx
 | cons l ls ih=>
  intro x hx
  rcases List.mem_append.mp hx with q | q
  ·obtain ⟨y,hy,rfl⟩:=List.mem_map.mp q
   exact ⟨.head _,(tk_pos y hy).2.1,(tk_pos y hy).2.2,(tk_pos y hy).1⟩
  ·exact (ih x q).imp (.tail _) id
theorem nxt_pos (hn:ts.Nodup) (h:∀ t,0<=r t) (l:ι) (t:κ):0<=nxt gd want ts l r t:=Int.sub_nonneg_of_le (tk_le hn (h t))
theorem pl_le (hn:ts.Nodup) (h:∀ t,0<=r t) (t:κ):amtR p (pl gd want ts ls r) t<=r t:=by
 induction ls generalizing r with
 | nil=>exact h t
 | cons l ls ih=>
  rw [pl_cons,amtR_append,amtR_one]
  have h2:amtR p (pl gd want ts ls (nxt gd want ts l r)) t<=r t - amt (tkl gd want ts l r) t:=ih (nxt_pos hn h l)
  have h3:0<=amt (tkl gd want ts l r) t:=tk_nonneg
  split
  ·(exact Ar.l30 (.ile (.a (.v 0) (.v 1)) (.v 2)) [(.ile (.v 1) (.s (.v 2) (.v 0)))] (by kernel_rfl) h2)
  ·(exact Ar.l30 (.ile (.a (.k 0) (.v 0)) (.v 1)) [(.ile (.v 0) (.s (.v 1) (.v 2))),(.ile (.k 0) (.v 2))] (by kernel_rfl) h2 h3)
end
noncomputable def live (ts:List κ) (r:κ->Int):Nat:=ts.rec 0 fun t z1 n=>(if 0<r t then 1 else 0)+n
theorem live_le {ts:List κ} {r:κ->Int}:live ts r<=ts.length:=by
 induction ts with
 | nil=>exact Nat.le_refl _
 | cons t ts ih=>
  rw [List.length_cons,Nat.add_comm]
  refine Nat.add_le_add ?_ ih
  split
  ·exact Nat.le_refl _
  ·exact Nat.zero_le _
theorem live_cons (t:κ) (ts:List κ) (r:κ->Int):live (t::ts) r=(if 0<r t then 1 else 0)+live ts r:=rfl
theorem live_congr {ts:List κ} {r r':κ->Int} (h:∀ t∈ts,r t=r' t):live ts r=live ts r':=by
 induction ts with
 | nil=>rfl
 | cons t ts ih=>rw [live_cons,live_cons,h t (.head _),ih fun u hu=>h u (.tail _ hu)]
section
variable {gd:κ->Bool} {r:κ->Int} {ts:List κ} {w:Int}
theorem tk_done (h:w<=0):tk gd ts w r=[]:=by
 induction ts with
 | nil=>rfl
 | cons t ts ih=>rw [tk_no fun q=>Int.not_lt.mpr h (Int.lt_of_lt_of_le q.1 (Int.min_le_left _ _)),ih]
theorem tk_live (hn:ts.Nodup):(tk gd ts w r).length+live ts (fun t=>r t - amt (tk gd ts w r) t)<=1+live ts r:=by
 induction ts generalizing w with
 | nil=>exact Nat.le_add_left _ _
 | cons u ts ih=>
  obtain ⟨hu,hn⟩:=List.nodup_cons.mp hn
  rw [live_cons,live_cons]
  by_cases q:0<min w (r u)/\gd u=true
  ·have e2:live ts (fun t=>r t - amt ((u,min w (r u))::tk gd ts (w - min w (r u)) r) t)=live ts (fun t=>r t - amt (tk gd ts (w - min w (r u)) r) t):=live_congr fun t ht=>by
    rw [amt_no (fun (e:u=t)=>hu (e ▸ ht))]
   rw [tk_yes q,List.length_cons,e2,amt_me hu,if_pos (Int.lt_of_lt_of_le q.1 (Int.min_le_right _ _))]
   rcases Int.le_total (r u) w with a | a
   ·rw [Int.min_eq_right a,if_neg (by rw [Int.sub_self];exact Int.lt_irrefl 0),Nat.zero_add,Nat.add_right_comm,Nat.add_comm]
    exact Nat.add_le_add_left (ih hn) 1
   ·rw [Int.min_eq_left a,tk_done (w:=w - w) (Int.le_of_eq (Int.sub_self w))]
    rw [live_congr (r:=fun t=>r t - amt [] t) (r':=r) fun t z1=>Int.sub_zero _]
    show 0+1+_<=_
    rw [Nat.zero_add]
    refine Nat.add_le_add_left (Nat.add_le_add_right ?_ _) _
    split
    ·exact Nat.le_refl _
    ·exact Nat.zero_le _
  ·rw [tk_no q,amt_none hu,Int.sub_zero,Nat.add_left_comm,Nat.add_left_comm 1]
   exact Nat.add_le_add_left (ih hn) _
end
theorem pl_len2 {gd:κ->ι->Bool} {want:ι->Int} {ts:List κ} {ls:List ι} {r:κ->Int} (hn:ts.Nodup):(pl gd want ts ls r).length<=ls.length+ts.length:=by
 have:∀ r:κ->Int,(pl gd want ts ls r).length<=ls.length+live ts r:=by
  induction ls with
  | nil=>exact fun r=>Nat.zero_le _
  | cons l ls ih=>
   intro r
   rw [pl_cons,List.length_append,List.length_map,List.length_cons,Nat.add_assoc,Nat.add_comm _ (List.length (pl ..))]
   refine Nat.le_trans (Nat.add_le_add_right (ih _) _) ?_
   rw [Nat.add_assoc,Nat.add_comm (live ..)]
   exact Nat.add_le_add_left (tk_live hn) _
 exact Nat.le_trans (this r) (Nat.add_le_add_left live_le _)
end
section
variable {κ ι κ' ι':Type} [DecidableEq κ] [DecidableEq κ']
theorem tk_map {gd:κ->Bool} {gd':κ'->Bool} {f:κ->κ'} {r:κ->Int} {r':κ'->Int} {ts:List κ} {w:Int} (h:∀ t∈ts,gd' (f t)=gd t/\r' (f t)=r t):tk gd' (ts.map f) w r'=(tk gd ts w r).map fun x=>(f x.1,x.2):=by
 induction ts generalizing w with
 | nil=>rfl
 | cons t ts ih=>
  obtain ⟨h1,h2⟩:=h t (.head _)
  have ih:=fun w=>ih (w:=w) fun u hu=>h u (.tail _ hu)
  by_cases q:0<min w (r t)/\gd t=true
  ·rw [tk_yes q,List.map_cons,List.map_cons,tk_yes (by rw [h1,h2];exact q),h2,ih]
  ·rw [tk_no q,List.map_cons,tk_no (by rw [h1,h2];exact q),ih]
theorem amt_map {f:κ->κ'} {xs:List (κ × Int)} {t:κ} (h:∀ x∈xs,f x.1=f t->x.1=t):amt (xs.map fun x=>(f x.1,x.2)) (f t)=amt xs t:=by
 induction xs with
 | nil=>rfl
 | cons x xs ih=>
  rw [List.map_cons,amt_cons,amt_cons,ih fun y hy=>h y (.tail _ hy)]
  by_cases e:x.1=t
  ·rw [if_pos e,if_pos (congrArg f e)]
  ·rw [if_neg e,if_neg fun q=>e (h x (.head _) q)]
theorem pl_map {gd:κ->ι->Bool} {gd':κ'->ι'->Bool} {want:ι->Int} {want':ι'->Int} {f:κ->κ'} {g:ι->ι'} {ts:List κ} (hf:∀ t∈ts,∀ u∈ts,f t=f u->t=u) {ls:List ι} {r:κ->Int} {r':κ'->Int}
  (hr:∀ t∈ts,r' (f t)=r t) (hl:∀ l∈ls,want' (g l)=want l/\∀ t∈ts,gd' (f t) (g l)=gd t l):pl gd' want' (ts.map f) (ls.map g) r'=(pl gd want ts ls r).map fun x=>(g x.1,f x.2.1,x.2.2):=by
 induction ls generalizing r r' with
 | nil=>rfl
 | cons l ls ih=>
  obtain ⟨h1,h2⟩:=hl l (.head _)
  have e:tkl gd' want' (ts.map f) (g l) r'=(tkl gd want ts l r).map fun x=>(f x.1,x.2):=(tk_map fun t ht=>⟨h2 t ht,hr t ht⟩).trans (congrArg (fun w=>(tk (fun t=>gd t l) ts w r).map fun x=>(f x.1,x.2)) h1)
  rw [List.map_cons,pl_cons,pl_cons,e,List.map_append,List.map_map,List.map_map,ih (r:=nxt gd want ts l r) (fun t ht=>?_) fun k hk=>hl k (.tail _ hk)]
  ·rfl
  ·show r' (f t) - amt (tkl ..) (f t)=r t - _
   rw [hr t ht,e,amt_map (xs:=tkl gd want ts l r) fun x hx q=>hf _ (tk_pos x hx).2.1 _ ht q]
end
section
variable {W:Type} [DecidableEq W]
theorem bStep_tk {gd:Nat->Bool} {li:Nat} {r:Nat->Int} {ts:List Nat} {s:BS} (hn:ts.Nodup) (hb:∀ t∈ts,t<s.rest.length) (hr:∀ t∈ts,s.rest.getD t 0=r t) :
  (ts.foldl (bStep gd li) s).found=s.found++(tk gd ts s.want r).map (Prod.mk li)/\(∀ t,(ts.foldl (bStep gd li) s).rest.getD t 0=s.rest.getD t 0 - amt (tk gd ts s.want r) t)/\(ts.foldl (bStep gd li) s).rest.length=s.rest.length:=by
 induction ts generalizing s with
 | nil=>exact ⟨(List.append_nil _).symm,fun t=>(Int.sub_zero _).symm,rfl⟩
 | cons u ts ih=>
  obtain ⟨hu,hn⟩:=List.nodup_cons.mp hn
  have hru:=hr u (.head _)
  rw [List.foldl_cons]
  by_cases q:0<min s.want (r u)/\gd u=true
  ·have es:bStep gd li s u=⟨s.want - min s.want (r u),s.rest.set u (r u - min s.want (r u)),s.found++[(li,u,min s.want (r u))]⟩:=by unfold bStep;rw [hru,if_pos q]
   rw [es,tk_yes q]
   obtain ⟨i1,i2,i3⟩:=ih (s:=⟨s.want - min s.want (r u),s.rest.set u (r u - min s.want (r u)),s.found++[(li,u,min s.want (r u))]⟩) hn (fun t ht=>by rw [List.length_set];exact hb t (.tail _ ht)) (fun t ht=>by
    rw [getD_set,if_neg (fun z=>hu (by rw [z.1];exact ht))];exact hr t (.tail _ ht))
   refine ⟨i1.trans (List.append_assoc ..),fun t=>?_,i3.trans (List.length_set ..)⟩
   rw [i2,getD_set]
   by_cases z:u=t
   ·subst z
    rw [if_pos ⟨rfl,hb u (.head _)⟩,amt_me hu,hru,amt_none hu,Int.sub_zero]
   ·rw [if_neg fun k=>z k.1,amt_no z]
  ·have es:bStep gd li s u=s:=by unfold bStep;rw [hru,if_neg q]
   rw [es,tk_no q]
   exact ih hn (fun t ht=>hb t (.tail _ ht)) fun t ht=>hr t (.tail _ ht)
theorem bLine_pl {S:Stock W} {ts:List Nat} (hn:ts.Nodup) {ls:List Nat} {rest:List Int} {found:List Row} {r:Nat->Int} (hb:∀ t∈ts,t<rest.length) (hr:∀ t∈ts,rest.getD t 0=r t) :
  (ls.foldl (bLine S ts) (rest,found)).2=found++pl S.good S.cn ts ls r:=by
 induction ls generalizing rest found r with
 | nil=>exact (List.append_nil _).symm
 | cons l ls ih=>
  obtain ⟨i1,i2,i3⟩:=bStep_tk (gd:=fun t=>S.good t l) (li:=l) (s:=⟨S.cn l,rest,found⟩) (r:=r) hn hb hr
  have e:bLine S ts (rest,found) l=((ts.foldl (bStep (fun t=>S.good t l) l) ⟨S.cn l,rest,found⟩).rest,(ts.foldl (bStep (fun t=>S.good t l) l) ⟨S.cn l,rest,found⟩).found):=rfl
  rw [List.foldl_cons,e,ih (r:=nxt S.good S.cn ts l r) (fun t ht=>by rw [i3];exact hb t ht) (fun t ht=>(i2 t).trans (congrArg (· - _) (hr t ht))),i1]
  exact List.append_assoc ..
theorem best_pl {S:Stock W} {ts ls:List Nat} (hn:ts.Nodup) (hb:∀ t∈ts,t<S.nL):bestOf S ts ls=pl S.good S.cn ts ls S.cl:=by
 unfold bestOf
 rw [bLine_pl hn (r:=S.cl) (fun t ht=>by simpa using hb t ht) (fun t ht=>getD_rangeMap _ _ _ (hb t ht)),List.nil_append]
end
end Deal
end Mine
end
section
namespace Mine
open PySem PyProof.Rows
variable {c:Cx} {d:Nat} {sc:Scope} {m:AEnv} {σ:Led} {P:V->Led->Prop} {X:XP} {K:Fl->AEnv->Led->Prop}
section
variable {prog:Program} {w:World} {A:Around} {E:Value->Shared->Prop} {s:Shared}
end
end Mine
end
section
set_option genSizeOf false
set_option genInjectivity false
namespace Mine
open PySem
inductive Bf where
 | len | isinstance | int | bool | str | tuple | list | dict | set | range | max | min | sum | all | sorted
noncomputable def Bf.name:Bf->Str
 | .len=>"len" | .isinstance=>"isinstance" | .int=>"int" | .bool=>"bool" | .str=>"str" | .tuple=>"tuple" | .list=>"list" | .dict=>"dict" | .set=>"set"
 | .range=>"range" | .max=>"max" | .min=>"min" | .sum=>"sum" | .all=>"all" | .sorted=>"sorted"
noncomputable def Bf.val:Bf->Value
 | .len=>.builtin "len" | .isinstance=>.builtin "isinstance" | .int=>.type "int" | .bool=>.type "bool" | .str=>.type "str" | .tuple=>.type "tuple" | .list=>.type "list" | .dict=>.type "dict" | .set=>.type "set"
 | .range=>.type "range" | .max=>.builtin "max" | .min=>.builtin "min" | .sum=>.builtin "sum" | .all=>.builtin "all" | .sorted=>.builtin "sorted"
inductive T where
 | nil | cons (e r:T)
 | int (i:Int) | str (x:Str) | bool (b:Bool) | none
 | var (i:Nat)
 | bin (op:Operator) (l r:T) | un (op:UnaryOp) (e:T)
 | cmp (op:CmpOp) (l r:T) | cmp2 (l:T) (o₁:CmpOp) (a:T) (o₂:CmpOp) (b:T)
 | bo (op:BoolOp) (es:T) | ife (t a b:T)
 | tup (es:T) | lst (loc:Bool) (es:T)
 | call (f:Str) (es:T) | blt (f:Bf) (es:T) | isi (e:T) (f:Bf) | meth (o:T) (x:Str) (es:T) | methI (o:T) (x:Str) (es:T)
 | item (v i:T) | slice (v lo hi:T)
 | comp (loc hc:Bool) (elt:T) (ns:List Nat) (it cond:T)
 | attr (o:T) (x:Str) | dict (ks vs:T) | cut (q:T)
 | ret (e:T) | ret0 | pass | brk | cont | expr (e:T)
 | asgn (t e:T) | asgnC (i:Nat) (loc hc:Bool) (elt:T) (ns:List Nat) (it cond:T)
 | ite (t a b:T) | for_ (t it body:T) | while_ (t body:T)
 | raise (x:Str) (es:T) | try_ (body hs:T) | handler (x:Str) (v:Option Nat) (body:T)
 | isx (a:T) (tp:Bool) (xs:List Str)
 | dictL (xs:List Str) (es:T)
noncomputable abbrev Rho:=List (Nat × V)
structure Glob where
 gInts:List (Str × Int)
 gStrs:List (Str × Str)
 gDefs:List Str
structure GlobOk (k:Base) (G:Glob):Prop where
 ok:k.OK
 hInts:∀ x i,G.gInts.lookup x=some i->Const k x (.int i)
 hStrs:∀ x y,G.gStrs.lookup x=some y->Const k x (.str y)
 hDefs:∀ x,G.gDefs.contains x=true->Def k x
 hBlts:∀ f:Bf,Blt k f.name f.val
 hd:k.hd=true
noncomputable def gi (sc:Scope) (x:Str):Bool:=sc.names.lookup x == some .globalImplicit
theorem gi_of {sc:Scope} {x:Str} (h:gi sc x=true):sc.names.lookup x=some .globalImplicit:=by simpa [gi] using h
noncomputable def noStar (e:Expr):Bool:=e.ctorIdx != 22
noncomputable def noSet (e:Expr):Bool:=e.ctorIdx != 7
noncomputable def noComp (e:Expr):Bool:=e.ctorIdx != 8 && e.ctorIdx != 9 && e.ctorIdx != 10
noncomputable def noSlice (e:Expr):Bool:=e.ctorIdx != 26
noncomputable def noSwap (x y:Expr):Bool:=noComp y || x.ctorIdx == 21
noncomputable def onCst (e:Expr) (f:PySem.Const->Bool):Bool:=if h:e.ctorIdx=19 then Expr.Constant.elim (motive_1:=fun z1=>Bool) e h (fun k z1 z2=>f k) else false
set_option tactic.hygienic true
theorem onCst_inv {e:Expr} {f:PySem.Const->Bool} (h:onCst e f=true):∃ k n p,e=.Constant k n p/\f k=true:=by
 unfold onCst at h
 split at h
 ·rename_i q;revert h;exact Expr.Constant.elim (motive_1:=fun e=>∀ h:e.ctorIdx=19,Expr.Constant.elim (motive_1:=fun z1=>Bool) e h (fun k z1 z2=>f k)=true->∃ k n p,e=.Constant k n p/\f k=true) e q (fun k n p z1 hk=>⟨k,n,p,rfl,hk⟩) q
 ·cases h
noncomputable def onNm (e:Expr) (f:Str->Bool):Bool:=if h:e.ctorIdx=23 then Expr.Name.elim (motive_1:=fun z1=>Bool) e h (fun x z1=>f x) else false
theorem zaw {e:Expr} {f:Str->Bool} (h:onNm e f=true):∃ x p,e=.Name x p/\f x=true:=by
 unfold onNm at h
 split at h
 ·rename_i q;revert h;exact Expr.Name.elim (motive_1:=fun e=>∀ h:e.ctorIdx=23,Expr.Name.elim (motive_1:=fun z1=>Bool) e h (fun x z1=>f x)=true->∃ x p,e=.Name x p/\f x=true) e q (fun x p z1 hk=>⟨x,p,rfl,hk⟩) q
 ·cases h
noncomputable def onNmp (e:Expr) (f:Str->Pos->Bool):Bool:=if h:e.ctorIdx=23 then Expr.Name.elim (motive_1:=fun z1=>Bool) e h (fun x p=>f x p) else false
theorem onNmp_inv {e:Expr} {f:Str->Pos->Bool} (h:onNmp e f=true):∃ x p,e=.Name x p/\f x p=true:=by
 unfold onNmp at h
 split at h
 ·rename_i q;revert h;exact Expr.Name.elim (motive_1:=fun e=>∀ h:e.ctorIdx=23,Expr.Name.elim (motive_1:=fun z1=>Bool) e h (fun x p=>f x p)=true->∃ x p,e=.Name x p/\f x p=true) e q (fun x p z1 hk=>⟨x,p,rfl,hk⟩) q
 ·cases h
noncomputable def onBin (e:Expr) (f:Expr->Operator->Expr->Bool):Bool:=if h:e.ctorIdx=2 then Expr.BinOp.elim (motive_1:=fun z1=>Bool) e h (fun l o r z1=>f l o r) else false
theorem onBin_inv {e:Expr} {f:Expr->Operator->Expr->Bool} (h:onBin e f=true):∃ l o r p,e=.BinOp l o r p/\f l o r=true:=by
 unfold onBin at h
 split at h
 ·rename_i q;revert h;exact Expr.BinOp.elim (motive_1:=fun e=>∀ h:e.ctorIdx=2,Expr.BinOp.elim (motive_1:=fun z1=>Bool) e h (fun l o r z1=>f l o r)=true->∃ l o r p,e=.BinOp l o r p/\f l o r=true) e q (fun l o r p z1 hk=>⟨l,o,r,p,rfl,hk⟩) q
 ·cases h
noncomputable def onUn (e:Expr) (f:UnaryOp->Expr->Bool):Bool:=if h:e.ctorIdx=3 then Expr.UnaryOp.elim (motive_1:=fun z1=>Bool) e h (fun o l z1=>f o l) else false
theorem onUn_inv {e:Expr} {f:UnaryOp->Expr->Bool} (h:onUn e f=true):∃ o l p,e=.UnaryOp o l p/\f o l=true:=by
 unfold onUn at h
 split at h
 ·rename_i q;revert h;exact Expr.UnaryOp.elim (motive_1:=fun e=>∀ h:e.ctorIdx=3,Expr.UnaryOp.elim (motive_1:=fun z1=>Bool) e h (fun o l z1=>f o l)=true->∃ o l p,e=.UnaryOp o l p/\f o l=true) e q (fun o l p z1 hk=>⟨o,l,p,rfl,hk⟩) q
 ·cases h
noncomputable def onCmp (e:Expr) (f:Expr->List CmpOp->List Expr->Bool):Bool:=if h:e.ctorIdx=15 then Expr.Compare.elim (motive_1:=fun z1=>Bool) e h (fun l os rs z1=>f l os rs) else false
theorem onCmp_inv {e:Expr} {f:Expr->List CmpOp->List Expr->Bool} (h:onCmp e f=true):∃ l os rs p,e=.Compare l os rs p/\f l os rs=true:=by
 unfold onCmp at h
 split at h
 ·rename_i q;revert h;exact Expr.Compare.elim (motive_1:=fun e=>∀ h:e.ctorIdx=15,Expr.Compare.elim (motive_1:=fun z1=>Bool) e h (fun l os rs z1=>f l os rs)=true->∃ l os rs p,e=.Compare l os rs p/\f l os rs=true) e q (fun l os rs p z1 hk=>⟨l,os,rs,p,rfl,hk⟩) q
 ·cases h
noncomputable def onBo (e:Expr) (f:BoolOp->List Expr->Bool):Bool:=if h:e.ctorIdx=0 then Expr.BoolOp.elim (motive_1:=fun z1=>Bool) e h (fun o es z1=>f o es) else false
theorem onBo_inv {e:Expr} {f:BoolOp->List Expr->Bool} (h:onBo e f=true):∃ o es p,e=.BoolOp o es p/\f o es=true:=by
 unfold onBo at h
 split at h
 ·rename_i q;revert h;exact Expr.BoolOp.elim (motive_1:=fun e=>∀ h:e.ctorIdx=0,Expr.BoolOp.elim (motive_1:=fun z1=>Bool) e h (fun o es z1=>f o es)=true->∃ o es p,e=.BoolOp o es p/\f o es=true) e q (fun o es p z1 hk=>⟨o,es,p,rfl,hk⟩) q
 ·cases h
noncomputable def onIf (e:Expr) (f:Expr->Expr->Expr->Bool):Bool:=if h:e.ctorIdx=5 then Expr.IfExp.elim (motive_1:=fun z1=>Bool) e h (fun t a b z1=>f t a b) else false
theorem onIf_inv {e:Expr} {f:Expr->Expr->Expr->Bool} (h:onIf e f=true):∃ t a b p,e=.IfExp t a b p/\f t a b=true:=by
 unfold onIf at h
 split at h
 ·rename_i q;revert h;exact Expr.IfExp.elim (motive_1:=fun e=>∀ h:e.ctorIdx=5,Expr.IfExp.elim (motive_1:=fun z1=>Bool) e h (fun t a b z1=>f t a b)=true->∃ t a b p,e=.IfExp t a b p/\f t a b=true) e q (fun t a b p z1 hk=>⟨t,a,b,p,rfl,hk⟩) q
 ·cases h
noncomputable def onTup (e:Expr) (f:List Expr->Bool):Bool:=if h:e.ctorIdx=25 then Expr.Tuple.elim (motive_1:=fun z1=>Bool) e h (fun es z1 z2=>f es) else false
theorem onTup_inv {e:Expr} {f:List Expr->Bool} (h:onTup e f=true):∃ es k p,e=.Tuple es k p/\f es=true:=by
 unfold onTup at h
 split at h
 ·rename_i q;revert h;exact Expr.Tuple.elim (motive_1:=fun e=>∀ h:e.ctorIdx=25,Expr.Tuple.elim (motive_1:=fun z1=>Bool) e h (fun es z1 z2=>f es)=true->∃ es k p,e=.Tuple es k p/\f es=true) e q (fun es k p z1 hk=>⟨es,k,p,rfl,hk⟩) q
 ·cases h
noncomputable def onLs (e:Expr) (f:List Expr->Bool):Bool:=if h:e.ctorIdx=24 then Expr.List.elim (motive_1:=fun z1=>Bool) e h (fun es z1=>f es) else false
theorem onLs_inv {e:Expr} {f:List Expr->Bool} (h:onLs e f=true):∃ es p,e=.List es p/\f es=true:=by
 unfold onLs at h
 split at h
 ·rename_i q;revert h;exact Expr.List.elim (motive_1:=fun e=>∀ h:e.ctorIdx=24,Expr.List.elim (motive_1:=fun z1=>Bool) e h (fun es z1=>f es)=true->∃ es p,e=.List es p/\f es=true) e q (fun es p z1 hk=>⟨es,p,rfl,hk⟩) q
 ·cases h
noncomputable def onDict (e:Expr) (f:List (Option Expr)->List Expr->Bool):Bool:=if h:e.ctorIdx=6 then Expr.Dict.elim (motive_1:=fun z1=>Bool) e h (fun ks vs z1=>f ks vs) else false
theorem onDict_inv {e:Expr} {f:List (Option Expr)->List Expr->Bool} (h:onDict e f=true):∃ ks vs p,e=.Dict ks vs p/\f ks vs=true:=by
 unfold onDict at h
 split at h
 ·rename_i q;revert h;exact Expr.Dict.elim (motive_1:=fun e=>∀ h:e.ctorIdx=6,Expr.Dict.elim (motive_1:=fun z1=>Bool) e h (fun ks vs z1=>f ks vs)=true->∃ ks vs p,e=.Dict ks vs p/\f ks vs=true) e q (fun ks vs p z1 hk=>⟨ks,vs,p,rfl,hk⟩) q
 ·cases h
noncomputable def onCall (e:Expr) (f:Expr->List Expr->List Keyword->Pos->Bool):Bool:=if h:e.ctorIdx=16 then Expr.Call.elim (motive_1:=fun z1=>Bool) e h (fun g es ks p=>f g es ks p) else false
theorem zbg {e:Expr} {f:Expr->List Expr->List Keyword->Pos->Bool} (h:onCall e f=true):∃ g es ks p,e=.Call g es ks p/\f g es ks p=true:=by
 unfold onCall at h
 split at h
 ·rename_i q;revert h;exact Expr.Call.elim (motive_1:=fun e=>∀ h:e.ctorIdx=16,Expr.Call.elim (motive_1:=fun z1=>Bool) e h (fun g es ks p=>f g es ks p)=true->∃ g es ks p,e=.Call g es ks p/\f g es ks p=true) e q (fun g es ks p z1 hk=>⟨g,es,ks,p,rfl,hk⟩) q
 ·cases h
noncomputable def onAttr (e:Expr) (f:Expr->Str->Pos->Bool):Bool:=if h:e.ctorIdx=20 then Expr.Attribute.elim (motive_1:=fun z1=>Bool) e h (fun o y p=>f o y p) else false
theorem onAttr_inv {e:Expr} {f:Expr->Str->Pos->Bool} (h:onAttr e f=true):∃ o y p,e=.Attribute o y p/\f o y p=true:=by
 unfold onAttr at h
 split at h
 ·rename_i q;revert h;exact Expr.Attribute.elim (motive_1:=fun e=>∀ h:e.ctorIdx=20,Expr.Attribute.elim (motive_1:=fun z1=>Bool) e h (fun o y p=>f o y p)=true->∃ o y p,e=.Attribute o y p/\f o y p=true) e q (fun o y p z1 hk=>⟨o,y,p,rfl,hk⟩) q
 ·cases h
noncomputable def onSub (e:Expr) (f:Expr->Expr->Bool):Bool:=if h:e.ctorIdx=21 then Expr.Subscript.elim (motive_1:=fun z1=>Bool) e h (fun v i z1=>f v i) else false
theorem onSub_inv {e:Expr} {f:Expr->Expr->Bool} (h:onSub e f=true):∃ v i p,e=.Subscript v i p/\f v i=true:=by
 unfold onSub at h
 split at h
 ·rename_i q;revert h;exact Expr.Subscript.elim (motive_1:=fun e=>∀ h:e.ctorIdx=21,Expr.Subscript.elim (motive_1:=fun z1=>Bool) e h (fun v i z1=>f v i)=true->∃ v i p,e=.Subscript v i p/\f v i=true) e q (fun v i p z1 hk=>⟨v,i,p,rfl,hk⟩) q
 ·cases h
noncomputable def onSl (e:Expr) (f:Option Expr->Option Expr->Option Expr->Bool):Bool:=if h:e.ctorIdx=26 then Expr.Slice.elim (motive_1:=fun z1=>Bool) e h (fun lo hi st z1=>f lo hi st) else false
theorem onSl_inv {e:Expr} {f:Option Expr->Option Expr->Option Expr->Bool} (h:onSl e f=true):∃ lo hi st p,e=.Slice lo hi st p/\f lo hi st=true:=by
 unfold onSl at h
 split at h
 ·rename_i q;revert h;exact Expr.Slice.elim (motive_1:=fun e=>∀ h:e.ctorIdx=26,Expr.Slice.elim (motive_1:=fun z1=>Bool) e h (fun lo hi st z1=>f lo hi st)=true->∃ lo hi st p,e=.Slice lo hi st p/\f lo hi st=true) e q (fun lo hi st p z1 hk=>⟨lo,hi,st,p,rfl,hk⟩) q
 ·cases h
noncomputable def onComp (e:Expr) (f:Expr->List Comprehension->Scope->Pos->Bool):Bool:=if h:e.ctorIdx=8 then Expr.ListComp.elim (motive_1:=fun z1=>Bool) e h (fun elt gs scope p=>f elt gs scope p) else false
theorem onComp_inv {e:Expr} {f:Expr->List Comprehension->Scope->Pos->Bool} (h:onComp e f=true):∃ elt gs scope p,e=.ListComp elt gs scope p/\f elt gs scope p=true:=by
 unfold onComp at h
 split at h
 ·rename_i q;revert h;exact Expr.ListComp.elim (motive_1:=fun e=>∀ h:e.ctorIdx=8,Expr.ListComp.elim (motive_1:=fun z1=>Bool) e h (fun elt gs scope p=>f elt gs scope p)=true->∃ elt gs scope p,e=.ListComp elt gs scope p/\f elt gs scope p=true) e q (fun elt gs scope p z1 hk=>⟨elt,gs,scope,p,rfl,hk⟩) q
 ·cases h
noncomputable def onRet (e:Stmt) (f:Option Expr->Bool):Bool:=if h:e.ctorIdx=3 then Stmt.Return.elim (motive_2:=fun z1=>Bool) e h (fun o z1=>f o) else false
theorem onRet_inv {e:Stmt} {f:Option Expr->Bool} (h:onRet e f=true):∃ o p,e=.Return o p/\f o=true:=by
 unfold onRet at h
 split at h
 ·rename_i q;revert h;exact Stmt.Return.elim (motive_2:=fun e=>∀ h:e.ctorIdx=3,Stmt.Return.elim (motive_2:=fun z1=>Bool) e h (fun o z1=>f o)=true->∃ o p,e=.Return o p/\f o=true) e q (fun o p z1 hk=>⟨o,p,rfl,hk⟩) q
 ·cases h
noncomputable def onAsgn (e:Stmt) (f:List Expr->Expr->Bool):Bool:=if h:e.ctorIdx=5 then Stmt.Assign.elim (motive_2:=fun z1=>Bool) e h (fun ts v z1=>f ts v) else false
theorem onAsgn_inv {e:Stmt} {f:List Expr->Expr->Bool} (h:onAsgn e f=true):∃ ts v p,e=.Assign ts v p/\f ts v=true:=by
 unfold onAsgn at h
 split at h
 ·rename_i q;revert h;exact Stmt.Assign.elim (motive_2:=fun e=>∀ h:e.ctorIdx=5,Stmt.Assign.elim (motive_2:=fun z1=>Bool) e h (fun ts v z1=>f ts v)=true->∃ ts v p,e=.Assign ts v p/\f ts v=true) e q (fun ts v p z1 hk=>⟨ts,v,p,rfl,hk⟩) q
 ·cases h
noncomputable def onFor (e:Stmt) (f:Expr->Expr->List Stmt->List Stmt->Bool):Bool:=if h:e.ctorIdx=9 then Stmt.For.elim (motive_2:=fun z1=>Bool) e h (fun t it b o z1=>f t it b o) else false
theorem onFor_inv {e:Stmt} {f:Expr->Expr->List Stmt->List Stmt->Bool} (h:onFor e f=true):∃ t it b o p,e=.For t it b o p/\f t it b o=true:=by
 unfold onFor at h
 split at h
 ·rename_i q;revert h;exact Stmt.For.elim (motive_2:=fun e=>∀ h:e.ctorIdx=9,Stmt.For.elim (motive_2:=fun z1=>Bool) e h (fun t it b o z1=>f t it b o)=true->∃ t it b o p,e=.For t it b o p/\f t it b o=true) e q (fun t it b o p z1 hk=>⟨t,it,b,o,p,rfl,hk⟩) q
 ·cases h
noncomputable def onIte (e:Stmt) (f:Expr->List Stmt->List Stmt->Bool):Bool:=if h:e.ctorIdx=12 then Stmt.If.elim (motive_2:=fun z1=>Bool) e h (fun t a b z1=>f t a b) else false
theorem onIte_inv {e:Stmt} {f:Expr->List Stmt->List Stmt->Bool} (h:onIte e f=true):∃ t a b p,e=.If t a b p/\f t a b=true:=by
 unfold onIte at h
 split at h
 ·rename_i q;revert h;exact Stmt.If.elim (motive_2:=fun e=>∀ h:e.ctorIdx=12,Stmt.If.elim (motive_2:=fun z1=>Bool) e h (fun t a b z1=>f t a b)=true->∃ t a b p,e=.If t a b p/\f t a b=true) e q (fun t a b p z1 hk=>⟨t,a,b,p,rfl,hk⟩) q
 ·cases h
noncomputable def onExpr (e:Stmt) (f:Expr->Bool):Bool:=if h:e.ctorIdx=24 then Stmt.Expr.elim (motive_2:=fun z1=>Bool) e h (fun v z1=>f v) else false
theorem onExpr_inv {e:Stmt} {f:Expr->Bool} (h:onExpr e f=true):∃ v p,e=.Expr v p/\f v=true:=by
 unfold onExpr at h
 split at h
 ·rename_i q;revert h;exact Stmt.Expr.elim (motive_2:=fun e=>∀ h:e.ctorIdx=24,Stmt.Expr.elim (motive_2:=fun z1=>Bool) e h (fun v z1=>f v)=true->∃ v p,e=.Expr v p/\f v=true) e q (fun v p z1 hk=>⟨v,p,rfl,hk⟩) q
 ·cases h
noncomputable def onRaise (e:Stmt) (f:Option Expr->Option Expr->Bool):Bool:=if h:e.ctorIdx=16 then Stmt.Raise.elim (motive_2:=fun z1=>Bool) e h (fun x c z1=>f x c) else false
theorem onRaise_inv {e:Stmt} {f:Option Expr->Option Expr->Bool} (h:onRaise e f=true):∃ x c p,e=.Raise x c p/\f x c=true:=by
 unfold onRaise at h
 split at h
 ·rename_i q;revert h;exact Stmt.Raise.elim (motive_2:=fun e=>∀ h:e.ctorIdx=16,Stmt.Raise.elim (motive_2:=fun z1=>Bool) e h (fun x c z1=>f x c)=true->∃ x c p,e=.Raise x c p/\f x c=true) e q (fun x c p z1 hk=>⟨x,c,p,rfl,hk⟩) q
 ·cases h
noncomputable def onTry (e:Stmt) (f:List Stmt->List ExceptHandler->List Stmt->List Stmt->Bool):Bool:=if h:e.ctorIdx=17 then Stmt.Try.elim (motive_2:=fun z1=>Bool) e h (fun b hs o z z1=>f b hs o z) else false
theorem onTry_inv {e:Stmt} {f:List Stmt->List ExceptHandler->List Stmt->List Stmt->Bool} (h:onTry e f=true):∃ b hs o z p,e=.Try b hs o z p/\f b hs o z=true:=by
 unfold onTry at h
 split at h
 ·rename_i q;revert h;exact Stmt.Try.elim (motive_2:=fun e=>∀ h:e.ctorIdx=17,Stmt.Try.elim (motive_2:=fun z1=>Bool) e h (fun b hs o z z1=>f b hs o z)=true->∃ b hs o z p,e=.Try b hs o z p/\f b hs o z=true) e q (fun b hs o z p z1 hk=>⟨b,hs,o,z,p,rfl,hk⟩) q
 ·cases h
noncomputable def onPass (e:Stmt):Bool:=e.ctorIdx == 25
set_option tactic.hygienic false
theorem onPass_inv {e:Stmt} (h:onPass e=true):∃ p,e=.Pass p:=by
 exact Stmt.Pass.elim (motive_2:=fun e=>∃ p,e=.Pass p) e (by simpa [onPass] using h) (fun p=>⟨p,rfl⟩)
noncomputable def onBrk (e:Stmt):Bool:=e.ctorIdx == 26
theorem onBrk_inv {e:Stmt} (h:onBrk e=true):∃ p,e=.Break p:=by
 exact Stmt.Break.elim (motive_2:=fun e=>∃ p,e=.Break p) e (by simpa [onBrk] using h) (fun p=>⟨p,rfl⟩)
noncomputable def onCont (e:Stmt):Bool:=e.ctorIdx == 27
theorem onCont_inv {e:Stmt} (h:onCont e=true):∃ p,e=.Continue p:=by
 exact Stmt.Continue.elim (motive_2:=fun e=>∃ p,e=.Continue p) e (by simpa [onCont] using h) (fun p=>⟨p,rfl⟩)
noncomputable def on1 {α:Type} (l:List α) (f:α->Bool):Bool:=match l with
 | [a]=>f a
 | _=>false
theorem on1_inv {α:Type} {l:List α} {f:α->Bool} (h:on1 l f=true):∃ a,l=[a]/\f a=true:=by
 match l,h with
 | [a],h=>exact ⟨a,rfl,h⟩
noncomputable def on2 {α:Type} (l:List α) (f:α->α->Bool):Bool:=match l with
 | [a,b]=>f a b
 | _=>false
theorem on2_inv {α:Type} {l:List α} {f:α->α->Bool} (h:on2 l f=true):∃ a b,l=[a,b]/\f a b=true:=by
 match l,h with
 | [a,b],h=>exact ⟨a,b,rfl,h⟩
noncomputable def on0 {α:Type} (l:List α):Bool:=l.isEmpty
theorem zam {α:Type} {l:List α} (h:on0 l=true):l=[]:=List.isEmpty_iff.mp h
noncomputable def onSome {α:Type} (o:Option α) (f:α->Bool):Bool:=match o with
 | some a=>f a
 | none=>false
theorem zav {α:Type} {o:Option α} {f:α->Bool} (h:onSome o f=true):∃ a,o=some a/\f a=true:=by
 match o,h with
 | some a,h=>exact ⟨a,rfl,h⟩
noncomputable def onCons {α:Type} (l:List α) (f:α->List α->Bool):Bool:=match l with
 | a::r=>f a r
 | []=>false
theorem zac {α:Type} {l:List α} {f:α->List α->Bool} (h:onCons l f=true):∃ a r,l=a::r/\f a r=true:=by
 match l,h with
 | a::r,h=>exact ⟨a,r,rfl,h⟩
inductive Nd where
 | e (x:Expr) | q (x:Expr) | t (x:Expr)
 | l (x:List Expr) | ql (x:List Expr) | tl (x:List Expr)
 | o (x:Option Expr)
 | s (x:Stmt) | b (x:List Stmt)
 | hl (x:List ExceptHandler) | hd (x:ExceptHandler)
noncomputable def onHd (h:ExceptHandler) (f:Option Expr->Option Str->List Stmt->Bool):Bool:=match h with
 | .ExceptHandler t n b _=>f t n b
theorem onHd_inv {h:ExceptHandler} {f:Option Expr->Option Str->List Stmt->Bool} (k:onHd h f=true):∃ t n b p,h=.ExceptHandler t n b p/\f t n b=true:=by
 cases h with
 | ExceptHandler t n b p=>exact ⟨t,n,b,p,rfl,k⟩
noncomputable def ndE (n:Nd) (f:Expr->Bool):Bool:=match n with
 | .e x=>f x
 | .o (some x)=>f x
 | _=>false
noncomputable def ndEQ (n:Nd) (f:Expr->Bool):Bool:=match n with
 | .e x | .q x=>f x
 | .o (some x)=>f x
 | _=>false
noncomputable def ndS (n:Nd) (f:Stmt->Bool):Bool:=match n with
 | .s x=>f x
 | _=>false
noncomputable def isCst (e:Expr) (k:PySem.Const):Bool:=onCst e fun k'=>k' == k
noncomputable def keysAre:List Str->List (Option Expr)->Bool
 | [],ks=>on0 ks
 | x::xs,ks=>onCons ks fun k r=>onSome k (fun e=>isCst e (.str x)) && keysAre xs r
noncomputable def isCall (e:Expr) (f:Str->List Expr->Bool):Bool:=onCall e fun g es ks z1=>on0 ks && onNm g fun x=>f x es
noncomputable def isMeth (e:Expr) (x:Str) (f:Expr->List Expr->Bool):Bool:=onCall e fun g es ks p=>on0 ks && onAttr g fun o y ap=>y == x && zas o && ap.endLine == p.line && es.all noStar && decide (es.length<30) && f o es
noncomputable def nms (N:List Str):List Nat->Option (List Str)
 | []=>some []
 | i::r=>match N[i]?,nms N r with
  | some x,some xs=>some (x::xs)
  | _,_=>Option.none
noncomputable def nmB:List Str->List Expr->Bool
 | [],ts=>on0 ts
 | x::xs,ts=>onCons ts fun t r=>onNm t (fun y=>y == x) && nmB xs r
noncomputable def tgB (xs:List Str) (te:Expr):Bool:=match xs with
 | [x]=>onNm te fun y=>y == x
 | xs=>onTup te fun ts=>nmB xs ts
noncomputable def isComp (e:Expr) (sc:Scope) (ns:List Nat) (N:List Str) (f:Expr->Expr->List Expr->Scope->Bool):Bool:=
 onComp e fun elt gs scope z1=>on1 gs fun g=>g.is_async == 0 && onSome (nms N ns) fun xs=>tgB xs g.target && compOk scope sc xs && noSet g.iter && f elt g.iter g.ifs (zbd scope sc)
noncomputable def lc (hc:Bool) (ifs:List Expr) (f:Expr->Bool):Bool:=match hc with
 | false=>on0 ifs
 | true=>on1 ifs f
noncomputable def isAsgnC (s:Stmt) (sc:Scope) (x:Str) (f:Expr->Bool):Bool:=onAsgn s fun ts e=>on1 ts fun t=>onNmp t fun y px=>y == x && isLoc sc x &&
 (onComp e fun z1 z2 scope pos=>!(sc.names.lookup x == some .local) || (px.line == pos.line && !(scope.names.any fun (n,k)=>n == x && (k == .local || k == .cell)))) && f e
noncomputable def nmIs (N:List Str) (sc:Scope) (v:Option Nat) (nm:Option Str):Bool:=match v with
 | none=>nm.isNone
 | some i=>onSome nm fun y=>N[i]? == some y && sc.names.lookup y == some .local
noncomputable def nmsAre (sc:Scope):List Str->List Expr->Bool
 | [],es=>on0 es
 | x::xs,es=>onCons es fun e r=>onNm e (fun y=>y == x && gi sc x) && nmsAre sc xs r
noncomputable def clsIs (sc:Scope) (tp:Bool) (xs:List Str) (z:Expr):Bool:=match tp with
 | true=>onTup z fun es=>decide (es.length<=1000) && nmsAre sc xs es
 | false=>nmsAre sc xs [z]
section
variable (G:Glob) (N:List Str)
noncomputable def chk:T->Scope->Nd->Bool
 | .nil,sc,n=>(match n with
  | .l x | .ql x | .tl x=>on0 x
  | .b x=>on0 x
  | .hl x=>on0 x
  | .o x=>x.isNone
  | _=>false)
 | .cons a r,sc,n=>(match n with
  | .l x=>onCons x fun e es=>noStar e && es.all noStar && chk a sc (.e e) && chk r sc (.l es)
  | .ql x=>onCons x fun e es=>chk a sc (.q e) && chk r sc (.ql es)
  | .tl x=>onCons x fun e es=>noStar e && es.all noStar && chk a sc (.t e) && chk r sc (.tl es)
  | .b x=>onCons x fun s ss=>chk a sc (.s s) && chk r sc (.b ss)
  | .hl x=>onCons x fun h hs=>chk a sc (.hd h) && chk r sc (.hl hs)
  | _=>false)
 | .int i,sc,n=>ndE n fun e=>isCst e (.int i) || onNm e (fun x=>gi sc x && G.gInts.lookup x == some i)
 | .str y,sc,n=>ndE n fun e=>isCst e (.str y) || onNm e (fun x=>gi sc x && G.gStrs.lookup x == some y)
 | .bool b,sc,n=>ndE n fun e=>isCst e (.bool b)
 | .none,sc,n=>ndE n fun e=>isCst e .none
 | .var i,sc,n=>(match n with
  | .t e=>onNm e (fun x=>isLoc sc x && N[i]? == some x)
  | n=>ndEQ n fun e=>onNm e (fun x=>isVar sc x && N[i]? == some x))
 | .bin op a b,sc,n=>ndE n fun e=>onBin e (fun l o r=>o == op && chk a sc (.e l) && chk b sc (.e r))
 | .un op a,sc,n=>(match n with
  | .q e=>onUn e (fun o l=>o == op && op == .Not && chk a sc (.q l))
  | n=>ndE n fun e=>onUn e (fun o l=>o == op && chk a sc (.e l)))
 | .cmp op a b,sc,n=>ndEQ n fun e=>onCmp e fun l os rs=>os == [op] && on1 rs fun r=>!behindInMarks op r && chk a sc (.e l) && chk b sc (.e r)
 | .cmp2 a o₁ b o₂ b',sc,n=>ndEQ n fun e=>onCmp e fun l os rs=>os == [o₁,o₂] && on2 rs fun r r'=>!behindInMarks o₂ r' && chk a sc (.e l) && chk b sc (.e r) && chk b' sc (.e r')
 | .bo op es,sc,n=>(match n with
  | .q e=>onBo e (fun o xs=>o == op && chk es sc (.ql xs))
  | n=>ndE n fun e=>onBo e (fun o xs=>o == op && chk es sc (.l xs)))
 | .ife t a b,sc,n=>ndE n fun e=>onIf e (fun x y z=>chk t sc (.q x) && chk a sc (.e y) && chk b sc (.e z))
 | .tup es,sc,n=>(match n with
  | .t e=>onTup e (fun xs=>chk es sc (.tl xs))
  | n=>ndE n fun e=>onTup e (fun xs=>decide (xs.length<=1000) && chk es sc (.l xs)))
 | .lst _ es,sc,n=>ndE n fun e=>onLs e (fun xs=>decide (xs.length<=1000) && chk es sc (.l xs))
 | .call f es,sc,n=>ndEQ n fun e=>isCall e (fun x xs=>x == f && gi sc f && G.gDefs.contains f && chk es sc (.l xs))
 | .blt f es,sc,n=>ndEQ n fun e=>isCall e (fun x xs=>x == f.name && gi sc f.name && true && chk es sc (.l xs))
 | .isi a f,sc,n=>ndEQ n fun e=>isCall e (fun x xs=>x == Bf.isinstance.name && gi sc Bf.isinstance.name && on2 xs fun y z=>noStar y && onNm z (fun x=>x == f.name && gi sc f.name) && chk a sc (.e y))
 | .meth o x es,sc,n=>ndEQ n fun e=>isMeth e x (fun p xs=>chk o sc (.e p) && chk es sc (.l xs))
 | .methI o x es,sc,n=>ndEQ n fun e=>isMeth e x (fun p xs=>chk o sc (.e p) && chk es sc (.l xs))
 | .attr a x,sc,n=>(match n with
  | .t e=>onAttr e (fun o y z1=>y == x && zas o && chk a sc (.e o))
  | n=>ndEQ n fun e=>onAttr e (fun o y z1=>y == x && zas o && chk a sc (.e o)))
 | .item a b,sc,n=>(match n with
  | .t e=>onSub e (fun v i=>noSlice i && chk a sc (.e v) && chk b sc (.e i))
  | n=>ndEQ n fun e=>onSub e (fun v i=>noSlice i && chk a sc (.e v) && chk b sc (.e i)))
 | .slice a lo hi,sc,n=>ndE n fun e=>onSub e (fun v s=>onSl s fun l h st=>st.isNone && chk a sc (.e v) && chk lo sc (.o l) && chk hi sc (.o h))
 | .comp _ hc elt t it cond,sc,n=>ndE n fun e=>isComp e sc t N (fun e it' ifs sc'=>chk it sc (.e it') && chk elt sc' (.e e) && lc hc ifs (fun q=>chk cond sc' (.q q)))
 | .cut q,sc,n=>(match n with
  | .q e=>chk q sc (.q e)
  | .e e=>chk q sc (.e e)
  | _=>false)
 | .ret e,sc,n=>ndS n fun s=>onRet s fun o=>onSome o fun x=>chk e sc (.e x)
 | .ret0,sc,n=>ndS n fun s=>onRet s fun o=>o.isNone
 | .pass,sc,n=>ndS n onPass
 | .brk,sc,n=>ndS n onBrk
 | .cont,sc,n=>ndS n onCont
 | .expr e,sc,n=>ndS n fun s=>onExpr s (fun x=>noComp x && chk e sc (.e x))
 | .asgn t e,sc,n=>ndS n fun s=>onAsgn s (fun ts y=>on1 ts fun x=>noSwap x y && noStar x && chk t sc (.t x) && chk e sc (.e y))
 | .asgnC i _ hc elt t it cond,sc,n=>ndS n fun s=>onSome N[i]? fun x=>isAsgnC s sc x (fun e=>isComp e sc t N (fun e it' ifs sc'=>chk it sc (.e it') && chk elt sc' (.e e) && lc hc ifs (fun q=>chk cond sc' (.q q))))
 | .ite t a b,sc,n=>ndS n fun s=>onIte s (fun x y z=>chk t sc (.q x) && chk a sc (.b y) && chk b sc (.b z))
 | .for_ t it body,sc,n=>ndS n fun s=>onFor s (fun x y z o=>on0 o && noSet y && chk t sc (.t x) && chk it sc (.e y) && chk body sc (.b z))
 | .dict _ _,sc,n=>ndE n fun e=>onDict e (fun ks vs=>on0 ks && on0 vs)
 | .dictL xs es,sc,n=>ndE n fun e=>onDict e (fun ks vs=>keysAre xs ks && decide (vs.length<=15) && decide (xs.length=vs.length) && chk es sc (.l vs))
 | .raise x es,sc,n=>ndS n fun s=>onRaise s fun o c=>c.isNone && onSome o fun e=>isCall e (fun y xs=>y == x && gi sc x && decide (xs.length<=1000) && chk es sc (.l xs))
 | .try_ body hs,sc,n=>ndS n fun s=>onTry s fun b h o z=>on0 o && on0 z && chk body sc (.b b) && chk hs sc (.hl h)
 | .handler x v body,sc,n=>(match n with
  | .hd h=>onHd h fun t nm b=>onSome t (fun t=>onNm t fun y=>y == x && gi sc x) && nmIs N sc v nm && chk body sc (.b b)
  | _=>false)
 | .isx a tp xs,sc,n=>ndEQ n fun e=>isCall e (fun x ys=>x == Bf.isinstance.name && gi sc Bf.isinstance.name && on2 ys fun y z=>noStar y && noStar z && clsIs sc tp xs z && chk a sc (.e y))
 | _,_,_=>false
end
end Mine
end
section
namespace Mine
open PySem
variable {c:Cx} {d:Nat} {sc:Scope} {σ:Led} {P P':V->Led->Prop} {X:XP} {G:Glob} {N:List Str} {ρ:Rho}
noncomputable def Nm (N:List Str) (ρ:Rho):AEnv:=ρ.filterMap fun p=>N[p.1]?.map (·,p.2)
structure NmOk (N:List Str):Prop where
 nd:N.Nodup
 dot:(".0":Str)∉N
theorem nm_cons {i:Nat} {x:Str} {v:V} (hx:N[i]?=some x):Nm N ((i,v)::ρ)=(x,v)::Nm N ρ:=by
 unfold Nm;rw [List.filterMap_cons,hx];rfl
theorem nm_lookup (ok:NmOk N) {i:Nat} {x:Str} (hx:N[i]?=some x):∀ ρ:Rho,(Nm N ρ).lookup x=ρ.lookup i
 | []=>rfl
 | (j,w)::ρ=>by
  have ih:=nm_lookup ok hx ρ
  rw [List.lookup_cons]
  cases hj:N[j]? with
  | none=>
   have hne:(i == j)=false:=by
    rw [beq_eq_false_iff_ne];rintro rfl;rw [hx] at hj;cases hj
   rw [hne]
   unfold Nm at ih ⊢
   rw [List.filterMap_cons,hj]
   exact ih
  | some y=>
   rw [nm_cons hj,List.lookup_cons]
   by_cases e:i=j
   ·subst e
    rw [hx] at hj;cases hj
    rw [beq_self_eq_true,beq_self_eq_true]
   ·have hxy:(x == y)=false:=by
     rw [beq_eq_false_iff_ne];rintro rfl
     obtain ⟨hi,e1⟩:=List.getElem?_eq_some_iff.mp hx
     obtain ⟨hj',e2⟩:=List.getElem?_eq_some_iff.mp hj
     exact e ((List.getElem_inj ok.nd).mp (e1.trans e2.symm))
    have hij:(i == j)=false:=by simpa using e
    rw [hxy,hij];exact ih
theorem nm_mem {x:Str} {v:V}:∀ {ρ:Rho},(Nm N ρ).lookup x=some v->∃ i:Nat,N[i]?=some x
 | [],h=>by cases h
 | (j,w)::ρ,h=>by
  cases hj:N[j]? with
  | none=>unfold Nm at h;rw [List.filterMap_cons,hj] at h;exact nm_mem (ρ:=ρ) h
  | some y=>
   rw [nm_cons hj,List.lookup_cons] at h
   cases e:x == y with
   | true=>rw [eq_of_beq e];exact ⟨j,hj⟩
   | false=>rw [e] at h;exact nm_mem (ρ:=ρ) h
theorem nm_dot (ok:NmOk N):(Nm N ρ).lookup (".0":Str)=none:=by
 cases h:(Nm N ρ).lookup (".0":Str) with
 | none=>rfl
 | some v=>obtain ⟨i,hi⟩:=nm_mem h;exact absurd (List.mem_of_getElem? hi) ok.dot
noncomputable def RSub (ρ' ρ:Rho):Prop:=∀ i v,ρ'.lookup i=some v->ρ.lookup i=some v
theorem nm_sub (ok:NmOk N) {ρ':Rho} (h:RSub ρ' ρ):Sub (Nm N ρ') (Nm N ρ):=fun x v e=>by
 obtain ⟨i,hi⟩:=nm_mem e
 rw [nm_lookup ok hi] at e ⊢
 exact h i v e
theorem Sub.refl' {m:AEnv}:Sub m m:=fun z1 z2 h=>h
noncomputable def After (N:List Str) (K:Rho->Led->Prop) (m:AEnv) (σ:Led):Prop:=∃ ρ,Sub (Nm N ρ) m/\K ρ σ
noncomputable def AfterF (N:List Str) (K:Fl->Rho->Led->Prop) (f:Fl) (m:AEnv) (σ:Led):Prop:=∃ ρ,Sub (Nm N ρ) m/\K f ρ σ
noncomputable def JE (c:Cx) (d:Nat) (X:XP) (t:T) (ρ:Rho) (σ:Led) (P:V->Led->Prop):Prop:=∀ G N sc e,GlobOk c.k G->NmOk N->chk G N t sc (.e e)=true->WE c d sc e (Nm N ρ) σ P X
noncomputable def JT (c:Cx) (d:Nat) (X:XP) (t:T) (ρ:Rho) (σ:Led) (P:Bool->Led->Prop):Prop:=∀ G N sc e,GlobOk c.k G->NmOk N->chk G N t sc (.q e)=true->WT c d sc e (Nm N ρ) σ P X
noncomputable def JTs (c:Cx) (d:Nat) (X:XP) (op:BoolOp) (t:T) (ρ:Rho) (σ:Led) (P:Bool->Led->Prop):Prop:=∀ G N sc es,GlobOk c.k G->NmOk N->chk G N t sc (.ql es)=true->WTs c d sc op es (Nm N ρ) σ P X
noncomputable def JBo (c:Cx) (d:Nat) (X:XP) (op:BoolOp) (t:T) (ρ:Rho) (σ:Led) (P:V->Led->Prop):Prop:=∀ G N sc es,GlobOk c.k G->NmOk N->chk G N t sc (.l es)=true->WEb c d sc op es (Nm N ρ) σ P X
noncomputable def JL (c:Cx) (d:Nat) (X:XP) (t:T) (ρ:Rho) (σ:Led) (P:List V->Led->Prop):Prop:=∀ G N sc es,GlobOk c.k G->NmOk N->chk G N t sc (.l es)=true->WEs c d sc es (Nm N ρ) σ P X
noncomputable def JO (c:Cx) (d:Nat) (X:XP) (t:T) (ρ:Rho) (σ:Led) (P:Option Int->Led->Prop):Prop:=∀ G N sc o,GlobOk c.k G->NmOk N->chk G N t sc (.o o)=true->WEo c d sc o (Nm N ρ) σ P X
noncomputable def JA (c:Cx) (d:Nat) (X:XP) (t:T) (v:V) (ρ:Rho) (σ:Led) (K:Rho->Led->Prop):Prop:=∀ G N sc e,GlobOk c.k G->NmOk N->chk G N t sc (.t e)=true->WA c d sc e v (Nm N ρ) σ (After N K) X
noncomputable def JAs (c:Cx) (d:Nat) (X:XP) (t:T) (vs:List V) (ρ:Rho) (σ:Led) (K:Rho->Led->Prop):Prop:=∀ G N sc es,GlobOk c.k G->NmOk N->chk G N t sc (.tl es)=true->WAs c d sc es vs (Nm N ρ) σ (After N K) X
noncomputable def JS (c:Cx) (d:Nat) (X:XP) (t:T) (ρ:Rho) (σ:Led) (K:Fl->Rho->Led->Prop):Prop:=∀ G N sc s,GlobOk c.k G->NmOk N->chk G N t sc (.s s)=true->WS c d sc s (Nm N ρ) σ (AfterF N K) X
noncomputable def JB (c:Cx) (d:Nat) (X:XP) (t:T) (ρ:Rho) (σ:Led) (K:Fl->Rho->Led->Prop):Prop:=∀ G N sc ss,GlobOk c.k G->NmOk N->chk G N t sc (.b ss)=true->WSs c d sc ss (Nm N ρ) σ (AfterF N K) X
theorem and_tt {a b:Bool} (h:(a && b)=true):a=true/\b=true:=Bool.and_eq_true_iff.mp h
theorem zbu {e:Expr} (h:noStar e=true) (es:List Expr) (env:Env):starEach (e::es) env=(false,eval e env)::starEach es env:=by
 cases e with
 | Starred=>cases h
 | _=>rfl
theorem zbm:∀ {es:List Expr},es.all noStar=true->∀ env,(starEach es env).any (·.1)=false
 | [],_,_=>rfl
 | e::es,h,env=>by
  obtain ⟨h1,h2⟩:=and_tt h
  rw [zbu h1,List.any_cons,zbm h2 env];rfl
theorem asg_cons {e:Expr} (h:noStar e=true) (es:List Expr) (env:Env):assignEach (e::es) env=(false,assign e env)::assignEach es env:=by
 cases e with
 | Starred=>cases h
 | _=>rfl
theorem asg_all:∀ {es:List Expr},es.all noStar=true->∀ env,(assignEach es env).findIdx? (·.1)=none/\(assignEach es env).length=es.length
 | [],_,_=>⟨rfl,rfl⟩
 | e::es,h,env=>by
  obtain ⟨h1,h2⟩:=and_tt h
  obtain ⟨i1,i2⟩:=asg_all h2 env
  rw [asg_cons h1]
  exact ⟨by rw [List.findIdx?_cons];simp [i1],by simp [i2]⟩
theorem fold_no {e:Expr} (h:noSet e=true) (env:Env) (x:Value):foldedSetIterable e env x=pure x:=by
 cases e with
 | Set=>cases h
 | _=>rfl
theorem index_no {e:Expr} (h:noSlice e=true) (o i:Value):subscripted e false o i=operate [o,i] (getItem o i):=by
 cases e with
 | Slice=>cases h
 | _=>rfl
theorem swaps_no {e:Expr} (h:noComp e=true) (t:Option Expr) (line:Nat) (env:Env):swapsWith e t line env=pure false:=by
 cases e with
 | ListComp=>cases h
 | SetComp=>cases h
 | DictComp=>cases h
 | _=>rfl
theorem swaps_no2 {x y:Expr} (h:noSwap x y=true) (line:Nat) (env:Env):swapsWith y (some x) line env=pure false:=by
 rcases (Bool.or_eq_true _ _).mp h with q | q
 ·exact swaps_no q _ _ _
 ·refine Expr.Subscript.elim (motive_1:=fun x=>swapsWith y (some x) line env=pure false) x (eq_of_beq q) fun v i p=>?_
  by_cases k1:y.ctorIdx=8
  ·exact Expr.ListComp.elim (motive_1:=fun y=>swapsWith y (some (.Subscript v i p)) line env=pure false) y k1 fun z1 z2 z3 z4=>rfl
  by_cases k2:y.ctorIdx=9
  ·exact Expr.SetComp.elim (motive_1:=fun y=>swapsWith y (some (.Subscript v i p)) line env=pure false) y k2 fun z1 z2 z3 z4=>rfl
  by_cases k3:y.ctorIdx=10
  ·exact Expr.DictComp.elim (motive_1:=fun y=>swapsWith y (some (.Subscript v i p)) line env=pure false) y k3 fun z1 z2 z3 z4 z5=>rfl
  refine swaps_no ?_ _ _ _
  unfold noComp
  rw [bne_iff_ne.mpr k1,bne_iff_ne.mpr k2,bne_iff_ne.mpr k3];rfl
theorem stores_nm {x:Str} {p:Pos} {e:Expr} (env:Env):swappedStores [.Name x p] e env=pure none:=rfl
theorem stores_sub {o i:Expr} {p:Pos} {e:Expr} (env:Env):swappedStores [.Subscript o i p] e env=pure none:=rfl
theorem stores_attr {o:Expr} {x:Str} {p:Pos} {e:Expr} (env:Env):swappedStores [.Attribute o x p] e env=pure none:=rfl
theorem stores_tup {ts:List Expr} {k:Nat} {p q:Pos} {o i:Expr} (env:Env):swappedStores [.Tuple ts k p] (.Subscript o i q) env=pure none:=rfl
end Mine
end
section
namespace Mine
open PySem
variable {c:Cx} {d:Nat} {sc:Scope} {σ:Led} {P P':V->Led->Prop} {X:XP} {G:Glob} {N:List Str} {ρ:Rho}
theorem JE.mono {t:T} (h:JE c d X t ρ σ P) (k:∀ v σ',P v σ'->P' v σ'):JE c d X t ρ σ P':=fun G N sc e hG hN hc=>(h G N sc e hG hN hc).mono k
theorem WEs.mono {es:List Expr} {m:AEnv} {P P':List V->Led->Prop} (h:WEs c d sc es m σ P X) (k:∀ v σ',P v σ'->P' v σ'):WEs c d sc es m σ P' X:=fun env A s E pos r=>
 ⟨(h env A s E pos r).1,wpAny_mono (h env A s E pos r).2 (fun z1 z2=>.imp fun z1 z2 q=>⟨q.1,k _ _ q.2⟩) fun z1 z2 x=>x⟩
theorem WEo.mono {o:Option Expr} {m:AEnv} {P P':Option Int->Led->Prop} (h:WEo c d sc o m σ P X) (k:∀ v σ',P v σ'->P' v σ'):WEo c d sc o m σ P' X:=fun env A s E r=>
 wpAny_mono (h env A s E r) (fun z1 z2=>.imp k) fun z1 z2 x=>x
theorem WS.mono {st:Stmt} {m:AEnv} {K K':Fl->AEnv->Led->Prop} (h:WS c d sc st m σ K X) (k:∀ f m' σ',K f m' σ'->K' f m' σ'):WS c d sc st m σ K' X:=fun env A s E r=>
 wpAny_mono (h env A s E r) (fun z1 z2=>.imp k) fun z1 z2 x=>x
theorem WAs_sub {ts:List Expr} {vs:List V} {m m':AEnv} {K:AEnv->Led->Prop} (k:Sub m' m) (h:WAs c d sc ts vs m' σ K X):WAs c d sc ts vs m σ K X:=fun env A s E cvs r rv=>
 h env A s E cvs ⟨r.sc,r.ok,r.fr,r.a,r.st,r.er.sub k,r.e⟩ rv
theorem JE_int {i:Int} (h:P (.int i) σ):JE c d X (.int i) ρ σ P:=fun G N sc e hG hN hc=>by
 rcases (Bool.or_eq_true _ _).mp (show (isCst e (.int i) || onNm e (fun x=>gi sc x && G.gInts.lookup x == some i))=true from hc) with q | q
 ·obtain ⟨k,n,p,rfl,e⟩:=onCst_inv q
  rw [eq_of_beq e];exact WE_int h
 ·obtain ⟨x,p,rfl,e⟩:=zaw q
  obtain ⟨e1,e2⟩:=and_tt e
  exact WE_const hG.ok (hG.hInts x i (eq_of_beq e2)) h (gi_of e1)
theorem JE_str {y:Str} (h:P (.str y) σ):JE c d X (.str y) ρ σ P:=fun G N sc e hG hN hc=>by
 rcases (Bool.or_eq_true _ _).mp (show (isCst e (.str y) || onNm e (fun x=>gi sc x && G.gStrs.lookup x == some y))=true from hc) with q | q
 ·obtain ⟨k,n,p,rfl,e⟩:=onCst_inv q
  rw [eq_of_beq e];exact WE_str h
 ·obtain ⟨x,p,rfl,e⟩:=zaw q
  obtain ⟨e1,e2⟩:=and_tt e
  exact WE_const hG.ok (hG.hStrs x y (eq_of_beq e2)) h (gi_of e1)
theorem JE_bool {b:Bool} (h:P (.bool b) σ):JE c d X (.bool b) ρ σ P:=fun G N sc e hG hN hc=>by
 obtain ⟨k,n,p,rfl,e⟩:=onCst_inv (show isCst e (.bool b)=true from hc)
 rw [eq_of_beq e];exact WE_bool h
theorem JE_none (h:P .none σ):JE c d X .none ρ σ P:=fun G N sc e hG hN hc=>by
 obtain ⟨k,n,p,rfl,e⟩:=onCst_inv (show isCst e .none=true from hc)
 rw [eq_of_beq e];exact WE_none h
theorem JE_var {i:Nat} {v:V} (hv:ρ.lookup i=some v) (h:P v σ):JE c d X (.var i) ρ σ P:=fun G N sc e hG hN hc=>by
 obtain ⟨x,p,rfl,e⟩:=zaw (show onNm e (fun x=>isVar sc x && N[i]? == some x)=true from hc)
 obtain ⟨e1,e2⟩:=and_tt e
 exact WE_name ((nm_lookup hN (eq_of_beq e2) ρ).trans hv) h e1
theorem JE_bin {op:Operator} {a b:T} (h:JE c d X a ρ σ (fun x σ₁=>JE c d X b ρ σ₁ (fun y σ₂=>Op2 c d (binaryOp op) x y σ₂ P))):JE c d X (.bin op a b) ρ σ P:=fun G N sc e hG hN hc=>by
 obtain ⟨l,o,r,p,rfl,e⟩:=onBin_inv (show onBin e (fun l o r=>o == op && chk G N a sc (.e l) && chk G N b sc (.e r))=true from hc)
 obtain ⟨e1,e3⟩:=and_tt e
 obtain ⟨e1,e2⟩:=and_tt e1
 rw [eq_of_beq e1]
 exact WE_binop ((h G N sc l hG hN e2).mono fun x σ₁ q=>q G N sc r hG hN e3)
theorem JE_un {op:UnaryOp} {a:T} (h:JE c d X a ρ σ (fun x σ₁=>Op1 c d (unaryOp op) x σ₁ P)):JE c d X (.un op a) ρ σ P:=fun G N sc e hG hN hc=>by
 obtain ⟨o,l,p,rfl,e⟩:=onUn_inv (show onUn e (fun o l=>o == op && chk G N a sc (.e l))=true from hc)
 obtain ⟨e1,e2⟩:=and_tt e
 rw [eq_of_beq e1]
 exact WE_unary (h G N sc l hG hN e2)
theorem cmp_inv {op:CmpOp} {a b:T} {e:Expr} (hc:onCmp e (fun l os rs=>os == [op] && on1 rs fun r=>!behindInMarks op r && chk G N a sc (.e l) && chk G N b sc (.e r))=true) :
  ∃ l r p,e=.Compare l [op] [r] p/\behindInMarks op r=false/\chk G N a sc (.e l)=true/\chk G N b sc (.e r)=true:=by
 obtain ⟨l,os,rs,p,rfl,e⟩:=onCmp_inv hc
 obtain ⟨e1,e2⟩:=and_tt e
 obtain ⟨r,rfl,e3⟩:=on1_inv e2
 obtain ⟨e3,e5⟩:=and_tt e3
 obtain ⟨e3,e4⟩:=and_tt e3
 rw [eq_of_beq e1]
 exact ⟨l,r,p,rfl,by simpa using e3,e4,e5⟩
theorem JE_cmp {op:CmpOp} {a b:T} (h:JE c d X a ρ σ (fun x σ₁=>JE c d X b ρ σ₁ (fun y σ₂=>Op2 c d (compareOp op) x y σ₂ P))):JE c d X (.cmp op a b) ρ σ P:=fun G N sc e hG hN hc=>by
 obtain ⟨l,r,p,rfl,e1,e2,e3⟩:=cmp_inv hc
 exact WE_cmp ((h G N sc l hG hN e2).mono fun x σ₁ q=>q G N sc r hG hN e3) e1
theorem JT_cmp {op:CmpOp} {a b:T} {P:Bool->Led->Prop} (h:JE c d X a ρ σ (fun x σ₁=>JE c d X b ρ σ₁ (fun y σ₂=>Op2 c d (compareOp op) x y σ₂ (fun v σ₃=>∃ t,v=.bool t/\P t σ₃)))):JT c d X (.cmp op a b) ρ σ P:=fun G N sc e hG hN hc=>by
 obtain ⟨l,r,p,rfl,e1,e2,e3⟩:=cmp_inv hc
 exact WT_cmp ((h G N sc l hG hN e2).mono fun x σ₁ q=>q G N sc r hG hN e3) e1
theorem cmp2_inv {o₁ o₂:CmpOp} {a b b':T} {e:Expr} (hc:onCmp e (fun l os rs=>os == [o₁,o₂] && on2 rs fun r r'=>!behindInMarks o₂ r' && chk G N a sc (.e l) && chk G N b sc (.e r) && chk G N b' sc (.e r'))=true) :
  ∃ l r r' p,e=.Compare l [o₁,o₂] [r,r'] p/\behindInMarks o₂ r'=false/\chk G N a sc (.e l)=true/\chk G N b sc (.e r)=true/\chk G N b' sc (.e r')=true:=by
 obtain ⟨l,os,rs,p,rfl,e⟩:=onCmp_inv hc
 obtain ⟨e1,e2⟩:=and_tt e
 obtain ⟨r,r',rfl,e3⟩:=on2_inv e2
 obtain ⟨e3,e6⟩:=and_tt e3
 obtain ⟨e3,e5⟩:=and_tt e3
 obtain ⟨e3,e4⟩:=and_tt e3
 rw [eq_of_beq e1]
 exact ⟨l,r,r',p,rfl,by simpa using e3,e4,e5,e6⟩
theorem Op2.mono {t:Value->Value->Sem Value} {a b:V} (h:Op2 c d t a b σ P) (k:∀ v σ',P v σ'->P' v σ'):Op2 c d t a b σ P':=fun A s E ca cb ha hs ra rb=>
 wpAny_mono (h A s E ca cb ha hs ra rb) (fun z1 z2=>.imp k) fun z1 z2 x=>x
theorem JE_cmp2 {o₁ o₂:CmpOp} {a b b':T} (h:JE c d X a ρ σ (fun x σ₁=>JE c d X b ρ σ₁ (fun y σ₂=>Op2 c d (compareOp o₁) x y σ₂ (fun v σ₃=>∃ t,v=.bool t/\if t=true then JE c d X b' ρ σ₃ (fun z σ₄=>Op2 c d (compareOp o₂) y z σ₄ P) else P (.bool false) σ₃)))) :
  JE c d X (.cmp2 a o₁ b o₂ b') ρ σ P:=fun G N sc e hG hN hc=>by
 obtain ⟨l,r,r',p,rfl,e1,e2,e3,e4⟩:=cmp2_inv hc
 refine WE_cmp2 ((h G N sc l hG hN e2).mono fun x σ₁ q=>(q G N sc r hG hN e3).mono fun y σ₂ q=>q.mono fun v σ₃ q=>?_) e1
 obtain ⟨t,q1,q2⟩:=q
 refine ⟨t,q1,?_⟩
 cases t with
 | true=>exact q2 G N sc r' hG hN e4
 | false=>exact q2
theorem JT_cmp2 {o₁ o₂:CmpOp} {a b b':T} {P:Bool->Led->Prop} (h:JE c d X a ρ σ (fun x σ₁=>JE c d X b ρ σ₁ (fun y σ₂=>Op2 c d (compareOp o₁) x y σ₂ (fun v σ₃=>∃ t,v=.bool t/\if t=true then JE c d X b' ρ σ₃ (fun z σ₄=>Op2 c d (compareOp o₂) y z σ₄ (fun v σ₅=>∃ t,v=.bool t/\P t σ₅)) else P false σ₃)))) :
  JT c d X (.cmp2 a o₁ b o₂ b') ρ σ P:=fun G N sc e hG hN hc=>by
 obtain ⟨l,r,r',p,rfl,e1,e2,e3,e4⟩:=cmp2_inv hc
 refine WT_cmp2 ((h G N sc l hG hN e2).mono fun x σ₁ q=>(q G N sc r hG hN e3).mono fun y σ₂ q=>q.mono fun v σ₃ q=>?_) e1
 obtain ⟨t,q1,q2⟩:=q
 refine ⟨t,q1,?_⟩
 cases t with
 | true=>exact q2 G N sc r' hG hN e4
 | false=>exact q2
theorem JT_not {a:T} {P:Bool->Led->Prop} (h:JT c d X a ρ σ (fun b σ₁=>P (!b) σ₁)):JT c d X (.un .Not a) ρ σ P:=fun G N sc e hG hN hc=>by
 obtain ⟨o,l,p,rfl,e⟩:=onUn_inv (show onUn e (fun o l=>o == .Not && UnaryOp.Not == .Not && chk G N a sc (.q l))=true from hc)
 obtain ⟨e1,e2⟩:=and_tt e
 obtain ⟨e1,_⟩:=and_tt e1
 rw [eq_of_beq e1]
 exact WT_not (h G N sc l hG hN e2)
theorem JT_bo {op:BoolOp} {es:T} {P:Bool->Led->Prop} (h:JTs c d X op es ρ σ P):JT c d X (.bo op es) ρ σ P:=fun G N sc e hG hN hc=>by
 obtain ⟨o,l,p,rfl,e⟩:=onBo_inv (show onBo e (fun o xs=>o == op && chk G N es sc (.ql xs))=true from hc)
 obtain ⟨e1,e2⟩:=and_tt e
 rw [eq_of_beq e1]
 exact WT_bool (h G N sc l hG hN e2)
theorem JTs_and_nil {P:Bool->Led->Prop} (h:P true σ):JTs c d X .And .nil ρ σ P:=fun G N sc es hG hN hc=>by
 rw [zam (show on0 es=true from hc)];exact WTs_and_nil h
theorem JTs_or_nil {P:Bool->Led->Prop} (h:P false σ):JTs c d X .Or .nil ρ σ P:=fun G N sc es hG hN hc=>by
 rw [zam (show on0 es=true from hc)];exact WTs_or_nil h
theorem JTs_and {a r:T} {P:Bool->Led->Prop} (h:JT c d X a ρ σ (fun b σ₁=>if b=true then JTs c d X .And r ρ σ₁ P else P false σ₁)):JTs c d X .And (.cons a r) ρ σ P:=fun G N sc es hG hN hc=>by
 obtain ⟨e,es,rfl,q⟩:=zac (show onCons es (fun e es=>chk G N a sc (.q e) && chk G N r sc (.ql es))=true from hc)
 obtain ⟨e1,e2⟩:=and_tt q
 refine WTs_and ((h G N sc e hG hN e1).mono fun b σ₁ q=>?_)
 cases b with
 | true=>exact q G N sc es hG hN e2
 | false=>exact q
theorem JTs_or {a r:T} {P:Bool->Led->Prop} (h:JT c d X a ρ σ (fun b σ₁=>if b=true then P true σ₁ else JTs c d X .Or r ρ σ₁ P)):JTs c d X .Or (.cons a r) ρ σ P:=fun G N sc es hG hN hc=>by
 obtain ⟨e,es,rfl,q⟩:=zac (show onCons es (fun e es=>chk G N a sc (.q e) && chk G N r sc (.ql es))=true from hc)
 obtain ⟨e1,e2⟩:=and_tt q
 refine WTs_or ((h G N sc e hG hN e1).mono fun b σ₁ q=>?_)
 cases b with
 | true=>exact q
 | false=>exact q G N sc es hG hN e2
theorem JT_var {i:Nat} {P:Bool->Led->Prop} (h:JE c d X (.var i) ρ σ (fun v σ₁=>∃ b,v=.bool b/\P b σ₁)):JT c d X (.var i) ρ σ P:=fun G N sc e hG hN hc=>by
 have h1:=h G N sc e hG hN hc
 obtain ⟨x,p,rfl,_⟩:=zaw hc
 exact WT_value h1 (fun z1 z2=>rfl)
theorem JT_call {f:Str} {es:T} {P:Bool->Led->Prop} (h:JE c d X (.call f es) ρ σ (fun v σ₁=>∃ b,v=.bool b/\P b σ₁)):JT c d X (.call f es) ρ σ P:=fun G N sc e hG hN hc=>by
 have h1:=h G N sc e hG hN hc
 obtain ⟨g,xs,ks,p,rfl,_⟩:=zbg hc
 exact WT_value h1 (fun z1 z2=>rfl)
theorem JT_blt {f:Bf} {es:T} {P:Bool->Led->Prop} (h:JE c d X (.blt f es) ρ σ (fun v σ₁=>∃ b,v=.bool b/\P b σ₁)):JT c d X (.blt f es) ρ σ P:=fun G N sc e hG hN hc=>by
 have h1:=h G N sc e hG hN hc
 obtain ⟨g,xs,ks,p,rfl,_⟩:=zbg hc
 exact WT_value h1 (fun z1 z2=>rfl)
theorem JT_isi {a:T} {f:Bf} {P:Bool->Led->Prop} (h:JE c d X (.isi a f) ρ σ (fun v σ₁=>∃ b,v=.bool b/\P b σ₁)):JT c d X (.isi a f) ρ σ P:=fun G N sc e hG hN hc=>by
 have h1:=h G N sc e hG hN hc
 obtain ⟨g,xs,ks,p,rfl,_⟩:=zbg hc
 exact WT_value h1 (fun z1 z2=>rfl)
theorem JT_meth {o es:T} {x:Str} {P:Bool->Led->Prop} (h:JE c d X (.meth o x es) ρ σ (fun v σ₁=>∃ b,v=.bool b/\P b σ₁)):JT c d X (.meth o x es) ρ σ P:=fun G N sc e hG hN hc=>by
 have h1:=h G N sc e hG hN hc
 obtain ⟨g,xs,ks,p,rfl,_⟩:=zbg hc
 exact WT_value h1 (fun z1 z2=>rfl)
theorem JT_item {a b:T} {P:Bool->Led->Prop} (h:JE c d X (.item a b) ρ σ (fun v σ₁=>∃ b,v=.bool b/\P b σ₁)):JT c d X (.item a b) ρ σ P:=fun G N sc e hG hN hc=>by
 have h1:=h G N sc e hG hN hc
 obtain ⟨v,i,p,rfl,_⟩:=onSub_inv hc
 exact WT_value h1 (fun z1 z2=>rfl)
theorem JE_cut {q:T} {v:V} (h:∀ Q:V->Led->Prop,Q v σ->JE c d X q ρ σ Q) (k:P v σ):JE c d X (.cut q) ρ σ P:=fun G N sc e hG hN hc=>h P k G N sc e hG hN hc
theorem JT_cut {q:T} {b:Bool} {P:Bool->Led->Prop} (h:∀ Q:Bool->Led->Prop,Q b σ->JT c d X q ρ σ Q) (k:P b σ):JT c d X (.cut q) ρ σ P:=fun G N sc e hG hN hc=>h P k G N sc e hG hN hc
theorem JE_ife {t a b:T} (h:JT c d X t ρ σ (fun k σ₁=>if k=true then JE c d X a ρ σ₁ P else JE c d X b ρ σ₁ P)):JE c d X (.ife t a b) ρ σ P:=fun G N sc e hG hN hc=>by
 obtain ⟨x,y,z,p,rfl,e⟩:=onIf_inv (show onIf e (fun x y z=>chk G N t sc (.q x) && chk G N a sc (.e y) && chk G N b sc (.e z))=true from hc)
 obtain ⟨e1,e3⟩:=and_tt e
 obtain ⟨e1,e2⟩:=and_tt e1
 refine WE_ifexp ((h G N sc x hG hN e1).mono fun k σ₁ q=>?_)
 cases k with
 | true=>exact q G N sc y hG hN e2
 | false=>exact q G N sc z hG hN e3
theorem JE_bo {op:BoolOp} {es:T} (h:JBo c d X op es ρ σ P):JE c d X (.bo op es) ρ σ P:=fun G N sc e hG hN hc=>by
 obtain ⟨o,l,p,rfl,e⟩:=onBo_inv (show onBo e (fun o xs=>o == op && chk G N es sc (.l xs))=true from hc)
 obtain ⟨e1,e2⟩:=and_tt e
 rw [eq_of_beq e1]
 exact WE_boolop (h G N sc l hG hN e2)
theorem cons_inv {a r:T} {es:List Expr} (hc:chk G N (.cons a r) sc (.l es)=true):∃ e es',es=e::es'/\noStar e=true/\es'.all noStar=true/\chk G N a sc (.e e)=true/\chk G N r sc (.l es')=true:=by
 obtain ⟨e,es',rfl,q⟩:=zac (show onCons es (fun e es=>noStar e && es.all noStar && chk G N a sc (.e e) && chk G N r sc (.l es))=true from hc)
 obtain ⟨e1,e4⟩:=and_tt q
 obtain ⟨e1,e3⟩:=and_tt e1
 obtain ⟨e1,e2⟩:=and_tt e1
 exact ⟨e,es',rfl,e1,e2,e3,e4⟩
theorem JBo_one {op:BoolOp} {a:T} (h:JE c d X a ρ σ P):JBo c d X op (.cons a .nil) ρ σ P:=fun G N sc es hG hN hc=>by
 obtain ⟨e,es',rfl,_,_,e1,e2⟩:=cons_inv hc
 rw [zam (show on0 es'=true from e2)]
 exact WEb_one (h G N sc e hG hN e1)
theorem JBo_and {a b r:T} (h:JE c d X a ρ σ (fun v σ₁=>∃ t,v=.bool t/\if t=true then JBo c d X .And (.cons b r) ρ σ₁ P else P (.bool false) σ₁)):JBo c d X .And (.cons a (.cons b r)) ρ σ P:=fun G N sc es hG hN hc=>by
 obtain ⟨e,es',rfl,_,_,e1,e2⟩:=cons_inv hc
 obtain ⟨e',es'',rfl,_⟩:=cons_inv e2
 refine WEb_and ((h G N sc e hG hN e1).mono fun v σ₁ ⟨t,q1,q2⟩=>⟨t,q1,?_⟩)
 cases t with
 | true=>exact q2 G N sc _ hG hN e2
 | false=>exact q2
theorem JBo_or {a b r:T} (h:JE c d X a ρ σ (fun v σ₁=>∃ t,v=.bool t/\if t=true then P (.bool true) σ₁ else JBo c d X .Or (.cons b r) ρ σ₁ P)):JBo c d X .Or (.cons a (.cons b r)) ρ σ P:=fun G N sc es hG hN hc=>by
 obtain ⟨e,es',rfl,_,_,e1,e2⟩:=cons_inv hc
 obtain ⟨e',es'',rfl,_⟩:=cons_inv e2
 refine WEb_or ((h G N sc e hG hN e1).mono fun v σ₁ ⟨t,q1,q2⟩=>⟨t,q1,?_⟩)
 cases t with
 | true=>exact q2
 | false=>exact q2 G N sc _ hG hN e2
theorem JL_nil {P:List V->Led->Prop} (h:P [] σ):JL c d X .nil ρ σ P:=fun G N sc es hG hN hc=>by
 rw [zam (show on0 es=true from hc)];exact WEs_nil h
theorem JL_cons {a r:T} {P:List V->Led->Prop} (h:JE c d X a ρ σ (fun v σ₁=>JL c d X r ρ σ₁ (fun vs σ₂=>P (v::vs) σ₂))):JL c d X (.cons a r) ρ σ P:=fun G N sc es hG hN hc=>by
 obtain ⟨e,es',rfl,e1,e2,e3,e4⟩:=cons_inv hc
 exact WEs_cons ((h G N sc e hG hN e3).mono fun v σ₁ q=>q G N sc es' hG hN e4) (zbu e1 es') (zbm e2)
theorem JE_tup {es:T} (h:JL c d X es ρ σ (fun vs σ₁=>P (.tup vs) σ₁)):JE c d X (.tup es) ρ σ P:=fun G N sc e hG hN hc=>by
 obtain ⟨xs,k,p,rfl,e⟩:=onTup_inv (show onTup e (fun xs=>decide (xs.length<=1000) && chk G N es sc (.l xs))=true from hc)
 obtain ⟨e1,e2⟩:=and_tt e
 exact WE_tuple (h G N sc xs hG hN e2) (of_decide_eq_true e1)
theorem JE_lst {es:T} (h:JL c d X es ρ σ (fun vs σ₁=>P (.lst vs) σ₁)):JE c d X (.lst false es) ρ σ P:=fun G N sc e hG hN hc=>by
 obtain ⟨xs,p,rfl,e⟩:=onLs_inv (show onLs e (fun xs=>decide (xs.length<=1000) && chk G N es sc (.l xs))=true from hc)
 obtain ⟨e1,e2⟩:=and_tt e
 exact WE_list (h G N sc xs hG hN e2) (of_decide_eq_true e1)
theorem JE_loc {es:T} (h:JL c d X es ρ σ (fun vs σ₁=>∀ a,a∉owned σ₁->a∉c.F->P (.ref a) ((a,.list vs)::σ₁))):JE c d X (.lst true es) ρ σ P:=fun G N sc e hG hN hc=>by
 obtain ⟨xs,p,rfl,e⟩:=onLs_inv (show onLs e (fun xs=>decide (xs.length<=1000) && chk G N es sc (.l xs))=true from hc)
 obtain ⟨e1,e2⟩:=and_tt e
 exact WE_list_loc (h G N sc xs hG hN e2) (of_decide_eq_true e1)
theorem isCall_inv {e:Expr} {f:Str->List Expr->Bool} (hc:isCall e f=true):∃ x q xs p,e=.Call (.Name x q) xs [] p/\f x xs=true:=by
 obtain ⟨h,xs,ks,p,rfl,e⟩:=zbg hc
 rw [zam (and_tt e).1]
 obtain ⟨x,q,rfl,w⟩:=zaw (and_tt e).2
 exact ⟨x,q,xs,p,rfl,w⟩
theorem and3_tt {a b c:Bool} (h:(a && b && c)=true):a=true/\b=true/\c=true:=⟨(and_tt (and_tt h).1).1,(and_tt (and_tt h).1).2,(and_tt h).2⟩
theorem name_inv {e:Expr} {f:Str} {g:Bool} {h:List Expr->Bool} (hc:isCall e (fun x xs=>x == f && g && h xs)=true):∃ q xs p,e=.Call (.Name f q) xs [] p/\g=true/\h xs=true:=by
 obtain ⟨x,q,xs,p,rfl,w⟩:=isCall_inv hc
 obtain ⟨e1,e2,e3⟩:=and3_tt w
 rw [eq_of_beq e1]
 exact ⟨q,xs,p,rfl,e2,e3⟩
theorem call_inv {f:Str} {es:T} {e:Expr} {g:Bool} (hc:isCall e (fun x xs=>x == f && gi sc f && g && chk G N es sc (.l xs))=true):∃ q xs p,e=.Call (.Name f q) xs [] p/\gi sc f=true/\g=true/\chk G N es sc (.l xs)=true:=by
 obtain ⟨x,q,xs,p,rfl,w⟩:=isCall_inv hc
 obtain ⟨w,e3,e4⟩:=and3_tt w
 rw [eq_of_beq (and_tt w).1]
 exact ⟨q,xs,p,rfl,(and_tt w).2,e3,e4⟩
theorem JE_call {f:Str} {es:T} (h:JL c d X es ρ σ (fun vs σ₁=>CallN c d f vs σ₁ P X)):JE c d X (.call f es) ρ σ P:=fun G N sc e hG hN hc=>by
 obtain ⟨q,xs,p,rfl,e1,e2,e3⟩:=call_inv hc
 exact WE_callN hG.ok (hG.hDefs f e2) (h G N sc xs hG hN e3) (gi_of e1)
theorem blt_callee (f:Bf):Callee c f.val:=by
 cases f <;> first | exact .b | exact .t
theorem JE_blt {f:Bf} {es:T} (h:JL c d X es ρ σ (fun vs σ₁=>c.k.hd=true->CallS c d f.val vs σ₁ P X)):JE c d X (.blt f es) ρ σ P:=fun G N sc e hG hN hc=>by
 obtain ⟨q,xs,p,rfl,e1,e2,e3⟩:=call_inv hc
 exact WE_callB hG.ok (hG.hBlts f) ((h G N sc xs hG hN e3).mono fun z1 z2 q=>q hG.hd) (blt_callee f) (gi_of e1)
theorem isi_inv {sc:Scope} {f:Str} {g:Expr->Bool} {xs:List Expr} (h:(on2 xs fun y z=>noStar y && onNm z (fun x=>x == f && gi sc f) && g y)=true):∃ y q,xs=[y,.Name f q]/\noStar y=true/\gi sc f=true/\g y=true:=by
 obtain ⟨y,z,rfl,r⟩:=on2_inv h
 obtain ⟨w1,w2,w3⟩:=and3_tt r
 obtain ⟨x',q',rfl,u⟩:=zaw w2
 rw [eq_of_beq (and_tt u).1]
 exact ⟨y,q',rfl,w1,(and_tt u).2,w3⟩
theorem JE_isi {f:Bf} {a:T} (h:JE c d X a ρ σ (fun v σ₁=>CallS c d (.builtin "isinstance") [v,.raw f.val] σ₁ P X)):JE c d X (.isi a f) ρ σ P:=fun G N sc e hG hN hc=>by
 obtain ⟨q,xs,p,rfl,e2,e3⟩:=name_inv (h:=fun xs=>on2 xs fun y z=>noStar y && onNm z (fun x=>x == f.name && gi sc f.name) && chk G N a sc (.e y)) hc
 obtain ⟨y,q',rfl,w1,u2,w3⟩:=isi_inv (g:=fun y=>chk G N a sc (.e y)) e3
 exact WE_callB hG.ok (hG.hBlts .isinstance) (WEs_cons ((h G N sc y hG hN w3).mono fun v σ₁ k=>WEs_cons (WE_blt hG.ok (hG.hBlts f) (WEs_nil k) (gi_of u2)) (zbu rfl _) (zbm rfl)) (zbu w1 _) (zbm rfl)) .b (gi_of e2)
theorem meth_inv {e:Expr} {x:Str} {f:Expr->List Expr->Bool} (hc:isMeth e x f=true):∃ b ap xs p,e=.Call (.Attribute b x ap) xs [] p/\zas b=true/\(ap.endLine == p.line)=true/\xs.all noStar=true/\xs.length<30/\f b xs=true:=by
 obtain ⟨g,xs,ks,p,rfl,e⟩:=zbg hc
 obtain ⟨k1,k2⟩:=and_tt e
 rw [zam k1]
 obtain ⟨b,y,ap,rfl,w⟩:=onAttr_inv k2
 obtain ⟨e1,e6⟩:=and_tt w
 obtain ⟨e1,e5⟩:=and_tt e1
 obtain ⟨e1,e4⟩:=and_tt e1
 obtain ⟨e1,e3⟩:=and_tt e1
 obtain ⟨e1,e2⟩:=and_tt e1
 rw [eq_of_beq e1]
 exact ⟨b,ap,xs,p,rfl,e2,e3,e4,of_decide_eq_true e5,e6⟩
theorem JE_methI {o es:T} {x:Str} (h:JE c d X o ρ σ (fun ov σ₁=>∃ f,MethI c σ₁ ov x f/\JL c d X es ρ σ₁ (fun vs σ₂=>CallS c d f (ov::vs) σ₂ P X))):JE c d X (.methI o x es) ρ σ P:=fun G N sc e hG hN hc=>by
 obtain ⟨b,ap,xs,p,rfl,e2,e3,e4,e5,e6⟩:=meth_inv (f:=fun p xs=>chk G N o sc (.e p) && chk G N es sc (.l xs)) hc
 exact WE_methI e2 e3 ((h G N sc b hG hN (and_tt e6).1).mono fun ov σ₁ ⟨f,q1,q2⟩=>⟨f,q1,q2 G N sc xs hG hN (and_tt e6).2⟩) (zbm e4) e5
theorem attr_inv {e:Expr} {x:Str} {f:Expr->Bool} (hc:onAttr e (fun o y z1=>y == x && zas o && f o)=true):∃ b p,e=.Attribute b x p/\zas b=true/\f b=true:=by
 obtain ⟨b,y,p,rfl,w⟩:=onAttr_inv hc
 obtain ⟨w1,w2,w3⟩:=and3_tt w
 rw [eq_of_beq w1]
 exact ⟨b,p,rfl,w2,w3⟩
theorem JE_attr {o:T} {x:Str} (h:JE c d X o ρ σ (fun ov σ₁=>∃ v,Fld c σ₁ ov x v/\P v σ₁)):JE c d X (.attr o x) ρ σ P:=fun G N sc e hG hN hc=>by
 obtain ⟨b,p,rfl,e1,e2⟩:=attr_inv (f:=fun b=>chk G N o sc (.e b)) hc
 exact WE_attr e1 (h G N sc b hG hN e2)
theorem JE_meth {o es:T} {x:Str} (h:JE c d X o ρ σ (fun ov σ₁=>∃ T id,Meth c σ₁ ov x T id/\JL c d X es ρ σ₁ (fun vs σ₂=>CallS c d (.builtin id) (ov::vs) σ₂ P X))):JE c d X (.meth o x es) ρ σ P:=fun G N sc e hG hN hc=>by
 obtain ⟨b,ap,xs,p,rfl,e2,e3,e4,e5,e6⟩:=meth_inv (f:=fun p xs=>chk G N o sc (.e p) && chk G N es sc (.l xs)) hc
 exact WE_method e2 e3 ((h G N sc b hG hN (and_tt e6).1).mono fun ov σ₁ ⟨T,id,q1,q2⟩=>⟨T,id,q1,q2 G N sc xs hG hN (and_tt e6).2⟩) (zbm e4) e5
noncomputable def Item (c:Cx) (d:Nat) (a b:V) (σ:Led) (P:V->Led->Prop):Prop:=∀ v i,noSlice i=true->Op2 c d (PyProof.Rows.subscriptTail v i) a b σ P
theorem sub_inv {a b:T} {e:Expr} (hc:onSub e (fun v i=>noSlice i && chk G N a sc (.e v) && chk G N b sc (.e i))=true):∃ v i p,e=.Subscript v i p/\noSlice i=true/\chk G N a sc (.e v)=true/\chk G N b sc (.e i)=true:=by
 obtain ⟨v,i,p,rfl,e⟩:=onSub_inv hc
 obtain ⟨e1,e3⟩:=and_tt e
 obtain ⟨e1,e2⟩:=and_tt e1
 exact ⟨v,i,p,rfl,e1,e2,e3⟩
theorem JE_item {a b:T} (h:JE c d X a ρ σ (fun x σ₁=>JE c d X b ρ σ₁ (fun y σ₂=>Item c d x y σ₂ P))):JE c d X (.item a b) ρ σ P:=fun G N sc e hG hN hc=>by
 obtain ⟨v,i,p,rfl,e1,e2,e3⟩:=sub_inv hc
 exact WE_sub ((h G N sc v hG hN e2).mono fun x σ₁ q=>(q G N sc i hG hN e3).mono fun y σ₂ q=>q v i e1)
theorem JO_nil {P:Option Int->Led->Prop} (h:P none σ):JO c d X .nil ρ σ P:=fun G N sc o hG hN hc=>by
 cases o with
 | none=>exact WEo_none h
 | some e=>cases hc
theorem JO_int {i:Int} {P:Option Int->Led->Prop} (h:JE c d X (.int i) ρ σ (fun v σ₁=>∃ i,v=.int i/\P (some i) σ₁)):JO c d X (.int i) ρ σ P:=fun G N sc o hG hN hc=>by
 cases o with
 | none=>cases hc
 | some e=>exact WEo_some (h G N sc e hG hN hc)
theorem JO_var {i:Nat} {P:Option Int->Led->Prop} (h:JE c d X (.var i) ρ σ (fun v σ₁=>∃ i,v=.int i/\P (some i) σ₁)):JO c d X (.var i) ρ σ P:=fun G N sc o hG hN hc=>by
 cases o with
 | none=>cases hc
 | some e=>exact WEo_some (h G N sc e hG hN hc)
theorem JO_bin {op:Operator} {a b:T} {P:Option Int->Led->Prop} (h:JE c d X (.bin op a b) ρ σ (fun v σ₁=>∃ i,v=.int i/\P (some i) σ₁)):JO c d X (.bin op a b) ρ σ P:=fun G N sc o hG hN hc=>by
 cases o with
 | none=>cases hc
 | some e=>exact WEo_some (h G N sc e hG hN hc)
theorem JO_un {op:UnaryOp} {a:T} {P:Option Int->Led->Prop} (h:JE c d X (.un op a) ρ σ (fun v σ₁=>∃ i,v=.int i/\P (some i) σ₁)):JO c d X (.un op a) ρ σ P:=fun G N sc o hG hN hc=>by
 cases o with
 | none=>cases hc
 | some e=>exact WEo_some (h G N sc e hG hN hc)
theorem JO_call {f:Str} {es:T} {P:Option Int->Led->Prop} (h:JE c d X (.call f es) ρ σ (fun v σ₁=>∃ i,v=.int i/\P (some i) σ₁)):JO c d X (.call f es) ρ σ P:=fun G N sc o hG hN hc=>by
 cases o with
 | none=>cases hc
 | some e=>exact WEo_some (h G N sc e hG hN hc)
theorem JO_blt {f:Bf} {es:T} {P:Option Int->Led->Prop} (h:JE c d X (.blt f es) ρ σ (fun v σ₁=>∃ i,v=.int i/\P (some i) σ₁)):JO c d X (.blt f es) ρ σ P:=fun G N sc o hG hN hc=>by
 cases o with
 | none=>cases hc
 | some e=>exact WEo_some (h G N sc e hG hN hc)
theorem JE_slice {a lo hi:T} (h:JE c d X a ρ σ (fun x σ₁=>JO c d X lo ρ σ₁ (fun l σ₂=>JO c d X hi ρ σ₂ (fun u σ₃=>∃ w,SliceOf σ₃ l u x w/\P w σ₃)))):JE c d X (.slice a lo hi) ρ σ P:=fun G N sc e hG hN hc=>by
 obtain ⟨v,i,p,rfl,e⟩:=onSub_inv (show onSub e (fun v s=>onSl s fun l h st=>st.isNone && chk G N a sc (.e v) && chk G N lo sc (.o l) && chk G N hi sc (.o h))=true from hc)
 obtain ⟨l,u,st,p,rfl,e⟩:=onSl_inv e
 obtain ⟨e1,e4⟩:=and_tt e
 obtain ⟨e1,e3⟩:=and_tt e1
 obtain ⟨e1,e2⟩:=and_tt e1
 cases st with
 | some _=>cases e1
 | none=>exact WE_slice ((h G N sc v hG hN e2).mono fun x σ₁ q=>(q G N sc l hG hN e3).mono fun y σ₂ q=>q G N sc u hG hN e4)
end Mine
end
section
namespace Mine
open PySem
variable {c:Cx} {d:Nat} {sc:Scope} {σ:Led} {P P':V->Led->Prop} {X:XP} {G:Glob} {N:List Str} {ρ:Rho} {K K':Fl->Rho->Led->Prop}
theorem JB.mono {t:T} (h:JB c d X t ρ σ K) (k:∀ f ρ' σ',K f ρ' σ'->K' f ρ' σ'):JB c d X t ρ σ K':=fun G N sc e hG hN hc=>(h G N sc e hG hN hc).mono fun f m' σ' ⟨ρ',q1,q2⟩=>⟨ρ',q1,k _ _ _ q2⟩
theorem JB_sub {t:T} {ρ':Rho} (k:RSub ρ' ρ) (h:JB c d X t ρ' σ K):JB c d X t ρ σ K:=fun G N sc e hG hN hc=>WSs_sub (nm_sub hN k) (h G N sc e hG hN hc)
theorem JA.mono {t:T} {v:V} {K K':Rho->Led->Prop} (h:JA c d X t v ρ σ K) (k:∀ ρ' σ',K ρ' σ'->K' ρ' σ'):JA c d X t v ρ σ K':=fun G N sc e hG hN hc=>(h G N sc e hG hN hc).mono fun m' σ' ⟨ρ',q1,q2⟩=>⟨ρ',q1,k _ _ q2⟩
theorem JA_sub {t:T} {v:V} {ρ':Rho} {K:Rho->Led->Prop} (k:RSub ρ' ρ) (h:JA c d X t v ρ' σ K):JA c d X t v ρ σ K:=fun G N sc e hG hN hc=>WA_sub (nm_sub hN k) (h G N sc e hG hN hc)
theorem JA_var {i:Nat} {v:V} {K:Rho->Led->Prop} (h:K ((i,v)::ρ) σ):JA c d X (.var i) v ρ σ K:=fun G N sc e hG hN hc=>by
 obtain ⟨x,p,rfl,q⟩:=zaw (show onNm e (fun x=>isLoc sc x && N[i]? == some x)=true from hc)
 obtain ⟨e1,e2⟩:=and_tt q
 exact WA_name ⟨_,by rw [nm_cons (eq_of_beq e2)];exact Sub.refl',h⟩ e1
theorem JAs_nil {K:Rho->Led->Prop} (h:K ρ σ):JAs c d X .nil [] ρ σ K:=fun G N sc es hG hN hc=>by
 rw [zam (show on0 es=true from hc)];exact WAs_nil ⟨ρ,Sub.refl',h⟩
theorem JAs_cons {a r:T} {v:V} {vs:List V} {K:Rho->Led->Prop} (hl:∀ G N sc es,chk G N r sc (.tl es)=true->es.length=vs.length)
  (h:JA c d X a v ρ σ (fun ρ₁ σ₁=>JAs c d X r vs ρ₁ σ₁ K)):JAs c d X (.cons a r) (v::vs) ρ σ K:=fun G N sc es hG hN hc=>by
 obtain ⟨e,es',rfl,q⟩:=zac (show onCons es (fun e es=>noStar e && es.all noStar && chk G N a sc (.t e) && chk G N r sc (.tl es))=true from hc)
 obtain ⟨e1,e4⟩:=and_tt q
 obtain ⟨e1,e3⟩:=and_tt e1
 obtain ⟨e1,e2⟩:=and_tt e1
 exact WAs_cons ((h G N sc e hG hN e3).mono fun m' σ' ⟨ρ',k1,k2⟩=>WAs_sub k1 (k2 G N sc es' hG hN e4)) (asg_cons e1 es') (fun env=>by rw [(asg_all e2 env).2,hl G N sc es' e4]) (fun env=>(asg_all e2 env).1)
theorem JA_tup {ts:T} {vs:List V} {K:Rho->Led->Prop} (h:JAs c d X ts vs ρ σ K):JA c d X (.tup ts) (.tup vs) ρ σ K:=fun G N sc e hG hN hc=>by
 obtain ⟨xs,k,p,rfl,q⟩:=onTup_inv (show onTup e (fun xs=>chk G N ts sc (.tl xs))=true from hc)
 exact WA_tuple hG.hd (h G N sc xs hG hN q)
theorem JA_item {a b:T} {v:V} {K:Rho->Led->Prop} (h:JE c d X a ρ σ (fun ov σ₁=>JE c d X b ρ σ₁ (fun iv σ₂=>SetIt c d ov iv v σ₂ (fun σ₃=>K ρ σ₃)))):JA c d X (.item a b) v ρ σ K:=fun G N sc e hG hN hc=>by
 obtain ⟨o,i,p,rfl,e1,e2,e3⟩:=sub_inv hc
 refine WA_item ((h G N sc o hG hN e2).mono fun x σ₁ q=>(q G N sc i hG hN e3).mono fun y σ₂ q A s E co ci cv ha hs ro ri rv=>wpAny_mono (q A s E co ci cv ha hs ro ri rv) (fun z1 z2=>.imp fun z1 q=>⟨ρ,Sub.refl',q⟩) fun z1 z2 x=>x)
theorem JA_attr {a:T} {x:Str} {v:V} {K:Rho->Led->Prop} (h:JE c d X a ρ σ (fun ov σ₁=>SetAt c d ov x v σ₁ (fun σ₂=>K ρ σ₂))):JA c d X (.attr a x) v ρ σ K:=fun G N sc e hG hN hc=>by
 obtain ⟨b,p,rfl,_,e2⟩:=attr_inv (f:=fun b=>chk G N a sc (.e b)) hc
 exact WA_attr ((h G N sc b hG hN e2).mono fun ov σ₁ q A s E co cv ha hs ro rv=>wpAny_mono (q A s E co cv ha hs ro rv) (fun z1 z2=>.imp fun z1 q=>⟨ρ,Sub.refl',q⟩) fun z1 z2 x=>x)
theorem JB_nil (h:K .next ρ σ):JB c d X .nil ρ σ K:=fun G N sc ss hG hN hc=>by
 rw [zam (show on0 ss=true from hc)];exact WSs_nil ⟨ρ,Sub.refl',h⟩
noncomputable def then_ (K:Fl->Rho->Led->Prop) (R:Rho->Led->Prop):Fl->Rho->Led->Prop
 | .next,ρ,σ=>R ρ σ
 | f,ρ,σ=>K f ρ σ
noncomputable def kJB (c:Cx) (d:Nat) (X:XP) (r:T) (K:Fl->Rho->Led->Prop) (ρ:Rho) (σ:Led):Prop:=JB c d X r ρ σ K
theorem JB_cons {a r:T} (h:JS c d X a ρ σ (then_ K (kJB c d X r K))):JB c d X (.cons a r) ρ σ K:=fun G N sc ss hG hN hc=>by
 obtain ⟨s,ss',rfl,q⟩:=zac (show onCons ss (fun s ss=>chk G N a sc (.s s) && chk G N r sc (.b ss))=true from hc)
 obtain ⟨e1,e2⟩:=and_tt q
 refine WSs_cons ((h G N sc s hG hN e1).mono fun f m' σ' ⟨ρ',k1,k2⟩=>?_)
 cases f with
 | next=>exact WSs_sub k1 (k2 G N sc ss' hG hN e2)
 | brk=>exact ⟨ρ',k1,k2⟩
 | cont=>exact ⟨ρ',k1,k2⟩
 | ret v=>exact ⟨ρ',k1,k2⟩
theorem JS_ret {e:T} (h:JE c d X e ρ σ (fun v σ₁=>K (.ret v) ρ σ₁)):JS c d X (.ret e) ρ σ K:=fun G N sc s hG hN hc=>by
 obtain ⟨o,p,rfl,q⟩:=onRet_inv (show onRet s (fun o=>onSome o fun x=>chk G N e sc (.e x))=true from hc)
 obtain ⟨x,rfl,q⟩:=zav q
 exact WS_return ((h G N sc x hG hN q).mono fun v σ₁ k=>⟨ρ,Sub.refl',k⟩)
theorem JS_ret0 (h:K (.ret .none) ρ σ):JS c d X .ret0 ρ σ K:=fun G N sc s hG hN hc=>by
 obtain ⟨o,p,rfl,q⟩:=onRet_inv (show onRet s (fun o=>o.isNone)=true from hc)
 cases o with
 | some _=>cases q
 | none=>exact WS_return_none ⟨ρ,Sub.refl',h⟩
theorem JS_pass (h:K .next ρ σ):JS c d X .pass ρ σ K:=fun G N sc s hG hN hc=>by
 obtain ⟨p,rfl⟩:=onPass_inv hc;exact WS_pass ⟨ρ,Sub.refl',h⟩
theorem JS_brk (h:K .brk ρ σ):JS c d X .brk ρ σ K:=fun G N sc s hG hN hc=>by
 obtain ⟨p,rfl⟩:=onBrk_inv hc;exact WS_break ⟨ρ,Sub.refl',h⟩
theorem JS_cont (h:K .cont ρ σ):JS c d X .cont ρ σ K:=fun G N sc s hG hN hc=>by
 obtain ⟨p,rfl⟩:=onCont_inv hc;exact WS_continue ⟨ρ,Sub.refl',h⟩
theorem JS_expr {e:T} (h:JE c d X e ρ σ (fun z1 σ₁=>K .next ρ σ₁)):JS c d X (.expr e) ρ σ K:=fun G N sc s hG hN hc=>by
 obtain ⟨x,p,rfl,q⟩:=onExpr_inv (show onExpr s (fun x=>noComp x && chk G N e sc (.e x))=true from hc)
 obtain ⟨e1,e2⟩:=and_tt q
 exact WS_expr ((h G N sc x hG hN e2).mono fun v σ₁ k=>⟨ρ,Sub.refl',k⟩) (fun env=>swaps_no e1 _ _ env)
theorem JS_ite {t a b:T} (h:JT c d X t ρ σ (fun k σ₁=>if k=true then JB c d X a ρ σ₁ K else JB c d X b ρ σ₁ K)):JS c d X (.ite t a b) ρ σ K:=fun G N sc s hG hN hc=>by
 obtain ⟨x,y,z,p,rfl,q⟩:=onIte_inv (show onIte s (fun x y z=>chk G N t sc (.q x) && chk G N a sc (.b y) && chk G N b sc (.b z))=true from hc)
 obtain ⟨e1,e3⟩:=and_tt q
 obtain ⟨e1,e2⟩:=and_tt e1
 refine WS_if ((h G N sc x hG hN e1).mono fun k σ₁ q=>?_)
 cases k with
 | true=>exact q G N sc y hG hN e2
 | false=>exact q G N sc z hG hN e3
theorem asgn_inv {t e:T} {s:Stmt} (hc:chk G N (.asgn t e) sc (.s s)=true):∃ x y p,s=.Assign [x] y p/\noSwap x y=true/\noStar x=true/\chk G N t sc (.t x)=true/\chk G N e sc (.e y)=true:=by
 obtain ⟨ts,y,p,rfl,q⟩:=onAsgn_inv (show onAsgn s (fun ts y=>on1 ts fun x=>noSwap x y && noStar x && chk G N t sc (.t x) && chk G N e sc (.e y))=true from hc)
 obtain ⟨x,rfl,q⟩:=on1_inv q
 obtain ⟨e1,e4⟩:=and_tt q
 obtain ⟨e1,e3⟩:=and_tt e1
 obtain ⟨e1,e2⟩:=and_tt e1
 exact ⟨x,y,p,rfl,e1,e2,e3,e4⟩
theorem JS_asgn {t e:T} (ht:∀ G N sc x y,chk G N t sc (.t x)=true->chk G N e sc (.e y)=true->∀ env,swappedStores [x] y env=pure none)
  (h:JE c d X e ρ σ (fun v σ₁=>JA c d X t v ρ σ₁ (fun ρ' σ'=>K .next ρ' σ'))):JS c d X (.asgn t e) ρ σ K:=fun G N sc s hG hN hc=>by
 obtain ⟨x,y,p,rfl,e1,e2,e3,e4⟩:=asgn_inv hc
 exact WS_assign ((h G N sc y hG hN e4).mono fun v σ₁ q=>q G N sc x hG hN e3) (fun env z1=>swaps_no2 e1 _ env) (ht G N sc x y e3 e4) (fun env=>by rw [asg_cons e2];rfl)
theorem stores_var {i:Nat} {e:T}:∀ G N sc x y,chk G N (.var i) sc (.t x)=true->chk G N e sc (.e y)=true->∀ env,swappedStores [x] y env=pure none:=fun G N sc x y h z1 env=>by
 obtain ⟨x,p,rfl,_⟩:=zaw h;exact stores_nm env
theorem stores_attr' {a:T} {x:Str} {e:T}:∀ G N sc y z,chk G N (.attr a x) sc (.t y)=true->chk G N e sc (.e z)=true->∀ env,swappedStores [y] z env=pure none:=fun G N sc y z h z1 env=>by
 obtain ⟨b,_,p,rfl,_⟩:=onAttr_inv h;exact stores_attr env
theorem stores_item {a b e:T}:∀ G N sc x y,chk G N (.item a b) sc (.t x)=true->chk G N e sc (.e y)=true->∀ env,swappedStores [x] y env=pure none:=fun G N sc x y h z1 env=>by
 obtain ⟨v,i,p,rfl,_⟩:=onSub_inv h;exact stores_sub env
theorem stores_tupI {ts a b:T}:∀ G N sc x y,chk G N (.tup ts) sc (.t x)=true->chk G N (.item a b) sc (.e y)=true->∀ env,swappedStores [x] y env=pure none:=fun G N sc x y h h' env=>by
 obtain ⟨es,k,p,rfl,_⟩:=onTup_inv h
 obtain ⟨v,i,p,rfl,_⟩:=onSub_inv h';exact stores_tup env
noncomputable def JLoop (c:Cx) (d:Nat) (t body:T) (K:Fl->Rho->Led->Prop):List V->Rho->Led->Prop
 | [],ρ,σ=>K .next ρ σ
 | v::vs,ρ,σ=>JA c d NoX t v ρ σ (fun ρ₁ σ₁=>JB c d NoX body ρ₁ σ₁ (fun fl ρ₂ σ₂=>match fl with
   | .next | .cont=>JLoop c d t body K vs ρ₂ σ₂
   | .brk=>K .next ρ₂ σ₂
   | .ret w=>K (.ret w) ρ₂ σ₂))
theorem JLoop.w {t body:T} {x:Expr} {ss:List Stmt} (hG:GlobOk c.k G) (hN:NmOk N) (h1:chk G N t sc (.t x)=true) (h2:chk G N body sc (.b ss)=true):∀ (vs:List V) (ρ:Rho) (σ:Led) (m:AEnv),Sub (Nm N ρ) m->JLoop c d t body K vs ρ σ->WLoop c d sc x ss (AfterF N K) vs m σ
 | [],ρ,σ,m,hm,h=>⟨ρ,hm,h⟩
 | v::vs,ρ,σ,m,hm,h=>by
  refine WA_sub hm ((h G N sc x hG hN h1).mono fun m₁ σ₁ ⟨ρ₁,k1,k2⟩=>WSs_sub k1 ((k2 G N sc ss hG hN h2).mono fun fl m₂ σ₂ ⟨ρ₂,q1,q2⟩=>?_))
  cases fl with
  | next=>exact JLoop.w hG hN h1 h2 vs ρ₂ σ₂ m₂ q1 q2
  | cont=>exact JLoop.w hG hN h1 h2 vs ρ₂ σ₂ m₂ q1 q2
  | brk=>exact ⟨ρ₂,q1,q2⟩
  | ret w=>exact ⟨ρ₂,q1,q2⟩
theorem JS_for {t it body:T} (h:JE c d X it ρ σ (fun lv σ₁=>∃ vs F,(∀ b∈F,b∈owned σ₁)/\IterS (c.pro F) σ₁ lv vs/\JLoop (c.pro F) d t body K vs ρ σ₁)):JS c d X (.for_ t it body) ρ σ K:=fun G N sc s hG hN hc=>by
 obtain ⟨x,y,z,o,p,rfl,q⟩:=onFor_inv (show onFor s (fun x y z o=>on0 o && noSet y && chk G N t sc (.t x) && chk G N it sc (.e y) && chk G N body sc (.b z))=true from hc)
 obtain ⟨e1,e5⟩:=and_tt q
 obtain ⟨e1,e4⟩:=and_tt e1
 obtain ⟨e1,e3⟩:=and_tt e1
 obtain ⟨e1,e2⟩:=and_tt e1
 rw [zam e1]
 exact WS_for hG.hd ((h G N sc y hG hN e4).mono fun lv σ₁ ⟨vs,F,k1,k2,k3⟩=>⟨vs,F,k1,k2,JLoop.w (c:=c.pro F) hG hN e3 e5 vs ρ σ₁ _ Sub.refl' k3⟩) (fold_no e2)
noncomputable def kFold {α β:Type} (K:Fl->Rho->Led->Prop) (M:β->Rho) (L:β->Led) (J:List α->β->Prop) (rest:List α) (s:β):Fl->Rho->Led->Prop
 | .next,ρ,σ=>RSub (M s) ρ/\σ=L s/\J rest s
 | .cont,ρ,σ=>RSub (M s) ρ/\σ=L s/\J rest s
 | .brk,ρ,σ=>K .next ρ σ
 | .ret w,ρ,σ=>K (.ret w) ρ σ
theorem zb8 {t body:T} {α β:Type} (f:α->V) (M:β->Rho) (L:β->Led) (g:β->α->β) (J:List α->β->Prop):∀ (rows:List α) (s:β) (ρ:Rho),RSub (M s) ρ->J rows s->
  (∀ s a rest,J (a::rest) s->JA c d NoX t (f a) (M s) (L s) (kJB c d NoX body (kFold K M L J rest (g s a))))->
  (∀ ρ,RSub (M (rows.foldl g s)) ρ->J [] (rows.foldl g s)->K .next ρ (L (rows.foldl g s)))->JLoop c d t body K (rows.map f) ρ (L s)
 | [],s,ρ,hm,hj,_,h=>h ρ hm hj
 | a::rows,s,ρ,hm,hj,hstep,h=>by
  refine JA_sub hm ((hstep s a rows hj).mono fun ρ₁ σ₁ q=>JB.mono q fun fl ρ₂ σ₂ q=>?_)
  cases fl with
  | next=>obtain ⟨q1,q2,q3⟩:=q;rw [q2];exact zb8 f M L g J rows _ ρ₂ q1 q3 hstep h
  | cont=>obtain ⟨q1,q2,q3⟩:=q;rw [q2];exact zb8 f M L g J rows _ ρ₂ q1 q3 hstep h
  | brk=>exact q
  | ret w=>exact q
noncomputable def dictO (a:T):O:=if a.ctorIdx=0 then .dictI [] else .dictS []
theorem JE_dict {a b:T} (h:∀ r,r∉owned σ->r∉c.F->P (.ref r) ((r,dictO a)::σ)):JE c d X (.dict a b) ρ σ P:=fun G N sc e hG hN hc=>by
 obtain ⟨ks,vs,p,rfl,q⟩:=onDict_inv (show onDict e (fun ks vs=>on0 ks && on0 vs)=true from hc)
 obtain ⟨e1,e2⟩:=and_tt q
 rw [zam e1,zam e2]
 by_cases z:a.ctorIdx=0
 ·rw [show dictO a=.dictI [] from if_pos z] at h
  exact WE_dict0 hG.ok DK.int h
 ·rw [show dictO a=.dictS [] from if_neg z] at h
  exact WE_dict0 hG.ok DK.str h
noncomputable def JP (c:Cx) (d:Nat) (X:XP) (xs:List Str) (t:T) (ρ:Rho) (σ:Led) (P:List V->Led->Prop):Prop:=∀ G N sc ks es,GlobOk c.k G->NmOk N->keysAre xs ks=true->chk G N t sc (.l es)=true->WPs c d sc xs ks es (Nm N ρ) σ P X
theorem JP_nil {P:List V->Led->Prop} (h:P [] σ):JP c d X [] .nil ρ σ P:=fun G N sc ks es hG hN hk hc=>by
 rw [zam (show on0 es=true from hc),zam (show on0 ks=true from hk)];exact WPs_nil h
theorem JP_cons {x:Str} {xs:List Str} {a r:T} {P:List V->Led->Prop} (h:JE c d X a ρ σ (fun v σ₁=>JP c d X xs r ρ σ₁ (fun vs σ₂=>P (v::vs) σ₂))):JP c d X (x::xs) (.cons a r) ρ σ P:=fun G N sc ks es hG hN hk hc=>by
 obtain ⟨e,es,rfl,q⟩:=zac (show onCons es (fun e es=>noStar e && es.all noStar && chk G N a sc (.e e) && chk G N r sc (.l es))=true from hc)
 obtain ⟨q,e4⟩:=and_tt q
 obtain ⟨q,e3⟩:=and_tt q
 obtain ⟨k,ks,rfl,q⟩:=zac (show onCons ks (fun k r=>onSome k (fun e=>isCst e (.str x)) && keysAre xs r)=true from hk)
 obtain ⟨q1,q2⟩:=and_tt q
 obtain ⟨k,rfl,q1⟩:=zav q1
 obtain ⟨k,n,p,rfl,z⟩:=onCst_inv q1
 rw [eq_of_beq z]
 exact WPs_cons (fun P' hp=>WE_str hp) ((h G N sc e hG hN e3).mono fun v σ₁ q=>q G N sc ks es hG hN q2 e4)
theorem keys_some:∀ {xs:List Str} {ks:List (Option Expr)},keysAre xs ks=true->ks.all (·.isSome)=true/\ks.length=xs.length
 | [],ks,h=>by rw [zam (show on0 ks=true from h)];exact ⟨rfl,rfl⟩
 | x::xs,ks,h=>by
  obtain ⟨k,ks,rfl,q⟩:=zac (show onCons ks (fun k r=>onSome k (fun e=>isCst e (.str x)) && keysAre xs r)=true from h)
  obtain ⟨q1,q2⟩:=and_tt q
  obtain ⟨k,rfl,q1⟩:=zav q1
  obtain ⟨a,b⟩:=keys_some q2
  exact ⟨by rw [List.all_cons,a];rfl,by rw [List.length_cons,List.length_cons,b]⟩
theorem JE_dictL {xs:List Str} {es:T} (h0:xs≠[]) (hnd:xs.Nodup) (h:∀ r,r∉owned σ->r∉c.F->JP c d X xs es ρ ((r,.dictS [])::σ) (fun ws σ₁=>σ₁.lookup r=some (.dictS [])/\P (.ref r) (upd r (.dictS (xs.zip ws)) σ₁))):JE c d X (.dictL xs es) ρ σ P:=fun G N sc e hG hN hc=>by
 obtain ⟨ks,vs,p,rfl,q⟩:=onDict_inv (show onDict e (fun ks vs=>keysAre xs ks && decide (vs.length<=15) && decide (xs.length=vs.length) && chk G N es sc (.l vs))=true from hc)
 obtain ⟨q,e4⟩:=and_tt q
 obtain ⟨q,e3⟩:=and_tt q
 obtain ⟨e1,e2⟩:=and_tt q
 obtain ⟨k1,k2⟩:=keys_some e1
 have z3:xs.length=vs.length:=of_decide_eq_true e3
 have z2:vs.length<=15:=of_decide_eq_true e2
 exact WE_dictL hG.ok k1 (k2.trans z3) (fun z=>h0 (by rw [z] at k2;exact List.length_eq_zero_iff.mp k2.symm)) (by rw [k2,z3];exact z2) hnd fun r hr hF=>h r hr hF G N sc ks vs hG hN e1 e4
noncomputable def JD (c:Cx) (d:Nat) (X:XP) (xs:List Str) (es:T) (ρ:Rho) (σ:Led) (P:V->Led->Prop):Prop:=JE c d X (.dictL xs es) ρ σ P
theorem JD_of {xs:List Str} {es:T} (h0:xs≠[]) (hnd:xs.Nodup) (h:∀ r,r∉owned σ->r∉c.F->JP c d X xs es ρ ((r,.dictS [])::σ) (fun ws σ₁=>σ₁.lookup r=some (.dictS [])/\P (.ref r) (upd r (.dictS (xs.zip ws)) σ₁))):JD c d X xs es ρ σ P:=JE_dictL h0 hnd h
noncomputable def JK (K:Fl->Rho->Led->Prop) (N:Rho->Led->Prop):Fl->Rho->Led->Prop
 | .next,ρ,σ=>N ρ σ
 | .cont,ρ,σ=>N ρ σ
 | .brk,ρ,σ=>K .next ρ σ
 | .ret w,ρ,σ=>K (.ret w) ρ σ
noncomputable def JIf (c:Cx) (d:Nat) (hc:Bool) (cond:T) (ρ:Rho) (σ:Led) (P:Bool->Led->Prop):Prop:=match hc with
 | false=>P true σ
 | true=>JT c d NoX cond ρ σ P
noncomputable def JComp (c:Cx) (d:Nat) (ns:List Nat) (hc:Bool) (cond elt:T) (ρ:Rho) (Kf:List V->Led->Prop):List V->List V->Led->Prop
 | [],acc,σ=>Kf acc σ
 | v::vs,acc,σ=>∃ ρ₁,bnd ns v ρ=some ρ₁/\JIf c d hc cond ρ₁ σ (fun b σ₁=>if b=true then JE c d NoX elt ρ₁ σ₁ (fun w σ₂=>JComp c d ns hc cond elt ρ Kf vs (acc++[w]) σ₂) else JComp c d ns hc cond elt ρ Kf vs acc σ₁)
set_option tactic.hygienic true
theorem nms_len {N:List Str}:∀ {ns:List Nat} {xs:List Str},nms N ns=some xs->xs.length=ns.length
 | [],xs,h=>by cases h;rfl
 | i::r,xs,h=>by
  unfold nms at h
  split at h
  ·rename_i x xs' h1 h2;cases h;exact congrArg (·+1) (nms_len h2)
  ·cases h
theorem nm_zip {N:List Str}:∀ {ns:List Nat} {xs:List Str} {vs:List V} {ρ:Rho},nms N ns=some xs->Nm N ((ns.zip vs).reverseAux ρ)=(xs.zip vs).reverseAux (Nm N ρ)
 | [],xs,vs,ρ,h=>by cases h;rfl
 | i::r,xs,[],ρ,h=>by rw [List.zip_nil_right,List.zip_nil_right];rfl
 | i::r,xs,v::vs,ρ,h=>by
  unfold nms at h
  split at h
  ·rename_i x xs' h1 h2
   cases h
   show Nm N ((r.zip vs).reverseAux ((i,v)::ρ))=(xs'.zip vs).reverseAux ((x,v)::Nm N ρ)
   rw [nm_zip h2,nm_cons h1]
  ·cases h
set_option tactic.hygienic false
theorem nm_bnd {N:List Str} {ns:List Nat} {xs:List Str} {v:V} {ρ ρ₁:Rho} (hn:nms N ns=some xs) (h:bnd ns v ρ=some ρ₁):bnd xs v (Nm N ρ)=some (Nm N ρ₁):=by
 obtain ⟨vs,hv,rfl⟩:=Option.map_eq_some_iff.mp h
 unfold bnd
 rw [nms_len hn,hv,nm_zip hn];rfl
theorem JIf.w {hb:Bool} {cond:T} {ifs:List Expr} {P P':Bool->Led->Prop} (hG:GlobOk c.k G) (hN:NmOk N) (hc:lc hb ifs (fun q=>chk G N cond sc (.q q))=true) (h:JIf c d hb cond ρ σ P) (k:∀ b σ',P b σ'->P' b σ'):WIfs c d sc ifs (Nm N ρ) σ P':=by
 cases hb with
 | false=>rw [zam (show on0 ifs=true from hc)];exact k _ _ h
 | true=>
  obtain ⟨e,rfl,q⟩:=on1_inv hc
  exact WT.mono (h G N sc e hG hN q) k
theorem JComp.w {hb:Bool} {ns:List Nat} {cond elt:T} {Kf Kf':List V->Led->Prop} {xs:List Str} {elt':Expr} {ifs:List Expr} (hG:GlobOk c.k G) (hN:NmOk N) (h1:nms N ns=some xs) (h2:chk G N elt sc (.e elt')=true) (h3:lc hb ifs (fun q=>chk G N cond sc (.q q))=true) (hk:∀ ws σ',Kf ws σ'->Kf' ws σ') :
  ∀ (vs acc:List V) (σ:Led),JComp c d ns hb cond elt ρ Kf vs acc σ->WComp c d sc xs ifs elt' (Nm N ρ) Kf' vs acc σ
 | [],acc,σ,h=>hk _ _ h
 | v::vs,acc,σ,h=>by
  obtain ⟨ρ₁,hb',h'⟩:=h
  refine ⟨Nm N ρ₁,nm_bnd h1 hb',h'.w hG hN h3 fun b σ₁ q=>?_⟩
  cases b with
  | true=>exact (q G N sc elt' hG hN h2).mono fun w σ₂ q=>JComp.w hG hN h1 h2 h3 hk vs _ σ₂ q
  | false=>exact JComp.w hG hN h1 h2 h3 hk vs acc σ₁ q
theorem nmB_inv:∀ {xs:List Str} {ts:List Expr},nmB xs ts=true->NmsAre ts xs
 | [],ts,h=>by rw [zam (show on0 ts=true from h)];rfl
 | x::xs,ts,h=>by
  obtain ⟨t,r,rfl,q⟩:=zac (show onCons ts _=true from h)
  obtain ⟨q1,q2⟩:=and_tt q
  obtain ⟨y,p,rfl,e⟩:=zaw q1
  rw [eq_of_beq e]
  exact ⟨x,p,xs,rfl,rfl,nmB_inv q2⟩
theorem tgB_inv {xs:List Str} {te:Expr} (h:tgB xs te=true):TgtIs te xs:=by
 match xs,h with
 | [x],h=>
  obtain ⟨y,p,rfl,e⟩:=zaw (show onNm te (fun y=>y == x)=true from h)
  rw [eq_of_beq e];exact .one
 | [],h=>
  obtain ⟨ts,k,p,rfl,q⟩:=onTup_inv (show onTup te (fun ts=>nmB [] ts)=true from h)
  exact .many (nmB_inv q) (by simp)
 | x::y::r,h=>
  obtain ⟨ts,k,p,rfl,q⟩:=onTup_inv (show onTup te (fun ts=>nmB (x::y::r) ts)=true from h)
  exact .many (nmB_inv q) (by simp)
inductive CompIs (N:List Str) (sc:Scope) (f:Expr->Expr->List Expr->Scope->Bool) (ns:List Nat):Expr->Prop
 | mk {elt' it' te:Expr} {ifs:List Expr} {scope:Scope} {xs:List Str} {p:Pos}:compOk scope sc xs=true->noSet it'=true->nms N ns=some xs->f elt' it' ifs (zbd scope sc)=true->TgtIs te xs->CompIs N sc f ns (.ListComp elt' [⟨te,it',ifs,0⟩] scope p)
theorem comp_inv {f:Expr->Expr->List Expr->Scope->Bool} {ns:List Nat} {e:Expr} (hc:isComp e sc ns N f=true):CompIs N sc f ns e:=by
 obtain ⟨elt',gs,scope,p,rfl,q⟩:=onComp_inv hc
 clear hc
 obtain ⟨g,rfl,q⟩:=on1_inv q
 obtain ⟨e1,q⟩:=and_tt q
 obtain ⟨te,it',ifs,z⟩:=g
 have:=eq_of_beq e1
 dsimp only at this
 subst this
 clear e1
 obtain ⟨xs,hx,q⟩:=zav q
 obtain ⟨q,e4⟩:=and_tt q
 obtain ⟨e1,e2,e3⟩:=and3_tt q
 exact .mk e2 e3 hx e4 (tgB_inv e1)
noncomputable def compF (G:Glob) (N:List Str) (sc:Scope) (hb:Bool) (cond elt it:T):Expr->Expr->List Expr->Scope->Bool:=fun e it' ifs sc'=>chk G N it sc (.e it') && chk G N elt sc' (.e e) && lc hb ifs (fun q=>chk G N cond sc' (.q q))
theorem comp_w {hb:Bool} {ns:List Nat} {cond elt:T} {Kf Kf':List V->Led->Prop} {xs:List Str} {elt':Expr} {ifs:List Expr} {lv:V} (hG:GlobOk c.k G) (hN:NmOk N) (h1:nms N ns=some xs) (h2:chk G N elt sc (.e elt')=true) (h3:lc hb ifs (fun q=>chk G N cond sc (.q q))=true) (hk:∀ ws σ',Kf ws σ'->Kf' ws σ')
  (k:∃ vs F,(∀ b∈F,b∈owned σ)/\IterS (c.pro F) σ lv vs/\∀ D,JComp ((c.pro F).hide D) d ns hb cond elt ρ Kf vs [] σ):∃ vs F,(∀ b∈F,b∈owned σ)/\IterS (c.pro F) σ lv vs/\∀ D,WComp ((c.pro F).hide D) d sc xs ifs elt' (Nm N ρ) Kf' vs [] σ:=
 k.elim fun vs k=>k.elim fun F k=>⟨vs,F,k.1,k.2.1,fun D=>JComp.w (c:=(c.pro F).hide D) hG hN h1 h2 h3 hk vs [] σ (k.2.2 D)⟩
theorem JE_comp {loc hb:Bool} {ns:List Nat} {cond elt it:T} (h:JE c d X it ρ σ (fun lv σ₁=>∃ vs F,(∀ b∈F,b∈owned σ₁)/\IterS (c.pro F) σ₁ lv vs/\∀ D,JComp ((c.pro F).hide D) d ns hb cond elt ρ (Made c.F loc P) vs [] σ₁)):JE c d X (.comp loc hb elt ns it cond) ρ σ P:=fun G N sc e hG hN hc=>by
 cases comp_inv (f:=compF G N sc hb cond elt it) hc with
 | mk ok set nm q tg=>exact WE_comp_made hG.hd (loc:=loc) tg ok (nm_dot hN) ((h G N sc _ hG hN (and_tt (and_tt q).1).1).mono fun z1 z2 k=>comp_w hG hN nm (and_tt (and_tt q).1).2 (and_tt q).2 (fun z1 z2 q=>q) k) (fold_no set)
inductive AsgnCIs (sc:Scope) (x:Str) (f:Expr->Bool):Stmt->Prop
 | mk {px p:Pos} {y:Expr}:isLoc sc x=true->(onComp y fun z1 z2 scope pos=>!(sc.names.lookup x == some .local) || (px.line == pos.line && !(scope.names.any fun (n,k)=>n == x && (k == .local || k == .cell))))=true->f y=true->AsgnCIs sc x f (.Assign [.Name x px] y p)
theorem asgnC_inv {s:Stmt} {x:Str} {f:Expr->Bool} (q:isAsgnC s sc x f=true):AsgnCIs sc x f s:=by
 obtain ⟨ts,y,p,rfl,q⟩:=onAsgn_inv q
 obtain ⟨tg,rfl,q⟩:=on1_inv q
 obtain ⟨z,px,rfl,q⟩:=onNmp_inv q
 obtain ⟨e1,e8⟩:=and_tt q
 obtain ⟨e1,e3⟩:=and_tt e1
 obtain ⟨e1,e2⟩:=and_tt e1
 have:=eq_of_beq e1;subst this
 exact .mk e2 e3 e8
theorem or_of {a b:Bool} (h:(!a || b)=true) (ha:a=true):b=true:=by rw [ha] at h;exact h
theorem made_after {i:Nat} {z:Str} {F:List Addr} {loc:Bool} {ws:List V} (hx:N[i]?=some z) (q:Made F loc (fun v σ'=>K .next ((i,v)::ρ) σ') ws σ):Made F loc (fun v σ'=>AfterF N K .next ((z,v)::Nm N ρ) σ') ws σ:=by
 cases loc with
 | true=>exact fun a h1 h2=>⟨_,by rw [nm_cons hx];exact Sub.refl',q a h1 h2⟩
 | false=>exact ⟨_,by rw [nm_cons hx];exact Sub.refl',q⟩
theorem JS_asgnC {i:Nat} {loc hb:Bool} {ns:List Nat} {cond elt it:T} (h:JE c d X it ρ σ (fun lv σ₁=>∃ vs F,(∀ b∈F,b∈owned σ₁)/\IterS (c.pro F) σ₁ lv vs/\∀ D,JComp ((c.pro F).hide D) d ns hb cond elt ρ (Made c.F loc fun v σ'=>K .next ((i,v)::ρ) σ') vs [] σ₁)) :
  JS c d X (.asgnC i loc hb elt ns it cond) ρ σ K:=fun G N sc s hG hN hc=>by
 obtain ⟨x,hx,q⟩:=zav (show onSome N[i]? _=true from hc)
 cases asgnC_inv q with
 | mk e2 e3 e8=>cases comp_inv (f:=compF G N sc hb cond elt it) e8 with
 | mk ok set nm w tg=>
  have hW:=(h G N sc _ hG hN (and_tt (and_tt w).1).1).mono fun z1 z2 k=>comp_w hG hN nm (and_tt (and_tt w).1).2 (and_tt w).2 (fun z1 z2 q=>made_after hx q) k
  cases hl:(sc.names.lookup x == some .local) with
  | true=>exact WS_assign_comp_made hG.hd tg ok (nm_dot hN) (by rw [hl,Bool.true_and];exact or_of e3 hl) e2 hW (fold_no set)
  | false=>exact WS_assign ((WE_comp_made hG.hd tg ok (nm_dot hN) hW (fold_no set)).mono fun v σ₁ q=>WA_name q e2) (swaps_cell hl) (fun env=>stores_nm env) (fun z1=>rfl)
theorem raise_inv {s:Stmt} {f:Expr->Bool} (h:(onRaise s fun o c=>c.isNone && onSome o f)=true):∃ e p,s=.Raise (some e) none p/\f e=true:=by
 obtain ⟨o,cz,p,rfl,q⟩:=onRaise_inv h
 obtain ⟨e,rfl,k2⟩:=zav (and_tt q).2
 rw [Option.isNone_iff_eq_none.mp (and_tt q).1]
 exact ⟨e,p,rfl,k2⟩
theorem JS_raise {x:Str} {es:T} {C:Addr} {bm:List Value} (hx:Exc c.k x C bm) (h:JL c d X es ρ σ (fun z1 σ₁=>X (.ref C) σ₁)):JS c d X (.raise x es) ρ σ K:=fun G N sc s hG hN hc=>by
 obtain ⟨e,p,rfl,k2⟩:=raise_inv (f:=fun e=>isCall e (fun y xs=>y == x && gi sc x && decide (xs.length<=1000) && chk G N es sc (.l xs))) hc
 obtain ⟨y,q,xs,p',rfl,w⟩:=isCall_inv k2
 obtain ⟨w,w3,w4⟩:=and3_tt w
 rw [eq_of_beq (and_tt w).1]
 exact WS_raise hG.ok hG.hd hx (gi_of (and_tt w).2) (of_decide_eq_true w3) (h G N sc xs hG hN w4)
noncomputable def JH (c:Cx) (d:Nat) (hs:T) (C:Addr) (σ0 σ:Led) (K:Fl->Rho->Led->Prop) (X:XP):Prop:=
 ∀ G N sc ts,GlobOk c.k G->NmOk N->chk G N hs sc (.hl ts)=true->WH c d sc ts C σ0 σ (AfterF N K) X
noncomputable def JTry (c:Cx) (d:Nat) (X:XP) (body hs:T) (ρ:Rho) (σ:Led) (K:Fl->Rho->Led->Prop):Prop:=
 ∃ X':XP,JB c d X' body ρ σ K/\∀ cls σ',X' cls σ'->∃ C,cls=.ref C/\NoExc σ'/\JH c d hs C σ σ' K X
theorem JS_try {body h₀ hs:T} (h:JTry c d X body (.cons h₀ hs) ρ σ K):JS c d X (.try_ body (.cons h₀ hs)) ρ σ K:=fun G N sc s hG hN hc=>by
 obtain ⟨b,ts,o,z,p,rfl,q⟩:=onTry_inv (show onTry s _=true from hc)
 obtain ⟨q,q4⟩:=and_tt q
 obtain ⟨q,q3⟩:=and_tt q
 obtain ⟨q1,q2⟩:=and_tt q
 rw [zam q1,zam q2]
 obtain ⟨X',hb,hh⟩:=h
 obtain ⟨t,ts',rfl,_⟩:=zac (show onCons ts _=true from q4)
 refine WS_try X' (hb G N sc b hG hN q3) fun cls σ' hx=>?_
 obtain ⟨C,e,hp,hw⟩:=hh cls σ' hx
 exact ⟨C,e,hp,hw G N sc _ hG hN q4⟩
end Mine
end
section
set_option genSizeOf false
set_option genInjectivity false
namespace Mine
open PySem
inductive Leaf (p:Prop):Prop
 | mk:p->Leaf p
inductive Side (q p:Prop):Prop
 | mk:q->p->Side q p
theorem Leaf.out {p:Prop}:Leaf p->p
 | .mk h=>h
noncomputable def Br (b:Bool) (A B:Prop):Prop:=match b with
 | true=>A
 | false=>B
noncomputable def Sw (b:Bool) (A B:Prop):Prop:=match b with
 | true=>A
 | false=>B
theorem br_intro {b:Bool} {A B:Prop} (h1:b=true->A) (h2:b=false->B):Br b A B:=by
 cases b with
 | true=>exact h1 rfl
 | false=>exact h2 rfl
theorem brs:(∀ (p:Prop) [Decidable p],(decide p=true)=p)/\(∀ (p:Prop) [Decidable p],(decide p=false)=¬ p)/\(∀ {α:Type} [BEq α] [LawfulBEq α] (a b:α),((a == b)=true)=(a=b))/\
  (∀ {α:Type} [BEq α] [LawfulBEq α] (a b:α),((a == b)=false)=¬ a=b)/\(∀ {α:Type} [BEq α] [LawfulBEq α] (a b:α),((a != b)=true)=¬ a=b)/\
  (∀ b:Bool,((!b)=true)=(b=false))/\(∀ b:Bool,((!b)=false)=(b=true))/\(∀ {α β:Type} (l:List α) (f:α->β),(l.map f).length=l.length):=
 ⟨fun p=>decide_eq_true_eq,fun p=>propext decide_eq_false_iff_not,fun a b=>propext beq_iff_eq,fun a b=>propext beq_eq_false_iff_ne,fun a b=>propext bne_iff_ne,fun b=>Bool.not_eq_true' b,fun b=>Bool.not_eq_false' b,fun l f=>List.length_map f⟩
section
variable (c:Cx) (d:Nat) (X:XP)
noncomputable def intC (op:CmpOp) (k:Int->Int->Prop) (a b:V) (σ:Led) (P:V->Led->Prop):Prop:=match a with
 | .int x=>(match b with
  | .int y=>k x y
  | b=>Leaf (Op2 c d (compareOp op) a b σ P))
 | a=>Leaf (Op2 c d (compareOp op) a b σ P)
noncomputable def eqC (op:CmpOp) (k₁:Int->Int->Prop) (k₂:Str->Str->Prop) (k₃:Bool->Bool->Prop) (a b:V) (σ:Led) (P:V->Led->Prop):Prop:=match a with
 | .int x=>(match b with
  | .int y=>k₁ x y
  | b=>Leaf (Op2 c d (compareOp op) a b σ P))
 | .str x=>(match b with
  | .str y=>k₂ x y
  | b=>Leaf (Op2 c d (compareOp op) a b σ P))
 | .bool x=>(match b with
  | .bool y=>k₃ x y
  | b=>Leaf (Op2 c d (compareOp op) a b σ P))
 | a=>Leaf (Op2 c d (compareOp op) a b σ P)
noncomputable def inC (op:CmpOp) (k:Str->Str->Prop) (a b:V) (σ:Led) (P:V->Led->Prop):Prop:=match a with
 | .str y=>(match b with
  | .str x=>k x y
  | b=>Leaf (Op2 c d (compareOp op) a b σ P))
 | a=>Leaf (Op2 c d (compareOp op) a b σ P)
noncomputable def opC (op:CmpOp) (a b:V) (σ:Led) (P:V->Led->Prop):Prop:=match op with
 | .Eq=>eqC c d .Eq (fun x y=>P (.bool (x == y)) σ) (fun x y=>P (.bool (x == y)) σ) (fun x y=>P (.bool (x == y)) σ) a b σ P
 | .NotEq=>eqC c d .NotEq (fun x y=>P (.bool (x != y)) σ) (fun x y=>P (.bool (x != y)) σ) (fun x y=>P (.bool (x != y)) σ) a b σ P
 | .Lt=>intC c d .Lt (fun x y=>P (.bool (decide (x<y))) σ) a b σ P
 | .LtE=>intC c d .LtE (fun x y=>P (.bool (decide (x<=y))) σ) a b σ P
 | .Gt=>intC c d .Gt (fun x y=>P (.bool (decide (y<x))) σ) a b σ P
 | .GtE=>intC c d .GtE (fun x y=>P (.bool (decide (y<=x))) σ) a b σ P
 | .In=>inC c d .In (fun x y=>P (.bool (Txt.contains x y)) σ) a b σ P
 | .NotIn=>inC c d .NotIn (fun x y=>P (.bool (!Txt.contains x y)) σ) a b σ P
 | op=>Leaf (Op2 c d (compareOp op) a b σ P)
noncomputable def intB (op:Operator) (f:Int->Int->Prop) (a b:V) (σ:Led) (P:V->Led->Prop):Prop:=match a with
 | .int x=>(match b with
  | .int y=>f x y
  | b=>Leaf (Op2 c d (binaryOp op) a b σ P))
 | a=>Leaf (Op2 c d (binaryOp op) a b σ P)
noncomputable def small (x:Int):Bool:=decide (-9223372036854775808<x) && decide (x<9223372036854775808)
noncomputable def opB (op:Operator) (a b:V) (σ:Led) (P:V->Led->Prop):Prop:=match op with
 | .Add=>intB c d .Add (fun x y=>P (.int (x+y)) σ) a b σ P
 | .Sub=>intB c d .Sub (fun x y=>P (.int (x - y)) σ) a b σ P
 | .Mult=>intB c d .Mult (fun x y=>Side (IntMulOk x y) (P (.int (x * y)) σ)) a b σ P
 | .Mod=>intB c d .Mod (fun x y=>Side (0<y) (P (.int (x % y)) σ)) a b σ P
 | .FloorDiv=>intB c d .FloorDiv (fun x y=>Side (0<y/\y<9223372036854775808) (P (.int (x / y)) σ)) a b σ P
 | op=>Leaf (Op2 c d (binaryOp op) a b σ P)
noncomputable def opBk (op:Operator) (a:V) (k:Int) (σ:Led) (P:V->Led->Prop):Prop:=match op with
 | .Mult=>intB c d .Mult (fun x y=>Br (small k) (P (.int (x * k)) σ) (Side (IntMulOk x k) (P (.int (x * k)) σ))) a (.int k) σ P
 | .Mod=>intB c d .Mod (fun x y=>Br (decide (0<k)) (P (.int (x % k)) σ) (Side (0<k) (P (.int (x % k)) σ))) a (.int k) σ P
 | .FloorDiv=>intB c d .FloorDiv (fun x y=>Br (decide (0<k) && decide (k<9223372036854775808)) (P (.int (x / k)) σ) (Side (0<k/\k<9223372036854775808) (P (.int (x / k)) σ))) a (.int k) σ P
 | .Pow=>intB c d .Pow (fun x y=>Br (k == 12 && x == 10) (P (.int 1000000000000) σ) (Leaf (Op2 c d (binaryOp .Pow) (.int x) (.int k) σ P))) a (.int k) σ P
 | op=>opB c d op a (.int k) σ P
noncomputable def opU (op:UnaryOp) (a:V) (σ:Led) (P:V->Led->Prop):Prop:=match op with
 | .USub=>(match a with
  | .int x=>P (.int (-x)) σ
  | a=>Leaf (Op1 c d (unaryOp .USub) a σ P))
 | .Not=>(match a with
  | .bool b=>P (.bool (!b)) σ
  | a=>Leaf (Op1 c d (unaryOp .Not) a σ P))
 | op=>Leaf (Op1 c d (unaryOp op) a σ P)
noncomputable def AsBAt (v:V) (σ:Led) (P:Bool->Led->Prop):Prop:=∃ b,v=.bool b/\P b σ
noncomputable def AsIAt (v:V) (σ:Led) (P:Option Int->Led->Prop):Prop:=∃ i,v=.int i/\P (some i) σ
noncomputable def asB (v:V) (σ:Led) (P:Bool->Led->Prop):Prop:=match v with
 | .bool b=>P b σ
 | v=>Leaf (AsBAt v σ P)
noncomputable def asI (v:V) (σ:Led) (P:Option Int->Led->Prop):Prop:=match v with
 | .int i=>P (some i) σ
 | v=>Leaf (AsIAt v σ P)
noncomputable def kindV:V->Option Bf
 | .bool _=>some .bool
 | .int _=>some .int
 | .str _=>some .str
 | .tup _=>some .tuple
 | .lst _=>some .list
 | _=>Option.none
noncomputable def isiB:Bf->Bf->Option Bool
 | .bool,.bool=>some true
 | .bool,.int=>some true
 | .bool,.str=>some false
 | .bool,.tuple=>some false
 | .bool,.list=>some false
 | .int,.int=>some true
 | .int,.bool=>some false
 | .int,.str=>some false
 | .int,.tuple=>some false
 | .int,.list=>some false
 | .str,.str=>some true
 | .str,.int=>some false
 | .str,.bool=>some false
 | .str,.tuple=>some false
 | .str,.list=>some false
 | .tuple,.tuple=>some true
 | .tuple,.int=>some false
 | .tuple,.bool=>some false
 | .tuple,.str=>some false
 | .tuple,.list=>some false
 | .list,.list=>some true
 | .list,.int=>some false
 | .list,.bool=>some false
 | .list,.str=>some false
 | .list,.tuple=>some false
 | _,_=>Option.none
noncomputable def opI (f:Bf) (v:V) (σ:Led) (P:V->Led->Prop):Prop:=match kindV v with
 | some k=>(match isiB k f with
  | some b=>P (.bool b) σ
  | Option.none=>Leaf (CallS c d (.builtin "isinstance") [v,.raw f.val] σ P X))
 | Option.none=>Leaf (CallS c d (.builtin "isinstance") [v,.raw f.val] σ P X)
noncomputable def LenAt (vs:List V) (σ:Led) (P:V->Led->Prop):Prop:=∃ n:Nat,vs.length=n/\P (.int n) σ
noncomputable def SumAt (ws:List V) (σ:Led) (P:V->Led->Prop):Prop:=∃ ys:List Int,ws=ys.map .int/\P (.int ys.sum) σ
noncomputable def AllAt (ws:List V) (σ:Led) (P:V->Led->Prop):Prop:=∃ bs:List Bool,ws=bs.map .bool/\P (.bool (bs.all id)) σ
noncomputable def SlAt (v:V) (l u:Option Int) (σ:Led) (P:V->Led->Prop):Prop:=∃ w,SliceOf σ l u v w/\P w σ
noncomputable def opLen (v:V) (σ:Led) (P:V->Led->Prop):Prop:=match v with
 | .lst vs=>Leaf (LenAt vs σ P)
 | .tup vs=>P (.int vs.length) σ
 | .str x=>Side (x.length<=1000000) (P (.int x.length) σ)
 | v=>Leaf (CallS c d (.builtin "len") [v] σ P X)
noncomputable def one (vs:List V) (f:V->Prop) (D:Prop):Prop:=match vs with
 | [v]=>f v
 | _=>D
noncomputable def two (vs:List V) (f:V->V->Prop) (D:Prop):Prop:=match vs with
 | [a,b]=>f a b
 | _=>D
noncomputable def anInt (a:V) (f:Int->Prop) (D:Prop):Prop:=match a with
 | .int x=>f x
 | _=>D
noncomputable def aLst (a:V) (f:List V->Prop) (D:Prop):Prop:=match a with
 | .lst x=>f x
 | _=>D
noncomputable def opF (f:Bf) (vs:List V) (σ:Led) (P:V->Led->Prop):Prop:=match f with
 | .len=>one vs (fun v=>opLen c d X v σ P) (Leaf (CallS c d f.val vs σ P X))
 | .max=>two vs (fun a b=>anInt a (fun x=>anInt b (fun y=>P (.int (max x y)) σ) (Leaf (CallS c d f.val vs σ P X))) (Leaf (CallS c d f.val vs σ P X))) (Leaf (CallS c d f.val vs σ P X))
 | .min=>two vs (fun a b=>anInt a (fun x=>anInt b (fun y=>P (.int (min x y)) σ) (Leaf (CallS c d f.val vs σ P X))) (Leaf (CallS c d f.val vs σ P X))) (Leaf (CallS c d f.val vs σ P X))
 | .range=>one vs (fun a=>anInt a (fun x=>P (.rng 0 x) σ) (Leaf (CallS c d f.val vs σ P X)))
   (two vs (fun a b=>anInt a (fun x=>anInt b (fun y=>P (.rng x y) σ) (Leaf (CallS c d f.val vs σ P X))) (Leaf (CallS c d f.val vs σ P X))) (Leaf (CallS c d f.val vs σ P X)))
 | .list=>one vs (fun a=>aLst a (fun ws=>P (.lst ws) σ) (Leaf (CallS c d f.val vs σ P X))) (Leaf (CallS c d f.val vs σ P X))
 | .sum=>one vs (fun a=>aLst a (fun ws=>Leaf (SumAt ws σ P)) (Leaf (CallS c d f.val vs σ P X))) (Leaf (CallS c d f.val vs σ P X))
 | .all=>one vs (fun a=>aLst a (fun ws=>Leaf (AllAt ws σ P)) (Leaf (CallS c d f.val vs σ P X))) (Leaf (CallS c d f.val vs σ P X))
 | f=>Leaf (CallS c d f.val vs σ P X)
noncomputable def opK (v:V) (k:Int) (σ:Led) (P:V->Led->Prop):Prop:=match v with
 | .tup vs=>Br (decide (0<=k)) (match vs[k.toNat]? with
  | some w=>P w σ
  | Option.none=>False) (Leaf (Item c d v (.int k) σ P))
 | v=>Leaf (Item c d v (.int k) σ P)
noncomputable def opS (v:V) (l u:Option Int) (σ:Led) (P:V->Led->Prop):Prop:=match v with
 | .lst vs=>P (.lst (slice l u vs)) σ
 | .str x=>Side (x.length<=sizeLine) (P (.str (zaz l u x)) σ)
 | v=>Leaf (SlAt v l u σ P)
end
noncomputable abbrev EX:=T->Rho->Led->(V->Led->Prop)->Prop
structure Exs where
 E:Cx->XP->EX
 B:Cx->XP->T->Rho->Led->(Bool->Led->Prop)->Prop
 A:Cx->XP->T->V->Rho->Led->(Rho->Led->Prop)->Prop
 S:Cx->XP->T->Rho->Led->(Fl->Rho->Led->Prop)->Prop
noncomputable def kCons (v:V) (P:List V->Led->Prop) (vs:List V) (σ:Led):Prop:=P (v::vs) σ
noncomputable def kL (R:Led->(List V->Led->Prop)->Prop) (P:List V->Led->Prop) (v:V) (σ:Led):Prop:=R σ (kCons v P)
noncomputable def exL (E:EX) (ρ:Rho):T->Led->(List V->Led->Prop)->Prop
 | .nil,σ,P=>P [] σ
 | .cons a r,σ,P=>E a ρ σ (kL (exL E ρ r) P)
 | _,_,_=>False
noncomputable def onC {α:Sort _} (t:T) (f:T->T->α) (z:α):α:=if h:t.ctorIdx=1 then T.cons.elim (motive:=fun z1=>α) t h f else z
set_option tactic.hygienic true
theorem onC_inv {t:T} {f:T->T->Bool} (h:onC t f false=true):∃ a r,t=.cons a r/\f a r=true:=by
 unfold onC at h
 split at h
 ·rename_i q;revert h;exact T.cons.elim (motive:=fun t=>∀ h:t.ctorIdx=1,T.cons.elim (motive:=fun z1=>Bool) t h f=true->∃ a r,t=.cons a r/\f a r=true) t q (fun a r z1 hk=>⟨a,r,rfl,hk⟩) q
 ·cases h
noncomputable def onI (t:T) (f:Int->Prop) (z:Prop):Prop:=if h:t.ctorIdx=2 then T.int.elim (motive:=fun z1=>Prop) t h f else z
theorem onI_out {t:T} {f:Int->Prop} {z:Prop} (h:onI t f z):(∃ k,t=.int k/\f k)\/z:=by
 unfold onI at h
 split at h
 ·rename_i q;revert h;exact T.int.elim (motive:=fun t=>∀ h:t.ctorIdx=2,T.int.elim (motive:=fun z1=>Prop) t h f->(∃ k,t=.int k/\f k)\/z) t q (fun k z1 hk=>.inl ⟨k,rfl,hk⟩) q
 ·exact .inr h
noncomputable def kAsB (P:Bool->Led->Prop) (v:V) (σ:Led):Prop:=asB v σ P
noncomputable def kAsI (P:Option Int->Led->Prop) (v:V) (σ:Led):Prop:=asI v σ P
noncomputable def kAnd {α:Type} (z:α) (R:Led->(α->Led->Prop)->Prop) (P:α->Led->Prop) (b:Bool) (σ:Led):Prop:=Br b (R σ P) (P z σ)
noncomputable def kOr {α:Type} (z:α) (R:Led->(α->Led->Prop)->Prop) (P:α->Led->Prop) (b:Bool) (σ:Led):Prop:=Br b (P z σ) (R σ P)
noncomputable def isAnd (op:BoolOp):Bool:=op.ctorIdx == 0
noncomputable def exBo (E:EX) (ρ:Rho) (op:BoolOp):T->Led->(V->Led->Prop)->Prop
 | .cons a r,σ,P=>if r.ctorIdx=0 then E a ρ σ P else onC r (fun z1 z2=>Sw (isAnd op) (E a ρ σ (kAsB (kAnd (.bool false) (exBo E ρ op r) P))) (E a ρ σ (kAsB (kOr (.bool true) (exBo E ρ op r) P)))) False
 | _,_,_=>False
noncomputable def exTs (B:T->Rho->Led->(Bool->Led->Prop)->Prop) (ρ:Rho) (op:BoolOp):T->Led->(Bool->Led->Prop)->Prop
 | .nil,σ,P=>P (isAnd op) σ
 | .cons a r,σ,P=>Sw (isAnd op) (B a ρ σ (kAnd false (exTs B ρ op r) P)) (B a ρ σ (kOr true (exTs B ρ op r) P))
 | _,_,_=>False
noncomputable def exO (E:EX) (ρ:Rho):T->Led->(Option Int->Led->Prop)->Prop
 | .nil,σ,P=>P Option.none σ
 | .int i,σ,P=>P (some i) σ
 | .var i,σ,P=>E (.var i) ρ σ (kAsI P)
 | .bin o a b,σ,P=>E (.bin o a b) ρ σ (kAsI P)
 | .un o a,σ,P=>E (.un o a) ρ σ (kAsI P)
 | .call f a,σ,P=>E (.call f a) ρ σ (kAsI P)
 | .blt f a,σ,P=>E (.blt f a) ρ σ (kAsI P)
 | _,_,_=>False
noncomputable def NewAt (c:Cx) (P:V->Led->Prop) (vs:List V) (σ:Led):Prop:=∀ a,a∉owned σ->a∉c.F->P (.ref a) ((a,.list vs)::σ)
noncomputable def DictAt (c:Cx) (P:V->Led->Prop) (t:T) (σ:Led):Prop:=∀ r,r∉owned σ->r∉c.F->P (.ref r) ((r,dictO t)::σ)
noncomputable def CutAt (c:Cx) (d:Nat) (X:XP) (q:T) (ρ:Rho) (σ:Led) (P:V->Led->Prop):Prop:=∃ v,(∀ Q:V->Led->Prop,Q v σ->JE c d X q ρ σ Q)/\P v σ
noncomputable def CutAtB (c:Cx) (d:Nat) (X:XP) (q:T) (ρ:Rho) (σ:Led) (P:Bool->Led->Prop):Prop:=∃ b,(∀ Q:Bool->Led->Prop,Q b σ->JT c d X q ρ σ Q)/\P b σ
noncomputable def CompAt (c:Cx) (d:Nat) (ns:List Nat) (hb:Bool) (cond elt:T) (ρ:Rho) (Kf:List V->Led->Prop) (lv:V) (σ:Led):Prop:=∃ vs F,(∀ b∈F,b∈owned σ)/\IterS (c.pro F) σ lv vs/\∀ D,JComp ((c.pro F).hide D) d ns hb cond elt ρ Kf vs [] σ
noncomputable def LoopAt (c:Cx) (d:Nat) (t body:T) (K:Fl->Rho->Led->Prop) (ρ:Rho) (lv:V) (σ:Led):Prop:=∃ vs F,(∀ b∈F,b∈owned σ)/\IterS (c.pro F) σ lv vs/\JLoop (c.pro F) d t body K vs ρ σ
noncomputable def kMc (c:Cx) (d:Nat) (X:XP) (f:Value) (ov:V) (P:V->Led->Prop) (vs:List V) (σ:Led):Prop:=CallS c d f (ov::vs) σ P X
noncomputable def MethAt (c:Cx) (d:Nat) (X:XP) (y:Str) (es:T) (ρ:Rho) (P:V->Led->Prop) (ov:V) (σ:Led):Prop:=∃ T id,Meth c σ ov y T id/\JL c d X es ρ σ (kMc c d X (.builtin id) ov P)
noncomputable def MethIAt (c:Cx) (d:Nat) (X:XP) (y:Str) (es:T) (ρ:Rho) (P:V->Led->Prop) (ov:V) (σ:Led):Prop:=∃ f,MethI c σ ov y f/\JL c d X es ρ σ (kMc c d X f ov P)
noncomputable def FldAt (c:Cx) (y:Str) (P:V->Led->Prop) (ov:V) (σ:Led):Prop:=∃ v,Fld c σ ov y v/\P v σ
noncomputable def kFld (c:Cx) (y:Str) (P:V->Led->Prop) (ov:V) (σ:Led):Prop:=Leaf (FldAt c y P ov σ)
noncomputable def kMeth (c:Cx) (d:Nat) (X:XP) (y:Str) (es:T) (ρ:Rho) (P:V->Led->Prop) (ov:V) (σ:Led):Prop:=Leaf (MethAt c d X y es ρ P ov σ)
noncomputable def kMethI (c:Cx) (d:Nat) (X:XP) (y:Str) (es:T) (ρ:Rho) (P:V->Led->Prop) (ov:V) (σ:Led):Prop:=Leaf (MethIAt c d X y es ρ P ov σ)
noncomputable def kComp (c:Cx) (d:Nat) (ns:List Nat) (hb:Bool) (cond elt:T) (ρ:Rho) (Kf:List V->Led->Prop) (lv:V) (σ:Led):Prop:=Leaf (CompAt c d ns hb cond elt ρ Kf lv σ)
noncomputable def kFor (c:Cx) (d:Nat) (t body:T) (K:Fl->Rho->Led->Prop) (ρ:Rho) (lv:V) (σ:Led):Prop:=Leaf (LoopAt c d t body K ρ lv σ)
noncomputable def kBk (c:Cx) (d:Nat) (op:Operator) (k:Int) (P:V->Led->Prop) (u:V) (σ:Led):Prop:=opBk c d op u k σ P
noncomputable def kB2 (c:Cx) (d:Nat) (op:Operator) (u:V) (P:V->Led->Prop) (v:V) (σ:Led):Prop:=opB c d op u v σ P
noncomputable def kB1 (x:Exs) (c:Cx) (d:Nat) (X:XP) (op:Operator) (b:T) (ρ:Rho) (P:V->Led->Prop) (u:V) (σ:Led):Prop:=x.E c X b ρ σ (kB2 c d op u P)
noncomputable def kUn (c:Cx) (d:Nat) (op:UnaryOp) (P:V->Led->Prop) (u:V) (σ:Led):Prop:=opU c d op u σ P
noncomputable def kC2 (c:Cx) (d:Nat) (op:CmpOp) (u:V) (P:V->Led->Prop) (v:V) (σ:Led):Prop:=opC c d op u v σ P
noncomputable def kC1 (x:Exs) (c:Cx) (d:Nat) (X:XP) (op:CmpOp) (b:T) (ρ:Rho) (P:V->Led->Prop) (u:V) (σ:Led):Prop:=x.E c X b ρ σ (kC2 c d op u P)
noncomputable def kD4 (x:Exs) (c:Cx) (d:Nat) (X:XP) (v:V) (o:CmpOp) (b:T) (ρ:Rho) (P:V->Led->Prop) (t:Bool) (σ:Led):Prop:=Br t (x.E c X b ρ σ (kC2 c d o v P)) (P (.bool false) σ)
noncomputable def kD2 (x:Exs) (c:Cx) (d:Nat) (X:XP) (o₁ o₂:CmpOp) (b:T) (ρ:Rho) (P:V->Led->Prop) (u:V) (v:V) (σ:Led):Prop:=opC c d o₁ u v σ (kAsB (kD4 x c d X v o₂ b ρ P))
noncomputable def kD1 (x:Exs) (c:Cx) (d:Nat) (X:XP) (o₁:CmpOp) (a:T) (o₂:CmpOp) (b:T) (ρ:Rho) (P:V->Led->Prop) (u:V) (σ:Led):Prop:=x.E c X a ρ σ (kD2 x c d X o₁ o₂ b ρ P u)
noncomputable def kIf (x:Exs) (c:Cx) (X:XP) (a b:T) (ρ:Rho) (P:V->Led->Prop) (k:Bool) (σ:Led):Prop:=Br k (x.E c X a ρ σ P) (x.E c X b ρ σ P)
noncomputable def kTup (P:V->Led->Prop) (vs:List V) (σ:Led):Prop:=P (.tup vs) σ
noncomputable def kLst (P:V->Led->Prop) (vs:List V) (σ:Led):Prop:=P (.lst vs) σ
noncomputable def kLoc (c:Cx) (P:V->Led->Prop) (vs:List V) (σ:Led):Prop:=Leaf (NewAt c P vs σ)
noncomputable def kCall (c:Cx) (d:Nat) (X:XP) (f:Str) (P:V->Led->Prop) (vs:List V) (σ:Led):Prop:=Leaf (CallN c d f vs σ P X)
noncomputable def kBlt (c:Cx) (d:Nat) (X:XP) (f:Bf) (P:V->Led->Prop) (vs:List V) (σ:Led):Prop:=opF c d X f vs σ P
noncomputable def kIsi (c:Cx) (d:Nat) (X:XP) (f:Bf) (P:V->Led->Prop) (v:V) (σ:Led):Prop:=opI c d X f v σ P
noncomputable def kLcp (c:Cx) (d:Nat) (X:XP) (P:V->Led->Prop) (vs:List V) (σ:Led):Prop:=Leaf (CallS c d (.type "list") vs σ P X)
noncomputable def kK (c:Cx) (d:Nat) (k:Int) (P:V->Led->Prop) (u:V) (σ:Led):Prop:=opK c d u k σ P
noncomputable def kI2 (c:Cx) (d:Nat) (u:V) (P:V->Led->Prop) (v:V) (σ:Led):Prop:=Leaf (Item c d u v σ P)
noncomputable def kI1 (x:Exs) (c:Cx) (d:Nat) (X:XP) (b:T) (ρ:Rho) (P:V->Led->Prop) (u:V) (σ:Led):Prop:=x.E c X b ρ σ (kI2 c d u P)
noncomputable def kS3 (v:V) (l:Option Int) (P:V->Led->Prop) (u:Option Int) (σ:Led):Prop:=opS v l u σ P
noncomputable def kS2 (x:Exs) (c:Cx) (X:XP) (hi:T) (ρ:Rho) (v:V) (P:V->Led->Prop) (l:Option Int) (σ:Led):Prop:=exO (x.E c X) ρ hi σ (kS3 v l P)
noncomputable def kS1 (x:Exs) (c:Cx) (X:XP) (lo hi:T) (ρ:Rho) (P:V->Led->Prop) (v:V) (σ:Led):Prop:=exO (x.E c X) ρ lo σ (kS2 x c X hi ρ v P)
noncomputable def kNot (P:Bool->Led->Prop) (b:Bool) (σ:Led):Prop:=P (!b) σ
noncomputable def stepE (d:Nat) (x:Exs) (c:Cx) (X:XP) (t:T) (ρ:Rho) (σ:Led) (P:V->Led->Prop):Prop:=match t with
 | .int i=>P (.int i) σ
 | .str y=>P (.str y) σ
 | .bool b=>P (.bool b) σ
 | .none=>P .none σ
 | .var i=>(match ρ.lookup i with
  | some v=>P v σ
  | Option.none=>False)
 | .bin op a b=>onI b (fun k=>x.E c X a ρ σ (kBk c d op k P)) (x.E c X a ρ σ (kB1 x c d X op b ρ P))
 | .un op a=>x.E c X a ρ σ (kUn c d op P)
 | .cmp op a b=>x.E c X a ρ σ (kC1 x c d X op b ρ P)
 | .cmp2 a o₁ b o₂ b'=>x.E c X a ρ σ (kD1 x c d X o₁ b o₂ b' ρ P)
 | .bo op es=>exBo (x.E c X) ρ op es σ P
 | .ife t a b=>x.B c X t ρ σ (kIf x c X a b ρ P)
 | .tup es=>exL (x.E c X) ρ es σ (kTup P)
 | .lst loc es=>Sw loc (exL (x.E c X) ρ es σ (kLoc c P)) (exL (x.E c X) ρ es σ (kLst P))
 | .call f es=>exL (x.E c X) ρ es σ (kCall c d X f P)
 | .blt f es=>exL (x.E c X) ρ es σ (kBlt c d X f P)
 | .isi a f=>x.E c X a ρ σ (kIsi c d X f P)
 | .meth o y es=>x.E c X o ρ σ (kMeth c d X y es ρ P)
 | .methI o y es=>x.E c X o ρ σ (kMethI c d X y es ρ P)
 | .attr o y=>x.E c X o ρ σ (kFld c y P)
 | .item a b=>onI b (fun k=>x.E c X a ρ σ (kK c d k P)) (x.E c X a ρ σ (kI1 x c d X b ρ P))
 | .slice a lo hi=>x.E c X a ρ σ (kS1 x c X lo hi ρ P)
 | .dict a _=>Leaf (DictAt c P a σ)
 | .dictL xs es=>Leaf (JD c d X xs es ρ σ P)
 | .cut q=>Leaf (CutAt c d X q ρ σ P)
 | .comp loc hb elt ns it cond=>x.E c X it ρ σ (kComp c d ns hb cond elt ρ (Made c.F loc P))
 | _=>False
noncomputable def stepB (d:Nat) (x:Exs) (c:Cx) (X:XP) (t:T) (ρ:Rho) (σ:Led) (P:Bool->Led->Prop):Prop:=match t with
 | .un .Not a=>x.B c X a ρ σ (kNot P)
 | .bo op es=>exTs (x.B c X) ρ op es σ P
 | .cmp op a b=>x.E c X a ρ σ (kC1 x c d X op b ρ (kAsB P))
 | .cmp2 a o₁ b o₂ b'=>x.E c X a ρ σ (kD1 x c d X o₁ b o₂ b' ρ (kAsB P))
 | .var i=>x.E c X (.var i) ρ σ (kAsB P)
 | .cut q=>Leaf (CutAtB c d X q ρ σ P)
 | .call f a=>x.E c X (.call f a) ρ σ (kAsB P)
 | .blt f a=>x.E c X (.blt f a) ρ σ (kAsB P)
 | .isi a f=>x.E c X (.isi a f) ρ σ (kAsB P)
 | .meth o y a=>x.E c X (.meth o y a) ρ σ (kAsB P)
 | .item a b=>x.E c X (.item a b) ρ σ (kAsB P)
 | _=>False
noncomputable def tlen:List V->T->Bool
 | [],t=>t.ctorIdx == 0
 | _::vs,t=>onC t (fun z1 r=>tlen vs r) false
noncomputable def kAs (R:Rho->Led->(Rho->Led->Prop)->Prop) (K:Rho->Led->Prop) (ρ:Rho) (σ:Led):Prop:=R ρ σ K
noncomputable def exAs (A:T->V->Rho->Led->(Rho->Led->Prop)->Prop):List V->T->Rho->Led->(Rho->Led->Prop)->Prop
 | [],_,ρ,σ,K=>K ρ σ
 | v::vs,t,ρ,σ,K=>onC t (fun a r=>A a v ρ σ (kAs (exAs A vs r) K)) False
noncomputable def kSA (c:Cx) (d:Nat) (y:Str) (v:V) (K:Led->Prop) (ov:V) (σ:Led):Prop:=Leaf (SetAt c d ov y v σ K)
noncomputable def kSI2 (c:Cx) (d:Nat) (ov v:V) (K:Led->Prop) (iv:V) (σ:Led):Prop:=Leaf (SetIt c d ov iv v σ K)
noncomputable def kSI1 (x:Exs) (c:Cx) (d:Nat) (X:XP) (b:T) (v:V) (ρ:Rho) (K:Led->Prop) (ov:V) (σ:Led):Prop:=x.E c X b ρ σ (kSI2 c d ov v K)
noncomputable def stepA (d:Nat) (x:Exs) (c:Cx) (X:XP) (t:T) (v:V) (ρ:Rho) (σ:Led) (K:Rho->Led->Prop):Prop:=match t with
 | .var i=>K ((i,v)::ρ) σ
 | .tup ts=>(match v with
  | .tup vs=>Sw (tlen vs ts) (exAs (x.A c X) vs ts ρ σ K) False
  | _=>False)
 | .attr a y=>x.E c X a ρ σ (kSA c d y v (K ρ))
 | .item a b=>x.E c X a ρ σ (kSI1 x c d X b v ρ (K ρ))
 | _=>False
noncomputable def kRet (K:Fl->Rho->Led->Prop) (ρ:Rho) (v:V) (σ:Led):Prop:=K (.ret v) ρ σ
noncomputable def kExp (K:Fl->Rho->Led->Prop) (ρ:Rho) (v:V) (σ:Led):Prop:=K .next ρ σ
noncomputable def kVar (K:Fl->Rho->Led->Prop) (i:Nat) (ρ:Rho) (v:V) (σ:Led):Prop:=K .next ((i,v)::ρ) σ
noncomputable def kSet (x:Exs) (c:Cx) (X:XP) (t:T) (ρ:Rho) (K:Fl->Rho->Led->Prop) (v:V) (σ:Led):Prop:=x.A c X t v ρ σ (K .next)
noncomputable def kIte (x:Exs) (c:Cx) (X:XP) (a b:T) (ρ:Rho) (K:Fl->Rho->Led->Prop) (k:Bool) (σ:Led):Prop:=Br k (x.S c X a ρ σ K) (x.S c X b ρ σ K)
noncomputable def RaiseAt (c:Cx) (d:Nat) (X:XP) (x:Str) (es:T) (ρ:Rho) (σ:Led):Prop:=∃ C bm,Exc c.k x C bm/\JL c d X es ρ σ (fun z1 σ₁=>X (.ref C) σ₁)
noncomputable def stepS (d:Nat) (x:Exs) (c:Cx) (X:XP) (s:T) (ρ:Rho) (σ:Led) (K:Fl->Rho->Led->Prop):Prop:=match s with
 | .ret e=>x.E c X e ρ σ (kRet K ρ)
 | .ret0=>K (.ret .none) ρ σ
 | .pass=>K .next ρ σ
 | .brk=>K .brk ρ σ
 | .cont=>K .cont ρ σ
 | .expr e=>x.E c X e ρ σ (kExp K ρ)
 | .asgn t e=>(match t with
  | .var i=>x.E c X e ρ σ (kVar K i ρ)
  | .item a b=>x.E c X e ρ σ (kSet x c X (.item a b) ρ K)
  | .attr a y=>x.E c X e ρ σ (kSet x c X (.attr a y) ρ K)
  | .tup ts=>(match e with
   | .item a b=>x.E c X (.item a b) ρ σ (kSet x c X (.tup ts) ρ K)
   | _=>False)
  | _=>False)
 | .asgnC i loc hb elt ns it cond=>x.E c X it ρ σ (kComp c d ns hb cond elt ρ (Made c.F loc (kVar K i ρ)))
 | .ite t a b=>x.B c X t ρ σ (kIte x c X a b ρ K)
 | .for_ t it body=>x.E c X it ρ σ (kFor c d t body K ρ)
 | .raise x es=>Leaf (RaiseAt c d X x es ρ σ)
 | .try_ body hs=>onC hs (fun h₀ r=>Leaf (JTry c d X body (.cons h₀ r) ρ σ K)) False
 | _=>False
noncomputable def hasLp:T->Bool
 | .for_ _ _ _=>true
 | .try_ _ _=>true
 | .ite t a b=>hasLp a || (hasLp b || t.ctorIdx == (T.cut .nil).ctorIdx)
 | .cons a r=>hasLp a || hasLp r
 | _=>false
noncomputable def kNx (x:Exs) (c:Cx) (X:XP) (r:T) (K:Fl->Rho->Led->Prop) (ρ:Rho) (σ:Led):Prop:=x.S c X r ρ σ K
noncomputable def stepL (d:Nat) (x:Exs) (c:Cx) (X:XP) (t:T) (ρ:Rho) (σ:Led) (K:Fl->Rho->Led->Prop):Prop:=match t with
 | .nil=>K .next ρ σ
 | .cons s r=>Sw (hasLp s) (stepS d x c X s ρ σ (then_ K (kJB c d X r K))) (stepS d x c X s ρ σ (then_ K (kNx x c X r K)))
 | _=>False
noncomputable def exZ:Exs:=⟨fun z1 z2 z3 z4 z5 z6=>False,fun z1 z2 z3 z4 z5 z6=>False,fun z1 z2 z3 z4 z5 z6 z7=>False,fun z1 z2 z3 z4 z5 z6=>False⟩
noncomputable def exS (d:Nat) (x:Exs):Exs:=⟨stepE d x,stepB d x,stepA d x,stepL d x⟩
noncomputable def ex (d:Nat):Nat->Exs
 | 0=>exZ
 | n+1=>exS d (ex d n)
end Mine
end
section
namespace Mine
open PySem
variable {c:Cx} {d:Nat} {σ:Led} {P P':V->Led->Prop} {X:XP} {ρ:Rho} {K K':Fl->Rho->Led->Prop}
theorem intC_out {op:CmpOp} {k:Int->Int->Prop} {a b:V} (hr:∀ x y,k x y->Op2 c d (compareOp op) (.int x) (.int y) σ P) (h:intC c d op k a b σ P):Op2 c d (compareOp op) a b σ P:=by
 cases a with
 | int x=>cases b with
  | int y=>exact hr x y h
  | _=>exact Leaf.out h
 | _=>exact Leaf.out h
theorem eqC_out {op:CmpOp} {k₁:Int->Int->Prop} {k₂:Str->Str->Prop} {k₃:Bool->Bool->Prop} {a b:V} (h1:∀ x y:Int,k₁ x y->Op2 c d (compareOp op) (.int x) (.int y) σ P) (h2:∀ x y:Str,k₂ x y->Op2 c d (compareOp op) (.str x) (.str y) σ P)
  (h3:∀ x y:Bool,k₃ x y->Op2 c d (compareOp op) (.bool x) (.bool y) σ P) (h:eqC c d op k₁ k₂ k₃ a b σ P):Op2 c d (compareOp op) a b σ P:=by
 cases a with
 | int x=>cases b with
  | int y=>exact h1 x y h
  | _=>exact Leaf.out h
 | str x=>cases b with
  | str y=>exact h2 x y h
  | _=>exact Leaf.out h
 | bool x=>cases b with
  | bool y=>exact h3 x y h
  | _=>exact Leaf.out h
 | _=>exact Leaf.out h
theorem inC_out {op:CmpOp} {k:Str->Str->Prop} {a b:V} (hr:∀ x y:Str,k x y->Op2 c d (compareOp op) (.str y) (.str x) σ P) (h:inC c d op k a b σ P):Op2 c d (compareOp op) a b σ P:=by
 cases a with
 | str x=>cases b with
  | str y=>exact hr y x h
  | _=>exact Leaf.out h
 | _=>exact Leaf.out h
theorem opC_out {op:CmpOp} {a b:V} (h:opC c d op a b σ P):Op2 c d (compareOp op) a b σ P:=by
 cases op with
 | Eq=>exact eqC_out (k₁:=fun x y=>P (.bool (x == y)) σ) (k₂:=fun x y=>P (.bool (x == y)) σ) (k₃:=fun x y=>P (.bool (x == y)) σ) (fun z1 z2 h=>Cmp_eq h) (fun z1 z2 h=>Cmp_eq_str h) (fun z1 z2 h=>Cmp_eq_bool h) h
 | NotEq=>exact eqC_out (k₁:=fun x y=>P (.bool (x != y)) σ) (k₂:=fun x y=>P (.bool (x != y)) σ) (k₃:=fun x y=>P (.bool (x != y)) σ) (fun z1 z2 h=>Cmp_ne h) (fun z1 z2 h=>Cmp_ne_str h) (fun z1 z2 h=>Cmp_ne_bool h) h
 | Lt=>exact intC_out (k:=fun x y=>P (.bool (decide (x<y))) σ) (fun z1 z2 h=>Cmp_lt h) h
 | LtE=>exact intC_out (k:=fun x y=>P (.bool (decide (x<=y))) σ) (fun z1 z2 h=>Cmp_le h) h
 | Gt=>exact intC_out (k:=fun x y=>P (.bool (decide (y<x))) σ) (fun z1 z2 h=>Cmp_gt h) h
 | GtE=>exact intC_out (k:=fun x y=>P (.bool (decide (y<=x))) σ) (fun z1 z2 h=>Cmp_ge h) h
 | In=>exact inC_out (k:=fun x y=>P (.bool (Txt.contains x y)) σ) (fun z1 z2 h=>Cmp_in_str h) h
 | NotIn=>exact inC_out (k:=fun x y=>P (.bool (!Txt.contains x y)) σ) (fun z1 z2 h=>Cmp_notIn_str h) h
 | Is=>exact Leaf.out h
 | IsNot=>exact Leaf.out h
theorem zbf {op:Operator} {f:Int->Int->Prop} {a b:V} (hr:∀ x y,b=.int y->f x y->Op2 c d (binaryOp op) (.int x) (.int y) σ P) (h:intB c d op f a b σ P):Op2 c d (binaryOp op) a b σ P:=by
 cases a with
 | int x=>cases b with
  | int y=>exact hr x y rfl h
  | _=>exact Leaf.out h
 | _=>exact Leaf.out h
theorem opB_out {op:Operator} {a b:V} (h:opB c d op a b σ P):Op2 c d (binaryOp op) a b σ P:=by
 cases op with
 | Add=>exact zbf (f:=fun x y=>P (.int (x+y)) σ) (fun z1 z2 z3 h=>Op_add h) h
 | Sub=>exact zbf (f:=fun x y=>P (.int (x - y)) σ) (fun z1 z2 z3 h=>Op_sub h) h
 | Mult=>exact zbf (fun _ _ _ ⟨h1,h2⟩=>Op_mul h1 h2) h
 | Mod=>exact zbf (fun _ _ _ ⟨h1,h2⟩=>Op_modp h1 h2) h
 | FloorDiv=>exact zbf (fun _ _ _ ⟨h1,h2⟩=>Op_divp h1.1 h1.2 h2) h
 | _=>exact Leaf.out h
theorem opBk_out {op:Operator} {a:V} {k:Int} (h:opBk c d op a k σ P):Op2 c d (binaryOp op) a (.int k) σ P:=by
 cases op with
 | Mult=>
  refine zbf (f:=fun x y=>Br (small k) (P (.int (x * k)) σ) (Side (IntMulOk x k) (P (.int (x * k)) σ))) (fun x y e h=>?_) h
  cases e
  cases q:small k with
  | true=>
   rw [q] at h
   obtain ⟨q1,q2⟩:=and_tt q
   exact Op_mul (mulOk_right (of_decide_eq_true q1) (of_decide_eq_true q2)) h
  | false=>rw [q] at h;obtain ⟨h1,h2⟩:=(show Side _ _ from h);exact Op_mul h1 h2
 | Mod=>
  refine zbf (f:=fun x y=>Br (decide (0<k)) (P (.int (x % k)) σ) (Side (0<k) (P (.int (x % k)) σ))) (fun x y e h=>?_) h
  cases e
  cases q:decide (0<k) with
  | true=>rw [q] at h;exact Op_modp (of_decide_eq_true q) h
  | false=>rw [q] at h;obtain ⟨h1,h2⟩:=(show Side _ _ from h);exact Op_modp h1 h2
 | FloorDiv=>
  refine zbf (f:=fun x y=>Br (decide (0<k) && decide (k<9223372036854775808)) (P (.int (x / k)) σ) (Side (0<k/\k<9223372036854775808) (P (.int (x / k)) σ))) (fun x y e h=>?_) h
  cases e
  cases q:(decide (0<k) && decide (k<9223372036854775808)) with
  | true=>
   rw [q] at h
   obtain ⟨q1,q2⟩:=and_tt q
   exact Op_divp (of_decide_eq_true q1) (of_decide_eq_true q2) h
  | false=>rw [q] at h;obtain ⟨h1,h2⟩:=(show Side _ _ from h);exact Op_divp h1.1 h1.2 h2
 | Pow=>
  refine zbf (f:=fun x y=>Br (k == 12 && x == 10) (P (.int 1000000000000) σ) (Leaf (Op2 c d (binaryOp .Pow) (.int x) (.int k) σ P))) (fun x y e h=>?_) h
  cases e
  cases q:(k == 12 && x == 10) with
  | true=>
   rw [q] at h
   obtain ⟨q1,q2⟩:=and_tt q
   rw [eq_of_beq q1,eq_of_beq q2];exact Op_pow12 h
  | false=>rw [q] at h;exact Leaf.out h
 | _=>exact opB_out h
theorem opU_out {op:UnaryOp} {a:V} (h:opU c d op a σ P):Op1 c d (unaryOp op) a σ P:=by
 cases op with
 | USub=>cases a with
  | int x=>exact Op_neg h
  | _=>exact Leaf.out h
 | Not=>cases a with
  | bool x=>exact Op_not h
  | _=>exact Leaf.out h
 | _=>exact Leaf.out h
theorem zba {v:V} {P:Bool->Led->Prop} (h:asB v σ P):∃ b,v=.bool b/\P b σ:=by
 cases v with
 | bool b=>exact ⟨b,rfl,h⟩
 | _=>exact Leaf.out h
theorem asI_out {v:V} {P:Option Int->Led->Prop} (h:asI v σ P):∃ i,v=.int i/\P (some i) σ:=by
 cases v with
 | int b=>exact ⟨b,rfl,h⟩
 | _=>exact Leaf.out h
theorem opI_out {f:Bf} {v:V} (h:opI c d X f v σ P):CallS c d (.builtin "isinstance") [v,.raw f.val] σ P X:=by
 cases v with
 | bool b=>cases f with
  | bool=>exact Isi_bool_bool h
  | int=>exact Isi_bool_int h
  | str=>exact Isi_bool_str h
  | tuple=>exact Isi_bool_tuple h
  | list=>exact Isi_bool_list h
  | _=>exact Leaf.out h
 | int b=>cases f with
  | bool=>exact Isi_int_bool h
  | int=>exact Isi_int_int h
  | str=>exact Isi_int_str h
  | tuple=>exact Isi_int_tuple h
  | list=>exact Isi_int_list h
  | _=>exact Leaf.out h
 | str b=>cases f with
  | bool=>exact Isi_str_bool h
  | int=>exact Isi_str_int h
  | str=>exact Isi_str_str h
  | tuple=>exact Isi_str_tuple h
  | list=>exact Isi_str_list h
  | _=>exact Leaf.out h
 | tup b=>cases f with
  | bool=>exact Isi_tup_bool h
  | int=>exact Isi_tup_int h
  | str=>exact Isi_tup_str h
  | tuple=>exact Isi_tup_tuple h
  | list=>exact Isi_tup_list h
  | _=>exact Leaf.out h
 | lst b=>cases f with
  | bool=>exact Isi_lst_bool (.lst _) h
  | int=>exact Isi_lst_int (.lst _) h
  | str=>exact Isi_lst_str (.lst _) h
  | tuple=>exact Isi_lst_tuple (.lst _) h
  | list=>exact Isi_lst_list (.lst _) h
  | _=>exact Leaf.out h
 | _=>exact Leaf.out h
theorem opLen_out {v:V} (h:opLen c d X v σ P):CallS c d (.builtin "len") [v] σ P X:=by
 cases v with
 | lst vs=>obtain ⟨n,rfl,h⟩:=Leaf.out h;exact zag (.lst _) h
 | tup vs=>exact Call_len_tup h
 | str x=>obtain ⟨h1,h2⟩:=(show Side _ _ from h);exact Call_len_str h1 h2
 | _=>exact Leaf.out h
theorem one_out {vs:List V} {f:V->Prop} {D:Prop} (h:one vs f D):(∃ v,vs=[v]/\f v)\/D:=by
 cases vs with
 | nil=>exact .inr h
 | cons a r=>cases r with
  | nil=>exact .inl ⟨a,rfl,h⟩
  | cons _ _=>exact .inr h
theorem two_out {vs:List V} {f:V->V->Prop} {D:Prop} (h:two vs f D):(∃ a b,vs=[a,b]/\f a b)\/D:=by
 cases vs with
 | nil=>exact .inr h
 | cons a r=>cases r with
  | nil=>exact .inr h
  | cons b r=>cases r with
   | nil=>exact .inl ⟨a,b,rfl,h⟩
   | cons _ _=>exact .inr h
theorem anInt_out {a:V} {f:Int->Prop} {D:Prop} (h:anInt a f D):(∃ x,a=.int x/\f x)\/D:=by
 cases a with
 | int x=>exact .inl ⟨x,rfl,h⟩
 | _=>exact .inr h
theorem aLst_out {a:V} {f:List V->Prop} {D:Prop} (h:aLst a f D):(∃ x,a=.lst x/\f x)\/D:=by
 cases a with
 | lst x=>exact .inl ⟨x,rfl,h⟩
 | _=>exact .inr h
theorem ints_out {vs:List V} {f:Int->Int->Prop} {D:Prop} (h:two vs (fun a b=>anInt a (fun x=>anInt b (fun y=>f x y) D) D) D):(∃ x y,vs=[.int x,.int y]/\f x y)\/D:=by
 rcases two_out h with ⟨a,b,rfl,h⟩ | h
 ·rcases anInt_out h with ⟨x,rfl,h⟩ | h
  ·rcases anInt_out h with ⟨y,rfl,h⟩ | h
   ·exact .inl ⟨x,y,rfl,h⟩
   ·exact .inr h
  ·exact .inr h
 ·exact .inr h
theorem lst_out {vs:List V} {f:List V->Prop} {D:Prop} (h:one vs (fun a=>aLst a f D) D):(∃ x,vs=[.lst x]/\f x)\/D:=by
 rcases one_out h with ⟨a,rfl,h⟩ | h
 ·rcases aLst_out h with ⟨x,rfl,h⟩ | h
  ·exact .inl ⟨x,rfl,h⟩
  ·exact .inr h
 ·exact .inr h
theorem opF_out (hh:c.k.hd=true) {f:Bf} {vs:List V} (h:opF c d X f vs σ P):CallS c d f.val vs σ P X:=by
 cases f with
 | len=>
  rcases one_out (f:=fun v=>opLen c d X v σ P) h with ⟨v,rfl,h⟩ | h
  ·exact opLen_out h
  ·exact Leaf.out h
 | max=>
  rcases ints_out (f:=fun x y=>P (.int (max x y)) σ) h with ⟨x,y,rfl,h⟩ | h
  ·exact Call_max hh h
  ·exact Leaf.out h
 | min=>
  rcases ints_out (f:=fun x y=>P (.int (min x y)) σ) h with ⟨x,y,rfl,h⟩ | h
  ·exact Call_min hh h
  ·exact Leaf.out h
 | range=>
  rcases one_out (f:=fun a=>anInt a (fun x=>P (.rng 0 x) σ) (Leaf (CallS c d Bf.range.val vs σ P X))) h with ⟨v,rfl,h⟩ | h
  ·rcases anInt_out h with ⟨x,rfl,h⟩ | h
   ·exact Call_range1 h
   ·exact Leaf.out h
  ·rcases ints_out (f:=fun x y=>P (.rng x y) σ) h with ⟨x,y,rfl,h⟩ | h
   ·exact Call_range2 h
   ·exact Leaf.out h
 | list=>
  rcases lst_out (f:=fun ws=>P (.lst ws) σ) h with ⟨x,rfl,h⟩ | h
  ·exact Call_list (.lst _) h
  ·exact Leaf.out h
 | sum=>
  rcases lst_out (f:=fun ws=>Leaf (SumAt ws σ P)) h with ⟨x,rfl,h⟩ | h
  ·obtain ⟨ys,rfl,w⟩:=Leaf.out h;exact Call_sum hh (.lst _) w
  ·exact Leaf.out h
 | all=>
  rcases lst_out (f:=fun ws=>Leaf (AllAt ws σ P)) h with ⟨x,rfl,h⟩ | h
  ·obtain ⟨ys,rfl,w⟩:=Leaf.out h;exact Call_all hh (.lst _) w
  ·exact Leaf.out h
 | _=>exact Leaf.out h
theorem Item_tup {vs:List V} {k:Int} {w:V} (h0:0<=k) (hw:vs[k.toNat]?=some w) (h:P w σ):Item c d (.tup vs) (.int k) σ P:=fun v i hi=>Op_titem h0 hw h (fun o x=>index_no hi o x)
theorem za6 {lv:V} {vs:List V} {k:Int} {w:V} (hl:IsLst σ lv vs) (h0:0<=k) (hw:vs[k.toNat]?=some w) (h:P w σ):Item c d lv (.int k) σ P:=fun v i hi=>Op_item hl h0 hw h (fun o x=>index_no hi o x)
theorem Item_str {x:Str} {k:Int} {n:Nat} (h0:0<=k) (hk:x.cps[k.toNat]?=some n) (hn:k<2 ^ 62) (h:P (.str ⟨#[n]⟩) σ):Item c d (.str x) (.int k) σ P:=fun v i hi=>Op_sitem h0 hk hn h (fun o x=>index_no hi o x)
theorem opK_out {v:V} {k:Int} (h:opK c d v k σ P):Item c d v (.int k) σ P:=by
 cases v with
 | tup vs=>
  unfold opK at h
  dsimp only at h
  cases q:decide (0<=k) with
  | true=>
   rw [q] at h
   replace h:(match vs[k.toNat]? with
    | some w=>P w σ
    | Option.none=>False):=h
   split at h
   ·exact Item_tup (of_decide_eq_true q) (by assumption) h
   ·exact h.elim
  | false=>rw [q] at h;exact Leaf.out h
 | _=>exact Leaf.out h
theorem opS_out {v:V} {l u:Option Int} (h:opS v l u σ P):∃ w,SliceOf σ l u v w/\P w σ:=by
 cases v with
 | lst vs=>exact ⟨_,.lst (.lst _),h⟩
 | str x=>obtain ⟨h1,h2⟩:=(show Side _ _ from h);exact ⟨_,.str h1,h2⟩
 | _=>exact Leaf.out h
structure ExOk (d:Nat) (x:Exs):Prop where
 E:∀ {c X t ρ σ P},x.E c X t ρ σ P->JE c d X t ρ σ P
 B:∀ {c X t ρ σ P},x.B c X t ρ σ P->JT c d X t ρ σ P
 A:∀ {c X t v ρ σ K},x.A c X t v ρ σ K->JA c d X t v ρ σ K
 S:∀ {c X t ρ σ K},x.S c X t ρ σ K->JB c d X t ρ σ K
theorem JL.mono {t:T} {P P':List V->Led->Prop} (h:JL c d X t ρ σ P) (k:∀ v σ',P v σ'->P' v σ'):JL c d X t ρ σ P':=fun G N sc e hG hN hc=>(h G N sc e hG hN hc).mono k
theorem JT.mono {t:T} {P P':Bool->Led->Prop} (h:JT c d X t ρ σ P) (k:∀ v σ',P v σ'->P' v σ'):JT c d X t ρ σ P':=fun G N sc e hG hN hc=>(h G N sc e hG hN hc).mono k
theorem JO.mono {t:T} {P P':Option Int->Led->Prop} (h:JO c d X t ρ σ P) (k:∀ v σ',P v σ'->P' v σ'):JO c d X t ρ σ P':=fun G N sc e hG hN hc=>(h G N sc e hG hN hc).mono k
variable {x:Exs} {t:T}
theorem exL_out (ok:ExOk d x):∀ (t:T) {σ:Led} {P:List V->Led->Prop},exL (x.E c X) ρ t σ P->JL c d X t ρ σ P:=fun t=>by
 induction t with
 | nil=>exact fun h=>JL_nil h
 | cons a r _ ih=>exact fun h=>JL_cons ((ok.E (show x.E c X a ρ _ _ from h)).mono fun v σ₁ q=>ih q)
 | _=>exact fun h=>h.elim
set_option tactic.hygienic true
theorem onC_out {t:T} {f:T->T->Prop} (h:onC t f False):∃ a r,t=.cons a r/\f a r:=by
 unfold onC at h
 split at h
 ·rename_i q;revert h;exact T.cons.elim (motive:=fun t=>∀ h:t.ctorIdx=1,T.cons.elim (motive:=fun z1=>Prop) t h f->∃ a r,t=.cons a r/\f a r) t q (fun a r z1 hk=>⟨a,r,rfl,hk⟩) q
 ·exact h.elim
theorem br_and {A B:Prop} (h:Sw (isAnd .And) A B):A:=h
theorem br_or {A B:Prop} (h:Sw (isAnd .Or) A B):B:=h
set_option tactic.hygienic false
theorem exBo_out (ok:ExOk d x) {op:BoolOp}:∀ (t:T) {σ:Led} {P:V->Led->Prop},exBo (x.E c X) ρ op t σ P->JBo c d X op t ρ σ P:=fun t=>by
 induction t with
 | cons a r _ ih=>
  intro σ P h
  replace h:if r.ctorIdx=0 then x.E c X a ρ σ P else onC r (fun z1 z2=>Sw (isAnd op) (x.E c X a ρ σ (kAsB (kAnd (.bool false) (exBo (x.E c X) ρ op r) P))) (x.E c X a ρ σ (kAsB (kOr (.bool true) (exBo (x.E c X) ρ op r) P)))) False:=h
  by_cases q:r.ctorIdx=0
  ·rw [if_pos q] at h
   rw [T.nil.elim (motive:=fun r=>r=.nil) r q rfl]
   exact JBo_one (ok.E h)
  ·rw [if_neg q] at h
   obtain ⟨b,r',rfl,h⟩:=onC_out h
   cases op with
   | And=>
    refine JBo_and ((ok.E (br_and h)).mono fun v σ₁ q=>?_)
    obtain ⟨t,rfl,q⟩:=zba q
    refine ⟨t,rfl,?_⟩
    cases t with
    | true=>exact ih q
    | false=>exact q
   | Or=>
    refine JBo_or ((ok.E (br_or h)).mono fun v σ₁ q=>?_)
    obtain ⟨t,rfl,q⟩:=zba q
    refine ⟨t,rfl,?_⟩
    cases t with
    | true=>exact q
    | false=>exact ih q
 | _=>exact fun h=>h.elim
theorem exTs_out (ok:ExOk d x) {op:BoolOp}:∀ (t:T) {σ:Led} {P:Bool->Led->Prop},exTs (x.B c X) ρ op t σ P->JTs c d X op t ρ σ P:=fun t=>by
 induction t with
 | nil=>
  intro σ P h
  cases op with
  | And=>exact JTs_and_nil h
  | Or=>exact JTs_or_nil h
 | cons a r _ ih=>
  intro σ P h
  cases op with
  | And=>
   refine JTs_and ((ok.B (br_and h)).mono fun b σ₁ q=>?_)
   cases b with
   | true=>exact ih q
   | false=>exact q
  | Or=>
   refine JTs_or ((ok.B (br_or h)).mono fun b σ₁ q=>?_)
   cases b with
   | true=>exact q
   | false=>exact ih q
 | _=>exact fun h=>h.elim
theorem exO_out (ok:ExOk d x) {t:T} {P:Option Int->Led->Prop} (h:exO (x.E c X) ρ t σ P):JO c d X t ρ σ P:=by
 cases t with
 | nil=>exact JO_nil h
 | int i=>exact JO_int (JE_int ⟨i,rfl,h⟩)
 | var i=>exact JO_var ((ok.E h).mono fun v σ₁ q=>asI_out q)
 | bin o a b=>exact JO_bin ((ok.E h).mono fun v σ₁ q=>asI_out q)
 | un o a=>exact JO_un ((ok.E h).mono fun v σ₁ q=>asI_out q)
 | call f a=>exact JO_call ((ok.E h).mono fun v σ₁ q=>asI_out q)
 | blt f a=>exact JO_blt ((ok.E h).mono fun v σ₁ q=>asI_out q)
 | _=>exact h.elim
theorem stepE_out (ok:ExOk d x) {t:T} (h:stepE d x c X t ρ σ P):JE c d X t ρ σ P:=by
 cases t with
 | int i=>exact JE_int h
 | str i=>exact JE_str h
 | bool i=>exact JE_bool h
 | none=>exact JE_none h
 | var i=>
  unfold stepE at h
  dsimp only at h
  split at h
  ·exact JE_var (by assumption) h
  ·exact h.elim
 | bin op a b=>
  rcases onI_out (show onI b _ _ from h) with ⟨k,rfl,h⟩ | h
  ·exact JE_bin ((ok.E h).mono fun u σ₁ q=>JE_int (opBk_out q))
  ·exact JE_bin ((ok.E h).mono fun u σ₁ q=>(ok.E q).mono fun v σ₂ q=>opB_out q)
 | un op a=>exact JE_un ((ok.E h).mono fun u σ₁ q=>opU_out q)
 | cmp op a b=>exact JE_cmp ((ok.E h).mono fun u σ₁ q=>(ok.E q).mono fun v σ₂ q=>opC_out q)
 | cmp2 a o₁ b o₂ b'=>
  refine JE_cmp2 ((ok.E h).mono fun u σ₁ q=>(ok.E q).mono fun v σ₂ q=>(opC_out q).mono fun w σ₃ q=>?_)
  obtain ⟨t,rfl,q⟩:=zba q
  refine ⟨t,rfl,?_⟩
  cases t with
  | true=>exact (ok.E q).mono fun v' σ₅ q=>opC_out q
  | false=>exact q
 | bo op es=>exact JE_bo (exBo_out ok es h)
 | ife t a b=>
  refine JE_ife ((ok.B h).mono fun k σ₁ q=>?_)
  cases k with
  | true=>exact ok.E q
  | false=>exact ok.E q
 | tup es=>exact JE_tup (exL_out ok es h)
 | lst loc es=>
  cases loc with
  | false=>exact JE_lst (exL_out ok es h)
  | true=>exact JE_loc ((exL_out ok es h).mono fun vs σ₁ q=>Leaf.out q)
 | call f es=>exact JE_call ((exL_out ok es h).mono fun vs σ₁ q=>Leaf.out q)
 | blt f es=>exact JE_blt ((exL_out ok es h).mono fun vs σ₁ q hh=>opF_out hh q)
 | isi a f=>exact JE_isi ((ok.E h).mono fun u σ₁ q=>opI_out q)
 | methI o y es=>exact JE_methI ((ok.E h).mono fun u σ₁ q=>Leaf.out q)
 | attr o y=>exact JE_attr ((ok.E h).mono fun u σ₁ q=>Leaf.out q)
 | meth o y es=>exact JE_meth ((ok.E h).mono fun u σ₁ q=>Leaf.out q)
 | item a b=>
  rcases onI_out (show onI b _ _ from h) with ⟨k,rfl,h⟩ | h
  ·exact JE_item ((ok.E h).mono fun u σ₁ q=>JE_int (opK_out q))
  ·exact JE_item ((ok.E h).mono fun u σ₁ q=>(ok.E q).mono fun v σ₂ q=>Leaf.out q)
 | slice a lo hi=>exact JE_slice ((ok.E h).mono fun v σ₁ q=>(exO_out ok q).mono fun l σ₂ q=>(exO_out ok q).mono fun u σ₃ q=>opS_out q)
 | dict a b=>exact JE_dict (Leaf.out h)
 | dictL xs es=>exact (Leaf.out (show Leaf (JD c d X xs es ρ σ P) from h))
 | cut q=>obtain ⟨v,h1,h2⟩:=Leaf.out h;exact JE_cut h1 h2
 | comp loc hb elt ns it cond=>exact JE_comp ((ok.E h).mono fun lv σ₁ q=>Leaf.out q)
 | _=>exact h.elim
theorem stepB_out (ok:ExOk d x) {t:T} {P:Bool->Led->Prop} (h:stepB d x c X t ρ σ P):JT c d X t ρ σ P:=by
 cases t with
 | un op a=>
  cases op with
  | Not=>exact JT_not (ok.B h)
  | _=>exact h.elim
 | bo op es=>exact JT_bo (exTs_out ok es h)
 | cmp op a b=>exact JT_cmp ((ok.E h).mono fun u σ₁ q=>(ok.E q).mono fun v σ₂ q=>(opC_out q).mono fun w σ₃ q=>zba q)
 | cmp2 a o₁ b o₂ b'=>
  refine JT_cmp2 ((ok.E h).mono fun u σ₁ q=>(ok.E q).mono fun v σ₂ q=>(opC_out q).mono fun w σ₃ q=>?_)
  obtain ⟨t,rfl,q⟩:=zba q
  refine ⟨t,rfl,?_⟩
  cases t with
  | true=>exact (ok.E q).mono fun v' σ₅ q=>(opC_out q).mono fun w σ₆ q=>zba q
  | false=>exact q
 | cut q=>obtain ⟨v,h1,h2⟩:=Leaf.out h;exact JT_cut h1 h2
 | var i=>exact JT_var ((ok.E h).mono fun v σ₁ q=>zba q)
 | call f a=>exact JT_call ((ok.E h).mono fun v σ₁ q=>zba q)
 | blt f a=>exact JT_blt ((ok.E h).mono fun v σ₁ q=>zba q)
 | isi a f=>exact JT_isi ((ok.E h).mono fun v σ₁ q=>zba q)
 | meth o y a=>exact JT_meth ((ok.E h).mono fun v σ₁ q=>zba q)
 | item a b=>exact JT_item ((ok.E h).mono fun v σ₁ q=>zba q)
 | _=>exact h.elim
theorem tlen_ok {G:Glob} {N:List Str} {sc:Scope}:∀ (vs:List V) (t:T) (es:List Expr),tlen vs t=true->chk G N t sc (.tl es)=true->es.length=vs.length
 | [],t,es,h,hc=>by
  rw [T.nil.elim (motive:=fun t=>t=.nil) t (eq_of_beq h) rfl] at hc
  rw [zam (show on0 es=true from hc)];rfl
 | v::vs,t,es,h,hc=>by
  obtain ⟨a,r,rfl,h⟩:=onC_inv h
  obtain ⟨e,es',rfl,q⟩:=zac (show onCons es (fun e es=>noStar e && es.all noStar && chk G N a sc (.t e) && chk G N r sc (.tl es))=true from hc)
  rw [List.length_cons,List.length_cons,tlen_ok vs r es' h (and_tt q).2]
theorem exAs_out (ok:ExOk d x):∀ (vs:List V) (t:T) {ρ:Rho} {σ:Led} {K:Rho->Led->Prop},tlen vs t=true->exAs (x.A c X) vs t ρ σ K->JAs c d X t vs ρ σ K
 | [],t,ρ,σ,K,ht,h=>by
  rw [T.nil.elim (motive:=fun t=>t=.nil) t (eq_of_beq ht) rfl]
  exact JAs_nil h
 | v::vs,t,ρ,σ,K,ht,h=>by
  obtain ⟨a,r,rfl,ht⟩:=onC_inv ht
  exact JAs_cons (fun G N sc es hc=>tlen_ok vs r es ht hc) ((ok.A h).mono fun ρ₁ σ₁ q=>exAs_out ok vs r ht q)
theorem stepA_out (ok:ExOk d x) {t:T} {v:V} {K:Rho->Led->Prop} (h:stepA d x c X t v ρ σ K):JA c d X t v ρ σ K:=by
 cases t with
 | var i=>exact JA_var h
 | tup ts=>
  cases v with
  | tup vs=>
   cases q:tlen vs ts with
   | true=>exact JA_tup (exAs_out ok vs ts q (by have h':Sw (tlen vs ts) (exAs (x.A c X) vs ts ρ σ K) False:=h;rw [q] at h';exact h'))
   | false=>exact (show False by have h':Sw (tlen vs ts) (exAs (x.A c X) vs ts ρ σ K) False:=h;rw [q] at h';exact h').elim
  | _=>exact h.elim
 | attr a y=>exact JA_attr ((ok.E h).mono fun ov σ₁ q=>Leaf.out q)
 | item a b=>exact JA_item ((ok.E h).mono fun ov σ₁ q=>(ok.E q).mono fun iv σ₂ q=>Leaf.out q)
 | _=>exact h.elim
theorem stepS_out (ok:ExOk d x) {s:T} (h:stepS d x c X s ρ σ K):JS c d X s ρ σ K:=by
 cases s with
 | ret e=>exact JS_ret (ok.E h)
 | ret0=>exact JS_ret0 h
 | pass=>exact JS_pass h
 | brk=>exact JS_brk h
 | cont=>exact JS_cont h
 | expr e=>exact JS_expr (ok.E h)
 | asgn t e=>
  cases t with
  | var i=>exact JS_asgn stores_var ((ok.E h).mono fun v σ₁ q=>JA_var q)
  | attr a y=>exact JS_asgn stores_attr' ((ok.E h).mono fun v σ₁ q=>ok.A q)
  | item a b=>exact JS_asgn stores_item ((ok.E h).mono fun v σ₁ q=>ok.A q)
  | tup ts=>
   cases e with
   | item a b=>exact JS_asgn stores_tupI ((ok.E h).mono fun v σ₁ q=>ok.A q)
   | _=>exact h.elim
  | _=>exact h.elim
 | asgnC i loc hb elt ns it cond=>exact JS_asgnC ((ok.E h).mono fun lv σ₁ q=>Leaf.out q)
 | ite t a b=>
  refine JS_ite ((ok.B h).mono fun k σ₁ q=>?_)
  cases k with
  | true=>exact ok.S q
  | false=>exact ok.S q
 | for_ t it body=>exact JS_for ((ok.E h).mono fun lv σ₁ q=>Leaf.out q)
 | raise x es=>obtain ⟨C,bm,h1,h2⟩:=Leaf.out h;exact JS_raise h1 h2
 | try_ body hs=>
  obtain ⟨h₀,r,rfl,h⟩:=onC_out (show onC hs (fun h₀ r=>Leaf (JTry c d X body (.cons h₀ r) ρ σ K)) False from h)
  exact JS_try (Leaf.out h)
 | _=>exact h.elim
theorem JS.mono {t:T} (h:JS c d X t ρ σ K) (k:∀ f ρ' σ',K f ρ' σ'->K' f ρ' σ'):JS c d X t ρ σ K':=fun G N sc e hG hN hc=>(h G N sc e hG hN hc).mono fun f m' σ' ⟨ρ',q1,q2⟩=>⟨ρ',q1,k _ _ _ q2⟩
theorem stepL_out (ok:ExOk d x) {t:T} (h:stepL d x c X t ρ σ K):JB c d X t ρ σ K:=by
 cases t with
 | nil=>exact JB_nil h
 | cons s r=>
  cases hb:hasLp s with
  | false=>
   replace h:Sw (hasLp s) _ (stepS d x c X s ρ σ (then_ K (kNx x c X r K))):=h
   rw [hb] at h
   refine JB_cons ((stepS_out ok h).mono fun f ρ₁ σ₁ q=>?_)
   cases f with
   | next=>exact ok.S q
   | brk=>exact q
   | cont=>exact q
   | ret v=>exact q
  | true=>
   replace h:Sw (hasLp s) (stepS d x c X s ρ σ (then_ K (kJB c d X r K))) _:=h
   rw [hb] at h
   exact JB_cons (stepS_out ok h)
 | _=>exact h.elim
theorem ex_ok (d:Nat):∀ n,ExOk d (ex d n)
 | 0=>⟨fun h=>h.elim,fun h=>h.elim,fun h=>h.elim,fun h=>h.elim⟩
 | n+1=>⟨fun h=>stepE_out (ex_ok d n) h,fun h=>stepB_out (ex_ok d n) h,fun h=>stepA_out (ex_ok d n) h,fun h=>stepL_out (ex_ok d n) h⟩
theorem JB_go (h:(ex d 100).S c X t ρ σ K):JB c d X t ρ σ K:=(ex_ok d 100).S h
theorem JE_go (h:(ex d 100).E c X t ρ σ P):JE c d X t ρ σ P:=(ex_ok d 100).E h
theorem JT_go {P:Bool->Led->Prop} (h:(ex d 100).B c X t ρ σ P):JT c d X t ρ σ P:=(ex_ok d 100).B h
theorem JAB_go {X':XP} {v:V} {t':T} (h:(ex d 100).A c X t v ρ σ (kNx (ex d 100) c X' t' K)):JA c d X t v ρ σ (kJB c d X' t' K):=((ex_ok d 100).A h).mono fun z1 z2 q=>(ex_ok d 100).S q
theorem JL_go {P:List V->Led->Prop} (h:exL ((ex d 100).E c X) ρ t σ P):JL c d X t ρ σ P:=exL_out (ex_ok d 100) t h
end Mine
end
section
namespace Mine
open PySem
noncomputable def t_is_whole:T:=(.cons (.ret (.bo .And (.cons (.isi (.var 0) .int) (.cons (.un .Not (.isi (.var 0) .bool)) .nil)))) .nil)
noncomputable def n_is_whole:List Str:=["thing"]
noncomputable def t_is_ware_e1:T:=(.cmp .In (.var 1) (.str "abcdefghijklmnopqrstuvwxyz"))
noncomputable def t_is_ware:T:=(.cons (.ite (.bo .Or (.cons (.un .Not (.isi (.var 0) .str)) (.cons (.un .Not (.cmp2 (.int 1) .LtE (.blt .len (.cons (.var 0) .nil)) .LtE (.int 12))) .nil))) (.cons (.ret (.bool false)) .nil) .nil) (.cons (.ret (.blt .all (.cons (.comp false false t_is_ware_e1 [1] (.var 0) .nil) .nil))) .nil))
noncomputable def n_is_ware:List Str:=["thing","sign"]
noncomputable def t_is_day:T:=(.cons (.ret (.bo .And (.cons (.call "is_whole" (.cons (.var 0) .nil)) (.cons (.cmp2 (.int 0) .LtE (.var 0) .LtE (.int 1000000000000)) .nil)))) .nil)
noncomputable def n_is_day:List Str:=["thing"]
noncomputable def t_is_count:T:=(.cons (.ret (.bo .And (.cons (.call "is_whole" (.cons (.var 0) .nil)) (.cons (.cmp2 (.int 1) .LtE (.var 0) .LtE (.int 1000000000000)) .nil)))) .nil)
noncomputable def n_is_count:List Str:=["thing"]
noncomputable def t_is_lot:T:=(.cons (.ite (.bo .Or (.cons (.un .Not (.isi (.var 0) .tuple)) (.cons (.cmp .NotEq (.blt .len (.cons (.var 0) .nil)) (.int 3)) .nil))) (.cons (.ret (.bool false)) .nil) .nil) (.cons (.ret (.bo .And (.cons (.call "is_ware" (.cons (.item (.var 0) (.int 0)) .nil)) (.cons (.call "is_day" (.cons (.item (.var 0) (.int 1)) .nil)) (.cons (.call "is_count" (.cons (.item (.var 0) (.int 2)) .nil)) .nil))))) .nil))
noncomputable def n_is_lot:List Str:=["thing"]
noncomputable def t_is_line:T:=(.cons (.ite (.bo .Or (.cons (.un .Not (.isi (.var 0) .tuple)) (.cons (.cmp .NotEq (.blt .len (.cons (.var 0) .nil)) (.int 4)) .nil))) (.cons (.ret (.bool false)) .nil) .nil) (.cons (.ret (.bo .And (.cons (.call "is_ware" (.cons (.item (.var 0) (.int 0)) .nil)) (.cons (.call "is_day" (.cons (.item (.var 0) (.int 1)) .nil)) (.cons (.call "is_day" (.cons (.item (.var 0) (.int 2)) .nil)) (.cons (.call "is_count" (.cons (.item (.var 0) (.int 3)) .nil)) .nil)))))) .nil))
noncomputable def n_is_line:List Str:=["thing"]
noncomputable def t_need:T:=(.cons (.ret (.bin .Add (.item (.var 0) (.int 1)) (.item (.var 0) (.int 2)))) .nil)
noncomputable def n_need:List Str:=["line"]
noncomputable def t_good:T:=(.cons (.ret (.bo .And (.cons (.cmp .Eq (.item (.var 0) (.int 0)) (.item (.var 1) (.int 0))) (.cons (.cmp .GtE (.item (.var 0) (.int 1)) (.call "need" (.cons (.var 1) .nil))) .nil)))) .nil)
noncomputable def n_good:List Str:=["lot","line"]
noncomputable def t_need_rows_e1:T:=(.call "is_lot" (.cons (.var 2) .nil))
noncomputable def t_need_rows_e2:T:=(.call "is_line" (.cons (.var 3) .nil))
noncomputable def t_need_rows:T:=(.cons (.ite (.bo .Or (.cons (.un .Not (.isi (.var 0) .list)) (.cons (.cmp .Gt (.blt .len (.cons (.var 0) .nil)) (.int 100)) (.cons (.un .Not (.blt .all (.cons (.comp false false t_need_rows_e1 [2] (.var 0) .nil) .nil))) .nil)))) (.cons (.raise "BadLot" (.cons (.str "no list of lots") .nil)) .nil) .nil) (.cons (.ite (.bo .Or (.cons (.un .Not (.isi (.var 1) .list)) (.cons (.cmp .Gt (.blt .len (.cons (.var 1) .nil)) (.int 100)) (.cons (.un .Not (.blt .all (.cons (.comp false false t_need_rows_e2 [3] (.var 1) .nil) .nil))) .nil)))) (.cons (.raise "BadLine" (.cons (.str "no list of lines") .nil)) .nil) .nil) .nil))
noncomputable def n_need_rows:List Str:=["lots","lines","lot","line"]
noncomputable def t_best_e1:T:=(.item (.var 2) (.int 2))
noncomputable def t_best_e2:T:=(.tup (.cons (.item (.item (.var 0) (.var 4)) (.int 1)) (.cons (.var 4) .nil)))
noncomputable def t_best_e3:T:=(.tup (.cons (.un .USub (.call "need" (.cons (.item (.var 1) (.var 4)) .nil))) (.cons (.var 4) .nil)))
noncomputable def t_best_b1:T:=(.cons (.asgn (.var 11) (.blt .min (.cons (.var 9) (.cons (.item (.var 3) (.var 2)) .nil)))) (.cons (.ite (.bo .And (.cons (.cmp .Gt (.var 11) (.int 0)) (.cons (.call "good" (.cons (.item (.var 0) (.var 2)) (.cons (.item (.var 1) (.var 8)) .nil))) .nil))) (.cons (.expr (.meth (.var 6) "append" (.cons (.tup (.cons (.var 8) (.cons (.var 2) (.cons (.var 11) .nil)))) .nil))) (.cons (.asgn (.var 9) (.bin .Sub (.var 9) (.var 11))) (.cons (.asgn (.item (.var 3) (.var 2)) (.bin .Sub (.item (.var 3) (.var 2)) (.var 11))) .nil))) .nil) .nil))
noncomputable def t_best_b2:T:=(.cons (.asgn (.var 9) (.item (.item (.var 1) (.var 8)) (.int 3))) (.cons (.for_ (.tup (.cons (.var 10) (.cons (.var 2) .nil))) (.var 5) t_best_b1) .nil))
noncomputable def t_best:T:=(.cons (.expr (.call "need_rows" (.cons (.var 0) (.cons (.var 1) .nil)))) (.cons (.asgnC 3 true false t_best_e1 [2] (.var 0) .nil) (.cons (.asgn (.var 5) (.blt .sorted (.cons (.comp false false t_best_e2 [4] (.blt .range (.cons (.blt .len (.cons (.var 0) .nil)) .nil)) .nil) .nil))) (.cons (.asgn (.var 6) (.lst true .nil)) (.cons (.for_ (.tup (.cons (.var 7) (.cons (.var 8) .nil))) (.blt .sorted (.cons (.comp false false t_best_e3 [4] (.blt .range (.cons (.blt .len (.cons (.var 1) .nil)) .nil)) .nil) .nil)) t_best_b2) (.cons (.ret (.blt .sorted (.cons (.var 6) .nil))) .nil))))))
noncomputable def n_best:List Str:=["lots","lines","lot","rest","place","rows","found","turned","line","wanted","last","count"]
noncomputable def t_law_at:T:=(.cons (.ite (.cmp .Lt (.var 1) (.blt .len (.cons (.var 0) .nil))) (.cons (.ret (.item (.var 0) (.var 1))) .nil) .nil) (.cons (.ret (.int 0)) .nil))
noncomputable def n_law_at:List Str:=["_law_script","_law_k"]
noncomputable def t_law_whole:T:=(.cons (.ret (.bo .And (.cons (.isi (.var 0) .int) (.cons (.un .Not (.isi (.var 0) .bool)) .nil)))) .nil)
noncomputable def n_law_whole:List Str:=["_law_found"]
noncomputable def t_law_word_e1:T:=(.item (.var 2) (.bin .Mod (.bin .Add (.var 0) (.bin .Mult (.var 5) (.var 4))) (.int 26)))
noncomputable def t_law_word:T:=(.cons (.asgn (.var 2) (.str "abcdefghijklmnopqrstuvwxyz")) (.cons (.asgn (.var 3) (.bin .Add (.int 1) (.bin .Mod (.bin .FloorDiv (.var 0) (.int 26)) (.int 12)))) (.cons (.asgn (.var 4) (.bin .Add (.int 1) (.bin .Mod (.bin .FloorDiv (.var 0) (.int 312)) (.int 25)))) (.cons (.asgn (.var 6) (.meth (.str "") "join" (.cons (.comp false false t_law_word_e1 [5] (.blt .range (.cons (.var 3) .nil)) .nil) .nil))) (.cons (.asgn (.var 7) (.bin .Mod (.bin .FloorDiv (.var 0) (.int 5)) (.var 3))) (.cons (.ite (.cmp .Eq (.bin .Mod (.var 0) (.int 4)) (.int 0)) (.cons (.ret (.slice (.var 6) .nil (.blt .max (.cons (.int 1) (.cons (.bin .Sub (.var 3) (.var 1)) .nil))))) .nil) .nil) (.cons (.ret (.bin .Add (.bin .Add (.slice (.var 6) .nil (.var 7)) (.item (.var 2) (.bin .Mod (.bin .Add (.var 0) (.bin .Mult (.int 5) (.var 1))) (.int 26)))) (.slice (.var 6) (.bin .Add (.var 7) (.int 1)) .nil))) .nil)))))))
noncomputable def n_law_word:List Str:=["_law_cell","_law_k","_law_letters","_law_size","_law_step","_law_at_here","_law_word_here","_law_place"]
noncomputable def t_law_mixed:T:=(.cons (.ret (.bin .FloorDiv (.bin .Pow (.bin .Add (.bin .Mult (.var 0) (.int 48271)) (.bin .Mult (.int 7919) (.var 1))) (.int 3)) (.int 11))) .nil)
noncomputable def n_law_mixed:List Str:=["_law_cell","_law_k"]
noncomputable def t_law_count:T:=(.cons (.ite (.cmp .Eq (.bin .Mod (.var 0) (.int 16)) (.int 0)) (.cons (.ret (.bin .Add (.int 1) (.bin .Mod (.bin .FloorDiv (.var 0) (.int 16)) (.bin .Pow (.int 10) (.int 12))))) .nil) .nil) (.cons (.ite (.cmp .Eq (.bin .Mod (.var 0) (.int 16)) (.int 1)) (.cons (.ret (.bin .Add (.int 1) (.bin .Mod (.bin .FloorDiv (.var 0) (.int 16)) (.int 1000)))) .nil) .nil) (.cons (.ret (.bin .Add (.int 1) (.bin .Mod (.bin .FloorDiv (.var 0) (.int 16)) (.int 6)))) .nil)))
noncomputable def n_law_count:List Str:=["_law_mixed_here"]
noncomputable def t_House_init:T:=(.cons (.asgn (.attr (.var 0) "day") (.int 0)) (.cons (.asgn (.attr (.var 0) "lots") (.dict .nil .nil)) (.cons (.asgn (.attr (.var 0) "lines") (.dict .nil .nil)) (.cons (.asgn (.attr (.var 0) "gave") (.lst true .nil)) (.cons (.asgn (.attr (.var 0) "wasted") (.lst true .nil)) (.cons (.asgn (.attr (.var 0) "came") (.lst true .nil)) .nil))))))
noncomputable def n_House_init:List Str:=["self"]
noncomputable def t_House_receive:T:=(.cons (.ite (.un .Not (.call "is_lot" (.cons (.tup (.cons (.var 1) (.cons (.var 2) (.cons (.var 3) .nil)))) .nil))) (.cons (.raise "BadLot" (.cons (.str "no lot") .nil)) .nil) .nil) (.cons (.ite (.cmp .Lt (.var 2) (.attr (.var 0) "day")) (.cons (.raise "Late" (.cons (.str "the last day is gone by") .nil)) .nil) .nil) (.cons (.ite (.cmp .GtE (.blt .len (.cons (.attr (.var 0) "lots") .nil)) (.int 100)) (.cons (.raise "Full" (.cons (.str "100 lots are there") .nil)) .nil) .nil) (.cons (.asgn (.var 4) (.blt .len (.cons (.attr (.var 0) "gave") .nil))) (.cons (.asgn (.item (.attr (.var 0) "lots") (.var 4)) (.tup (.cons (.var 1) (.cons (.var 2) (.cons (.var 3) .nil))))) (.cons (.expr (.meth (.attr (.var 0) "gave") "append" (.cons (.int 0) .nil))) (.cons (.expr (.meth (.attr (.var 0) "wasted") "append" (.cons (.int 0) .nil))) (.cons (.ret (.var 4)) .nil))))))))
noncomputable def n_House_receive:List Str:=["self","ware","last","count","number"]
noncomputable def t_House_order:T:=(.cons (.ite (.un .Not (.call "is_line" (.cons (.tup (.cons (.var 1) (.cons (.var 2) (.cons (.var 3) (.cons (.var 4) .nil))))) .nil))) (.cons (.raise "BadLine" (.cons (.str "no line") .nil)) .nil) .nil) (.cons (.ite (.cmp .Lt (.var 2) (.attr (.var 0) "day")) (.cons (.raise "Late" (.cons (.str "the day is gone by") .nil)) .nil) .nil) (.cons (.ite (.cmp .GtE (.blt .len (.cons (.attr (.var 0) "lines") .nil)) (.int 100)) (.cons (.raise "Full" (.cons (.str "100 lines are open") .nil)) .nil) .nil) (.cons (.asgn (.var 5) (.blt .len (.cons (.attr (.var 0) "came") .nil))) (.cons (.asgn (.item (.attr (.var 0) "lines") (.var 5)) (.tup (.cons (.var 1) (.cons (.var 2) (.cons (.var 3) (.cons (.var 4) .nil)))))) (.cons (.expr (.meth (.attr (.var 0) "came") "append" (.cons (.int 0) .nil))) (.cons (.ret (.var 5)) .nil)))))))
noncomputable def n_House_order:List Str:=["self","ware","day","left","count","number"]
noncomputable def t_House_cancel:T:=(.cons (.ite (.bo .Or (.cons (.un .Not (.call "is_whole" (.cons (.var 1) .nil))) (.cons (.cmp .NotIn (.var 1) (.attr (.var 0) "lines")) .nil))) (.cons (.raise "NoNumber" (.cons (.str "no open line") .nil)) .nil) .nil) (.cons (.expr (.meth (.attr (.var 0) "lines") "pop" (.cons (.var 1) .nil))) .nil))
noncomputable def n_House_cancel:List Str:=["self","line"]
noncomputable def t_House_plan_e1:T:=(.item (.attr (.var 0) "lots") (.var 3))
noncomputable def t_House_plan_e2:T:=(.item (.attr (.var 0) "lines") (.var 3))
noncomputable def t_House_plan_e3:T:=(.tup (.cons (.item (.var 2) (.var 5)) (.cons (.item (.var 1) (.var 6)) (.cons (.var 7) .nil))))
noncomputable def t_House_plan (loc:Bool):T:=(.cons (.asgn (.var 1) (.blt .sorted (.cons (.attr (.var 0) "lots") .nil))) (.cons (.asgn (.var 2) (.blt .sorted (.cons (.attr (.var 0) "lines") .nil))) (.cons (.asgn (.var 4) (.call "best" (.cons (.comp false false t_House_plan_e1 [3] (.var 1) .nil) (.cons (.comp false false t_House_plan_e2 [3] (.var 2) .nil) .nil)))) (.cons (.ret (.comp loc false t_House_plan_e3 [5,6,7] (.var 4) .nil)) .nil))))
noncomputable def n_House_plan:List Str:=["self","lots","lines","number","found","line","lot","count"]
noncomputable def t_House_throw_b1:T:=(.cons (.ite (.cmp .Lt (.item (.item (.attr (.var 0) "lots") (.var 2)) (.int 1)) (.var 1)) (.cons (.asgn (.item (.attr (.var 0) "wasted") (.var 2)) (.item (.item (.attr (.var 0) "lots") (.var 2)) (.int 2))) (.cons (.expr (.meth (.attr (.var 0) "lots") "pop" (.cons (.var 2) .nil))) .nil)) .nil) .nil)
noncomputable def t_House_throw:T:=(.cons (.for_ (.var 2) (.blt .sorted (.cons (.attr (.var 0) "lots") .nil)) t_House_throw_b1) .nil)
noncomputable def n_House_throw:List Str:=["self","day","number"]
noncomputable def t_House_deal_b1:T:=(.cons (.ite (.cmp .Eq (.item (.item (.attr (.var 0) "lines") (.var 3)) (.int 1)) (.var 1)) (.cons (.expr (.meth (.var 2) "append" (.cons (.tup (.cons (.var 1) (.cons (.var 3) (.cons (.var 4) (.cons (.var 5) .nil))))) .nil))) .nil) .nil) .nil)
noncomputable def t_House_deal_b2:T:=(.cons (.asgn (.tup (.cons (.var 7) (.cons (.var 8) (.cons (.var 9) .nil)))) (.item (.attr (.var 0) "lots") (.var 4))) (.cons (.asgn (.item (.attr (.var 0) "lots") (.var 4)) (.tup (.cons (.var 7) (.cons (.var 8) (.cons (.bin .Sub (.var 9) (.var 5)) .nil))))) (.cons (.asgn (.item (.attr (.var 0) "gave") (.var 4)) (.bin .Add (.item (.attr (.var 0) "gave") (.var 4)) (.var 5))) (.cons (.asgn (.item (.attr (.var 0) "came") (.var 3)) (.bin .Add (.item (.attr (.var 0) "came") (.var 3)) (.var 5))) .nil))))
noncomputable def t_House_deal_b3:T:=(.cons (.ite (.cmp .Eq (.item (.item (.attr (.var 0) "lines") (.var 10)) (.int 1)) (.var 1)) (.cons (.expr (.meth (.attr (.var 0) "lines") "pop" (.cons (.var 10) .nil))) .nil) .nil) .nil)
noncomputable def t_House_deal_b4:T:=(.cons (.ite (.cmp .Eq (.item (.item (.attr (.var 0) "lots") (.var 10)) (.int 2)) (.int 0)) (.cons (.expr (.meth (.attr (.var 0) "lots") "pop" (.cons (.var 10) .nil))) .nil) .nil) .nil)
noncomputable def t_House_deal:T:=(.cons (.asgn (.var 2) (.lst true .nil)) (.cons (.for_ (.tup (.cons (.var 3) (.cons (.var 4) (.cons (.var 5) .nil)))) (.methI (.var 0) "plan" .nil) t_House_deal_b1) (.cons (.for_ (.tup (.cons (.var 6) (.cons (.var 3) (.cons (.var 4) (.cons (.var 5) .nil))))) (.var 2) t_House_deal_b2) (.cons (.for_ (.var 10) (.blt .sorted (.cons (.attr (.var 0) "lines") .nil)) t_House_deal_b3) (.cons (.for_ (.var 10) (.blt .sorted (.cons (.attr (.var 0) "lots") .nil)) t_House_deal_b4) (.cons (.ret (.var 2)) .nil))))))
noncomputable def n_House_deal:List Str:=["self","day","told","line","lot","count","day_told","ware","last","rest","number"]
noncomputable def t_House_go_to_e1:T:=(.item (.item (.attr (.var 0) "lines") (.var 2)) (.int 1))
noncomputable def t_House_go_to_c1:T:=(.cmp .Lt (.item (.item (.attr (.var 0) "lines") (.var 2)) (.int 1)) (.var 1))
noncomputable def t_House_go_to_b1:T:=(.cons (.expr (.methI (.var 0) "throw" (.cons (.var 5) .nil))) (.cons (.asgn (.var 4) (.bin .Add (.var 4) (.methI (.var 0) "deal" (.cons (.var 5) .nil)))) .nil))
noncomputable def t_House_go_to:T:=(.cons (.ite (.bo .Or (.cons (.un .Not (.call "is_whole" (.cons (.var 1) .nil))) (.cons (.un .Not (.cmp2 (.attr (.var 0) "day") .LtE (.var 1) .LtE (.int 1000000000000))) .nil))) (.cons (.raise "BadDay" (.cons (.str "no day to go to") .nil)) .nil) .nil) (.cons (.asgnC 3 false true t_House_go_to_e1 [2] (.attr (.var 0) "lines") t_House_go_to_c1) (.cons (.asgn (.var 4) (.lst false .nil)) (.cons (.for_ (.var 5) (.blt .sorted (.cons (.blt .set (.cons (.var 3) .nil)) .nil)) t_House_go_to_b1) (.cons (.expr (.methI (.var 0) "throw" (.cons (.var 1) .nil))) (.cons (.asgn (.attr (.var 0) "day") (.var 1)) (.cons (.ret (.var 4)) .nil)))))))
noncomputable def n_House_go_to:List Str:=["self","day","number","days","found","here"]
noncomputable def t_House_there_e1:T:=(.bin .Add (.tup (.cons (.var 1) .nil)) (.item (.attr (.var 0) "lots") (.var 1)))
noncomputable def t_House_there:T:=(.cons (.ret (.comp false false t_House_there_e1 [1] (.blt .sorted (.cons (.attr (.var 0) "lots") .nil)) .nil)) .nil)
noncomputable def n_House_there:List Str:=["self","number"]
noncomputable def t_House_open_lines_e1:T:=(.bin .Add (.tup (.cons (.var 1) .nil)) (.item (.attr (.var 0) "lines") (.var 1)))
noncomputable def t_House_open_lines:T:=(.cons (.ret (.comp false false t_House_open_lines_e1 [1] (.blt .sorted (.cons (.attr (.var 0) "lines") .nil)) .nil)) .nil)
noncomputable def n_House_open_lines:List Str:=["self","number"]
noncomputable def t_House_need_number:T:=(.cons (.ite (.bo .Or (.cons (.un .Not (.call "is_whole" (.cons (.var 1) .nil))) (.cons (.un .Not (.cmp2 (.int 0) .LtE (.var 1) .Lt (.blt .len (.cons (.var 2) .nil)))) .nil))) (.cons (.raise "NoNumber" (.cons (.str "nothing has that number") .nil)) .nil) .nil) .nil)
noncomputable def n_House_need_number:List Str:=["self","number","rows"]
noncomputable def t_House_given:T:=(.cons (.expr (.methI (.var 0) "need_number" (.cons (.var 1) (.cons (.attr (.var 0) "gave") .nil)))) (.cons (.ret (.item (.attr (.var 0) "gave") (.var 1))) .nil))
noncomputable def n_House_given:List Str:=["self","lot"]
noncomputable def t_House_thrown:T:=(.cons (.expr (.methI (.var 0) "need_number" (.cons (.var 1) (.cons (.attr (.var 0) "wasted") .nil)))) (.cons (.ret (.item (.attr (.var 0) "wasted") (.var 1))) .nil))
noncomputable def n_House_thrown:List Str:=["self","lot"]
noncomputable def t_House_got:T:=(.cons (.expr (.methI (.var 0) "need_number" (.cons (.var 1) (.cons (.attr (.var 0) "came") .nil)))) (.cons (.ret (.item (.attr (.var 0) "came") (.var 1))) .nil))
noncomputable def n_House_got:List Str:=["self","line"]
noncomputable def t_law_later:T:=(.cons (.ite (.cmp .Eq (.bin .Mod (.var 1) (.int 16)) (.int 0)) (.cons (.ret (.bin .Add (.var 0) (.bin .Mod (.bin .FloorDiv (.var 1) (.int 16)) (.bin .Sub (.bin .Add (.bin .Pow (.int 10) (.int 12)) (.int 1)) (.var 0))))) .nil) .nil) (.cons (.ite (.cmp .Eq (.bin .Mod (.var 1) (.int 16)) (.int 1)) (.cons (.ret (.blt .min (.cons (.bin .Pow (.int 10) (.int 12)) (.cons (.bin .Add (.var 0) (.bin .Mod (.bin .FloorDiv (.var 1) (.int 16)) (.int 2000))) .nil)))) .nil) .nil) (.cons (.ret (.blt .min (.cons (.bin .Pow (.int 10) (.int 12)) (.cons (.bin .Add (.var 0) (.bin .Mod (.bin .FloorDiv (.var 1) (.int 16)) (.int 9))) .nil)))) .nil)))
noncomputable def n_law_later:List Str:=["_law_day","_law_mixed_here"]
noncomputable def t_law_over:T:=(.cons (.ite (.cmp .Eq (.bin .Mod (.var 0) (.int 8)) (.int 0)) (.cons (.ret (.bin .Mod (.bin .FloorDiv (.var 0) (.int 8)) (.bin .Add (.bin .Pow (.int 10) (.int 12)) (.int 1)))) .nil) .nil) (.cons (.ite (.cmp .Eq (.bin .Mod (.var 0) (.int 8)) (.int 1)) (.cons (.ret (.bin .Mod (.bin .FloorDiv (.var 0) (.int 8)) (.int 1000))) .nil) .nil) (.cons (.ret (.bin .Mod (.bin .FloorDiv (.var 0) (.int 8)) (.int 4))) .nil)))
noncomputable def n_law_over:List Str:=["_law_mixed_here"]
end Mine
end
section
namespace Mine
open PySem
variable {c:Cx} {d:Nat} {σ:Led} {P P':V->Led->Prop} {X:XP} {ρ:Rho} {K K':Fl->Rho->Led->Prop} {N:List Str}
noncomputable def args:Nat->List V->Rho
 | _,[]=>[]
 | i,v::vs=>(i,v)::args (i+1) vs
theorem nm_args:∀ (vs:List V) (i:Nat),i+vs.length<=N.length->Nm N (args i vs)=((N.drop i).take vs.length).zip vs
 | [],i,_=>by simp [args,Nm]
 | v::vs,i,h=>by
  rw [List.length_cons] at h
  have hi:i<N.length:=by lia
  have hx:N[i]?=some N[i]:=List.getElem?_eq_getElem hi
  show Nm N ((i,v)::args (i+1) vs)=_
  rw [nm_cons hx,nm_args vs (i+1) (by lia),List.drop_eq_getElem_cons hi,List.length_cons,List.take_succ_cons,List.zip_cons_cons]
structure FnT (k:Base) (x:Str) (np:Nat) (t:T):Prop where
 ex:∃ st G N,Fn k x st/\GlobOk k G/\NmOk N/\namesS st=N.take np/\np<=N.length/\scOk (scS st) (namesS st)=true/\chk G N t (scS st) (.b (bodyS st))=true
noncomputable def RetT (P:V->Led->Prop):Fl->Rho->Led->Prop:=fun f z1 σ=>Ret P f [] σ
theorem Ret_env {f:Fl} {m m':AEnv} (h:Ret P f m σ):Ret P f m' σ:=by
 cases f <;> exact h
theorem CallN_J {x:Str} {vs:List V} {t:T} (hf:FnT c.k x vs.length t) (h:JB c d X t (args 0 vs) σ (RetT P)):CallN c (d+1) x vs σ P X:=by
 obtain ⟨st,G,N,h1,h2,h3,h4,h5,h6,h7⟩:=hf.ex
 refine CallN_def (m₀:=(namesS st).zip vs) h2.ok h1 ?_ h6 (by rw [h4,List.length_take];lia) rfl
 have:=h G N (scS st) (bodyS st) h2 h3 h7
 rw [nm_args vs 0 (by lia),List.drop_zero,← h4] at this
 exact this.mono fun f m' σ' ⟨ρ',_,q⟩=>Ret_env q
theorem zae {x:Str} {vs:List V} {t:T} (hf:FnT c.k x vs.length t) (h:(ex d 100).S c X t (args 0 vs) σ (RetT P)):CallN c (d+1) x vs σ P X:=CallN_J hf (JB_go h)
theorem made_f {F:List Addr} {ws:List V} (h:P (.lst ws) σ):Made F false P ws σ:=h
theorem made_t {F:List Addr} {ws:List V} (h:∀ a,a∉owned σ->a∉F->P (.ref a) ((a,.list ws)::σ)):Made F true P ws σ:=h
theorem zbc {v:V} (h:P v σ):Ret P (.ret v) [] σ:=⟨v,σ,.keep (.refl _),h⟩
theorem zbo (h:P .none σ):Ret P .next [] σ:=⟨σ,.refl _,h⟩
theorem ret_drop {v:V} {σ':Led} (k:σ.Sublist σ') (h:P v σ):Ret P (.ret v) [] σ':=⟨v,σ,.keep k,h⟩
theorem zah {ns:List Nat} {elt:T} {Kf:List V->Led->Prop} {α:Type} (e f:α->V):∀ (rows:List α) (acc:List V),(∀ a∈rows,∃ ρ₁,bnd ns (e a) ρ=some ρ₁/\JE c d NoX elt ρ₁ σ (fun w σ'=>w=f a/\σ'=σ))->Kf (acc++rows.map f) σ->JComp c d ns false .nil elt ρ Kf (rows.map e) acc σ
 | [],acc,_,h=>by
  show Kf acc σ
  simpa using h
 | a::rows,acc,hs,h=>by
  obtain ⟨ρ₁,h1,h2⟩:=hs a (.head _)
  refine ⟨ρ₁,h1,JE.mono h2 fun w σ' q=>?_⟩
  rw [q.1,q.2]
  exact zah e f rows _ (fun b hb=>hs b (.tail _ hb)) (by simpa using h)
theorem jcomp_fm {ns:List Nat} {cond elt:T} {Kf:List V->Led->Prop} {α:Type} (e f:α->V) (p:α->Bool):∀ (rows:List α) (acc:List V),(∀ a∈rows,∃ ρ₁,bnd ns (e a) ρ=some ρ₁/\JT c d NoX cond ρ₁ σ (fun b σ'=>b=p a/\σ'=σ)/\(p a=true->JE c d NoX elt ρ₁ σ (fun w σ'=>w=f a/\σ'=σ)))->
  Kf (acc++(rows.filter p).map f) σ->JComp c d ns true cond elt ρ Kf (rows.map e) acc σ
 | [],acc,_,h=>by
  show Kf acc σ
  simpa using h
 | a::rows,acc,hs,h=>by
  obtain ⟨ρ₁,h1,h2,h3⟩:=hs a (.head _)
  refine ⟨ρ₁,h1,JT.mono h2 fun b σ' q=>?_⟩
  rw [q.1,q.2]
  cases hp:p a with
  | true=>
   refine (h3 hp).mono fun w σ' q=>?_
   rw [q.1,q.2]
   refine jcomp_fm e f p rows _ (fun b hb=>hs b (.tail _ hb)) ?_
   rw [List.filter_cons_of_pos (by simpa using hp)] at h
   simpa using h
  | false=>
   refine jcomp_fm e f p rows _ (fun b hb=>hs b (.tail _ hb)) ?_
   rw [List.filter_cons_of_neg (by simp [hp])] at h
   exact h
theorem RSub.nil:RSub [] ρ:=fun z1 z2 h=>by cases h
theorem RSub.cons {ρ':Rho} {i:Nat} {v:V} (h:ρ.lookup i=some v) (r:RSub ρ' ρ):RSub ((i,v)::ρ') ρ:=fun j w e=>by
 rw [List.lookup_cons] at e
 cases hj:j == i with
 | true=>rw [hj] at e;cases e;rw [eq_of_beq hj];exact h
 | false=>rw [hj] at e;exact r j w e
theorem RSub.trans {ρ₁ ρ₂ ρ₃:Rho} (h:RSub ρ₁ ρ₂) (k:RSub ρ₂ ρ₃):RSub ρ₁ ρ₃:=fun i v e=>k i v (h i v e)
end Mine
end
section
namespace Mine
open PySem
noncomputable def fnB (G:Glob) (N:List Str) (t:T) (st:Stmt) (np:Nat):Bool:=
 nodupB N && !N.contains (".0":Str) && namesS st == N.take np && decide (np<=N.length) && scOk (scS st) (namesS st) && chk G N t (scS st) (.b (bodyS st))
theorem FnT.of {k:Base} {x:Str} {st:Stmt} {np:Nat} {t:T} {G:Glob} {N:List Str} (h:Fn k x st) (hG:GlobOk k G) (hb:fnB G N t st np=true):FnT k x np t:=by
 obtain ⟨h1,h6⟩:=and_tt hb
 obtain ⟨h1,h5⟩:=and_tt h1
 obtain ⟨h1,h4⟩:=and_tt h1
 obtain ⟨h1,h3⟩:=and_tt h1
 obtain ⟨h1,h2⟩:=and_tt h1
 exact ⟨st,G,N,h,hG,⟨zbq h1,by simpa using h2⟩,eq_of_beq h3,of_decide_eq_true h4,h5,h6⟩
theorem all_nil {α:Type} {p:α->Prop}:∀ a∈([]:List α),p a:=fun z1 h=>by cases h
theorem all_cons {α:Type} {p:α->Prop} {a:α} {l:List α} (h:p a) (r:∀ b∈l,p b):∀ b∈a::l,p b:=fun b hb=>by
 rcases List.mem_cons.mp hb with e | e
 ·rw [e];exact h
 ·exact r b e
theorem GlobOk.of {k:Base} {G:Glob} (ok:k.OK) (h1:∀ p∈G.gInts,Const k p.1 (.int p.2)) (h2:∀ p∈G.gStrs,Const k p.1 (.str p.2)) (h3:∀ x∈G.gDefs,Def k x) (h4:∀ f:Bf,Blt k f.name f.val) (hd:k.hd=true):GlobOk k G:=
 ⟨ok,fun x i e=>h1 _ (mem_of_lookup e),fun x y e=>h2 _ (mem_of_lookup e),fun x e=>h3 x (by simpa using e),h4,hd⟩
end Mine
end
section
namespace Mine
open PySem
variable {c:Cx} {d:Nat} {σ:Led} {P P':V->Led->Prop} {X:XP} {ρ:Rho} {K K':Fl->Rho->Led->Prop}
noncomputable def HE (c:Cx) (d:Nat) (t:T) (ρ:Rho) (σ:Led) (P:V->Led->Prop):Prop:=∀ G N sc e,GlobOk c.k G->NmOk N->chk G N t sc (.e e)=true->WE c.un d sc e (Nm N ρ) σ P NoX
noncomputable def HB (c:Cx) (d:Nat) (t:T) (ρ:Rho) (σ:Led) (K:Fl->Rho->Led->Prop):Prop:=∀ G N sc ss,GlobOk c.k G->NmOk N->chk G N t sc (.b ss)=true->WSs c.un d sc ss (Nm N ρ) σ (AfterF N K) NoX
theorem HE_var {i:Nat} {v:V} (hv:ρ.lookup i=some v) (h:P v σ):HE c d (.var i) ρ σ P:=fun G N sc e hG hN hc=>by
 obtain ⟨x,p,rfl,e⟩:=zaw (show onNm e (fun x=>isVar sc x && N[i]? == some x)=true from hc)
 obtain ⟨e1,e2⟩:=and_tt e
 exact WE_name ((nm_lookup hN (eq_of_beq e2) ρ).trans hv) h e1
noncomputable def ClsV (k:Base) (x:Str) (cv:Value):Prop:=(∃ C bm,Exc k x C bm/\cv=.ref C)\/(Blt k x (.type "ValueError")/\cv=.type "ValueError")
theorem ok_un (h:c.k.OK):c.un.k.OK:=⟨h.g,h.b,h.nolimit⟩
section
variable {sc:Scope} {m:AEnv}
theorem WE_clsv (hc:c.k.OK) {x:Str} {cv:Value} {p:Pos} (h:ClsV c.k x cv) (hk:sc.names.lookup x=some .globalImplicit) (hP:P (.raw cv) σ):WE c.un d sc (.Name x p) m σ P NoX:=by
 rcases h with ⟨C,bm,h,rfl⟩ | ⟨h,rfl⟩
 ·exact WE_cls (c:=c.un) (ok_un hc) (bm:=bm) ⟨h.mg,h.own⟩ hk hP
 ·exact WE_blt (c:=c.un) (ok_un hc) h hP hk
end
theorem isx_inv {G:Glob} {N:List Str} {sc:Scope} {a:T} {tp:Bool} {xs:List Str} {e:Expr} (hc:chk G N (.isx a tp xs) sc (.e e)=true) :
  ∃ y z q p,e=.Call (.Name Bf.isinstance.name q) [y,z] [] p/\gi sc Bf.isinstance.name=true/\noStar y=true/\noStar z=true/\clsIs sc tp xs z=true/\chk G N a sc (.e y)=true:=by
 obtain ⟨q,ys,p,rfl,e2,e3⟩:=name_inv (h:=fun ys=>on2 ys fun y z=>noStar y && noStar z && clsIs sc tp xs z && chk G N a sc (.e y)) hc
 obtain ⟨y,z,rfl,r⟩:=on2_inv e3
 obtain ⟨r,r3,r4⟩:=and3_tt r
 exact ⟨y,z,q,p,rfl,e2,(and_tt r).1,(and_tt r).2,r3,r4⟩
theorem HE_isx {a:T} {x:Str} {cv:Value} (hx:ClsV c.k x cv) (h:HE c d a ρ σ (fun v σ₁=>CallS c.un d (.builtin "isinstance") [v,.raw cv] σ₁ P NoX)):HE c d (.isx a false [x]) ρ σ P:=fun G N sc e hG hN hc=>by
 obtain ⟨y,z,q,p,rfl,e1,r1,r2,r3,r4⟩:=isx_inv hc
 obtain ⟨w,l,k0,k⟩:=zac (show onCons [z] (fun e r=>onNm e (fun y=>y == x && gi sc x) && nmsAre sc [] r)=true from r3)
 cases k0
 obtain ⟨k1,_⟩:=and_tt k
 obtain ⟨u,p',rfl,k5⟩:=zaw k1
 obtain ⟨k3,k4⟩:=and_tt k5
 rw [eq_of_beq k3]
 exact WE_callB (c:=c.un) (ok_un hG.ok) (hG.hBlts .isinstance) (WEs_cons ((h G N sc y hG hN r4).mono fun v σ₁ k=>WEs_cons (WE_clsv hG.ok hx (gi_of k4) (WEs_nil k)) (zbu rfl _) (zbm rfl)) (zbu r1 _) (zbm rfl)) .b (gi_of e1)
theorem HB_ret {e:T} (h:HE c d e ρ σ (fun v σ₁=>K (.ret v) ρ σ₁)):HB c d (.cons (.ret e) .nil) ρ σ K:=fun G N sc ss hG hN hc=>by
 obtain ⟨s,ss',rfl,q⟩:=zac (show onCons ss (fun s ss=>chk G N (.ret e) sc (.s s) && chk G N .nil sc (.b ss))=true from hc)
 obtain ⟨e1,e2⟩:=and_tt q
 obtain ⟨o,p,rfl,u⟩:=onRet_inv (show onRet s (fun o=>onSome o fun x=>chk G N e sc (.e x))=true from e1)
 obtain ⟨x,rfl,u2⟩:=zav u
 exact WSs_cons (WS_return ((h G N sc x hG hN u2).mono fun v σ₁ k=>⟨ρ,Sub.refl',k⟩))
section
variable {x:Str} {C D:Addr} {bm bm':List Value} {b r:T} {σ0:Led} (own:OwnE c.k.h0 C bm) (hx:Exc c.k x D bm')
include own hx
omit own hx in
theorem hd_inv {G:Glob} {N:List Str} {sc:Scope} {v:Option Nat} {ts:List ExceptHandler} (hc:chk G N (.cons (.handler x v b) r) sc (.hl ts)=true) :
  ∃ p nm bs pos ts',ts=.ExceptHandler (some (.Name x p)) nm bs pos::ts'/\gi sc x=true/\nmIs N sc v nm=true/\chk G N b sc (.b bs)=true/\chk G N r sc (.hl ts')=true:=by
 obtain ⟨t,ts',rfl,q⟩:=zac (show onCons ts (fun h hs=>chk G N (.handler x v b) sc (.hd h) && chk G N r sc (.hl hs))=true from hc)
 obtain ⟨q1,q2⟩:=and_tt q
 obtain ⟨t,n,bs,p,rfl,k⟩:=onHd_inv (show onHd t _=true from q1)
 obtain ⟨k,k3⟩:=and_tt k
 obtain ⟨k1,k2⟩:=and_tt k
 obtain ⟨e,rfl,k1⟩:=zav k1
 obtain ⟨y,p',rfl,k1⟩:=zaw k1
 obtain ⟨k4,k5⟩:=and_tt k1
 rw [eq_of_beq k4]
 exact ⟨p',n,bs,p,ts',rfl,k5,k2,k3,q2⟩
theorem JH_as {i:Nat} {b₀ b₁:T} (hyes:(Value.ref C::bm).contains (.ref D)=true) (h:∀ e,HB c d (.cons b₀ b₁) [(i,.ref e)] ((e,.exc C)::σ) (fun fl z1 σ'=>K fl [] σ')):JH c d (.cons (.handler x (some i) (.cons b₀ b₁)) r) C σ0 σ K X:=fun G N sc ts hG hN hc=>by
 obtain ⟨p,nm,bs,pos,ts',rfl,k1,k2,k3,k4⟩:=hd_inv hc
 obtain ⟨n,rfl,w⟩:=zav (show onSome nm _=true from k2)
 obtain ⟨w1,w2⟩:=and_tt w
 have hb:=fun e=>h e G N sc bs hG hN k3
 obtain ⟨s,ss',rfl,_⟩:=zac (show onCons bs _=true from k3)
 refine WH_as hG.ok hx (gi_of k1) own hyes (eq_of_beq w2) fun e=>?_
 have:=hb e
 rw [nm_cons (eq_of_beq w1)] at this
 exact this.mono fun f m' σ' k=>by
  obtain ⟨ρ',_,k⟩:=k
  exact ⟨[],Sub.refl',k⟩
end
end Mine
end
section
namespace Mine
open PySem
variable {c:Cx} {d:Nat} {σ:Led} {P P':V->Led->Prop} {X:XP} {ρ:Rho} {K K':Fl->Rho->Led->Prop} {N:List Str}
theorem Item_dict {a:Addr} {kvs:List (Int × V)} {i:Int} {w:V} (hl:σ.lookup a=some (.dictI kvs)) (hw:kvs.lookup i=some w) (h:P w σ):Item c d (.ref a) (.int i) σ P:=fun v s hs=>Op_ditem hl hw h (fun o x=>index_no hs o x)
theorem zby {a:Addr} {kvs:List (Str × V)} {i:Str} {w:V} (hl:σ.lookup a=some (.dictS kvs)) (hw:kvs.lookup i=some w) (h:P w σ):Item c d (.ref a) (.str i) σ P:=fun v s hs=>Op_ditemD DK.str hl hw h (fun o x=>index_no hs o x)
structure FnV (k:Base) (f:Value) (np:Nat) (t:T):Prop where
 ex:∃ st G N,(∀ c:Cx,c.k=k->FnAt c f (namesS st) (bodyS st) (scS st))/\GlobOk k G/\NmOk N/\namesS st=N.take np/\np<=N.length/\scOk (scS st) (namesS st)=true/\chk G N t (scS st) (.b (bodyS st))=true
theorem FnV.of {k:Base} {f:Value} {st:Stmt} {np:Nat} {t:T} {G:Glob} {N:List Str} (h:∀ c:Cx,c.k=k->FnAt c f (namesS st) (bodyS st) (scS st)) (hG:GlobOk k G) (hb:fnB G N t st np=true):FnV k f np t:=by
 obtain ⟨h1,h6⟩:=and_tt hb
 obtain ⟨h1,h5⟩:=and_tt h1
 obtain ⟨h1,h4⟩:=and_tt h1
 obtain ⟨h1,h3⟩:=and_tt h1
 obtain ⟨h1,h2⟩:=and_tt h1
 exact ⟨st,G,N,h,hG,⟨zbq h1,by simpa using h2⟩,eq_of_beq h3,of_decide_eq_true h4,h5,h6⟩
theorem zai {f:Value} {vs:List V} {t:T} (hf:FnV c.k f vs.length t) (h:(ex d 100).S c X t (args 0 vs) σ (RetT P)):CallS c (d+1) f vs σ P X:=by
 obtain ⟨st,G,N,h1,h2,h3,h4,h5,h6,h7⟩:=hf.ex
 refine CallS_def h2.ok (h1 c rfl) h6 (by rw [h4,List.length_take];lia) ?_
 have:=JB_go h G N (scS st) (bodyS st) h2 h3 h7
 rw [nm_args vs 0 (by lia),List.drop_zero,← h4] at this
 exact this.mono fun f m' σ' ⟨ρ',_,q⟩=>Ret_env q
noncomputable def kLed {α β:Type} (M:β->Rho) (J:List α->β->Led->Prop) (rest:List α) (fl:Fl) (ρ:Rho) (σ:Led):Prop:=fl=.next/\∃ s',RSub (M s') ρ/\J rest s' σ
theorem zal {t body:T} {α β:Type} (f:α->V) (M:β->Rho) (J:List α->β->Led->Prop):∀ (rows:List α) (s:β) (ρ:Rho) (σ:Led),RSub (M s) ρ->J rows s σ->
  (∀ s a rest σ,J (a::rest) s σ->JA c d NoX t (f a) (M s) σ (kJB c d NoX body (kLed M J rest)))->
  (∀ s ρ σ,RSub (M s) ρ->J [] s σ->K .next ρ σ)->JLoop c d t body K (rows.map f) ρ σ
 | [],s,ρ,σ,hm,hj,_,h=>h s ρ σ hm hj
 | a::rows,s,ρ,σ,hm,hj,hstep,h=>JA_sub hm ((hstep s a rows σ hj).mono fun ρ₁ σ₁ q=>JB.mono q fun fl ρ₂ σ₂ ⟨q0,s',q1,q2⟩=>by rw [q0];exact zal f M J rows s' ρ₂ σ₂ q1 q2 hstep h)
theorem zbv {a b:Addr} {o o':O} (h:σ.lookup a=some o'):(upd a o σ).lookup b=if b=a then some o else σ.lookup b:=by
 induction σ with
 | nil=>cases h
 | cons p r ih=>
  obtain ⟨x,y⟩:=p
  rw [List.lookup_cons] at h
  by_cases q:x=a
  ·subst q
   rw [zbl,List.lookup_cons,List.lookup_cons]
   by_cases z:b=x
   ·rw [beq_iff_eq.mpr z,if_pos z]
   ·rw [beq_eq_false_iff_ne.mpr z,if_neg z]
  ·rw [beq_eq_false_iff_ne.mpr fun e=>q e.symm] at h
   rw [upd_there q,List.lookup_cons,List.lookup_cons,ih h]
   by_cases z:b=x
   ·rw [beq_iff_eq.mpr z]
    dsimp only
    rw [if_neg fun e=>q (z.symm.trans e)]
   ·rw [beq_eq_false_iff_ne.mpr z]
theorem owned_of {a:Addr} {o:O} (h:σ.lookup a=some o):a∈owned σ:=zap h
theorem ne_of_new {a b:Addr} {o:O} (h:σ.lookup a=some o) (hb:b∉owned σ):a≠b:=fun q=>hb (q ▸ owned_of h)
noncomputable def putK {α:Type} (i:Int) (x:α) (l:List (Int × α)):List (Int × α):=
 if (l.any fun p=>decide (p.1=i))=true then l.map (fun p=>if p.1=i then (p.1,x) else p) else l++[(i,x)]
theorem putV_map {α:Type} (v:α->V) (i:Int) (x:α) (l:List (Int × α)):putV (l.map fun p=>(p.1,v p.2)) i (v x)=(putK i x l).map fun p=>(p.1,v p.2):=by
 unfold putV putK
 have e:((l.map fun p=>(p.1,v p.2)).any fun kv=>decide (kv.1=i))=l.any fun p=>decide (p.1=i):=by rw [List.any_map];rfl
 rw [e]
 split
 ·rw [List.map_map,List.map_map]
  refine List.map_congr_left fun p z1=>?_
  simp only [Function.comp]
  split <;> rfl
 ·simp
theorem dropK_map {α:Type} (v:α->V) (i:Int) (l:List (Int × α)):dropK i (l.map fun p=>(p.1,v p.2))=(l.filter fun p=>decide (p.1≠i)).map fun p=>(p.1,v p.2):=by
 unfold dropK
 rw [List.filter_map];rfl
theorem zat {α:Type} (v:α->V) (i:Int):∀ l:List (Int × α),(l.map fun p=>(p.1,v p.2)).lookup i=(l.lookup i).map v
 | []=>rfl
 | (j,y)::l=>by
  rw [List.map_cons,List.lookup_cons,List.lookup_cons,zat v i l]
  cases i == j <;> rfl
theorem zab {α:Type}:∀ {l:List (Int × α)} {p:Int × α},(l.map (·.1)).Nodup->p∈l->l.lookup p.1=some p.2
 | (j,y)::l,p,hn,hp=>by
  obtain ⟨h1,h2⟩:=List.nodup_cons.mp (show (j::l.map (·.1)).Nodup from hn)
  rw [List.lookup_cons]
  rcases List.mem_cons.mp hp with q | q
  ·subst q;rw [beq_self_eq_true]
  ·have:p.1≠j:=fun e=>h1 (e ▸ List.mem_map.mpr ⟨p,q,rfl⟩)
   rw [beq_eq_false_iff_ne.mpr this]
   exact zab h2 q
theorem sort_rise {ys ks:List Int} (hp:ys.Perm ks) (hs:ys.Pairwise fun a b=>a<=b) (hk:ks.Pairwise fun a b=>a<b):ys=ks:=
 List.Perm.eq_of_pairwise (le:=fun a b=>a<=b) (fun a b z1 z2 q1 q2=>Int.le_antisymm q1 q2) hs (hk.imp fun q=>Int.le_of_lt q) hp
end Mine
end
section
namespace Mine
open PySem PyProof.Rows
theorem meth_at {k:Base} {cr:ClsRec} {C N:Addr} {mN:Str->Option Value} (P:PlainAt k.h0 cr C N mN) (hK:Cls k C N mN) {x:Str} {m:MethRec} (hm:m∈cr.meths) (hx:m.name=x) {st:Stmt} {a:Arguments} {b:List Stmt} {sc:Scope} {r1 r2 r3 t1 t2 pos} (hst:st=.FunctionDef x a b r1 r2 r3 sc t1 t2 pos)
  (e1:m.params=a) (e2:m.body=b) (e3:m.scope=sc) (h1:a.posonlyargs=[]) (h2:a.vararg=none) (h3:a.kwonlyargs=[]) (h5:a.kwarg=none) (hn:nodupB (namesS st)=true) {y:Option Value} (hB:typeLookup (.type "object") x=pure y) :
  IsMeth k C x ((mN x).getD .none)/\(∀ c:Cx,c.k=k->FnAt c ((mN x).getD .none) (namesS st) (bodyS st) (scS st))/\∃ fa o,mN x=some (.ref fa)/\k.h0.get? fa=some o/\o.cls=.type "function":=by
 subst hst
 obtain ⟨f,o,pm,cd,doc,q1,q2,q3,q4,q5⟩:=P.meths m hm
 rw [hx] at q1
 rw [q1]
 have hn':nodupB (a.args.map fun y:Arg=>y.arg)=true:=hn
 subst e1 e2 e3
 refine ⟨⟨N,mN,f,o,_,y,hK,q1,rfl,q2,q3,q4,hB⟩,fun c hck=>⟨f,o,_,rfl,by rw [hck];exact q2,q4,by rw [hck];exact q5,rfl,rfl,rfl,rfl,rfl,fun cs hl=>bindArgs_plain h1 rfl h2 h3 h5 rfl (zbq hn') hl⟩,f,o,rfl,q2,q3⟩
noncomputable def argsS (st:Stmt):Arguments:=if h:st.ctorIdx=0 then Stmt.FunctionDef.elim (motive_2:=fun z1=>Arguments) st h (fun z1 a z2 z3 z4 z5 z6 z7 z8 z9=>a) else { posonlyargs:=[],args:=[],vararg:=none,kwonlyargs:=[],kw_defaults:=[],kwarg:=none,defaults:=[] }
noncomputable def plainA (a:Arguments):Bool:=a.posonlyargs.isEmpty && a.vararg.isNone && a.kwonlyargs.isEmpty && a.kw_defaults.isEmpty && a.kwarg.isNone && a.defaults.isEmpty
noncomputable def funB (x:Str) (st:Stmt):Bool:=if h:st.ctorIdx=0 then Stmt.FunctionDef.elim (motive_2:=fun z1=>Bool) st h (fun y z1 z2 z3 z4 z5 z6 z7 z8 z9=>y == x) else false
set_option tactic.hygienic true
theorem funB_inv {x:Str} {st:Stmt} (h:funB x st=true):∃ a b r1 r2 r3 sc t1 t2 pos,st=.FunctionDef x a b r1 r2 r3 sc t1 t2 pos:=by
 unfold funB at h
 split at h
 ·rename_i q
  revert h
  exact Stmt.FunctionDef.elim (motive_2:=fun st=>∀ q:st.ctorIdx=0,Stmt.FunctionDef.elim (motive_2:=fun z1=>Bool) st q (fun y z1 z2 z3 z4 z5 z6 z7 z8 z9=>y == x)=true->∃ a b r1 r2 r3 sc t1 t2 pos,st=.FunctionDef x a b r1 r2 r3 sc t1 t2 pos) st q
   (fun y a b r1 r2 r3 sc t1 t2 pos z1 hk=>by rw [eq_of_beq hk];exact ⟨a,b,r1,r2,r3,sc,t1,t2,pos,rfl⟩) q
 ·cases h
set_option tactic.hygienic false
theorem plainA_inv {a:Arguments} (h:plainA a=true):a.posonlyargs=[]/\a.vararg=none/\a.kwonlyargs=[]/\a.kw_defaults=[]/\a.kwarg=none/\a.defaults=[]:=by
 obtain ⟨h,e6⟩:=and_tt h
 obtain ⟨h,e5⟩:=and_tt h
 obtain ⟨h,e4⟩:=and_tt h
 obtain ⟨h,e3⟩:=and_tt h
 obtain ⟨e1,e2⟩:=and_tt h
 exact ⟨List.isEmpty_iff.mp e1,Option.isNone_iff_eq_none.mp e2,List.isEmpty_iff.mp e3,List.isEmpty_iff.mp e4,Option.isNone_iff_eq_none.mp e5,List.isEmpty_iff.mp e6⟩
theorem TopAt.def2 {k:Base} {q:Program} {loose:List Str} (hp:TopAt k q loose) {x:Str} {i:Nat} {st:Stmt} (hi:q.main.body[i]?=some st) (hf:funB x st=true) (hd:q.theDef x=some (argsS st,bodyS st,scS st)) (ha:plainA (argsS st)=true) (hn:nodupB (namesS st)=true):Fn k x st:=by
 obtain ⟨a,b,r1,r2,r3,sc,t1,t2,pos,rfl⟩:=funB_inv hf
 obtain ⟨e1,e2,e3,e4,e5,e6⟩:=plainA_inv ha
 exact hp.def_ hi rfl hd e1 e2 e3 e4 e5 e6 hn
theorem zar {k:Base} {cr:ClsRec} {C N:Addr} {mN:Str->Option Value} (P:PlainAt k.h0 cr C N mN) (hK:Cls k C N mN) {x:Str} {m:MethRec} (hm:m∈cr.meths) (hx:m.name=x) {st:Stmt} (hf:funB x st=true)
  (e1:m.params=argsS st) (e2:m.body=bodyS st) (e3:m.scope=scS st) (ha:plainA (argsS st)=true) (hn:nodupB (namesS st)=true) {y:Option Value} (hB:typeLookup (.type "object") x=pure y) :
  IsMeth k C x ((mN x).getD .none)/\(∀ c:Cx,c.k=k->FnAt c ((mN x).getD .none) (namesS st) (bodyS st) (scS st))/\∃ fa o,mN x=some (.ref fa)/\k.h0.get? fa=some o/\o.cls=.type "function":=by
 obtain ⟨a,b,r1,r2,r3,sc,t1,t2,pos,rfl⟩:=funB_inv hf
 obtain ⟨h1,h2,h3,_,h5,_⟩:=plainA_inv ha
 exact meth_at P hK hm hx rfl e1 e2 e3 h1 h2 h3 h5 hn hB
noncomputable def clsB (st:Stmt):List Stmt:=if h:st.ctorIdx=2 then Stmt.ClassDef.elim (motive_2:=fun z1=>List Stmt) st h (fun z1 z2 z3 b z4 z5 z6 z7 z8 z9 z10=>b) else []
end Mine
end
section
set_option maxRecDepth 100000
set_option maxHeartbeats 1000000
set_option compiler.extract_closed false
namespace Mine
open PySem
variable {c:Cx} {d:Nat} {σ:Led} {P P':V->Led->Prop} {X:XP} {ρ:Rho} {K K':Fl->Rho->Led->Prop}
set_option tactic.hygienic true
local macro_rules | `(tactic| walk_at "spec")=>`(tactic| fail)
local macro_rules | `(tactic| walk_at "side")=>`(tactic| first | lia | exact mulOk_left (by lia) (by lia) | exact mulOk_right (by lia) (by lia))
local macro_rules | `(tactic| walk_at "sub")=>`(tactic| repeat (first | exact RSub.nil | apply RSub.cons rfl))
local macro_rules | `(tactic| walk_at "x")=>`(tactic| first
 | (with_reducible show CallN _ _ _ _ _ _ _;walk_at "spec")
 | with_reducible first | apply JE_go | apply JT_go | apply JAB_go | apply JA_go | apply JB_go | apply JL_go | apply br_t | apply br_f
 | apply zbc
 | refine Leaf.mk ⟨_,List.length_map _,?_⟩
 | apply Leaf.mk
 | (apply br_intro <;> (intro hif;first | (with_reducible exact absurd hif Bool.false_ne_true) | (with_reducible exact absurd hif.symm Bool.false_ne_true) | ((with_reducible have hrf:false=false:=hif);clear hrf hif) | ((with_reducible have hrf:true=true:=hif);clear hrf hif) | try simp only [brs] at hif))
 | (apply Side.mk;focus walk_at "side"))
structure Things (k:Base):Prop where
 f_is_whole:FnT k "is_whole" 1 t_is_whole
 f_is_ware:FnT k "is_ware" 1 t_is_ware
 f_is_day:FnT k "is_day" 1 t_is_day
 f_is_count:FnT k "is_count" 1 t_is_count
 f_is_lot:FnT k "is_lot" 1 t_is_lot
 f_is_line:FnT k "is_line" 1 t_is_line
 f_need:FnT k "need" 1 t_need
 f_good:FnT k "good" 2 t_good
 f_need_rows:FnT k "need_rows" 2 t_need_rows
theorem S_need (hp:Things c.k) {x:V} {a b:Int} {vs:List V} (h:P (.int (a+b)) σ):CallN c (d+1) "need" [.tup (x::.int a::.int b::vs)] σ P X:=by
 refine zae hp.f_need ?_
 repeat' walk_at "x"
 exact h
theorem S_good (hp:Things c.k) {x y:Str} {last a b:Int} {us vs:List V} (h:P (.bool (x == y && decide (a+b<=last))) σ):CallN c (d+2) "good" [.tup (.str x::.int last::us),.tup (.str y::.int a::.int b::vs)] σ P X:=by
 refine zae hp.f_good ?_
 repeat' (first | walk_at "x" | (with_reducible refine S_need ?_ ?_;assumption))
 ·rename_i q
  rw [q,beq_self_eq_true,Bool.true_and] at h;exact h
 ·rename_i q
  rw [beq_eq_false_iff_ne.mpr q,Bool.false_and] at h;exact h
theorem zbw (hp:Things c.k) {i:Int} (h:P (.bool true) σ):CallN c (d+1) "is_whole" [.int i] σ P X:=by
 refine zae hp.f_is_whole ?_
 repeat' walk_at "x"
 exact h
local macro_rules | `(tactic| walk_at "spec")=>`(tactic| first | (with_reducible apply S_need;assumption) | (with_reducible apply S_good;assumption) | (with_reducible apply zbw;assumption))
noncomputable abbrev LETTERS:Str:=Str.ofString "abcdefghijklmnopqrstuvwxyz"
structure Ware (x:Str):Prop where
 lo:1<=x.length
 hi:x.length<=12
 letters:∀ k∈x.cps.toList,97<=k/\k<123
noncomputable def wareB (x:Str):Bool:=decide (1<=(x.length:Int)) && decide ((x.length:Int)<=12) && x.cps.toList.all (fun k=>Txt.contains LETTERS ⟨#[k]⟩)
theorem letter_in {k:Nat} (h1:97<=k) (h2:k<123):Txt.contains LETTERS ⟨#[k]⟩=true:=by
 have key:∀ n,n<26->Txt.contains LETTERS ⟨#[97+n]⟩=true:=by decide +kernel
 have:=key (k - 97) (by (exact Ar.l01 (.lt (.s (.v 0) (.k 97)) (.k 26)) [(.lt (.v 0) (.k 123))] (by kernel_rfl) h2))
 rwa [show 97+(k - 97)=k by (exact Ar.l01 (.eq (.a (.k 97) (.s (.v 0) (.k 97))) (.v 0)) [(.le (.k 97) (.v 0))] (by kernel_rfl) h1)] at this
theorem Ware.b {x:Str} (h:Ware x):wareB x=true:=by
 unfold wareB
 have h1:=h.lo
 have h2:=h.hi
 simp only [Bool.and_eq_true,decide_eq_true_eq,List.all_eq_true]
 exact ⟨⟨by (exact Ar.l01 (.ile (.k 1) (.c (.v 0))) [(.le (.k 1) (.v 0))] (by kernel_rfl) h1),by (exact Ar.l01 (.ile (.c (.v 0)) (.k 12)) [(.le (.v 0) (.k 12))] (by kernel_rfl) h2)⟩,fun k hk=>letter_in (h.letters k hk).1 (h.letters k hk).2⟩
theorem Ware.ok {x:Str} (h:Ware x):PyData.strOk x=true:=by
 unfold PyData.strOk
 rw [← Array.all_toList,List.all_eq_true]
 intro k hk
 have:=h.letters k hk
 simp;(exact Ar.l01 (.lt (.v 0) (.k 1114112)) [(.an (.le (.k 97) (.v 0)) (.lt (.v 0) (.k 123)))] (by kernel_rfl) this)
structure WareOk (x:Str):Prop where
 hi:x.length<=12
 b:wareB x=true
 ok:PyData.strOk x=true
theorem Ware.wok {x:Str} (h:Ware x):WareOk x:=⟨h.hi,h.b,h.ok⟩
theorem S_is_ware (hp:Things c.k) {x:Str} (hx:x.length<=1000000) (h:P (.bool (wareB x)) σ):CallN c (d+1) "is_ware" [.str x] σ P X:=by
 refine zae hp.f_is_ware ?_
 have hs:sizeLine=16777216:=by rw [sizeLine_eq]
 unfold wareB at h
 repeat' walk_at "x"
 ·rename_i q1 q2
  rw [decide_eq_false q2,Bool.and_false,Bool.false_and] at h
  exact h
 ·rename_i q1 q2
  rw [decide_eq_true q1,decide_eq_true q2,Bool.true_and,Bool.true_and] at h
  refine ⟨_,[],by simp,Iter_str (by (exact Ar.l02 (.le (.v 0) (.v 1)) [(.le (.v 0) (.k 1000000)),(.eq (.v 1) (.k 16777216))] (by kernel_rfl) hx hs)),fun D=>?_⟩
  refine zah (fun k=>.str ⟨#[k]⟩) (fun k=>.bool (Txt.contains LETTERS ⟨#[k]⟩)) x.cps.toList [] (fun k hk=>⟨_,rfl,?_⟩) ?_
  ·repeat' walk_at "x"
   exact ⟨rfl,rfl⟩
  ·rw [List.nil_append,show x.cps.toList.map (fun k=>V.bool (Txt.contains LETTERS ⟨#[k]⟩))=(x.cps.toList.map fun k=>Txt.contains LETTERS ⟨#[k]⟩).map V.bool by rw [List.map_map];rfl]
   refine made_f ?_
   refine Leaf.mk ⟨_,rfl,?_⟩
   refine zbc ?_
   rw [List.all_map];exact h
 ·rename_i q1
  rw [decide_eq_false q1,Bool.false_and,Bool.false_and] at h
  exact h
noncomputable def dayB (i:Int):Bool:=decide (0<=i) && decide (i<=1000000000000)
noncomputable def countB (i:Int):Bool:=decide (1<=i) && decide (i<=1000000000000)
theorem S_is_day (hp:Things c.k) {i:Int} (h:P (.bool (dayB i)) σ):CallN c (d+2) "is_day" [.int i] σ P X:=by
 refine zae hp.f_is_day ?_
 unfold dayB at h
 repeat' walk_at "x"
 ·rename_i q
  rw [decide_eq_true q,Bool.true_and] at h;exact h
 ·rename_i q
  rw [decide_eq_false q,Bool.false_and] at h;exact h
theorem S_is_count (hp:Things c.k) {i:Int} (h:P (.bool (countB i)) σ):CallN c (d+2) "is_count" [.int i] σ P X:=by
 refine zae hp.f_is_count ?_
 unfold countB at h
 repeat' walk_at "x"
 ·rename_i q
  rw [decide_eq_true q,Bool.true_and] at h;exact h
 ·rename_i q
  rw [decide_eq_false q,Bool.false_and] at h;exact h
structure Lot where
 w:Str
 last:Int
 n:Int
noncomputable def Lot.v (l:Lot):V:=.tup [.str l.w,.int l.last,.int l.n]
structure Lot.ok (l:Lot):Prop where
 w:WareOk l.w
 a0:0<=l.last
 a1:l.last<=1000000000000
 n0:1<=l.n
 n1:l.n<=1000000000000
structure Line where
 w:Str
 day:Int
 left:Int
 n:Int
noncomputable def Line.v (l:Line):V:=.tup [.str l.w,.int l.day,.int l.left,.int l.n]
structure Line.ok (l:Line):Prop where
 w:WareOk l.w
 a0:0<=l.day
 a1:l.day<=1000000000000
 b0:0<=l.left
 b1:l.left<=1000000000000
 n0:1<=l.n
 n1:l.n<=1000000000000
noncomputable def Line.need (l:Line):Int:=l.day+l.left
noncomputable def Lot.b (l:Lot):Bool:=wareB l.w && (dayB l.last && countB l.n)
noncomputable def Line.b (l:Line):Bool:=wareB l.w && (dayB l.day && (dayB l.left && countB l.n))
theorem Lot.ok.b {l:Lot} (o:l.ok):l.b=true:=by
 have h1:=o.a0
 have h2:=o.a1
 have h3:=o.n0
 have h4:=o.n1
 simp [Lot.b,o.w.b,dayB,countB,h1,h2,h3,h4]
theorem Line.ok.b {l:Line} (o:l.ok):l.b=true:=by
 have h1:=o.a0
 have h2:=o.a1
 have h3:=o.n0
 have h4:=o.n1
 have h5:=o.b0
 have h6:=o.b1
 simp [Line.b,o.w.b,dayB,countB,h1,h2,h3,h4,h5,h6]
theorem S_is_lot (hp:Things c.k) {l:Lot} (hx:l.w.length<=1000000) (h:P (.bool l.b) σ):CallN c (d+3) "is_lot" [l.v] σ P X:=by
 refine zae hp.f_is_lot ?_
 unfold Lot.b at h
 repeat' (first | walk_at "x" | (with_reducible refine S_is_ware ?_ ?_ ?_;assumption;(first | assumption | lia)) | (with_reducible refine S_is_day ?_ ?_;assumption) | (with_reducible refine S_is_count ?_ ?_;assumption))
 ·rename_i q1 q2;rw [q1,q2,Bool.true_and,Bool.true_and] at h;exact h
 ·rename_i q1 q2;rw [q1,q2,Bool.true_and,Bool.false_and] at h;exact h
 ·rename_i q1;rw [q1,Bool.false_and] at h;exact h
theorem S_is_line (hp:Things c.k) {l:Line} (hx:l.w.length<=1000000) (h:P (.bool l.b) σ):CallN c (d+3) "is_line" [l.v] σ P X:=by
 refine zae hp.f_is_line ?_
 unfold Line.b at h
 repeat' (first | walk_at "x" | (with_reducible refine S_is_ware ?_ ?_ ?_;assumption;(first | assumption | lia)) | (with_reducible refine S_is_day ?_ ?_;assumption) | (with_reducible refine S_is_count ?_ ?_;assumption))
 ·rename_i q1 q2 q3;rw [q1,q2,q3,Bool.true_and,Bool.true_and,Bool.true_and] at h;exact h
 ·rename_i q1 q2 q3;rw [q1,q2,q3,Bool.true_and,Bool.true_and,Bool.false_and] at h;exact h
 ·rename_i q1 q2;rw [q1,q2,Bool.true_and,Bool.false_and] at h;exact h
 ·rename_i q1;rw [q1,Bool.false_and] at h;exact h
theorem S_good_ (hp:Things c.k) {l:Lot} {m:Line} (h:P (.bool (l.w == m.w && decide (m.day+m.left<=l.last))) σ):CallN c (d+2) "good" [l.v,m.v] σ P X:=S_good hp h
theorem S_need_ (hp:Things c.k) {m:Line} (h:P (.int (m.day+m.left)) σ):CallN c (d+1) "need" [m.v] σ P X:=S_need hp h
local macro_rules | `(tactic| walk_at "spec")=>`(tactic| first | (with_reducible apply S_good_;assumption) | (with_reducible apply S_need_;assumption))
theorem map_bool {α:Type} (f:α->Bool) (l:List α):l.map (fun a=>V.bool (f a))=(l.map f).map V.bool:=by rw [List.map_map];rfl
theorem S_need_rows (hp:Things c.k) {lots:List Lot} {lines:List Line} (h1:∀ l∈lots,l.ok) (h2:∀ l∈lines,l.ok) (hl1:lots.length<=100) (hl2:lines.length<=100) (h:P .none σ) :
  CallN c (d+4) "need_rows" [.lst (lots.map Lot.v),.lst (lines.map Line.v)] σ P X:=by
 refine zae hp.f_need_rows ?_
 repeat' (first | walk_at "x" | (with_reducible refine S_is_lot ?_ ?_ ?_;assumption;(first | assumption | lia)) | (with_reducible refine S_is_line ?_ ?_ ?_;assumption;(first | assumption | lia)))
 ·exfalso;lia
 refine ⟨_,[],by simp,zaf,fun D=>?_⟩
 have hp':Things ((c.pro []).hide D).k:=hp
 refine zah Lot.v (fun l=>.bool l.b) lots [] (fun l hl=>⟨_,rfl,?_⟩) ?_
 ·have hw:=(h1 l hl).w.hi
  repeat' (first | walk_at "x" | (with_reducible refine S_is_lot ?_ ?_ ?_;assumption;(first | assumption | lia)) | (with_reducible refine S_is_line ?_ ?_ ?_;assumption;(first | assumption | lia)))
  exact ⟨rfl,rfl⟩
 refine made_f ?_
 rw [List.nil_append,map_bool]
 refine Leaf.mk ⟨_,rfl,?_⟩
 rw [show ((lots.map Lot.b).all id)=true by rw [List.all_map,List.all_eq_true];exact fun l hl=>(h1 l hl).b]
 repeat' (first | walk_at "x" | (with_reducible refine S_is_lot ?_ ?_ ?_;assumption;(first | assumption | lia)) | (with_reducible refine S_is_line ?_ ?_ ?_;assumption;(first | assumption | lia)))
 ·exfalso;lia
 refine ⟨_,[],by simp,zaf,fun D=>?_⟩
 have hp':Things ((c.pro []).hide D).k:=hp
 refine zah Line.v (fun l=>.bool l.b) lines [] (fun l hl=>⟨_,rfl,?_⟩) ?_
 ·have hw:=(h2 l hl).w.hi
  repeat' (first | walk_at "x" | (with_reducible refine S_is_lot ?_ ?_ ?_;assumption;(first | assumption | lia)) | (with_reducible refine S_is_line ?_ ?_ ?_;assumption;(first | assumption | lia)))
  exact ⟨rfl,rfl⟩
 refine made_f ?_
 rw [List.nil_append,map_bool]
 refine Leaf.mk ⟨_,rfl,?_⟩
 rw [show ((lines.map Line.b).all id)=true by rw [List.all_map,List.all_eq_true];exact fun l hl=>(h2 l hl).b]
 refine zbo ?_
 exact h
structure Helps (k:Base):Prop where
 f_law_at:FnT k "_law_at" 2 t_law_at
 f_law_word:FnT k "_law_word" 2 t_law_word
 f_law_mixed:FnT k "_law_mixed" 2 t_law_mixed
noncomputable def at_ (xs:List Int) (k:Int):Int:=xs.getD k.toNat 0
theorem S_at (hp:Helps c.k) {xs:List Int} {k:Int} (hk:0<=k) (h:P (.int (at_ xs k)) σ):CallN c (d+1) "_law_at" [.lst (xs.map .int),.int k] σ P X:=by
 refine zae hp.f_law_at ?_
 repeat' walk_at "x"
 ·have hx:k.toNat<xs.length:=by lia
  refine za6 (.lst _) hk (w:=.int (xs[k.toNat])) (by simp [hx]) ?_
  refine zbc ?_
  have:at_ xs k=xs[k.toNat]:=by unfold at_;simp [hx]
  rw [this] at h;exact h
 ·have:at_ xs k=0:=by unfold at_;rw [List.getD_eq_getElem?_getD,List.getElem?_eq_none (by lia)];rfl
  rw [this] at h;exact h
local macro_rules | `(tactic| walk_at "spec")=>`(tactic| (with_reducible apply S_at;assumption;lia))
noncomputable def letter (i:Int):Nat:=97+(i % 26).toNat
theorem letters_at {i:Int}:(Str.ofString "abcdefghijklmnopqrstuvwxyz").cps[(i % 26).toNat]?=some (letter i):=by
 have h:(i % 26).toNat<26:=by lia
 have key:∀ n,n<26->(Str.ofString "abcdefghijklmnopqrstuvwxyz").cps[n]?=some (97+n):=by decide +kernel
 exact key _ h
noncomputable def wsize (c:Int):Int:=1+c / 26 % 12
noncomputable def wstep (c:Int):Int:=1+c / 312 % 25
noncomputable def wbase (c:Int):List Nat:=(rangeL 0 (wsize c)).map fun i=>letter (c+i * wstep c)
noncomputable def word (c k:Int):Str:=if c % 4=0 then zaz none (some (max 1 (wsize c - k))) ⟨(wbase c).toArray⟩
 else zaz none (some (c / 5 % wsize c)) ⟨(wbase c).toArray⟩++⟨#[letter (c+5 * k)]⟩++zaz (some (c / 5 % wsize c+1)) none ⟨(wbase c).toArray⟩
theorem join_word (l:List Nat):Txt.join (Str.ofString "") (l.map fun k=>(⟨#[k]⟩:Str))=⟨l.toArray⟩:=by
 show Builtin.Str.glued _ _=_
 rw [StrLaws.glued_eq_join]
 exact join_signs l
theorem wbase_len (c:Int):((wbase c).length:Int)=wsize c:=by
 unfold wbase;rw [List.length_map,zb1];unfold wsize;lia
theorem letter_ok (i:Int):97<=letter i/\letter i<123:=by unfold letter;lia
theorem wbase_ok {c:Int} {k:Nat} (h:k∈wbase c):97<=k/\k<123:=by
 unfold wbase at h
 obtain ⟨i,_,rfl⟩:=List.mem_map.mp h
 exact letter_ok _
theorem slice_mem {α:Type} {lo hi:Option Int} {xs:List α} {a:α} (h:a∈slice lo hi xs):a∈xs:=by
 unfold slice at h
 exact List.mem_of_mem_drop (List.mem_of_mem_take h)
theorem ware_word (c k:Int):Ware (word c k):=by
 have hb:=wbase_len c
 have hs:1<=wsize c/\wsize c<=12:=by unfold wsize;(exact Ar.l10 (.an (.ile (.k 1) (.a (.k 1) (.v 0))) (.ile (.a (.k 1) (.v 0)) (.k 12))) [(.ile (.k 0) (.v 0)),(.ilt (.v 0) (.k 12))] (by kernel_rfl) (Int.emod_nonneg _ (by decide)) (Int.emod_lt_of_pos _ (by decide)))
 unfold word
 split
 ·have e1:(slice none (some (max 1 (wsize c - k))) (wbase c)).length=min (max 1 (wsize c - k)).toNat (wbase c).length:=by rw [slice_take _ (Int.le_trans (by decide) (Int.le_max_left 1 _)),List.length_take]
  refine ⟨?_,?_,fun a ha=>?_⟩
  ·rw [zau];show 1<=(slice none (some (max 1 (wsize c - k))) (wbase c)).length;rw [e1]
   exact Nat.le_min.mpr ⟨Int.toNat_le_toNat (Int.le_max_left 1 _),Ar.l11 (.le (.k 1) (.v 0)) [(.ieq (.c (.v 0)) (.v 0)),(.an (.ile (.k 1) (.v 0)) (.ile (.v 0) (.k 12)))] (by kernel_rfl) hb hs⟩
  ·rw [zau];show (slice none (some (max 1 (wsize c - k))) (wbase c)).length<=12;exact Nat.le_trans (za0 _ _ _) (by (exact Ar.l11 (.le (.v 0) (.k 12)) [(.ieq (.c (.v 0)) (.v 0)),(.an (.ile (.k 1) (.v 0)) (.ile (.v 0) (.k 12)))] (by kernel_rfl) hb hs))
  ·unfold zaz at ha;exact wbase_ok (slice_mem ha)
 ·have hp0:0<=c / 5 % wsize c:=Int.emod_nonneg _ (by (exact Ar.l10 (.no (.ieq (.v 0) (.k 0))) [(.an (.ile (.k 1) (.v 0)) (.ile (.v 0) (.k 12)))] (by kernel_rfl) hs))
  have hp1:c / 5 % wsize c<wsize c:=Int.emod_lt_of_pos _ (by (exact Ar.l10 (.ilt (.k 0) (.v 0)) [(.an (.ile (.k 1) (.v 0)) (.ile (.v 0) (.k 12)))] (by kernel_rfl) hs))
  have e1:(slice none (some (c / 5 % wsize c)) (wbase c)).length=min (c / 5 % wsize c).toNat (wbase c).length:=by rw [slice_take _ hp0,List.length_take]
  have e2:(slice (some (c / 5 % wsize c+1)) none (wbase c)).length=(wbase c).length - (c / 5 % wsize c+1).toNat:=by rw [slice_drop _ (Int.le_trans hp0 (Int.le_of_lt (Int.lt_succ _))),List.length_drop]
  generalize c / 5 % wsize c=p at *
  refine ⟨?_,?_,fun a ha=>?_⟩
  ·rw [zau,zad,zad,List.length_append,List.length_append];exact Nat.le_trans (show 1<=[letter (c+5 * k)].length from Nat.le_refl 1) (Nat.le_trans (Nat.le_add_left _ _) (Nat.le_add_right _ _))
  ·rw [zau,zad,zad,List.length_append,List.length_append]
   show (slice none (some p) (wbase c)).length+1+(slice (some (p+1)) none (wbase c)).length<=12
   rw [e1,e2]
   obtain ⟨q,rfl⟩:=Int.eq_ofNat_of_zero_le hp0
   have m1:min ((q:Int).toNat) (wbase c).length<=q:=Nat.min_le_left _ _
   show min ((q:Int).toNat) (wbase c).length+1+((wbase c).length - (q+1))<=12
   exact Ar.l13 (.le (.a (.a (.v 0) (.k 1)) (.s (.v 1) (.a (.v 2) (.k 1)))) (.k 12)) [(.le (.v 0) (.v 2)),(.ieq (.c (.v 1)) (.v 0)),(.an (.ile (.k 1) (.v 0)) (.ile (.v 0) (.k 12))),(.ilt (.c (.v 2)) (.v 0))] (by kernel_rfl) m1 hb hs hp1
  ·rw [zad,zad] at ha
   rcases List.mem_append.mp ha with ha | ha
   ·rcases List.mem_append.mp ha with ha | ha
    ·exact wbase_ok (slice_mem ha)
    ·have:a=letter (c+5 * k):=by simpa using ha
     rw [this];exact letter_ok _
   ·exact wbase_ok (slice_mem ha)
theorem S_word (hp:Helps c.k) {x k:Int} (hk:0<=k) (hk':k<=1000) (h:P (.str (word x k)) σ):CallN c (d+1) "_law_word" [.int x,.int k] σ P X:=by
 refine zae hp.f_law_word ?_
 have hws:wsize x=1+x / 26 % 12:=rfl
 have hwl:=wbase_len x
 repeat' walk_at "x"
 refine ⟨_,_,Meth_join,?_⟩
 repeat' walk_at "x"
 refine ⟨_,[],by simp,Iter_rng (by (exact Ar.l00 (.ile (.g (.k 1000000000000000)) (.k 0)) [] (by kernel_rfl) )) (by (exact Ar.l00 (.ile (.k 0) (.k 1000000000000000)) [] (by kernel_rfl) )) (by (exact Ar.l10 (.ile (.g (.k 1000000000000000)) (.a (.k 1) (.v 0))) [(.ile (.k 0) (.v 0))] (by kernel_rfl) (Int.emod_nonneg _ (by decide)))) (by (exact Ar.l10 (.ile (.a (.k 1) (.v 0)) (.k 1000000000000000)) [(.ilt (.v 0) (.k 12))] (by kernel_rfl) (Int.emod_lt_of_pos _ (by decide)))) (by (exact Ar.l10 (.ile (.s (.a (.k 1) (.v 0)) (.k 0)) (.k 16777216)) [(.ilt (.v 0) (.k 12))] (by kernel_rfl) (Int.emod_lt_of_pos _ (by decide)))),fun D=>?_⟩
 refine zah V.int (fun i=>.str ⟨#[letter (x+i * wstep x)]⟩) (rangeL 0 (wsize x)) [] (fun i hi=>⟨_,rfl,?_⟩) ?_
 ·rw [mem_rangeL] at hi
  repeat' walk_at "x"
  exact Item_str (by (exact Ar.l10 (.ile (.k 0) (.v 0)) [(.ile (.k 0) (.v 0))] (by kernel_rfl) (Int.emod_nonneg _ (by decide)))) letters_at (by lia) ⟨rfl,rfl⟩
 refine made_f ?_
 rw [List.nil_append,show (rangeL 0 (wsize x)).map (fun i=>V.str ⟨#[letter (x+i * wstep x)]⟩)=((wbase x).map fun k=>(⟨#[k]⟩:Str)).map V.str by unfold wbase;rw [List.map_map,List.map_map];rfl]
 have hbl:(⟨(wbase x).toArray⟩:Str).length<=sizeLine:=by
  rw [zau,sizeLine_eq];simp only [List.toList_toArray];(exact Ar.l21 (.le (.v 0) (.k 16777216)) [(.ieq (.v 0) (.a (.k 1) (.v 1))),(.ieq (.c (.v 0)) (.v 0)),(.ilt (.v 1) (.k 12))] (by kernel_rfl) hws hwl (Int.emod_lt_of_pos _ (by decide)))
 refine (show CallS _ _ _ _ _ _ _ from Call_join (.lst _) ?_ ?_)
 ·have:(((wbase x).map fun k=>(⟨#[k]⟩:Str)).map (·.length)).sum=(wbase x).length:=by
   rw [List.map_map]
   show ((wbase x).map fun z1=>1).sum=_
   induction wbase x with
   | nil=>rfl
   | cons a r ih=>simp only [List.map_cons,List.sum_cons,List.length_cons,ih];(exact Ar.l01 (.eq (.a (.k 1) (.v 0)) (.a (.v 0) (.k 1))) [] (by kernel_rfl) )
  have e0:(Str.ofString "").length=0:=by decide +kernel
  rw [this,e0];lia
 rw [join_word]
 have hpl:0<=x / 5 % (1+x / 26 % 12):=Int.emod_nonneg _ (by (exact Ar.l10 (.no (.ieq (.a (.k 1) (.v 0)) (.k 0))) [(.ile (.k 0) (.v 0))] (by kernel_rfl) (Int.emod_nonneg _ (by decide))))
 have hpl':x / 5 % (1+x / 26 % 12)<1+x / 26 % 12:=Int.emod_lt_of_pos _ (by (exact Ar.l10 (.ilt (.k 0) (.a (.k 1) (.v 0))) [(.ile (.k 0) (.v 0))] (by kernel_rfl) (Int.emod_nonneg _ (by decide))))
 repeat' walk_at "x"
 ·rename_i hif
  unfold word at h;rw [if_pos hif] at h;exact h
 ·refine Item_str (by (exact Ar.l10 (.ile (.k 0) (.v 0)) [(.ile (.k 0) (.v 0))] (by kernel_rfl) (Int.emod_nonneg _ (by decide)))) letters_at (by lia) ?_
  have hs1:∀ lo hi,(zaz lo hi ⟨(wbase x).toArray⟩).length<=12:=fun lo hi=>by
   rw [zau];unfold zaz;simp only [List.toList_toArray]
   exact Nat.le_trans (za0 _ _ _) (by (exact Ar.l21 (.le (.v 0) (.k 12)) [(.ieq (.v 0) (.a (.k 1) (.v 1))),(.ieq (.c (.v 0)) (.v 0)),(.ilt (.v 1) (.k 12))] (by kernel_rfl) hws hwl (Int.emod_lt_of_pos _ (by decide))))
  have hs2:sizeLine=16777216:=by rw [sizeLine_eq]
  repeat' walk_at "x"
  refine Op_add_str (by have:=hs1 none (some (x / 5 % (1+x / 26 % 12)));rw [hs2];show _+1<=_;(exact Ar.l01 (.le (.a (.v 0) (.k 1)) (.k 16777216)) [(.le (.v 0) (.k 12))] (by kernel_rfl) this)) ?_
  repeat' walk_at "x"
  refine Op_add_str ?_ ?_
  ·have h1:=hs1 none (some (x / 5 % (1+x / 26 % 12)))
   have h2:=hs1 (some (x / 5 % (1+x / 26 % 12)+1)) none
   rw [zau,zad,List.length_append,← zau,← zau,hs2]
   show _+1+_<=_
   (exact Ar.l02 (.le (.a (.a (.v 0) (.k 1)) (.v 1)) (.k 16777216)) [(.le (.v 0) (.k 12)),(.le (.v 1) (.k 12))] (by kernel_rfl) h1 h2)
  repeat' walk_at "x"
  rename_i hif
  unfold word at h;rw [if_neg hif] at h;exact h
noncomputable def mixed (x k:Int):Int:=(x * 48271+7919 * k) ^ 3 / 11
theorem S_mixed (hp:Helps c.k) {x k:Int} (hx:Sz 1048600 x) (hk:0<=k) (hk':k<=1000) (h:P (.int (mixed x k)) σ):CallN c (d+1) "_law_mixed" [.int x,.int k] σ P X:=by
 refine zae hp.f_law_mixed ?_
 have h1:Sz (1048600+64) (x * 48271):=hx.mul (Sz.small (by (exact Ar.l00 (.ilt (.g (.k 9223372036854775808)) (.k 48271)) [] (by kernel_rfl) )) (by (exact Ar.l00 (.ilt (.k 48271) (.k 9223372036854775808)) [] (by kernel_rfl) )))
 have h2:Sz (1048600+64) (7919 * k):=(Sz.small (by (exact Ar.l10 (.ilt (.g (.k 9223372036854775808)) (.m 7919 (.v 0))) [(.ile (.k 0) (.v 0))] (by kernel_rfl) hk)) (by (exact Ar.l10 (.ilt (.m 7919 (.v 0)) (.k 9223372036854775808)) [(.ile (.v 0) (.k 1000))] (by kernel_rfl) hk'))).mono (by (exact Ar.l00 (.le (.k 64) (.a (.k 1048600) (.k 64))) [] (by kernel_rfl) ))
 repeat' walk_at "x"
 refine Op_pow3 (h1.add h2) (by (exact Ar.l00 (.le (.a (.a (.k 1048600) (.k 64)) (.k 1)) (.k 40000000)) [] (by kernel_rfl) )) ?_
 repeat' walk_at "x"
 exact h
theorem S_whole (hp:FnT c.k "_law_whole" 1 t_law_whole) {i:Int} (h:P (.bool true) σ):CallN c (d+1) "_law_whole" [.int i] σ P X:=by
 refine zae hp ?_
 repeat' walk_at "x"
 exact h
noncomputable def count_ (k:Int):Int:=if k % 16=0 then 1+k / 16 % 1000000000000 else if k % 16=1 then 1+k / 16 % 1000 else 1+k / 16 % 6
theorem count_ok (k:Int):1<=count_ k/\count_ k<=1000000000000:=by unfold count_;split <;> (try split) <;> lia
theorem S_count (hp:FnT c.k "_law_count" 1 t_law_count) {k:Int} (h:P (.int (count_ k)) σ):CallN c (d+1) "_law_count" [.int k] σ P X:=by
 refine zae hp ?_
 unfold count_ at h
 repeat' walk_at "x"
 ·rename_i q1;rw [if_pos q1] at h;exact h
 ·rename_i q1 q2;rw [if_neg q1,if_pos q2] at h;exact h
 ·rename_i q1 q2;rw [if_neg q1,if_neg q2] at h;exact h
theorem at_sz {xs:List Int} (hb:∀ x∈xs,Builtin.Int.intBits x<=1048576) (k:Int):Sz 1048577 (at_ xs k):=by
 unfold at_
 rw [List.getD_eq_getElem?_getD]
 cases e:xs[k.toNat]? with
 | none=>exact (Sz.small (by decide) (by decide)).mono (by (exact Ar.l00 (.le (.k 64) (.k 1048577)) [] (by kernel_rfl) ))
 | some x=>exact (Sz.of_bits (hb x (List.mem_of_getElem? e))).mono (by (exact Ar.l00 (.le (.k 1048576) (.k 1048577)) [] (by kernel_rfl) ))
open Deal in
noncomputable def rowV (x:Row):V:=.tup [.int x.1,.int x.2.1,.int x.2.2]
noncomputable def Lot.z:Lot:=⟨⟨#[]⟩,0,0⟩
noncomputable def Line.z:Line:=⟨⟨#[]⟩,0,0,0⟩
noncomputable def stk (lots:List Lot) (lines:List Line):Deal.Stock Str:=
 { nL:=lots.length,nN:=lines.length,wl:=fun t=>(lots.getD t Lot.z).w,last:=fun t=>(lots.getD t Lot.z).last,cl:=fun t=>(lots.getD t Lot.z).n,wn:=fun l=>(lines.getD l Line.z).w,need:=fun l=>(lines.getD l Line.z).need,cn:=fun l=>(lines.getD l Line.z).n }
noncomputable def pairV (x:Int × Nat):V:=.tup [.int x.1,.int x.2]
theorem getD_get? {α:Type} (l:List α) (i:Nat) (z:α) (h:i<l.length):l[i]?=some (l.getD i z):=by simp [h]
theorem item_of {α:Type} (f:α->V) (l:List α) (i:Nat) (z:α) (h:i<l.length):(l.map f)[(i:Int).toNat]?=some (f (l.getD i z)):=by
 simp [h]
theorem map_getD {α β:Type} (l:List α) (z:α) (f:α->β):l.map f=(List.range l.length).map fun i=>f (l.getD i z):=by
 apply List.ext_getElem
 ·simp
 ·intro i h1 h2
  simp at h1
  simp [h1]
theorem zbk {n:Nat} (hn:n<=1000):IterS c σ (.rng 0 (n:Int)) ((List.range n).map fun i:Nat=>V.int i):=by
 have h:=Iter_rng (c:=c) (σ:=σ) (lo:=0) (hi:=(n:Int)) (by (exact Ar.l00 (.ile (.g (.k 1000000000000000)) (.k 0)) [] (by kernel_rfl) )) (by (exact Ar.l00 (.ile (.k 0) (.k 1000000000000000)) [] (by kernel_rfl) )) (by (exact Ar.l01 (.ile (.g (.k 1000000000000000)) (.c (.v 0))) [] (by kernel_rfl) )) (by (exact Ar.l01 (.ile (.c (.v 0)) (.k 1000000000000000)) [(.le (.v 0) (.k 1000))] (by kernel_rfl) hn)) (by (exact Ar.l01 (.ile (.s (.c (.v 0)) (.k 0)) (.k 16777216)) [(.le (.v 0) (.k 1000))] (by kernel_rfl) hn))
 have e:(rangeL 0 (n:Int)).map V.int=(List.range n).map fun i:Nat=>V.int i:=by simp [rangeL]
 rw [e] at h;exact h
structure LotsO (S:Deal.Stock Str) (ts:List Nat):Prop where
 perm:ts.Perm (List.range S.nL)
 asc:ts.Pairwise fun a b=>S.last a<S.last b\/(S.last a=S.last b/\a<=b)
structure LinesO (S:Deal.Stock Str) (ls:List Nat):Prop where
 perm:ls.Perm (List.range S.nN)
 desc:ls.Pairwise fun a b=>S.need b<S.need a\/(S.need a=S.need b/\a<=b)
theorem LotsO.order {S:Deal.Stock Str} {ts:List Nat} (h:LotsO S ts):Deal.LotsOrder S ts:=
 ⟨h.perm.nodup_iff.mpr List.nodup_range,fun t=>by rw [h.perm.mem_iff,List.mem_range],h.asc.imp fun q=>by lia⟩
theorem LinesO.order {S:Deal.Stock Str} {ls:List Nat} (h:LinesO S ls):Deal.LinesOrder S ls:=
 ⟨h.perm.nodup_iff.mpr List.nodup_range,fun t=>by rw [h.perm.mem_iff,List.mem_range],h.desc.imp fun q=>by lia⟩
noncomputable def keyP (x:Int × Nat):List Int:=[x.1,x.2]
noncomputable def keyR (x:Deal.Row):List Int:=[x.1,x.2.1,x.2.2]
theorem pairs_split {S:Nat->Int} {n:Nat} {ys:List (Int × Nat)} (h:ys.Perm ((List.range n).map fun i=>(S i,i))):ys=(ys.map (·.2)).map fun i=>(S i,i):=by
 rw [List.map_map]
 conv=>lhs;rw [← List.map_id ys]
 refine List.map_congr_left fun x hx=>?_
 obtain ⟨i,_,rfl⟩:=List.mem_map.mp (h.mem_iff.mp hx)
 rfl
theorem stk_good (lots:List Lot) (lines:List Line) (t l:Nat):(stk lots lines).good t l=((lots.getD t Lot.z).w == (lines.getD l Line.z).w && decide ((lines.getD l Line.z).day+(lines.getD l Line.z).left<=(lots.getD t Lot.z).last)):=by
 unfold Deal.Stock.good
 congr 1
theorem sort_pairs {S:Nat->Int} {n:Nat} {ys:List (Int × Nat)} (hy:ys.Perm ((List.range n).map fun i=>(S i,i))) (hs:ys.Pairwise fun a b=>ltL (keyP b) (keyP a)=false) :
  ∃ ts:List Nat,ys=ts.map (fun i=>(S i,i))/\ts.Perm (List.range n)/\ts.Pairwise fun i j=>S i<S j\/(S i=S j/\i<=j):=by
 refine ⟨ys.map (·.2),pairs_split hy,?_,?_⟩
 ·have:=hy.map (·.2)
  rw [List.map_map] at this
  simpa [Function.comp_def] using this
 ·rw [pairs_split hy] at hs
  rw [List.pairwise_map] at hs
  refine hs.imp fun {i j} q=>?_
  simp only [keyP,ltL] at q
  by_cases e:S j=S i
  ·rw [if_pos e] at q
   by_cases e2:(j:Int)=i
   ·lia
   ·rw [if_neg e2] at q;simp at q;lia
  ·rw [if_neg e] at q;simp at q;lia
theorem lotsN (lots:List Lot) (lines:List Line):lots.map (fun l=>V.int l.n)=((List.range lots.length).map (stk lots lines).cl).map V.int:=by rw [List.map_map];exact map_getD lots Lot.z _
theorem Item_of {α:Type} {f:α->V} {l:List α} {i:Nat} (z:α) (h:i<l.length) (k:P (f (l.getD i z)) σ):Item c d (.lst (l.map f)) (.int i) σ P:=za6 (.lst _) (by (exact Ar.l01 (.ile (.k 0) (.c (.v 0))) [] (by kernel_rfl) )) (item_of f l i z h) k
theorem Item_ofR {α:Type} {f:α->V} {l:List α} {i:Nat} {a:Addr} (hl:σ.lookup a=some (.list (l.map f))) (z:α) (h:i<l.length) (k:P (f (l.getD i z)) σ):Item c d (.ref a) (.int i) σ P:=za6 (.ref hl) (by (exact Ar.l01 (.ile (.k 0) (.c (.v 0))) [] (by kernel_rfl) )) (item_of f l i z h) k
theorem fresh2 {a b:Addr} {o:O} (h:b∉owned ((a,o)::σ)):b≠a/\a≠b:=by
 have:b≠a:=fun q=>h (by rw [q];cases o <;> simp [owned,O.addrs])
 exact ⟨this,this.symm⟩
theorem made_ret {loc:Bool} {F:List Addr} {ws:List V} {σ':Led} (k:σ.Sublist σ') (h:Made F loc P ws σ):Made F loc (fun v σ₁=>Ret P (.ret v) [] σ₁) ws σ':=by
 cases loc with
 | false=>exact ret_drop k h
 | true=>exact fun a ha hF=>⟨.ref a,(a,.list ws)::σ,.keep (k.cons_cons _),h a (fun q=>ha ((owned_sub k).subset q)) hF⟩
theorem best_len {lots:List Lot} {lines:List Line} {ts ls:List Nat} (hts:LotsO (stk lots lines) ts) (hls:LinesO (stk lots lines) ls):(Deal.bestOf (stk lots lines) ts ls).length<=lots.length+lines.length:=by
 rw [Deal.best_pl hts.order.nodup fun t ht=>(hts.order.mem t).mp ht]
 refine Nat.le_trans (Deal.pl_len2 hts.order.nodup) ?_
 rw [hls.perm.length_eq,hts.perm.length_eq,List.length_range,List.length_range,Nat.add_comm]
 exact Nat.le_refl _
theorem best_rows {lots:List Lot} {lines:List Line} {ts ls:List Nat} (hts:LotsO (stk lots lines) ts) (hls:LinesO (stk lots lines) ls):∀ x∈Deal.bestOf (stk lots lines) ts ls,x.1<lines.length/\x.2.1<lots.length/\0<x.2.2:=by
 rw [Deal.best_pl hts.order.nodup fun t ht=>(hts.order.mem t).mp ht]
 intro x hx
 obtain ⟨a,b,_,e⟩:=Deal.pl_row x hx
 exact ⟨(hls.order.mem _).mp a,(hts.order.mem _).mp b,e⟩
theorem S_bestL {loc:Bool} (hp:Things c.k) (hf:FnT c.k "best" 2 t_best) {lots:List Lot} {lines:List Line} (h1:∀ l∈lots,l.ok) (h2:∀ l∈lines,l.ok) (hl1:lots.length<=100) (hl2:lines.length<=100) (hl3:lots.length+lines.length<Tim.sortLid)
  (h:∀ (ts ls:List Nat) (D:List Deal.Row),LotsO (stk lots lines) ts->LinesO (stk lots lines) ls->D.Perm (Deal.bestOf (stk lots lines) ts ls)->(D.Pairwise fun a b=>ltL (keyR b) (keyR a)=false)->Made c.F loc P (D.map rowV) σ) :
  CallN c (d+5) "best" [.lst (lots.map Lot.v),.lst (lines.map Line.v)] σ P X:=by
 refine zae hf ?_
 repeat' walk_at "x"
 refine S_need_rows hp h1 h2 hl1 hl2 ?_
 repeat' walk_at "x"
 refine ⟨_,[],by simp,zaf,fun D=>?_⟩
 refine zah Lot.v (fun l=>.int l.n) lots [] (fun l hl=>⟨_,rfl,?_⟩) ?_
 ·repeat' walk_at "x"
  exact ⟨rfl,rfl⟩
 refine made_t fun a hao haF=>?_
 rw [List.nil_append,lotsN lots lines]
 repeat' walk_at "x"
 refine ⟨_,[],by simp,zbk (by (exact Ar.l01 (.le (.v 0) (.k 1000)) [(.le (.v 0) (.k 100))] (by kernel_rfl) hl1)),fun D=>?_⟩
 refine zah (fun i:Nat=>V.int i) (fun i=>pairV ((stk lots lines).last i,i)) (List.range lots.length) [] (fun i hi=>⟨_,rfl,?_⟩) ?_
 ·repeat' walk_at "x"
  refine Item_of Lot.z (by simpa using hi) ?_
  repeat' walk_at "x"
  exact ⟨rfl,rfl⟩
 refine made_f ?_
 rw [List.nil_append,show (List.range lots.length).map (fun i=>pairV ((stk lots lines).last i,i))=((List.range lots.length).map fun i=>((stk lots lines).last i,i)).map pairV by rw [List.map_map];rfl]
 repeat' walk_at "x"
 refine Call_sorted_tup pairV keyP (fun z1=>rfl) (by intro x;simp [keyP]) (.lst _) (by rw [List.length_map,List.length_range];exact Nat.lt_of_le_of_lt (Nat.le_add_right _ _) hl3) fun ys hy hs=>?_
 obtain ⟨ts,rfl,ht1,ht2⟩:=sort_pairs hy hs
 have hts:LotsO (stk lots lines) ts:=⟨ht1,ht2⟩
 clear hs hy ht1 ht2
 repeat' walk_at "x"
 intro b hbo hbF
 obtain ⟨hab,hao'⟩:=fresh2 hbo
 repeat' walk_at "x"
 refine ⟨_,[],by simp,zbk (by (exact Ar.l01 (.le (.v 0) (.k 1000)) [(.le (.v 0) (.k 100))] (by kernel_rfl) hl2)),fun D=>?_⟩
 have hp':Things ((c.pro []).hide D).k:=hp
 refine zah (fun i:Nat=>V.int i) (fun i=>pairV (-(stk lots lines).need i,i)) (List.range lines.length) [] (fun i hi=>⟨_,rfl,?_⟩) ?_
 ·repeat' walk_at "x"
  refine Item_of Line.z (by simpa using hi) ?_
  repeat' walk_at "x"
  exact ⟨rfl,rfl⟩
 clear hp' D
 refine made_f ?_
 rw [List.nil_append,show (List.range lines.length).map (fun i=>pairV (-(stk lots lines).need i,i))=((List.range lines.length).map fun i=>(-(stk lots lines).need i,i)).map pairV by rw [List.map_map];rfl]
 repeat' walk_at "x"
 refine Call_sorted_tup pairV keyP (fun z1=>rfl) (by intro x;simp [keyP]) (.lst _) (by rw [List.length_map,List.length_range];exact Nat.lt_of_le_of_lt (Nat.le_add_left _ _) hl3) fun ys hy hs=>?_
 obtain ⟨ls,rfl,ht1,ht2⟩:=sort_pairs (S:=fun i=>-(stk lots lines).need i) hy hs
 have hls:LinesO (stk lots lines) ls:=⟨ht1,ht2.imp fun q=>by lia⟩
 clear hs hy ht1 ht2
 repeat' walk_at "x"
 refine ⟨_,[],by simp,zaf,?_⟩
 rw [List.map_map,List.map_map]
 refine zb8 (pairV∘fun i=>(-(stk lots lines).need i,i)) (fun z1=>[(6,.ref b),(5,.lst (List.map (pairV∘fun i=>((stk lots lines).last i,i)) ts)),(3,.ref a),(0,.lst (lots.map Lot.v)),(1,.lst (lines.map Line.v))])
  (fun s=>(b,.list (s.2.map rowV))::(a,.list (s.1.map .int))::σ) (Deal.bLine (stk lots lines) ts) (fun rest s=>s.1.length=lots.length/\s.2.length+100 * rest.length<=10000/\∀ l∈rest,l<lines.length) ls ((List.range lots.length).map (stk lots lines).cl,[]) _ ?_ ?_ (fun s l rest hj=>?_) fun m hm hj=>?_
 ·walk_at "sub"
 ·have:=hls.perm.length_eq
  simp at this
  exact ⟨by simp,by show 0+100 * ls.length<=10000;rw [this];show 0+100 * lines.length<=10000;(exact Ar.l01 (.le (.a (.k 0) (.m 100 (.v 0))) (.k 10000)) [(.le (.v 0) (.k 100))] (by kernel_rfl) hl2),fun l hl=>List.mem_range.mp (hls.perm.mem_iff.mp hl)⟩
 ·have hp':Things (c.pro []).k:=hp
  obtain ⟨j1,j2,j3⟩:=hj
  have hl:l<lines.length:=j3 l (.head _)
  have hts3:ts.length=lots.length:=by have:=hts.perm.length_eq;rw [List.length_range] at this;exact this
  rw [List.length_cons] at j2
  show JA _ _ _ _ (.tup [.int (-(stk lots lines).need l),.int l]) _ _ _
  repeat' walk_at "x"
  refine Item_of Line.z hl ?_
  repeat' walk_at "x"
  refine ⟨_,[],by simp,zaf,?_⟩
  refine zb8 (pairV∘fun i=>((stk lots lines).last i,i)) (fun s=>[(9,.int s.want),(8,.int l),(6,.ref b),(5,.lst (ts.map (pairV∘fun i=>((stk lots lines).last i,i)))),(3,.ref a),(0,.lst (lots.map Lot.v)),(1,.lst (lines.map Line.v))])
   (fun s=>(b,.list (s.found.map rowV))::(a,.list (s.rest.map .int))::σ) (Deal.bStep (fun t=>(stk lots lines).good t l) l) (fun left u=>u.rest.length=lots.length/\u.found.length+left.length<=s.2.length+100/\∀ t∈left,t<lots.length) ts ⟨(stk lots lines).cn l,s.1,s.2⟩ _ ?_ ?_ (fun u t left hk=>?_) fun m hm hk=>?_
  ·walk_at "sub"
  ·exact ⟨j1,by show s.2.length+ts.length<=_;(exact Ar.l03 (.le (.a (.v 0) (.v 1)) (.a (.v 0) (.k 100))) [(.le (.v 2) (.k 100)),(.eq (.v 1) (.v 2))] (by kernel_rfl) hl1 hts3),fun t ht=>List.mem_range.mp (hts.perm.mem_iff.mp ht)⟩
  ·have hp'':Things ((c.pro []).pro []).k:=hp
   obtain ⟨k1,k2,k3⟩:=hk
   have ht:t<lots.length:=k3 t (.head _)
   rw [List.length_cons] at k2
   have hno:¬ (0<min u.want (u.rest.getD t 0)/\(stk lots lines).good t l=true)->Deal.bStep (fun t=>(stk lots lines).good t l) l u t=u:=fun q=>by unfold Deal.bStep;rw [if_neg q]
   have hkl:u.rest.length=lots.length/\u.found.length+left.length<=s.2.length+100/\∀ t∈left,t<lots.length:=⟨k1,by (exact Ar.l03 (.le (.a (.v 0) (.v 1)) (.a (.v 2) (.k 100))) [(.le (.a (.v 0) (.a (.v 1) (.k 1))) (.a (.v 2) (.k 100)))] (by kernel_rfl) k2),fun q hq=>k3 q (.tail _ hq)⟩
   have hgood:=stk_good lots lines t l
   show JA _ _ _ _ (.tup [.int ((stk lots lines).last t),.int t]) _ _ _
   repeat' walk_at "x"
   refine Item_ofR (za7 hao' zak) 0 (by (exact Ar.l03 (.lt (.v 0) (.v 1)) [(.eq (.v 1) (.v 2)),(.lt (.v 0) (.v 2))] (by kernel_rfl) k1 ht)) ?_
   repeat' walk_at "x"
   ·refine Item_of Lot.z ht ?_
    repeat' walk_at "x"
    refine Item_of Line.z hl ?_
    repeat' walk_at "x"
    ·rename_i hc hg
     have hyes:Deal.bStep (fun t=>(stk lots lines).good t l) l u t=⟨u.want - min u.want (u.rest.getD t 0),u.rest.set t (u.rest.getD t 0 - min u.want (u.rest.getD t 0)),u.found++[(l,t,min u.want (u.rest.getD t 0))]⟩:=by
      unfold Deal.bStep;rw [if_pos ⟨hc,hgood.trans hg⟩]
     rw [hyes]
     refine ⟨_,_,zan zak,?_⟩
     repeat' walk_at "x"
     refine zao zak (by simpa [Cx.pro] using hbF) (by rw [List.length_map];(exact Ar.l04 (.lt (.v 0) (.k 16777216)) [(.le (.a (.v 1) (.m 100 (.a (.v 2) (.k 1)))) (.k 10000)),(.le (.a (.v 0) (.a (.v 3) (.k 1))) (.a (.v 1) (.k 100)))] (by kernel_rfl) j2 k2)) ?_
     rw [zbl]
     repeat' walk_at "x"
     refine Item_ofR (za7 hao' zak) 0 (by (exact Ar.l03 (.lt (.v 0) (.v 1)) [(.eq (.v 1) (.v 2)),(.lt (.v 0) (.v 2))] (by kernel_rfl) k1 ht)) ?_
     repeat' walk_at "x"
     refine Set_list (za7 hao' zak) (by simpa [Cx.pro] using haF) (by (exact Ar.l01 (.ile (.k 0) (.c (.v 0))) [] (by kernel_rfl) )) (by rw [List.length_map,k1];simpa using ht) ?_
     rw [upd_there hab,zbl]
     refine ⟨by walk_at "sub",?_,by rw [List.length_set];exact k1,?_,hkl.2.2⟩
     ·show _=(b,Mine.O.list (List.map rowV _))::_
      rw [List.map_append,List.map_set];rfl
     ·simp only [List.length_append,List.length_cons,List.length_nil];(exact Ar.l03 (.le (.a (.a (.v 0) (.a (.k 0) (.k 1))) (.v 1)) (.a (.v 2) (.k 100))) [(.le (.a (.v 0) (.a (.v 1) (.k 1))) (.a (.v 2) (.k 100)))] (by kernel_rfl) k2)
    ·rename_i hc hg
     rw [hno (fun q=>by rw [hgood,hg] at q;cases q.2)]
     exact ⟨by walk_at "sub",rfl,hkl⟩
   ·rename_i hc
    rw [hno (fun q=>hc q.1)]
    exact ⟨by walk_at "sub",rfl,hkl⟩
  ·refine JB_nil ⟨RSub.trans (by walk_at "sub") hm,rfl,hk.1,?_,fun q hq=>j3 q (.tail _ hq)⟩
   have:=hk.2.1
   simp only [List.length_nil] at this
   show (List.foldl (Deal.bStep (fun t=>(stk lots lines).good t l) l) ⟨(stk lots lines).cn l,s.1,s.2⟩ ts).found.length+_<=_
   (exact Ar.l03 (.le (.a (.v 0) (.m 100 (.v 1))) (.k 10000)) [(.le (.a (.v 2) (.m 100 (.a (.v 1) (.k 1)))) (.k 10000)),(.le (.a (.v 0) (.k 0)) (.a (.v 2) (.k 100)))] (by kernel_rfl) j2 this)
 refine JB_sub hm ?_
 clear hm
 repeat' walk_at "x"
 refine Call_sorted_tupL (loc:=loc) rowV keyR (fun z1=>rfl) (by intro x;simp [keyR]) (.ref zak) (Nat.lt_of_le_of_lt (best_len hts hls) hl3) fun D hD hs=>?_
 exact made_ret (.cons _ (.cons _ (.refl _))) (h ts ls D hts hls hD hs)
theorem S_best (hp:Things c.k) (hf:FnT c.k "best" 2 t_best) {lots:List Lot} {lines:List Line} (h1:∀ l∈lots,l.ok) (h2:∀ l∈lines,l.ok) (hl1:lots.length<=100) (hl2:lines.length<=100) (hl3:lots.length+lines.length<Tim.sortLid)
  (h:∀ (ts ls:List Nat) (D:List Deal.Row),LotsO (stk lots lines) ts->LinesO (stk lots lines) ls->D.Perm (Deal.bestOf (stk lots lines) ts ls)->(D.Pairwise fun a b=>ltL (keyR b) (keyR a)=false)->P (.lst (D.map rowV)) σ) :
  CallN c (d+5) "best" [.lst (lots.map Lot.v),.lst (lines.map Line.v)] σ P X:=S_bestL (loc:=false) hp hf h1 h2 hl1 hl2 hl3 h
noncomputable def All (L σ:Led):Prop:=∀ p∈L,σ.lookup p.1=some p.2
section
variable {L σ':Led} {A F:List Addr} {a b:Addr} {o o':O}
theorem All.of (h:All L σ) (key:∀ x∈L.map (·.1),∀ z,σ.lookup x=some z->σ'.lookup x=some z):All L σ':=fun p hp=>key p.1 (List.mem_map_of_mem hp) _ (h p hp)
theorem All.has (h:All L σ):∀ x∈L.map (·.1),∃ v,σ.lookup x=some v:=fun x hx=>by
 obtain ⟨p,hp,e⟩:=List.mem_map.mp hx
 exact ⟨_,e ▸ h p hp⟩
theorem All.notin (h:All L σ) (hb:b∉owned σ):b∉L.map (·.1):=fun hm=>by
 obtain ⟨v,e⟩:=h.has b hm
 exact ne_of_new e hb rfl
theorem All.put (h:All L σ) (nd:(L.map (·.1)).Nodup) (i:Nat) (hi:L[i]?=some (a,o')):All (L.set i (a,o)) (upd a o σ):=fun p hp=>by
 rw [zbv (h _ (List.mem_of_getElem? hi))]
 obtain ⟨j,hj⟩:=List.mem_iff_getElem?.mp hp
 rw [List.getElem?_set] at hj
 by_cases q:i=j
 ·rw [if_pos q] at hj
  by_cases z:i<L.length
  ·rw [if_pos z] at hj
   cases hj
   exact if_pos rfl
  ·rw [if_neg z] at hj;cases hj
 ·rw [if_neg q] at hj
  have hl:i<(L.map (·.1)).length:=by rw [List.length_map];exact (List.getElem?_eq_some_iff.mp hi).1
  rw [if_neg fun z=>q ((List.getElem?_inj hl nd).mp (by rw [List.getElem?_map,List.getElem?_map,hi,hj,Option.map_some,Option.map_some,z]))]
  exact h p (List.mem_of_getElem? hj)
structure New (A:List Addr) (σ:Led) (F:List Addr):Prop where
 nd:A.Nodup
 own:∀ x∈A,x∉owned σ
 fr:∀ x∈A,x∉F
theorem New.one (h:a∉owned σ) (hF:a∉F):New [a] σ F:=⟨by simp,fun x hx=>by rw [List.mem_singleton.mp hx];exact h,fun x hx=>by rw [List.mem_singleton.mp hx];exact hF⟩
theorem New.step (h:New (L.map (·.1)) σ F) (hb:b∉owned (L++σ)) (hF:b∉F):New (b::L.map (·.1)) σ F:=by
 refine ⟨List.nodup_cons.mpr ⟨fun q=>?_,h.nd⟩,fun x hx=>?_,fun x hx=>?_⟩
 ·obtain ⟨p,hp,e⟩:=List.mem_map.mp q
  exact hb (mem_owned.mpr ⟨p.1,p.2,List.mem_append_left _ hp,e ▸ O.self _ _⟩)
 ·rcases List.mem_cons.mp hx with q | q
  ·rw [q];intro z
   obtain ⟨y,v,hm,hy⟩:=mem_owned.mp z
   exact hb (mem_owned.mpr ⟨y,v,List.mem_append_right _ hm,hy⟩)
  ·exact h.own x q
 ·rcases List.mem_cons.mp hx with q | q
  ·rw [q];exact hF
  ·exact h.fr x q
theorem New.rev (h:New A σ F):New A.reverse σ F:=⟨(List.reverse_perm A).nodup_iff.mpr h.nd,fun x hx=>h.own x (List.mem_reverse.mp hx),fun x hx=>h.fr x (List.mem_reverse.mp hx)⟩
theorem New.skip {x:Addr}:x∉L.map (·.1)->(L++σ).lookup x=σ.lookup x:=by
 induction L with
 | nil=>exact fun z1=>rfl
 | cons p r ih=>
  intro h
  rw [List.cons_append,List.lookup_cons,beq_eq_false_iff_ne.mpr fun (q:x=p.1)=>h (by rw [q];exact .head _)]
  exact ih fun q=>h (.tail _ q)
theorem New.all:(L.map (·.1)).Nodup->All L (L++σ):=by
 induction L with
 | nil=>exact fun z1 p hp=>absurd hp List.not_mem_nil
 | cons q r ih=>
  intro h p hp
  obtain ⟨h1,h2⟩:=List.nodup_cons.mp h
  rcases List.mem_cons.mp hp with e | e
  ·rw [e];exact zak
  ·exact za7 (fun z=>h1 (List.mem_map.mpr ⟨p,e,z⟩)) (ih h2 p e)
theorem New.allR (h:(L.map (·.1)).Nodup):All L (L.reverse++σ):=fun p hp=>New.all (L:=L.reverse) (by rw [List.map_reverse];exact (List.reverse_perm _).nodup_iff.mpr h) p (List.mem_reverse.mpr hp)
end
structure HouseK (k:Base) (C:Addr) (f:Str->Value):Prop where
 fld:∀ x∈(["day","lots","lines","gave","wasted","came"]:List Str),IsField k C x
 meth:∀ x∈(["receive","order","cancel","plan","throw","deal","go_to","there","open_lines","need_number","given","thrown","got"]:List Str),IsMeth k C x (f x)
 new:∃ N mN fI oI,Cls k C N mN/\mN "__init__"=some (.ref fI)/\f "__init__"=.ref fI/\k.h0.get? fI=some oI/\oI.cls=.type "function"
 cls:k.mg "House"=some (.ref C)
 f_init:FnV k (f "__init__") 1 t_House_init
 f_receive:FnV k (f "receive") 4 t_House_receive
 f_order:FnV k (f "order") 5 t_House_order
 f_cancel:FnV k (f "cancel") 2 t_House_cancel
 f_plan:∀ loc,FnV k (f "plan") 1 (t_House_plan loc)
 f_throw:FnV k (f "throw") 2 t_House_throw
 f_deal:FnV k (f "deal") 2 t_House_deal
 f_go_to:FnV k (f "go_to") 2 t_House_go_to
 f_there:FnV k (f "there") 1 t_House_there
 f_open_lines:FnV k (f "open_lines") 1 t_House_open_lines
 things:Things k
 best:FnT k "best" 2 t_best
structure HA where
 a:Addr
 C:Addr
 dd:Addr
 l:Addr
 n:Addr
 g:Addr
 w:Addr
 m:Addr
structure HS where
 day:Int
 lots:List (Int × Lot)
 lines:List (Int × Line)
 gave:List Int
 wasted:List Int
 came:List Int
noncomputable def HA.fs (H:HA) (day:Int):List (Str × V):=[("day",.int day),("lots",.ref H.l),("lines",.ref H.n),("gave",.ref H.g),("wasted",.ref H.w),("came",.ref H.m)]
noncomputable def HA.parts (H:HA):List Addr:=[H.a,H.l,H.n,H.g,H.w,H.m]
theorem HA.pa {H:HA}:H.a∈H.parts:=.head _
theorem HA.pl {H:HA}:H.l∈H.parts:=.tail _ (.head _)
theorem HA.pn {H:HA}:H.n∈H.parts:=.tail _ (.tail _ (.head _))
theorem HA.pg {H:HA}:H.g∈H.parts:=.tail _ (.tail _ (.tail _ (.head _)))
theorem HA.pw {H:HA}:H.w∈H.parts:=.tail _ (.tail _ (.tail _ (.tail _ (.head _))))
theorem HA.pm {H:HA}:H.m∈H.parts:=.tail _ (.tail _ (.tail _ (.tail _ (.tail _ (.head _)))))
noncomputable def lotsV (l:List (Int × Lot)):List (Int × V):=l.map fun p=>(p.1,p.2.v)
noncomputable def linesV (l:List (Int × Line)):List (Int × V):=l.map fun p=>(p.1,p.2.v)
noncomputable def HA.objs (H:HA) (S:HS):Led:=[(H.a,.inst H.C H.dd (H.fs S.day)),(H.l,.dictI (lotsV S.lots)),(H.n,.dictI (linesV S.lines)),(H.g,.list (S.gave.map .int)),(H.w,.list (S.wasted.map .int)),(H.m,.list (S.came.map .int))]
structure Hs (k:Base) (f:Str->Value) (H:HA) (S:HS) (σ:Led):Prop where
 K:HouseK k H.C f
 nd:H.parts.Nodup
 all:All (H.objs S) σ
noncomputable def HA.free (H:HA) (F:List Addr):Prop:=H.dd∉F/\∀ b∈H.parts,b∉F
noncomputable def Oth (H:HA) (σ σ':Led):Prop:=∀ b,b∉H.parts->σ'.lookup b=σ.lookup b
theorem Oth.refl {H:HA}:Oth H σ σ:=fun z1 z2=>rfl
theorem Oth.trans {H:HA} {σ₁ σ₂ σ₃:Led} (x:Oth H σ₁ σ₂) (y:Oth H σ₂ σ₃):Oth H σ₁ σ₃:=fun b hb=>(y b hb).trans (x b hb)
theorem Oth.upd {H:HA} {a:Addr} {o o':O} (ha:a∈H.parts) (h:σ.lookup a=some o):Oth H σ (upd a o' σ):=fun b hb=>by
 rw [zbv h,if_neg (show b≠a from fun q=>hb (by rw [q];exact ha))]
section
variable {k:Base} {f:Str->Value} {H:HA} {S:HS}
theorem Hs.a (h:Hs k f H S σ):σ.lookup H.a=some (.inst H.C H.dd (H.fs S.day)):=h.all (H.a,_) (.head _)
theorem Hs.l (h:Hs k f H S σ):σ.lookup H.l=some (.dictI (lotsV S.lots)):=h.all (H.l,_) (.tail _ (.head _))
theorem Hs.n (h:Hs k f H S σ):σ.lookup H.n=some (.dictI (linesV S.lines)):=h.all (H.n,_) (.tail _ (.tail _ (.head _)))
theorem Hs.g (h:Hs k f H S σ):σ.lookup H.g=some (.list (S.gave.map .int)):=h.all (H.g,_) (.tail _ (.tail _ (.tail _ (.head _))))
theorem Hs.w (h:Hs k f H S σ):σ.lookup H.w=some (.list (S.wasted.map .int)):=h.all (H.w,_) (.tail _ (.tail _ (.tail _ (.tail _ (.head _)))))
theorem Hs.m (h:Hs k f H S σ):σ.lookup H.m=some (.list (S.came.map .int)):=h.all (H.m,_) (.tail _ (.tail _ (.tail _ (.tail _ (.tail _ (.head _))))))
theorem Hs.of {σ':Led} (h:Hs k f H S σ) (key:∀ x∈H.parts,∀ z,σ.lookup x=some z->σ'.lookup x=some z):Hs k f H S σ':=⟨h.K,h.nd,h.all.of key⟩
theorem Hs.cons {b:Addr} {o:O} (h:Hs k f H S σ) (hb:b∉owned σ):Hs k f H S ((b,o)::σ):=h.of fun z1 z2 z3 e=>za7 (ne_of_new e hb) e
theorem Hs.notin {b:Addr} (h:Hs k f H S σ) (hb:b∉owned σ):b∉H.parts:=h.all.notin hb
theorem Hs.other {b:Addr} {o o':O} (h:Hs k f H S σ) (hb:b∉H.parts) (hl:σ.lookup b=some o'):Hs k f H S (upd b o σ):=h.of fun x hx z e=>by
 rw [zbv hl,if_neg (show x≠b from fun q=>hb (q ▸ hx))];exact e
theorem Hs.up {S':HS} {a:Addr} {o o':O} (i:Nat) (h:Hs k f H S σ) (hi:(H.objs S)[i]?=some (a,o')) (e:H.objs S'=(H.objs S).set i (a,o)):Hs k f H S' (upd a o σ):=⟨h.K,h.nd,e ▸ h.all.put h.nd i hi⟩
theorem Hs.up_a {day:Int} (h:Hs k f H S σ):Hs k f H { S with day:=day } (upd H.a (.inst H.C H.dd (H.fs day)) σ):=h.up 0 rfl rfl
theorem Hs.up_l {L:List (Int × Lot)} (h:Hs k f H S σ):Hs k f H { S with lots:=L } (upd H.l (.dictI (lotsV L)) σ):=h.up 1 rfl rfl
theorem Hs.up_n {L:List (Int × Line)} (h:Hs k f H S σ):Hs k f H { S with lines:=L } (upd H.n (.dictI (linesV L)) σ):=h.up 2 rfl rfl
theorem Hs.up_g {L:List Int} (h:Hs k f H S σ):Hs k f H { S with gave:=L } (upd H.g (.list (L.map .int)) σ):=h.up 3 rfl rfl
theorem Hs.up_w {L:List Int} (h:Hs k f H S σ):Hs k f H { S with wasted:=L } (upd H.w (.list (L.map .int)) σ):=h.up 4 rfl rfl
theorem Hs.up_m {L:List Int} (h:Hs k f H S σ):Hs k f H { S with came:=L } (upd H.m (.list (L.map .int)) σ):=h.up 5 rfl rfl
theorem Oth.new {σ':Led} (n:∀ x∈H.parts,x∉owned σ) (o:Oth H σ σ'):∀ x v,σ.lookup x=some v->σ'.lookup x=some v:=fun x v e=>(o x fun q=>n x q (owned_of e)).trans e
theorem fl_day (h:Hs k f H S σ) (hk:c.k=k):Fld c σ (.ref H.a) "day" (.int S.day):=⟨_,_,_,_,rfl,h.a,hk ▸ h.K.fld _ (List.contains_iff_mem.mp rfl),rfl,fun z1 q=>V.noConfusion q⟩
theorem fl_lots (h:Hs k f H S σ) (hk:c.k=k):Fld c σ (.ref H.a) "lots" (.ref H.l):=⟨_,_,_,_,rfl,h.a,hk ▸ h.K.fld _ (List.contains_iff_mem.mp rfl),rfl,fun z1 q=>V.noConfusion q⟩
theorem fl_lines (h:Hs k f H S σ) (hk:c.k=k):Fld c σ (.ref H.a) "lines" (.ref H.n):=⟨_,_,_,_,rfl,h.a,hk ▸ h.K.fld _ (List.contains_iff_mem.mp rfl),rfl,fun z1 q=>V.noConfusion q⟩
theorem fl_gave (h:Hs k f H S σ) (hk:c.k=k):Fld c σ (.ref H.a) "gave" (.ref H.g):=⟨_,_,_,_,rfl,h.a,hk ▸ h.K.fld _ (List.contains_iff_mem.mp rfl),rfl,fun z1 q=>V.noConfusion q⟩
theorem fl_wasted (h:Hs k f H S σ) (hk:c.k=k):Fld c σ (.ref H.a) "wasted" (.ref H.w):=⟨_,_,_,_,rfl,h.a,hk ▸ h.K.fld _ (List.contains_iff_mem.mp rfl),rfl,fun z1 q=>V.noConfusion q⟩
theorem fl_came (h:Hs k f H S σ) (hk:c.k=k):Fld c σ (.ref H.a) "came" (.ref H.m):=⟨_,_,_,_,rfl,h.a,hk ▸ h.K.fld _ (List.contains_iff_mem.mp rfl),rfl,fun z1 q=>V.noConfusion q⟩
theorem mth {x:Str} (h:Hs k f H S σ) (hk:c.k=k) (hx:(["receive","order","cancel","plan","throw","deal","go_to","there","open_lines","need_number","given","thrown","got"]:List Str).contains x=true) (hn:(H.fs S.day).lookup x=none):MethI c σ (.ref H.a) x (f x):=⟨_,_,_,_,rfl,h.a,hk ▸ h.K.meth _ (List.contains_iff_mem.mp hx),hn⟩
theorem gf_day {Q:V->Led->Prop} (h:Hs k f H S σ) (hk:c.k=k) (h2:Q (.int S.day) σ):FldAt c "day" Q (.ref H.a) σ:=⟨_,fl_day h hk,h2⟩
theorem gf_lots {Q:V->Led->Prop} (h:Hs k f H S σ) (hk:c.k=k) (h2:Q (.ref H.l) σ):FldAt c "lots" Q (.ref H.a) σ:=⟨_,fl_lots h hk,h2⟩
theorem gf_lines {Q:V->Led->Prop} (h:Hs k f H S σ) (hk:c.k=k) (h2:Q (.ref H.n) σ):FldAt c "lines" Q (.ref H.a) σ:=⟨_,fl_lines h hk,h2⟩
theorem gf_gave {Q:V->Led->Prop} (h:Hs k f H S σ) (hk:c.k=k) (h2:Q (.ref H.g) σ):FldAt c "gave" Q (.ref H.a) σ:=⟨_,fl_gave h hk,h2⟩
theorem gf_wasted {Q:V->Led->Prop} (h:Hs k f H S σ) (hk:c.k=k) (h2:Q (.ref H.w) σ):FldAt c "wasted" Q (.ref H.a) σ:=⟨_,fl_wasted h hk,h2⟩
theorem gf_came {Q:V->Led->Prop} (h:Hs k f H S σ) (hk:c.k=k) (h2:Q (.ref H.m) σ):FldAt c "came" Q (.ref H.a) σ:=⟨_,fl_came h hk,h2⟩
end
local macro_rules | `(tactic| walk_at "h")=>`(tactic| first
 | walk_at "x"
 | ((with_reducible apply gf_lots);(assumption);(rfl))
 | ((with_reducible apply gf_lines);(assumption);(rfl))
 | ((with_reducible apply gf_gave);(assumption);(rfl))
 | ((with_reducible apply gf_came);(assumption);(rfl))
 | ((with_reducible apply gf_wasted);(assumption);(rfl))
 | ((with_reducible apply gf_day);(assumption);(rfl)))
structure HS.Ok (S:HS):Prop where
 day0:0<=S.day
 day1:S.day<=1000000000000
 lot:∀ p∈S.lots,p.2.ok/\S.day<=p.2.last/\0<=p.1/\p.1<S.gave.length
 line:∀ p∈S.lines,p.2.ok/\S.day<=p.2.day/\0<=p.1/\p.1<S.came.length
 lotK:(S.lots.map (·.1)).Pairwise fun a b=>a<b
 lineK:(S.lines.map (·.1)).Pairwise fun a b=>a<b
 len:S.wasted.length=S.gave.length
 n:S.gave.length+S.came.length<=62
theorem rise_len' {n:Int}:∀ {l:List Int} {lo:Int},(l.Pairwise fun a b=>a<b)->(∀ x∈l,lo<=x/\x<n)->l≠[]->lo+l.length<=n
 | [x],lo,_,hb,_=>by
  obtain ⟨h1,h2⟩:=hb x (.head _)
  show lo+1<=n
  (exact Ar.l30 (.ile (.a (.v 0) (.k 1)) (.v 1)) [(.ile (.v 0) (.v 2)),(.ilt (.v 2) (.v 1))] (by kernel_rfl) h1 h2)
 | x::y::l,lo,h,hb,_=>by
  obtain ⟨h1,h2⟩:=List.pairwise_cons.mp h
  have:=rise_len' (lo:=x+1) h2 (fun z hz=>⟨h1 z hz,(hb z (.tail _ hz)).2⟩) (by simp)
  obtain ⟨h3,h4⟩:=hb x (.head _)
  rw [List.length_cons]
  push_cast
  (exact Ar.l31 (.ile (.a (.v 0) (.a (.c (.v 0)) (.k 1))) (.v 1)) [(.ile (.a (.a (.v 2) (.k 1)) (.c (.v 0))) (.v 1)),(.ile (.v 0) (.v 2))] (by kernel_rfl) this h3)
theorem rise_len {l:List Int} {n:Nat} (h:l.Pairwise fun a b=>a<b) (hb:∀ x∈l,0<=x/\x<n):l.length<=n:=by
 by_cases e:l=[]
 ·rw [e];exact Nat.zero_le _
 ·have:=rise_len' (n:=(n:Int)) (lo:=0) h hb e
  (exact Ar.l02 (.le (.v 0) (.v 1)) [(.ile (.a (.k 0) (.c (.v 0))) (.c (.v 1)))] (by kernel_rfl) this)
theorem lid60 {n:Nat} (h:n<=62):n<Tim.sortLid:=Nat.lt_of_le_of_lt h (by decide)
theorem HS.Ok.nb {S:HS} (o:S.Ok):S.lots.length+S.lines.length<=62:=by
 have h1:=rise_len o.lotK (n:=S.gave.length) fun x hx=>by obtain ⟨p,hp,rfl⟩:=List.mem_map.mp hx;exact (o.lot p hp).2.2
 have h2:=rise_len o.lineK (n:=S.came.length) fun x hx=>by obtain ⟨p,hp,rfl⟩:=List.mem_map.mp hx;exact (o.line p hp).2.2
 rw [List.length_map] at h1 h2
 exact Nat.le_trans (Nat.add_le_add h1 h2) o.n
theorem HS.Ok.nl {S:HS} (o:S.Ok):S.lots.length<=62:=Nat.le_trans (Nat.le_add_right _ _) o.nb
theorem HS.Ok.nn {S:HS} (o:S.Ok):S.lines.length<=62:=Nat.le_trans (Nat.le_add_left _ _) o.nb
theorem HS.Ok.ndl {S:HS} (o:S.Ok):(S.lots.map (·.1)).Nodup:=o.lotK.imp fun q e=>by rw [e] at q;exact Int.lt_irrefl _ q
theorem HS.Ok.ndn {S:HS} (o:S.Ok):(S.lines.map (·.1)).Nodup:=o.lineK.imp fun q e=>by rw [e] at q;exact Int.lt_irrefl _ q
noncomputable def lotRow (p:Int × Lot):V:=.tup [.int p.1,.str p.2.w,.int p.2.last,.int p.2.n]
noncomputable def lineRow (p:Int × Line):V:=.tup [.int p.1,.str p.2.w,.int p.2.day,.int p.2.left,.int p.2.n]
section
variable {f:Str->Value} {H:HA} {S:HS}
theorem zb0 (hh:c.k.hd=true) (hH:Hs c.k f H S σ) (hk:(S.lots.map (·.1)).Pairwise fun a b=>a<b) (hz:S.lots.length<=62) (h:P (.lst (S.lots.map fun p=>.int p.1)) σ):CallS c d (.builtin "sorted") [.ref H.l] σ P X:=by
 refine zbz hh hH.l (by rw [lotsV,List.length_map];exact lid60 hz) fun ys hp hs=>?_
 have e:(lotsV S.lots).map (·.1)=S.lots.map (·.1):=by rw [lotsV,List.map_map];rfl
 rw [e] at hp
 rw [sort_rise hp hs hk,List.map_map]
 exact h
theorem sorted_lines (hh:c.k.hd=true) (hH:Hs c.k f H S σ) (hk:(S.lines.map (·.1)).Pairwise fun a b=>a<b) (hz:S.lines.length<=62) (h:P (.lst (S.lines.map fun p=>.int p.1)) σ):CallS c d (.builtin "sorted") [.ref H.n] σ P X:=by
 refine zbz hh hH.n (by rw [linesV,List.length_map];exact lid60 hz) fun ys hp hs=>?_
 have e:(linesV S.lines).map (·.1)=S.lines.map (·.1):=by rw [linesV,List.map_map];rfl
 rw [e] at hp
 rw [sort_rise hp hs hk,List.map_map]
 exact h
theorem Item_lots {p:Int × Lot} (hH:Hs c.k f H S σ) (hn:(S.lots.map (·.1)).Nodup) (hp:p∈S.lots) (h:P p.2.v σ):Item c d (.ref H.l) (.int p.1) σ P:=
 Item_dict hH.l (by rw [lotsV,zat,zab hn hp];rfl) h
theorem zbx {p:Int × Line} (hH:Hs c.k f H S σ) (hn:(S.lines.map (·.1)).Nodup) (hp:p∈S.lines) (h:P p.2.v σ):Item c d (.ref H.n) (.int p.1) σ P:=
 Item_dict hH.n (by rw [linesV,zat,zab hn hp];rfl) h
theorem Hs.hd {k:Base} (h:Hs k f H S σ):k.hd=true:=by
 obtain ⟨_,_,_,_,h,_⟩:=h.K.f_there.ex
 exact h.hd
theorem S_there (hH:Hs c.k f H S σ) (ok:S.Ok) (h:P (.lst (S.lots.map lotRow)) σ):CallS c (d+1) (f "there") [.ref H.a] σ P X:=by
 refine zai hH.K.f_there ?_
 repeat' walk_at "h"
 refine zb0 hH.hd hH ok.lotK ok.nl ?_
 repeat' walk_at "h"
 refine ⟨_,[],by simp,zaf,fun D=>?_⟩
 refine zah (fun p:Int × Lot=>.int p.1) lotRow S.lots [] (fun p hp=>⟨_,rfl,?_⟩) ?_
 ·repeat' walk_at "h"
  refine Item_lots (c:=(c.pro []).hide D) hH ok.ndl hp ?_
  repeat' walk_at "h"
  exact Op_addt (by simp) (by simp) (by simp) ⟨rfl,rfl⟩
 exact made_f (zbc h)
theorem S_open_lines (hH:Hs c.k f H S σ) (ok:S.Ok) (h:P (.lst (S.lines.map lineRow)) σ):CallS c (d+1) (f "open_lines") [.ref H.a] σ P X:=by
 refine zai hH.K.f_open_lines ?_
 repeat' walk_at "h"
 refine sorted_lines hH.hd hH ok.lineK ok.nn ?_
 repeat' walk_at "h"
 refine ⟨_,[],by simp,zaf,fun D=>?_⟩
 refine zah (fun p:Int × Line=>.int p.1) lineRow S.lines [] (fun p hp=>⟨_,rfl,?_⟩) ?_
 ·repeat' walk_at "h"
  refine zbx (c:=(c.pro []).hide D) hH ok.ndn hp ?_
  repeat' walk_at "h"
  exact Op_addt (by simp) (by simp) (by simp) ⟨rfl,rfl⟩
 exact made_f (zbc h)
end
theorem putF_new {x:Str} {v:V}:∀ {fs:List (Str × V)},fs.lookup x=none->putF x v fs=fs++[(x,v)]
 | [],_=>rfl
 | p::r,h=>by
  obtain ⟨y,w⟩:=p
  rw [List.lookup_cons] at h
  cases q:x == y with
  | true=>rw [q] at h;cases h
  | false=>
   rw [q] at h
   unfold putF
   rw [if_neg (show y≠x from fun e=>by rw [e,beq_self_eq_true] at q;cases q),putF_new h];rfl
theorem upd_pre {a:Addr} {o x:O} {τ:Led}:∀ {pre:Led},(∀ p∈pre,p.1≠a)->upd a o (pre++(a,x)::τ)=pre++(a,o)::τ
 | [],_=>zbl
 | p::r,h=>by
  rw [List.cons_append,upd_there (h p (.head _)),upd_pre fun q hq=>h q (.tail _ hq)];rfl
theorem lookup_pre {a:Addr} {x:O} {τ:Led}:∀ {pre:Led},(∀ p∈pre,p.1≠a)->(pre++(a,x)::τ).lookup a=some x
 | [],_=>zak
 | p::r,h=>za7 (h p (.head _)).symm (lookup_pre fun q hq=>h q (.tail _ hq))
theorem Set_init {a C dd:Addr} {fs:List (Str × V)} {x:Str} {v:V} {K:Led->Prop} {pre:Led} (hp:(pre.map (·.1)++[a]).Nodup) (hF:dd∉c.F) (hx:IsField c.k C x) (hsz:fs.length<=1000) (hn:fs.lookup x=none) (h:K (pre++(a,.inst C dd (fs++[(x,v)]))::σ)) :
  SetAt c d (.ref a) x v (pre++(a,.inst C dd fs)::σ) K:=by
 have hp:∀ p∈pre,p.1≠a:=fun p q e=>(List.nodup_append.mp hp).2.2 p.1 (List.mem_map_of_mem q) a (.head _) e
 exact Set_attr (lookup_pre hp) hF hx hsz (by rw [upd_pre hp,putF_new hn];exact h)
section
variable {f:Str->Value} {C:Addr}
theorem S_new (K:HouseK c.k C f) (h:∀ (H:HA) (σ':Led),(∀ x∈H.parts,x∉owned σ)->H.free c.F->Hs c.k f H ⟨0,[],[],[],[],[]⟩ σ'->Oth H σ σ'->P (.ref H.a) σ'):CallN c (d+2) "House" [] σ P X:=by
 obtain ⟨N,mN,fI,oI,hc,k1,k2,k3,k4⟩:=K.new
 refine ⟨_,K.cls,Call_new hc k1 k3 k4 fun a dd ha hdd haF hdF hne=>?_⟩
 have n0:New [a] σ c.F:=.one ha haF
 clear ha haF hdd hne
 rw [← k2]
 refine zai K.f_init ?_
 repeat' walk_at "x"
 refine Set_init (pre:=[]) (fs:=[]) n0.nd hdF (K.fld _ (by simp)) (by simp) rfl ?_
 repeat' walk_at "x"
 intro l hl hlF
 have n1:=n0.step (L:=[(a,_)]) hl hlF
 repeat' walk_at "x"
 refine Set_init (pre:=[(l,.dictI [])]) n1.nd hdF (K.fld _ (by simp)) (by simp) rfl ?_
 repeat' walk_at "x"
 intro n hn hnF
 have n2:=n1.step (L:=[(l,_),(a,_)]) hn hnF
 repeat' walk_at "x"
 refine Set_init (pre:=[(n,.dictI []),(l,.dictI [])]) n2.nd hdF (K.fld _ (by simp)) (by simp) rfl ?_
 repeat' walk_at "x"
 intro g hg hgF
 have n3:=n2.step (L:=[(n,_),(l,_),(a,_)]) hg hgF
 repeat' walk_at "x"
 refine Set_init (pre:=[(g,.list []),(n,.dictI []),(l,.dictI [])]) n3.nd hdF (K.fld _ (by simp)) (by simp) rfl ?_
 repeat' walk_at "x"
 intro w hw hwF
 have n4:=n3.step (L:=[(g,_),(n,_),(l,_),(a,_)]) hw hwF
 repeat' walk_at "x"
 refine Set_init (pre:=[(w,.list []),(g,.list []),(n,.dictI []),(l,.dictI [])]) n4.nd hdF (K.fld _ (by simp)) (by simp) rfl ?_
 repeat' walk_at "x"
 intro m hm hmF
 have n5:=n4.step (L:=[(w,_),(g,_),(n,_),(l,_),(a,_)]) hm hmF
 clear hl hlF n0 hn hnF n1 hg hgF n2 hw hwF n3 hm hmF n4
 repeat' walk_at "x"
 refine Set_init (pre:=[(m,.list []),(w,.list []),(g,.list []),(n,.dictI []),(l,.dictI [])]) n5.nd hdF (K.fld _ (by simp)) (by simp) rfl ?_
 change Ret (fun v σ'=>v=.none/\P (.ref a) σ') .next [] _
 refine zbo ⟨rfl,?_⟩
 have n6:New (HA.parts ⟨a,C,dd,l,n,g,w,m⟩) σ c.F:=n5.rev
 exact h ⟨a,C,dd,l,n,g,w,m⟩ _ n6.own ⟨hdF,n6.fr⟩ ⟨K,n6.nd,New.allR n6.nd⟩ fun x hx=>New.skip (L:=(HA.objs ⟨a,C,dd,l,n,g,w,m⟩ ⟨0,[],[],[],[],[]⟩).reverse) fun q=>hx (List.mem_reverse.mp q)
end
theorem putK_new {α:Type} {i:Int} {x:α} {l:List (Int × α)} (h:∀ p∈l,p.1≠i):putK i x l=l++[(i,x)]:=by
 unfold putK
 rw [if_neg]
 rw [List.any_eq_true]
 rintro ⟨p,hp,e⟩
 exact h p hp (by simpa using e)
section
variable {f:Str->Value} {H:HA} {S:HS}
noncomputable def HS.receive (S:HS) (l:Lot):HS:={ S with lots:=S.lots++[((S.gave.length:Int),l)],gave:=S.gave++[0],wasted:=S.wasted++[0] }
noncomputable def HS.order (S:HS) (l:Line):HS:={ S with lines:=S.lines++[((S.came.length:Int),l)],came:=S.came++[0] }
noncomputable def HS.cancel (S:HS) (i:Int):HS:={ S with lines:=S.lines.filter fun p=>decide (p.1≠i) }
theorem rise_snoc {α:Type} {l:List (Int × α)} {n:Nat} {x:α} (h:(l.map (·.1)).Pairwise fun a b=>a<b) (hb:∀ p∈l,p.1<n):((l++[((n:Int),x)]).map (·.1)).Pairwise fun a b=>a<b:=by
 rw [List.map_append,List.pairwise_append]
 refine ⟨h,by simp,fun a ha b hb'=>?_⟩
 obtain ⟨p,hp,rfl⟩:=List.mem_map.mp ha
 simp only [List.map_cons,List.map_nil,List.mem_singleton] at hb'
 rw [hb'];exact hb p hp
theorem HS.Ok.receive {S:HS} (o:S.Ok) {l:Lot} (hl:l.ok) (hd:S.day<=l.last) (hn:S.gave.length+S.came.length<62):(S.receive l).Ok:=by
 refine ⟨o.day0,o.day1,fun p hp=>?_,o.line,rise_snoc o.lotK fun p hp=>(o.lot p hp).2.2.2,o.lineK,?_,?_⟩
 ·show _/\_/\_/\p.1<((S.gave++[0]).length:Nat)
  rw [List.length_append]
  rcases List.mem_append.mp hp with q | q
  ·have:=o.lot p q
   exact ⟨this.1,this.2.1,this.2.2.1,by have:=this.2.2.2;simp;(exact Ar.l11 (.ilt (.v 0) (.a (.c (.v 0)) (.k 1))) [(.ilt (.v 0) (.c (.v 0)))] (by kernel_rfl) this)⟩
  ·rw [List.mem_singleton.mp q]
   exact ⟨hl,hd,by lia,by simp;(exact Ar.l01 (.ilt (.c (.v 0)) (.a (.c (.v 0)) (.k 1))) [] (by kernel_rfl) )⟩
 ·show (S.wasted++[0]).length=(S.gave++[0]).length
  rw [List.length_append,List.length_append,o.len]
 ·show (S.gave++[0]).length+S.came.length<=62
  rw [List.length_append];simp;(exact Ar.l02 (.le (.a (.a (.v 0) (.k 1)) (.v 1)) (.k 62)) [(.lt (.a (.v 0) (.v 1)) (.k 62))] (by kernel_rfl) hn)
theorem HS.Ok.order {S:HS} (o:S.Ok) {l:Line} (hl:l.ok) (hd:S.day<=l.day) (hn:S.gave.length+S.came.length<62):(S.order l).Ok:=by
 refine ⟨o.day0,o.day1,o.lot,fun p hp=>?_,o.lotK,rise_snoc o.lineK fun p hp=>(o.line p hp).2.2.2,o.len,?_⟩
 ·show _/\_/\_/\p.1<((S.came++[0]).length:Nat)
  rw [List.length_append]
  rcases List.mem_append.mp hp with q | q
  ·have:=o.line p q
   exact ⟨this.1,this.2.1,this.2.2.1,by have:=this.2.2.2;simp;(exact Ar.l11 (.ilt (.v 0) (.a (.c (.v 0)) (.k 1))) [(.ilt (.v 0) (.c (.v 0)))] (by kernel_rfl) this)⟩
  ·rw [List.mem_singleton.mp q]
   exact ⟨hl,hd,by lia,by simp;(exact Ar.l01 (.ilt (.c (.v 0)) (.a (.c (.v 0)) (.k 1))) [] (by kernel_rfl) )⟩
 ·show S.gave.length+(S.came++[0]).length<=62
  rw [List.length_append];simp;(exact Ar.l02 (.le (.a (.v 0) (.a (.v 1) (.k 1))) (.k 62)) [(.lt (.a (.v 0) (.v 1)) (.k 62))] (by kernel_rfl) hn)
theorem HS.Ok.cancel {S:HS} (o:S.Ok) (i:Int):(S.cancel i).Ok:=
 ⟨o.day0,o.day1,o.lot,fun p hp=>o.line p (List.mem_filter.mp hp).1,o.lotK,o.lineK.sublist (List.filter_sublist.map _),o.len,o.n⟩
theorem HA.free.l (hF:H.free c.F):H.l∉c.F:=hF.2 _ HA.pl
theorem HA.free.n (hF:H.free c.F):H.n∉c.F:=hF.2 _ HA.pn
theorem HA.free.g (hF:H.free c.F):H.g∉c.F:=hF.2 _ HA.pg
theorem HA.free.w (hF:H.free c.F):H.w∉c.F:=hF.2 _ HA.pw
theorem HA.free.m (hF:H.free c.F):H.m∉c.F:=hF.2 _ HA.pm
theorem Set_lots {i:Int} {l:Lot} {K:Led->Prop} (hH:Hs c.k f H S σ) (hF:H.free c.F) (hz:S.lots.length<=1000) (h:∀ σ',Hs c.k f H { S with lots:=putK i l S.lots } σ'->Oth H σ σ'->K σ'):SetIt c d (.ref H.l) (.int i) l.v σ K:=by
 refine Set_dict DK.int hH.l hF.l (by rw [lotsV,List.length_map];exact hz) ?_
 rw [lotsV,putV_map Lot.v]
 exact h _ hH.up_l (.upd HA.pl hH.l)
theorem Set_lines {i:Int} {l:Line} {K:Led->Prop} (hH:Hs c.k f H S σ) (hF:H.free c.F) (hz:S.lines.length<=1000) (h:∀ σ',Hs c.k f H { S with lines:=putK i l S.lines } σ'->Oth H σ σ'->K σ'):SetIt c d (.ref H.n) (.int i) l.v σ K:=by
 refine Set_dict DK.int hH.n hF.n (by rw [linesV,List.length_map];exact hz) ?_
 rw [linesV,putV_map Line.v]
 exact h _ hH.up_n (.upd HA.pn hH.n)
theorem App_gave {i:Int} (hH:Hs c.k f H S σ) (hF:H.free c.F) (hz:S.gave.length<=1000) (h:∀ σ',Hs c.k f H { S with gave:=S.gave++[i] } σ'->Oth H σ σ'->P .none σ'):CallS c d (.builtin "list.append") [.ref H.g,.int i] σ P X:=by
 refine zao hH.g hF.g (by rw [List.length_map];(exact Ar.l01 (.lt (.v 0) (.k 16777216)) [(.le (.v 0) (.k 1000))] (by kernel_rfl) hz)) ?_
 rw [show S.gave.map V.int++[.int i]=(S.gave++[i]).map V.int by simp]
 exact h _ hH.up_g (.upd HA.pg hH.g)
theorem App_wasted {i:Int} (hH:Hs c.k f H S σ) (hF:H.free c.F) (hz:S.wasted.length<=1000) (h:∀ σ',Hs c.k f H { S with wasted:=S.wasted++[i] } σ'->Oth H σ σ'->P .none σ'):CallS c d (.builtin "list.append") [.ref H.w,.int i] σ P X:=by
 refine zao hH.w hF.w (by rw [List.length_map];(exact Ar.l01 (.lt (.v 0) (.k 16777216)) [(.le (.v 0) (.k 1000))] (by kernel_rfl) hz)) ?_
 rw [show S.wasted.map V.int++[.int i]=(S.wasted++[i]).map V.int by simp]
 exact h _ hH.up_w (.upd HA.pw hH.w)
theorem App_came {i:Int} (hH:Hs c.k f H S σ) (hF:H.free c.F) (hz:S.came.length<=1000) (h:∀ σ',Hs c.k f H { S with came:=S.came++[i] } σ'->Oth H σ σ'->P .none σ'):CallS c d (.builtin "list.append") [.ref H.m,.int i] σ P X:=by
 refine zao hH.m hF.m (by rw [List.length_map];(exact Ar.l01 (.lt (.v 0) (.k 16777216)) [(.le (.v 0) (.k 1000))] (by kernel_rfl) hz)) ?_
 rw [show S.came.map V.int++[.int i]=(S.came++[i]).map V.int by simp]
 exact h _ hH.up_m (.upd HA.pm hH.m)
theorem S_receive (hH:Hs c.k f H S σ) (hF:H.free c.F) (ok:S.Ok) {l:Lot} (hl:l.ok) (hd:S.day<=l.last) (h:∀ σ',Hs c.k f H (S.receive l) σ'->Oth H σ σ'->P (.int S.gave.length) σ') :
  CallS c (d+4) (f "receive") [.ref H.a,.str l.w,.int l.last,.int l.n] σ P X:=by
 have hn:=ok.n
 refine zai hH.K.f_receive ?_
 repeat' walk_at "h"
 refine S_is_lot (l:=l) hH.K.things (by have:=hl.w.hi;(exact Ar.l01 (.le (.v 0) (.k 1000000)) [(.le (.v 0) (.k 12))] (by kernel_rfl) this)) ?_
 rw [hl.b]
 repeat' walk_at "h"
 ·rename_i q;exact absurd q (Int.not_lt.mpr hd)
 refine Call_len_dictI hH.l (by rw [lotsV,List.length_map];have:=ok.nl;(exact Ar.l01 (.le (.v 0) (.k 1000)) [(.le (.v 0) (.k 62))] (by kernel_rfl) this)) ?_
 rw [lotsV,List.length_map]
 repeat' walk_at "h"
 ·rename_i q;have:=ok.nl;exact absurd q (by (exact Ar.l01 (.no (.ile (.k 100) (.c (.v 0)))) [(.le (.v 0) (.k 62))] (by kernel_rfl) this))
 refine zag (.ref hH.g) ?_
 rw [List.length_map]
 repeat' walk_at "h"
 refine Set_lots (l:=l) hH hF (by have:=ok.nl;(exact Ar.l01 (.le (.v 0) (.k 1000)) [(.le (.v 0) (.k 62))] (by kernel_rfl) this)) fun σ₁ h₁ o₁=>?_
 rw [putK_new fun p hp e=>by have:=(ok.lot p hp).2.2.2;lia] at h₁
 repeat' walk_at "h"
 refine ⟨_,_,zan h₁.g,?_⟩
 repeat' walk_at "h"
 refine App_gave h₁ hF (by show S.gave.length<=1000;(exact Ar.l02 (.le (.v 0) (.k 1000)) [(.le (.a (.v 0) (.v 1)) (.k 62))] (by kernel_rfl) hn)) fun σ₂ h₂ o₂=>?_
 repeat' walk_at "h"
 refine ⟨_,_,zan h₂.w,?_⟩
 repeat' walk_at "h"
 refine App_wasted h₂ hF (by show S.wasted.length<=1000;rw [ok.len];(exact Ar.l02 (.le (.v 0) (.k 1000)) [(.le (.a (.v 0) (.v 1)) (.k 62))] (by kernel_rfl) hn)) fun σ₃ h₃ o₃=>?_
 repeat' walk_at "h"
 exact h σ₃ h₃ ((o₁.trans o₂).trans o₃)
theorem S_order (hH:Hs c.k f H S σ) (hF:H.free c.F) (ok:S.Ok) {l:Line} (hl:l.ok) (hd:S.day<=l.day) (h:∀ σ',Hs c.k f H (S.order l) σ'->Oth H σ σ'->P (.int S.came.length) σ') :
  CallS c (d+4) (f "order") [.ref H.a,.str l.w,.int l.day,.int l.left,.int l.n] σ P X:=by
 have hn:=ok.n
 refine zai hH.K.f_order ?_
 repeat' walk_at "h"
 refine S_is_line (l:=l) hH.K.things (by have:=hl.w.hi;(exact Ar.l01 (.le (.v 0) (.k 1000000)) [(.le (.v 0) (.k 12))] (by kernel_rfl) this)) ?_
 rw [hl.b]
 repeat' walk_at "h"
 ·rename_i q;exact absurd q (Int.not_lt.mpr hd)
 refine Call_len_dictI hH.n (by rw [linesV,List.length_map];have:=ok.nn;(exact Ar.l01 (.le (.v 0) (.k 1000)) [(.le (.v 0) (.k 62))] (by kernel_rfl) this)) ?_
 rw [linesV,List.length_map]
 repeat' walk_at "h"
 ·rename_i q;have:=ok.nn;exact absurd q (by (exact Ar.l01 (.no (.ile (.k 100) (.c (.v 0)))) [(.le (.v 0) (.k 62))] (by kernel_rfl) this))
 refine zag (.ref hH.m) ?_
 rw [List.length_map]
 repeat' walk_at "h"
 refine Set_lines (l:=l) hH hF (by have:=ok.nn;(exact Ar.l01 (.le (.v 0) (.k 1000)) [(.le (.v 0) (.k 62))] (by kernel_rfl) this)) fun σ₁ h₁ o₁=>?_
 rw [putK_new fun p hp e=>by have:=(ok.line p hp).2.2.2;lia] at h₁
 repeat' walk_at "h"
 refine ⟨_,_,zan h₁.m,?_⟩
 repeat' walk_at "h"
 refine App_came h₁ hF (by show S.came.length<=1000;(exact Ar.l02 (.le (.v 0) (.k 1000)) [(.le (.a (.v 1) (.v 0)) (.k 62))] (by kernel_rfl) hn)) fun σ₂ h₂ o₂=>?_
 repeat' walk_at "h"
 exact h σ₂ h₂ (o₁.trans o₂)
theorem Pop_lines {p:Int × Line} (hH:Hs c.k f H S σ) (hF:H.free c.F) (ok:(S.lines.map (·.1)).Nodup) (hz:S.lines.length<=1000) (hp:p∈S.lines) (h:∀ σ',Hs c.k f H (S.cancel p.1) σ'->Oth H σ σ'->P p.2.v σ'):CallS c d (.builtin "dict.pop") [.ref H.n,.int p.1] σ P X:=by
 refine Call_dpop hH.n hF.n (by rw [linesV,List.length_map];exact hz) (by rw [linesV,zat,zab ok hp];rfl) ?_
 rw [linesV,dropK_map Line.v]
 exact h _ hH.up_n (.upd HA.pn hH.n)
theorem Pop_lots {p:Int × Lot} (hH:Hs c.k f H S σ) (hF:H.free c.F) (ok:(S.lots.map (·.1)).Nodup) (hz:S.lots.length<=1000) (hp:p∈S.lots) (h:∀ σ',Hs c.k f H { S with lots:=S.lots.filter fun q=>decide (q.1≠p.1) } σ'->Oth H σ σ'->P p.2.v σ'):CallS c d (.builtin "dict.pop") [.ref H.l,.int p.1] σ P X:=by
 refine Call_dpop hH.l hF.l (by rw [lotsV,List.length_map];exact hz) (by rw [lotsV,zat,zab ok hp];rfl) ?_
 rw [lotsV,dropK_map Lot.v]
 exact h _ hH.up_l (.upd HA.pl hH.l)
theorem any_key {α:Type} {v:α->V} {l:List (Int × α)} {p:Int × α} (hp:p∈l):((l.map fun p=>(p.1,v p.2)).any fun kv=>decide (kv.1=p.1))=true:=by
 rw [List.any_map,List.any_eq_true]
 exact ⟨p,hp,by simp⟩
theorem S_cancel (hH:Hs c.k f H S σ) (hF:H.free c.F) (ok:S.Ok) {p:Int × Line} (hp:p∈S.lines) (h:∀ σ',Hs c.k f H (S.cancel p.1) σ'->Oth H σ σ'->P .none σ') :
  CallS c (d+2) (f "cancel") [.ref H.a,.int p.1] σ P X:=by
 refine zai hH.K.f_cancel ?_
 repeat' walk_at "h"
 refine zbw hH.K.things ?_
 repeat' walk_at "h"
 refine Cmp_notIn_dict hH.n ?_
 rw [linesV,any_key hp]
 repeat' walk_at "h"
 refine ⟨_,_,Meth_dpop hH.n,?_⟩
 repeat' walk_at "h"
 refine Pop_lines hH hF ok.ndn (by have:=ok.nn;(exact Ar.l01 (.le (.v 0) (.k 1000)) [(.le (.v 0) (.k 62))] (by kernel_rfl) this)) hp fun σ₁ h₁ o₁=>?_
 repeat' walk_at "h"
 exact zbo (h σ₁ h₁ o₁)
end
noncomputable abbrev NRow:=Int × Int × Int
noncomputable def trip (x:NRow):V:=.tup [.int x.1,.int x.2.1,.int x.2.2]
noncomputable def HS.num (S:HS) (x:Deal.Row):NRow:=((S.lines.map (·.1)).getD x.1 0,(S.lots.map (·.1)).getD x.2.1 0,x.2.2)
noncomputable abbrev HS.stk (S:HS):Deal.Stock Str:=Mine.stk (S.lots.map (·.2)) (S.lines.map (·.2))
structure PlanOf (S:HS) (R:List NRow):Prop where
 ex:∃ (ts ls:List Nat) (D:List Deal.Row),LotsO S.stk ts/\LinesO S.stk ls/\D.Perm (Deal.bestOf S.stk ts ls)/\(D.Pairwise fun a b=>ltL (keyR b) (keyR a)=false)/\R=D.map S.num
section
variable {f:Str->Value} {H:HA} {S:HS}
theorem Item_int {l:List Int} {i:Nat} (h:i<l.length) (k:P (.int (l.getD i 0)) σ):Item c d (.lst (l.map V.int)) (.int i) σ P:=Item_of (f:=V.int) 0 h k
theorem S_planL {loc:Bool} (hH:Hs c.k f H S σ) (ok:S.Ok) (h:∀ R,PlanOf S R->Made c.F loc P (R.map trip) σ):CallS c (d+6) (f "plan") [.ref H.a] σ P X:=by
 have h1:∀ l∈S.lots.map (·.2),l.ok:=fun l hl=>by obtain ⟨p,hp,rfl⟩:=List.mem_map.mp hl;exact (ok.lot p hp).1
 have h2:∀ l∈S.lines.map (·.2),l.ok:=fun l hl=>by obtain ⟨p,hp,rfl⟩:=List.mem_map.mp hl;exact (ok.line p hp).1
 refine zai (hH.K.f_plan loc) ?_
 repeat' walk_at "h"
 refine zb0 hH.hd hH ok.lotK ok.nl ?_
 repeat' walk_at "h"
 refine sorted_lines hH.hd hH ok.lineK ok.nn ?_
 repeat' walk_at "h"
 refine ⟨_,[],by simp,zaf,fun D=>?_⟩
 refine zah (fun p:Int × Lot=>.int p.1) (fun p=>p.2.v) S.lots [] (fun p hp=>⟨_,rfl,?_⟩) ?_
 ·repeat' walk_at "h"
  refine Item_lots (c:=(c.pro []).hide D) hH ok.ndl hp ⟨rfl,rfl⟩
 refine made_f ?_
 repeat' walk_at "h"
 refine ⟨_,[],by simp,zaf,fun D=>?_⟩
 refine zah (fun p:Int × Line=>.int p.1) (fun p=>p.2.v) S.lines [] (fun p hp=>⟨_,rfl,?_⟩) ?_
 ·repeat' walk_at "h"
  refine zbx (c:=(c.pro []).hide D) hH ok.ndn hp ⟨rfl,rfl⟩
 refine made_f ?_
 repeat' walk_at "h"
 rw [List.nil_append,List.nil_append,show (S.lots.map fun p=>p.2.v)=(S.lots.map (·.2)).map Lot.v by rw [List.map_map];rfl,show (S.lines.map fun p=>p.2.v)=(S.lines.map (·.2)).map Line.v by rw [List.map_map];rfl]
 refine S_best hH.K.things hH.K.best h1 h2 (by rw [List.length_map];have:=ok.nl;(exact Ar.l01 (.le (.v 0) (.k 100)) [(.le (.v 0) (.k 62))] (by kernel_rfl) this)) (by rw [List.length_map];have:=ok.nn;(exact Ar.l01 (.le (.v 0) (.k 100)) [(.le (.v 0) (.k 62))] (by kernel_rfl) this)) (by rw [List.length_map,List.length_map];exact lid60 ok.nb) fun ts ls D hts hls hD hs=>?_
 repeat' walk_at "h"
 have hrow:∀ x∈D,x.1<S.lines.length/\x.2.1<S.lots.length:=fun x hx=>by
  have:=best_rows hts hls x (hD.mem_iff.mp hx)
  rw [List.length_map,List.length_map] at this
  exact ⟨this.1,this.2.1⟩
 refine ⟨_,[],by simp,zaf,fun E=>?_⟩
 rw [show (S.lots.map fun p=>V.int p.1)=(S.lots.map (·.1)).map V.int by rw [List.map_map];rfl,show (S.lines.map fun p=>V.int p.1)=(S.lines.map (·.1)).map V.int by rw [List.map_map];rfl]
 refine zah rowV (fun x=>trip (S.num x)) D [] (fun x hx=>⟨_,rfl,?_⟩) ?_
 ·repeat' walk_at "h"
  refine Item_int (by rw [List.length_map];exact (hrow x hx).1) ?_
  repeat' walk_at "h"
  refine Item_int (by rw [List.length_map];exact (hrow x hx).2) ?_
  repeat' walk_at "h"
  exact ⟨rfl,rfl⟩
 rw [List.nil_append,show (D.map fun x=>trip (S.num x))=(D.map S.num).map trip by rw [List.map_map];rfl]
 exact made_ret (.refl _) (h _ ⟨ts,ls,D,hts,hls,hD,hs,rfl⟩)
theorem S_plan (hH:Hs c.k f H S σ) (ok:S.Ok) (h:∀ R,PlanOf S R->P (.lst (R.map trip)) σ):CallS c (d+6) (f "plan") [.ref H.a] σ P X:=S_planL (loc:=false) hH ok h
end
section
variable {f:Str->Value} {H:HA} {S:HS}
theorem Set_wasted {i v:Int} {K:Led->Prop} (hH:Hs c.k f H S σ) (hF:H.free c.F) (h0:0<=i) (hi:i.toNat<S.wasted.length) (h:∀ σ',Hs c.k f H { S with wasted:=S.wasted.set i.toNat v } σ'->Oth H σ σ'->K σ'):SetIt c d (.ref H.w) (.int i) (.int v) σ K:=by
 refine Set_list hH.w hF.w h0 (by rw [List.length_map];exact hi) ?_
 rw [← List.map_set]
 exact h _ hH.up_w (.upd HA.pw hH.w)
theorem Set_gave {i v:Int} {K:Led->Prop} (hH:Hs c.k f H S σ) (hF:H.free c.F) (h0:0<=i) (hi:i.toNat<S.gave.length) (h:∀ σ',Hs c.k f H { S with gave:=S.gave.set i.toNat v } σ'->Oth H σ σ'->K σ'):SetIt c d (.ref H.g) (.int i) (.int v) σ K:=by
 refine Set_list hH.g hF.g h0 (by rw [List.length_map];exact hi) ?_
 rw [← List.map_set]
 exact h _ hH.up_g (.upd HA.pg hH.g)
theorem Set_came {i v:Int} {K:Led->Prop} (hH:Hs c.k f H S σ) (hF:H.free c.F) (h0:0<=i) (hi:i.toNat<S.came.length) (h:∀ σ',Hs c.k f H { S with came:=S.came.set i.toNat v } σ'->Oth H σ σ'->K σ'):SetIt c d (.ref H.m) (.int i) (.int v) σ K:=by
 refine Set_list hH.m hF.m h0 (by rw [List.length_map];exact hi) ?_
 rw [← List.map_set]
 exact h _ hH.up_m (.upd HA.pm hH.m)
theorem drop_mid {α:Type} {pre post:List (Int × α)} {p:Int × α} (h:((pre++p::post).map (·.1)).Nodup):(pre++p::post).filter (fun q=>decide (q.1≠p.1))=pre++post:=by
 rw [List.map_append,List.map_cons,List.nodup_append] at h
 obtain ⟨h1,h2,h3⟩:=h
 have h4:=(List.nodup_cons.mp h2).1
 rw [List.filter_append,List.filter_cons_of_neg (by simp)]
 congr 1
 ·refine List.filter_eq_self.mpr fun q hq=>?_
  simp only [ne_eq,decide_not,Bool.not_eq_true',decide_eq_false_iff_not]
  exact fun e=>h3 q.1 (List.mem_map.mpr ⟨q,hq,rfl⟩) p.1 (.head _) e
 ·refine List.filter_eq_self.mpr fun q hq=>?_
  simp only [ne_eq,decide_not,Bool.not_eq_true',decide_eq_false_iff_not]
  exact fun e=>h4 (e ▸ List.mem_map.mpr ⟨q,hq,rfl⟩)
noncomputable def throwW (day:Int) (w:List Int) (ps:List (Int × Lot)):List Int:=ps.foldl (fun w p=>if p.2.last<day then w.set p.1.toNat p.2.n else w) w
noncomputable def HS.throw (S:HS) (day:Int):HS:={ S with lots:=S.lots.filter (fun p=>decide (day<=p.2.last)),wasted:=throwW day S.wasted S.lots }
theorem throwW_len (day:Int):∀ (ps:List (Int × Lot)) (w:List Int),(throwW day w ps).length=w.length
 | [],w=>rfl
 | p::ps,w=>by
  show (throwW day (if p.2.last<day then w.set p.1.toNat p.2.n else w) ps).length=_
  rw [throwW_len day ps]
  split
  ·exact List.length_set
  ·rfl
theorem throwW_snoc (day:Int) (w:List Int) (ps:List (Int × Lot)) (p:Int × Lot):throwW day w (ps++[p])=if p.2.last<day then (throwW day w ps).set p.1.toNat p.2.n else throwW day w ps:=by
 unfold throwW
 rw [List.foldl_append];rfl
theorem HS.Ok.throw {S:HS} (o:S.Ok) (day:Int):(S.throw day).Ok:=
 ⟨o.day0,o.day1,fun p hp=>o.lot p (List.mem_filter.mp hp).1,o.line,o.lotK.sublist (List.filter_sublist.map _),o.lineK,by show (throwW day S.wasted S.lots).length=_;rw [throwW_len];exact o.len,o.n⟩
theorem S_throw {day:Int} (hH:Hs c.k f H S σ) (hF:H.free c.F) (ok:S.Ok) (h:∀ σ',Hs c.k f H (S.throw day) σ'->Oth H σ σ'->P .none σ'):CallS c (d+1) (f "throw") [.ref H.a,.int day] σ P X:=by
 have hz:=ok.nl
 refine zai hH.K.f_throw ?_
 repeat' walk_at "h"
 refine zb0 hH.hd hH ok.lotK ok.nl ?_
 repeat' walk_at "h"
 refine ⟨_,[],by simp,zaf,?_⟩
 refine zal (fun p:Int × Lot=>.int p.1) (fun z1=>[(1,.int day),(0,.ref H.a)]) (fun left done σ'=>S.lots=done++left/\Hs c.k f H { S with lots:=done.filter (fun p=>decide (day<=p.2.last))++left,wasted:=throwW day S.wasted done } σ'/\Oth H σ σ') S.lots [] _ σ ?_ ?_ (fun done p left σ₁ hj=>?_) fun done ρ σ₁ hm hj=>?_
 ·walk_at "sub"
 ·exact ⟨rfl,hH,.refl⟩
 ·obtain ⟨e,h₁,o₁⟩:=hj
  have hF':H.free (c.pro []).F:=hF
  have hmem:p∈S.lots:=by rw [e];simp
  have hp:=ok.lot p hmem
  have hnd:((done.filter (fun p=>decide (day<=p.2.last))++p::left).map (·.1)).Nodup:=by
   have hs:(done.filter (fun p=>decide (day<=p.2.last))++p::left).Sublist S.lots:=by rw [e];exact List.filter_sublist.append (.refl _)
   exact (hs.map _).nodup ok.ndl
  have hlen:(throwW day S.wasted done).length=S.gave.length:=by rw [throwW_len,ok.len]
  have hzz:(done.filter (fun p=>decide (day<=p.2.last))++p::left).length<=1000:=by
   have hs:(done.filter (fun p=>decide (day<=p.2.last))++p::left).Sublist S.lots:=by rw [e];exact List.filter_sublist.append (.refl _)
   exact Nat.le_trans hs.length_le (by (exact Ar.l01 (.le (.v 0) (.k 1000)) [(.le (.v 0) (.k 62))] (by kernel_rfl) hz))
  have hmid:p∈done.filter (fun p=>decide (day<=p.2.last))++p::left:=by simp
  repeat' walk_at "h"
  refine Item_lots (c:=c.pro []) h₁ hnd hmid ?_
  repeat' walk_at "h"
  ·rename_i q
   refine Item_lots (c:=c.pro []) h₁ hnd hmid ?_
   repeat' walk_at "h"
   refine Set_wasted (c:=c.pro []) h₁ hF' hp.2.2.1 (by show p.1.toNat<(throwW day S.wasted done).length;rw [hlen];have:=hp.2.2.2;have:=hp.2.2.1;lia) fun σ₂ h₂ o₂=>?_
   repeat' walk_at "h"
   refine ⟨_,_,Meth_dpop h₂.l,?_⟩
   repeat' walk_at "h"
   refine Pop_lots (c:=c.pro []) h₂ hF' hnd hzz hmid fun σ₃ h₃ o₃=>?_
   repeat' walk_at "h"
   refine ⟨rfl,done++[p],?_,by rw [e];simp,?_,(o₁.trans o₂).trans o₃⟩
   ·walk_at "sub"
   ·rw [drop_mid hnd] at h₃
    rw [throwW_snoc,if_pos q,List.filter_append,List.filter_cons_of_neg (by simpa using q),List.filter_nil,List.append_nil]
    exact h₃
  ·rename_i q
   refine ⟨rfl,done++[p],?_,by rw [e];simp,?_,o₁⟩
   ·walk_at "sub"
   ·rw [throwW_snoc,if_neg q,List.filter_append,List.filter_cons_of_pos (by simpa using q),List.filter_nil,List.append_assoc]
    exact h₁
 ·obtain ⟨e,h₁,o₁⟩:=hj
  rw [List.append_nil] at e
  refine JB_sub hm ?_
  repeat' walk_at "h"
  refine zbo (h σ₁ ?_ o₁)
  rw [← e,List.append_nil] at h₁
  exact h₁
end
noncomputable def HS.lineAt (S:HS) (i:Int):Line:=(S.lines.lookup i).getD Line.z
noncomputable def HS.lotAt (S:HS) (i:Int):Lot:=(S.lots.lookup i).getD Lot.z
noncomputable def quad (day:Int) (x:NRow):V:=.tup [.int day,.int x.1,.int x.2.1,.int x.2.2]
noncomputable def takeL (L:List (Int × Lot)) (i n:Int):List (Int × Lot):=L.map fun p=>if p.1=i then (p.1,{ p.2 with n:=p.2.n - n }) else p
noncomputable def HS.take (S:HS) (x:NRow):HS:={ S with lots:=takeL S.lots x.2.1 x.2.2,gave:=S.gave.set x.2.1.toNat (S.gave.getD x.2.1.toNat 0+x.2.2),came:=S.came.set x.1.toNat (S.came.getD x.1.toNat 0+x.2.2) }
noncomputable def HS.told (S:HS) (day:Int) (R:List NRow):List NRow:=R.filter fun x=>(S.lineAt x.1).day == day
noncomputable def HS.dealt (S:HS) (day:Int) (T:List NRow):HS:={ T.foldl HS.take S with lots:=(T.foldl HS.take S).lots.filter (fun p=>p.2.n != 0),lines:=S.lines.filter (fun p=>p.2.day != day) }
theorem takeL_keys (L:List (Int × Lot)) (i n:Int):(takeL L i n).map (·.1)=L.map (·.1):=by
 unfold takeL
 rw [List.map_map]
 refine List.map_congr_left fun p z1=>?_
 simp only [Function.comp]
 split <;> rfl
structure Same (A S:HS):Prop where
 keys:A.lots.map (·.1)=S.lots.map (·.1)
 gave:A.gave.length=S.gave.length
 came:A.came.length=S.came.length
 lines:A.lines=S.lines
 wasted:A.wasted=S.wasted
 day:A.day=S.day
theorem zbs (T:List NRow) (S:HS):Same (T.foldl HS.take S) S:=by
 induction T generalizing S with
 | nil=>exact ⟨rfl,rfl,rfl,rfl,rfl,rfl⟩
 | cons x T ih=>
  have h:=ih (S.take x)
  exact ⟨h.keys.trans (takeL_keys ..),h.gave.trans List.length_set,h.came.trans List.length_set,h.lines,h.wasted,h.day⟩
theorem zb2 {α:Type}:∀ {l:List (Int × α)} {i:Int} {x:α},l.lookup i=some x->(i,x)∈l
 | (j,y)::l,i,x,h=>by
  rw [List.lookup_cons] at h
  cases q:i == j with
  | true=>rw [q] at h;cases h;rw [eq_of_beq q];exact .head _
  | false=>rw [q] at h;exact .tail _ (zb2 h)
theorem putK_take {L:List (Int × Lot)} {i n:Int} {l:Lot} (hn:(L.map (·.1)).Nodup) (hl:L.lookup i=some l):putK i { l with n:=l.n - n } L=takeL L i n:=by
 unfold putK takeL
 rw [if_pos]
 ·refine List.map_congr_left fun p hp=>?_
  by_cases e:p.1=i
  ·rw [if_pos e,if_pos e]
   have:=zab hn hp
   rw [e,hl] at this
   cases this;rfl
  ·rw [if_neg e,if_neg e]
 ·rw [List.any_eq_true]
  exact ⟨(i,l),zb2 hl,by simp⟩
theorem lookup_key {α:Type} {l:List (Int × α)} {i:Int} (h:i∈l.map (·.1)):∃ x,l.lookup i=some x:=by
 cases q:l.lookup i with
 | some x=>exact ⟨x,rfl⟩
 | none=>
  obtain ⟨p,hp,e⟩:=List.mem_map.mp h
  have:=List.lookup_eq_none_iff.mp q p hp
  rw [e] at this;simp at this
theorem PlanOf.row {S:HS} {R:List NRow} (ok:S.Ok) (h:PlanOf S R):(∀ x∈R,x.1∈S.lines.map (·.1)/\x.2.1∈S.lots.map (·.1)/\0<x.2.2)/\R.length<=3600:=by
 obtain ⟨ts,ls,D,hts,hls,hD,hs,rfl⟩:=h.ex
 refine ⟨fun x hx=>?_,?_⟩
 ·obtain ⟨y,hy,rfl⟩:=List.mem_map.mp hx
  have:=best_rows hts hls y (hD.mem_iff.mp hy)
  rw [List.length_map,List.length_map] at this
  refine ⟨?_,?_,this.2.2⟩
  ·exact List.mem_of_getElem? (getD_get? (S.lines.map (·.1)) y.1 0 (by rw [List.length_map];exact this.1))
  ·exact List.mem_of_getElem? (getD_get? (S.lots.map (·.1)) y.2.1 0 (by rw [List.length_map];exact this.2.1))
 ·rw [List.length_map,hD.length_eq]
  have:=best_len hts hls
  rw [List.length_map,List.length_map] at this
  exact Nat.le_trans this (Nat.le_trans ok.nb (by decide))
theorem zb3 {b t:Addr}:∀ σ:Led,(σ.filter fun p=>p.1 != t).lookup b=if b=t then none else σ.lookup b
 | []=>by simp
 | (x,o)::σ=>by
  rw [List.filter_cons]
  by_cases e:x=t
  ·subst e
   simp only [bne_self_eq_false,Bool.false_eq_true,if_false]
   rw [zb3 σ]
   by_cases z:b=x
   ·rw [if_pos z,if_pos z]
   ·rw [if_neg z,if_neg z,List.lookup_cons,beq_eq_false_iff_ne.mpr z]
  ·have:(x != t)=true:=by simpa using e
   simp only [this,if_true]
   rw [List.lookup_cons,List.lookup_cons,zb3 σ]
   by_cases z:b=x
   ·subst z;simp [e]
   ·rw [beq_eq_false_iff_ne.mpr z]
section
variable {f:Str->Value} {H:HA} {S:HS}
theorem Hs.drop {k:Base} {t:Addr} (h:Hs k f H S σ) (ht:t∉H.parts):Hs k f H S (σ.filter fun p=>p.1 != t):=h.of fun x hx z e=>by
 rw [zb3,if_neg (show x≠t from fun q=>ht (q ▸ hx))];exact e
theorem lookup_none {t:Addr} (h:t∉owned σ):σ.lookup t=none:=by
 cases q:σ.lookup t with
 | none=>rfl
 | some o=>exact absurd (owned_of q) h
theorem Oth.drop {t:Addr} {o:O} {σ':Led} (h:Oth H ((t,o)::σ) σ') (ht:t∉owned σ):Oth H σ (σ'.filter fun p=>p.1 != t):=fun b hb=>by
 rw [zb3]
 by_cases e:b=t
 ·rw [if_pos e,e,lookup_none ht]
 ·rw [if_neg e,h b hb,List.lookup_cons,beq_eq_false_iff_ne.mpr e]
theorem Item_line {i:Int} {l:Line} (hH:Hs c.k f H S σ) (hl:S.lines.lookup i=some l) (h:P l.v σ):Item c d (.ref H.n) (.int i) σ P:=
 Item_dict hH.n (by rw [linesV,zat,hl];rfl) h
theorem Item_lot {i:Int} {l:Lot} (hH:Hs c.k f H S σ) (hl:S.lots.lookup i=some l) (h:P l.v σ):Item c d (.ref H.l) (.int i) σ P:=
 Item_dict hH.l (by rw [lotsV,zat,hl];rfl) h
theorem za2 {a:Addr} {l:List Int} {i:Int} (hl:σ.lookup a=some (.list (l.map .int))) (h0:0<=i) (hi:i.toNat<l.length) (h:P (.int (l.getD i.toNat 0)) σ):Item c d (.ref a) (.int i) σ P:=
 za6 (.ref hl) h0 (by simp [hi]) h
theorem line_at {x:NRow} (h:x.1∈S.lines.map (·.1)):S.lines.lookup x.1=some (S.lineAt x.1):=by
 obtain ⟨l,e⟩:=lookup_key h
 unfold HS.lineAt;rw [e];rfl
theorem Hs.free_pro {k:Base} {t:Addr} {F:List Addr} (hH:Hs k f H S σ) (hF:H.free F) (ht:t∉owned σ):H.free ([t]++F):=by
 refine ⟨fun q=>?_,fun b hb q=>?_⟩
 ·rcases List.mem_cons.mp q with q | q
  ·exact ht (mem_owned.mpr ⟨H.a,_,zaa hH.a,by rw [← q];simp [O.addrs]⟩)
  ·exact hF.1 q
 ·rcases List.mem_cons.mp q with q | q
  ·exact hH.notin ht (by rw [← q];exact hb)
  ·exact hF.2 b hb q
theorem S_deal {day:Int} (hH:Hs c.k f H S σ) (hF:H.free c.F) (ok:S.Ok) (h:∀ R σ',PlanOf S R->Hs c.k f H (S.dealt day (S.told day R)) σ'->Oth H σ σ'->P (.lst ((S.told day R).map (quad day))) σ') :
  CallS c (d+7) (f "deal") [.ref H.a,.int day] σ P X:=by
 have hzl:=ok.nl
 have hzn:=ok.nn
 refine zai hH.K.f_deal ?_
 repeat' walk_at "h"
 intro t hto htF
 have hH₀:=hH.cons (o:=.list []) hto
 have htp:=hH.notin hto
 repeat' walk_at "h"
 refine ⟨_,mth hH₀ rfl rfl rfl,?_⟩
 repeat' walk_at "h"
 refine S_plan hH₀ ok fun R hR=>?_
 obtain ⟨hrow,hRl⟩:=hR.row ok
 repeat' walk_at "h"
 refine ⟨_,[],by simp,zaf,?_⟩
 refine zal trip (fun z1=>[(2,.ref t),(1,.int day),(0,.ref H.a)]) (fun left done σ'=>R=done++left/\σ'=(t,.list ((S.told day done).map (quad day)))::σ) R [] _ _ ?_ ?_ (fun done x left σ₁ hj=>?_) fun done ρ σ₁ hm hj=>?_
 ·walk_at "sub"
 ·exact ⟨rfl,rfl⟩
 ·obtain ⟨e,rfl⟩:=hj
  have hx:=hrow x (by rw [e];simp)
  have h₁:=hH.cons (o:=.list ((S.told day done).map (quad day))) hto
  have hlen:(S.told day done).length<=3600:=Nat.le_trans (List.length_filter_le _ _) (by rw [e,List.length_append] at hRl;(exact Ar.l02 (.le (.v 0) (.k 3600)) [(.le (.a (.v 0) (.v 1)) (.k 3600))] (by kernel_rfl) hRl))
  have hto':∀ b:Bool,((S.lineAt x.1).day == day)=b->S.told day (done++[x])=S.told day done++(if b=true then [x] else []):=fun b hb=>by
   unfold HS.told
   rw [List.filter_append]
   cases b with
   | true=>rw [List.filter_cons_of_pos (p:=fun x:NRow=>(S.lineAt x.1).day == day) hb];rfl
   | false=>rw [List.filter_cons_of_neg (p:=fun x:NRow=>(S.lineAt x.1).day == day) (by rw [hb];decide)];rfl
  show JA _ _ _ _ (.tup [.int x.1,.int x.2.1,.int x.2.2]) _ _ _
  repeat' walk_at "h"
  refine Item_line (c:=c.pro []) h₁ (line_at hx.1) ?_
  repeat' walk_at "h"
  ·rename_i q
   refine ⟨_,_,zan zak,?_⟩
   repeat' walk_at "h"
   refine zao zak htF (by rw [List.length_map];(exact Ar.l01 (.lt (.v 0) (.k 16777216)) [(.le (.v 0) (.k 3600))] (by kernel_rfl) hlen)) ?_
   rw [zbl]
   repeat' walk_at "h"
   refine ⟨rfl,done++[x],?_,by rw [e];simp,?_⟩
   ·walk_at "sub"
   ·rw [hto' true (by simpa using q),if_pos rfl,List.map_append];rfl
  ·rename_i q
   refine ⟨rfl,done++[x],?_,by rw [e];simp,?_⟩
   ·walk_at "sub"
   ·rw [hto' false (by simpa using q)];simp
 obtain ⟨e,rfl⟩:=hj
 rw [List.append_nil] at e
 subst e
 refine JB_sub hm ?_
 clear hm
 repeat' walk_at "h"
 have hT:∀ x∈S.told day R,x.1∈S.lines.map (·.1)/\x.2.1∈S.lots.map (·.1):=fun x hx=>⟨(hrow x (List.mem_filter.mp hx).1).1,(hrow x (List.mem_filter.mp hx).1).2.1⟩
 refine ⟨_,[t],by simp [owned,O.addrs],Iter_ref zak (by simp [Cx.pro]),?_⟩
 have hF₂:H.free (c.pro [t]).F:=hH.free_pro hF hto
 have h₁:=hH.cons (o:=.list ((S.told day R).map (quad day))) hto
 refine zal (quad day) (fun z1=>[(2,.ref t),(1,.int day),(0,.ref H.a)]) (fun left done σ'=>S.told day R=done++left/\Hs c.k f H (done.foldl HS.take S) σ'/\Oth H ((t,.list ((S.told day R).map (quad day)))::σ) σ') (S.told day R) [] _ _ ?_ ?_ (fun done x left σ₁ hj=>?_) fun done ρ σ₁ hm hj=>?_
 ·walk_at "sub"
 ·exact ⟨rfl,h₁,.refl⟩
 ·obtain ⟨e,h₂,o₂⟩:=hj
  obtain ⟨k1,k2,k3,k4,k5,k6⟩:=zbs done S
  have hx:=hT x (by rw [e];simp)
  obtain ⟨l,hl⟩:=lookup_key (l:=(done.foldl HS.take S).lots) (i:=x.2.1) (by rw [k1];exact hx.2)
  obtain ⟨p,hp,ep⟩:=List.mem_map.mp hx.1
  obtain ⟨q,hq,eq⟩:=List.mem_map.mp hx.2
  have b1:=(ok.line p hp).2.2
  have b2:=(ok.lot q hq).2.2
  rw [ep] at b1
  rw [eq] at b2
  show JA _ _ _ _ (.tup [.int day,.int x.1,.int x.2.1,.int x.2.2]) _ _ _
  repeat' walk_at "h"
  refine Item_lot (c:=c.pro [t]) h₂ hl ?_
  repeat' walk_at "h"
  refine Set_lots (c:=c.pro [t]) (l:={ l with n:=l.n - x.2.2 }) h₂ hF₂ (by have:=congrArg List.length k1;simp at this;rw [this];(exact Ar.l01 (.le (.v 0) (.k 1000)) [(.le (.v 0) (.k 62))] (by kernel_rfl) hzl)) fun σ₂ h₃ o₃=>?_
  rw [putK_take (by rw [k1];exact ok.ndl) hl] at h₃
  repeat' walk_at "h"
  refine za2 h₃.g b2.1 (by show x.2.1.toNat<(done.foldl HS.take S).gave.length;rw [k2];lia) ?_
  repeat' walk_at "h"
  refine Set_gave (c:=c.pro [t]) h₃ hF₂ b2.1 (by show x.2.1.toNat<(done.foldl HS.take S).gave.length;rw [k2];lia) fun σ₃ h₄ o₄=>?_
  repeat' walk_at "h"
  refine za2 h₄.m b1.1 (by show x.1.toNat<(done.foldl HS.take S).came.length;rw [k3];lia) ?_
  repeat' walk_at "h"
  refine Set_came (c:=c.pro [t]) h₄ hF₂ b1.1 (by show x.1.toNat<(done.foldl HS.take S).came.length;rw [k3];lia) fun σ₄ h₅ o₅=>?_
  repeat' walk_at "h"
  refine ⟨rfl,done++[x],?_,by rw [e];simp,?_,((o₂.trans o₃).trans o₄).trans o₅⟩
  ·walk_at "sub"
  ·rw [List.foldl_append];exact h₅
 obtain ⟨e,h₂,o₂⟩:=hj
 rw [List.append_nil] at e
 subst e
 refine JB_sub hm ?_
 clear hm
 obtain ⟨k1,k2,k3,k4,k5,k6⟩:=zbs (S.told day R) S
 repeat' walk_at "h"
 refine sorted_lines hH.hd h₂ (by rw [k4];exact ok.lineK) (by rw [k4];exact ok.nn) ?_
 rw [k4]
 repeat' walk_at "h"
 refine ⟨_,[],by simp,zaf,?_⟩
 refine zal (fun p:Int × Line=>.int p.1) (fun z1=>[(2,.ref t),(1,.int day),(0,.ref H.a)]) (fun left done σ'=>S.lines=done++left/\Hs c.k f H { (S.told day R).foldl HS.take S with lines:=done.filter (fun p=>p.2.day != day)++left } σ'/\Oth H ((t,.list ((S.told day R).map (quad day)))::σ) σ') S.lines [] _ _ ?_ ?_ (fun done p left σ₃ hj=>?_) fun done ρ σ₃ hm hj=>?_
 ·walk_at "sub"
 ·refine ⟨rfl,?_,o₂⟩
  have:({ (S.told day R).foldl HS.take S with lines:=([]:List (Int × Line)).filter (fun p=>p.2.day != day)++S.lines }:HS)=(S.told day R).foldl HS.take S:=by
   rw [List.filter_nil,List.nil_append,← k4]
  rw [this];exact h₂
 ·obtain ⟨e,h₃,o₃⟩:=hj
  have hF':H.free (c.pro []).F:=hF
  have hs:(done.filter (fun p=>p.2.day != day)++p::left).Sublist S.lines:=by rw [e];exact List.filter_sublist.append (.refl _)
  have hnd:((done.filter (fun p=>p.2.day != day)++p::left).map (·.1)).Nodup:=(hs.map _).nodup ok.ndn
  have hzz:(done.filter (fun p=>p.2.day != day)++p::left).length<=1000:=Nat.le_trans hs.length_le (by (exact Ar.l01 (.le (.v 0) (.k 1000)) [(.le (.v 0) (.k 62))] (by kernel_rfl) hzn))
  have hmid:p∈done.filter (fun p=>p.2.day != day)++p::left:=by simp
  repeat' walk_at "h"
  refine zbx (c:=c.pro []) h₃ hnd hmid ?_
  repeat' walk_at "h"
  ·rename_i q
   refine ⟨_,_,Meth_dpop h₃.n,?_⟩
   repeat' walk_at "h"
   refine Pop_lines (c:=c.pro []) h₃ hF' hnd hzz hmid fun σ₄ h₄ o₄=>?_
   repeat' walk_at "h"
   refine ⟨rfl,done++[p],?_,by rw [e];simp,?_,o₃.trans o₄⟩
   ·walk_at "sub"
   ·unfold HS.cancel at h₄
    dsimp only at h₄
    rw [drop_mid hnd] at h₄
    rw [List.filter_append,List.filter_cons_of_neg (by simpa using q),List.filter_nil,List.append_nil]
    exact h₄
  ·rename_i q
   refine ⟨rfl,done++[p],?_,by rw [e];simp,?_,o₃⟩
   ·walk_at "sub"
   ·rw [List.filter_append,List.filter_cons_of_pos (by simpa using q),List.filter_nil,List.append_assoc]
    exact h₃
 obtain ⟨e,h₃,o₃⟩:=hj
 rw [List.append_nil] at e
 subst e
 rw [List.append_nil] at h₃
 refine JB_sub hm ?_
 clear hm
 repeat' walk_at "h"
 have hlk:(((S.told day R).foldl HS.take S).lots.map (·.1)).Pairwise fun a b=>a<b:=by rw [k1];exact ok.lotK
 have hll:((S.told day R).foldl HS.take S).lots.length=S.lots.length:=by have:=congrArg List.length k1;simpa using this
 refine zb0 hH.hd h₃ hlk (by show ((S.told day R).foldl HS.take S).lots.length<=62;rw [hll];exact ok.nl) ?_
 repeat' walk_at "h"
 refine ⟨_,[],by simp,zaf,?_⟩
 refine zal (fun p:Int × Lot=>.int p.1) (fun z1=>[(2,.ref t),(1,.int day),(0,.ref H.a)]) (fun left done σ'=>((S.told day R).foldl HS.take S).lots=done++left/\Hs c.k f H { (S.told day R).foldl HS.take S with lines:=S.lines.filter (fun p=>p.2.day != day),lots:=done.filter (fun p=>p.2.n != 0)++left } σ'/\Oth H ((t,.list ((S.told day R).map (quad day)))::σ) σ') ((S.told day R).foldl HS.take S).lots [] _ _ ?_ ?_ (fun done p left σ₄ hj=>?_) fun done ρ σ₄ hm hj=>?_
 ·walk_at "sub"
 ·exact ⟨rfl,h₃,o₃⟩
 ·obtain ⟨e,h₄,o₄⟩:=hj
  have hF':H.free (c.pro []).F:=hF
  have hs:(done.filter (fun p=>p.2.n != 0)++p::left).Sublist ((S.told day R).foldl HS.take S).lots:=by rw [e];exact List.filter_sublist.append (.refl _)
  have hnd:((done.filter (fun p=>p.2.n != 0)++p::left).map (·.1)).Nodup:=(hs.map _).nodup (by rw [k1];exact ok.ndl)
  have hzz:(done.filter (fun p=>p.2.n != 0)++p::left).length<=1000:=Nat.le_trans hs.length_le (by rw [hll];(exact Ar.l01 (.le (.v 0) (.k 1000)) [(.le (.v 0) (.k 62))] (by kernel_rfl) hzl))
  have hmid:p∈done.filter (fun p=>p.2.n != 0)++p::left:=by simp
  repeat' walk_at "h"
  refine Item_lots (c:=c.pro []) h₄ hnd hmid ?_
  repeat' walk_at "h"
  ·rename_i q
   refine ⟨_,_,Meth_dpop h₄.l,?_⟩
   repeat' walk_at "h"
   refine Pop_lots (c:=c.pro []) h₄ hF' hnd hzz hmid fun σ₅ h₅ o₅=>?_
   repeat' walk_at "h"
   refine ⟨rfl,done++[p],?_,by rw [e];simp,?_,o₄.trans o₅⟩
   ·walk_at "sub"
   ·rw [drop_mid hnd] at h₅
    rw [List.filter_append,List.filter_cons_of_neg (by simpa using q),List.filter_nil,List.append_nil]
    exact h₅
  ·rename_i q
   refine ⟨rfl,done++[p],?_,by rw [e];simp,?_,o₄⟩
   ·walk_at "sub"
   ·rw [List.filter_append,List.filter_cons_of_pos (by simpa using q),List.filter_nil,List.append_assoc]
    exact h₄
 obtain ⟨e,h₄,o₄⟩:=hj
 rw [List.append_nil] at e
 rw [← e,List.append_nil] at h₄
 refine JB_sub hm ?_
 clear hm
 have hlt:σ₄.lookup t=some (.list ((S.told day R).map (quad day))):=(o₄ t htp).trans zak
 refine JB_go ?_
 show Ret P (.ret (.ref t)) [] σ₄
 exact ⟨_,_,.freeze hlt (.refl _),h R _ hR (h₄.drop htp) (o₄.drop hto)⟩
end
noncomputable def HS.gd (S:HS) (t l:Int):Bool:=decide ((S.lotAt t).w=(S.lineAt l).w) && decide ((S.lineAt l).need<=(S.lotAt t).last)
noncomputable def HS.want (S:HS) (l:Int):Int:=(S.lineAt l).n
noncomputable def HS.rest (S:HS) (t:Int):Int:=(S.lotAt t).n
structure LotsN (S:HS) (ts:List Int):Prop where
 perm:ts.Perm (S.lots.map (·.1))
 asc:ts.Pairwise fun a b=>(S.lotAt a).last<(S.lotAt b).last\/((S.lotAt a).last=(S.lotAt b).last/\a<b)
structure LinesN (S:HS) (ls:List Int):Prop where
 perm:ls.Perm (S.lines.map (·.1))
 desc:ls.Pairwise fun a b=>(S.lineAt b).need<(S.lineAt a).need\/((S.lineAt a).need=(S.lineAt b).need/\a<b)
noncomputable def PlN (S:HS) (Q:List NRow):Prop:=∃ ts ls,LotsN S ts/\LinesN S ls/\Q=Deal.pl S.gd S.want ts ls S.rest
theorem lot_at {S:HS} (hn:(S.lots.map (·.1)).Nodup) {p:Int × Lot} (hp:p∈S.lots):S.lotAt p.1=p.2:=by
 unfold HS.lotAt;rw [zab hn hp];rfl
theorem line_at' {S:HS} (hn:(S.lines.map (·.1)).Nodup) {p:Int × Line} (hp:p∈S.lines):S.lineAt p.1=p.2:=by
 unfold HS.lineAt;rw [zab hn hp];rfl
theorem no_idx {α:Type} {l:List (Int × α)} {t:Nat} (z:Int × α) (ht:t<l.length):(l.getD t z).1=(l.map (·.1)).getD t 0/\(∀ y,(l.getD t z).2=(l.map (·.2)).getD t y)/\l.getD t z∈l:=by
 refine ⟨by simp [ht],fun y=>by simp [ht],?_⟩
 exact List.mem_of_getElem? (getD_get? l t z ht)
theorem rise_idx {l:List Int} (h:l.Pairwise fun a b=>a<b) {i j:Nat} (hij:i<j) (hj:j<l.length):l.getD i 0<l.getD j 0:=by
 have hi:i<l.length:=Nat.lt_trans hij hj
 have:=List.pairwise_iff_getElem.mp h i j hi hj hij
 simpa [hi,hj] using this
theorem PlanOf.pln {S:HS} {R:List NRow} (ok:S.Ok) (h:PlanOf S R):∃ Q,PlN S Q/\R.Perm Q:=by
 obtain ⟨ts,ls,D,hts,hls,hD,hs,rfl⟩:=h.ex
 have tlt:∀ t∈ts,t<S.lots.length:=fun t ht=>by have:=(hts.order.mem t).mp ht;simpa [Mine.stk] using this
 have llt:∀ l∈ls,l<S.lines.length:=fun l hl=>by have:=(hls.order.mem l).mp hl;simpa [Mine.stk] using this
 have tat:∀ t∈ts,S.lotAt ((S.lots.map (·.1)).getD t 0)=(S.lots.map (·.2)).getD t Lot.z:=fun t ht=>by
  obtain ⟨e1,e2,e3⟩:=no_idx (0,Lot.z) (tlt t ht)
  rw [← e1,lot_at ok.ndl e3,e2]
 have lat:∀ l∈ls,S.lineAt ((S.lines.map (·.1)).getD l 0)=(S.lines.map (·.2)).getD l Line.z:=fun l hl=>by
  obtain ⟨e1,e2,e3⟩:=no_idx (0,Line.z) (llt l hl)
  rw [← e1,line_at' ok.ndn e3,e2]
 refine ⟨_,⟨ts.map fun t=>(S.lots.map (·.1)).getD t 0,ls.map fun l=>(S.lines.map (·.1)).getD l 0,⟨?_,?_⟩,⟨?_,?_⟩,rfl⟩,?_⟩
 ·have e:=map_getD (S.lots.map (·.1)) 0 id
  rw [List.map_id] at e
  conv=>rhs;rw [e]
  refine (hts.perm.map _).trans (.of_eq ?_)
  show (List.range (S.lots.map (·.2)).length).map _=_
  rw [List.length_map,List.length_map];rfl
 ·rw [List.pairwise_map]
  refine List.Pairwise.imp_of_mem ?_ (hts.asc.and hts.order.nodup)
  intro a b ha hb ⟨q,hne⟩
  rw [tat a ha,tat b hb]
  refine q.imp id fun q=>⟨q.1,rise_idx ok.lotK (Nat.lt_of_le_of_ne q.2 hne) (by rw [List.length_map];exact tlt b hb)⟩
 ·have e:=map_getD (S.lines.map (·.1)) 0 id
  rw [List.map_id] at e
  conv=>rhs;rw [e]
  refine (hls.perm.map _).trans (.of_eq ?_)
  show (List.range (S.lines.map (·.2)).length).map _=_
  rw [List.length_map,List.length_map];rfl
 ·rw [List.pairwise_map]
  refine List.Pairwise.imp_of_mem ?_ (hls.desc.and hls.order.nodup)
  intro a b ha hb ⟨q,hne⟩
  rw [lat a ha,lat b hb]
  refine q.imp id fun q=>⟨q.1,rise_idx ok.lineK (Nat.lt_of_le_of_ne q.2 hne) (by rw [List.length_map];exact llt b hb)⟩
 ·rw [Deal.pl_map (gd:=S.stk.good) (want:=S.stk.cn) (r:=S.stk.cl) (fun t ht u hu e=>?_) (fun t ht=>?_) (fun l hl=>⟨?_,fun t ht=>?_⟩)]
  ·rw [← Deal.best_pl hts.order.nodup fun t ht=>(hts.order.mem t).mp ht]
   exact hD.map _
  ·rcases Nat.lt_trichotomy t u with q | q | q
   ·have:=rise_idx ok.lotK q (by rw [List.length_map];exact tlt u hu);(exact Ar.l22 (.eq (.v 0) (.v 1)) [(.ieq (.v 0) (.v 1)),(.ilt (.v 0) (.v 1))] (by kernel_rfl) e this)
   ·exact q
   ·have:=rise_idx ok.lotK q (by rw [List.length_map];exact tlt t ht);(exact Ar.l22 (.eq (.v 0) (.v 1)) [(.ieq (.v 0) (.v 1)),(.ilt (.v 1) (.v 0))] (by kernel_rfl) e this)
  ·unfold HS.rest;rw [tat t ht];rfl
  ·unfold HS.want;rw [lat l hl];rfl
  ·unfold HS.gd;rw [tat t ht,lat l hl];rfl
theorem lots_nonneg {S:HS} (ok:S.Ok) (t:Int):0<=S.rest t:=by
 unfold HS.rest HS.lotAt
 cases q:S.lots.lookup t with
 | none=>exact Int.le_refl 0
 | some l=>have:=(ok.lot _ (zb2 q)).1.n0;simp only [Option.getD_some];(exact Ar.l10 (.ile (.k 0) (.v 0)) [(.ile (.k 1) (.v 0))] (by kernel_rfl) this)
noncomputable def amtN (T:List NRow) (i:Int):Int:=((T.filter fun x=>decide (x.2.1=i)).map (·.2.2)).sum
theorem take_lots:∀ (T:List NRow) (S:HS),(T.foldl HS.take S).lots=S.lots.map fun p=>(p.1,{ p.2 with n:=p.2.n - amtN T p.1 })
 | [],S=>by
  show S.lots=_
  conv=>lhs;rw [← List.map_id S.lots]
  refine List.map_congr_left fun p z1=>?_
  show p=(p.1,{ p.2 with n:=p.2.n - 0 })
  rw [Int.sub_zero]
 | x::T,S=>by
  rw [List.foldl_cons,take_lots T]
  show (takeL S.lots x.2.1 x.2.2).map _=_
  unfold takeL
  rw [List.map_map]
  refine List.map_congr_left fun p z1=>?_
  simp only [Function.comp]
  unfold amtN
  rw [List.filter_cons]
  by_cases e:p.1=x.2.1
  ·simp only [e,if_true,decide_true,List.map_cons,List.sum_cons]
   rw [Int.sub_sub]
  ·rw [if_neg e,if_neg (by simpa using fun q:x.2.1=p.1=>e q.symm)]
theorem sum_perm {a b:List Int} (h:a.Perm b):a.sum=b.sum:=by
 induction h with
 | nil=>rfl
 | cons x _ ih=>rw [List.sum_cons,List.sum_cons,ih]
 | swap x y l=>simp only [List.sum_cons];(exact Ar.l30 (.ieq (.a (.v 0) (.a (.v 1) (.v 2))) (.a (.v 1) (.a (.v 0) (.v 2)))) [] (by kernel_rfl) )
 | trans _ _ h1 h2=>exact h1.trans h2
theorem amt_told {S:HS} {day:Int} {R Q:List NRow} (h:R.Perm Q) (t:Int):amtN (S.told day R) t=Deal.amtR (fun l=>(S.lineAt l).day == day) Q t:=by
 unfold amtN HS.told Deal.amtR
 rw [List.filter_filter]
 refine sum_perm ?_
 refine List.Perm.map _ ?_
 refine (h.filter _).trans (.of_eq (List.filter_congr fun x z1=>?_))
 rw [Bool.and_comm]
theorem dealt_amt {S:HS} {day:Int} {R Q:List NRow} (ok:S.Ok) (hq:PlN S Q) (h:R.Perm Q) (t:Int):0<=amtN (S.told day R) t/\amtN (S.told day R) t<=S.rest t:=by
 obtain ⟨ts,ls,a1,a2,rfl⟩:=hq
 rw [amt_told h]
 exact ⟨Deal.amtR_nonneg (fun x hx=>(Deal.pl_row x hx).2.2.2) t,Deal.pl_le (a1.perm.nodup_iff.mpr ok.ndl) (lots_nonneg ok) t⟩
theorem HS.Ok.dealt {S:HS} {day:Int} {R:List NRow} (ok:S.Ok) (hR:PlanOf S R):(S.dealt day (S.told day R)).Ok:=by
 obtain ⟨Q,hq,hp⟩:=hR.pln ok
 obtain ⟨k1,k2,k3,k4,k5,k6⟩:=zbs (S.told day R) S
 have hlots:(S.dealt day (S.told day R)).lots=(S.lots.map fun p=>(p.1,({ p.2 with n:=p.2.n - amtN (S.told day R) p.1 }:Lot))).filter fun p=>p.2.n != 0:=by
  show ((S.told day R).foldl HS.take S).lots.filter _=_
  rw [take_lots]
 refine ⟨?_,?_,fun p hp'=>?_,fun p hp'=>?_,?_,ok.lineK.sublist (List.filter_sublist.map _),?_,?_⟩
 ·show 0<=((S.told day R).foldl HS.take S).day;rw [k6];exact ok.day0
 ·show ((S.told day R).foldl HS.take S).day<=_;rw [k6];exact ok.day1
 ·rw [hlots] at hp'
  obtain ⟨hp',hn⟩:=List.mem_filter.mp hp'
  obtain ⟨q,hq',rfl⟩:=List.mem_map.mp hp'
  have h1:=ok.lot q hq'
  have h2:=dealt_amt (day:=day) ok hq hp q.1
  unfold HS.rest at h2
  rw [lot_at ok.ndl hq'] at h2
  simp only [bne_iff_ne,ne_eq] at hn
  refine ⟨⟨h1.1.w,h1.1.a0,h1.1.a1,?_,?_⟩,?_,h1.2.2.1,?_⟩
  ·show 1<=q.2.n - amtN (S.told day R) q.1;(exact Ar.l20 (.ile (.k 1) (.s (.v 0) (.v 1))) [(.an (.ile (.k 0) (.v 1)) (.ile (.v 1) (.v 0))),(.no (.ieq (.s (.v 0) (.v 1)) (.k 0)))] (by kernel_rfl) h2 hn)
  ·have:=h1.1.n1;show q.2.n - amtN (S.told day R) q.1<=_;(exact Ar.l20 (.ile (.s (.v 0) (.v 1)) (.k 1000000000000)) [(.an (.ile (.k 0) (.v 1)) (.ile (.v 1) (.v 0))),(.ile (.v 0) (.k 1000000000000))] (by kernel_rfl) h2 this)
  ·show ((S.told day R).foldl HS.take S).day<=_;rw [k6];exact h1.2.1
  ·show q.1<(((S.told day R).foldl HS.take S).gave.length:Nat);rw [k2];exact h1.2.2.2
 ·have h1:=ok.line p (List.mem_filter.mp hp').1
  refine ⟨h1.1,?_,h1.2.2.1,?_⟩
  ·show ((S.told day R).foldl HS.take S).day<=_;rw [k6];exact h1.2.1
  ·show p.1<(((S.told day R).foldl HS.take S).came.length:Nat);rw [k3];exact h1.2.2.2
 ·have:=ok.lotK
  rw [← k1] at this
  exact this.sublist (List.filter_sublist.map _)
 ·show ((S.told day R).foldl HS.take S).wasted.length=((S.told day R).foldl HS.take S).gave.length
  rw [k5,k2];exact ok.len
 ·show ((S.told day R).foldl HS.take S).gave.length+((S.told day R).foldl HS.take S).came.length<=62
  rw [k2,k3];exact ok.n
inductive Days (S:HS):List Int->HS->List (Int × NRow)->Prop
 | nil:Days S [] S []
 | snoc {ds:List Int} {S₁:HS} {fnd:List (Int × NRow)} {d:Int} {R:List NRow}:Days S ds S₁ fnd->PlanOf (S₁.throw d) R->Days S (ds++[d]) ((S₁.throw d).dealt d ((S₁.throw d).told d R)) (fnd++((S₁.throw d).told d R).map fun x=>(d,x))
structure DaysTo (S:HS) (goal:Int) (ds:List Int):Prop where
 rise:ds.Pairwise fun a b=>a<b
 mem:∀ x,x∈ds ↔ (∃ p∈S.lines,p.2.day=x)/\x<goal
structure DaysOk (S S₁:HS) (ds:List Int) (fnd:List (Int × NRow)):Prop where
 ok:S₁.Ok
 lines:S₁.lines=S.lines.filter fun p=>!ds.contains p.2.day
 day:S₁.day=S.day
 gave:S₁.gave.length=S.gave.length
 came:S₁.came.length=S.came.length
 len:fnd.length<=3600 * ds.length
theorem Days.ok {S:HS} (ok:S.Ok) {ds:List Int} {S₁:HS} {fnd:List (Int × NRow)} (h:Days S ds S₁ fnd):DaysOk S S₁ ds fnd:=by
 induction h with
 | nil=>exact ⟨ok,(List.filter_eq_self.mpr (by simp)).symm,rfl,rfl,rfl,Nat.zero_le _⟩
 | @snoc ds S₁ fnd d R hd hR I=>
  have okt:=I.ok.throw d
  obtain ⟨k1,k2,k3,k4,k5,k6⟩:=zbs ((S₁.throw d).told d R) (S₁.throw d)
  refine ⟨okt.dealt hR,?_,k6.trans I.day,k2.trans I.gave,k3.trans I.came,?_⟩
  ·show S₁.lines.filter (fun p=>p.2.day != d)=_
   rw [I.lines,List.filter_filter]
   refine List.filter_congr fun p z1=>?_
   rw [List.contains_eq_mem,List.contains_eq_mem]
   by_cases h1:p.2.day∈ds <;> by_cases h2:p.2.day=d <;> simp [h1,h2]
  ·rw [List.length_append,List.length_append,List.length_map]
   have:=Nat.le_trans (List.length_filter_le (fun x:NRow=>((S₁.throw d).lineAt x.1).day == d) R) (hR.row okt).2
   have:=I.len
   show fnd.length+(R.filter _).length<=3600 * (ds.length+1)
   lia
theorem DaysOk.left {S S₁:HS} {goal d:Int} {ds left:List Int} {fnd:List (Int × NRow)} (D:DaysTo S goal (ds++left)) (I:DaysOk S S₁ ds fnd) (hd:d<=goal) (hl:∀ x∈left,d<=x):∀ p∈S₁.lines,d<=p.2.day:=fun p hp=>by
 rw [I.lines] at hp
 obtain ⟨hp,q⟩:=List.mem_filter.mp hp
 rcases Int.lt_or_le p.2.day d with z | z
 ·exfalso
  rcases List.mem_append.mp ((D.mem p.2.day).mpr ⟨⟨p,hp,rfl⟩,Int.lt_of_lt_of_le z hd⟩) with w | w
  ·simp [w] at q
  ·exact Int.not_lt.mpr (hl _ w) z
 ·exact z
noncomputable def HS.goTo (S:HS) (goal:Int):HS:={ S.throw goal with day:=goal }
theorem DaysOk.goTo {S S₁:HS} {goal:Int} {ds:List Int} {fnd:List (Int × NRow)} (D:DaysTo S goal ds) (I:DaysOk S S₁ ds fnd) (h0:0<=goal) (h1:goal<=1000000000000) :
  (S₁.goTo goal).Ok/\(S₁.goTo goal).gave.length=S.gave.length/\(S₁.goTo goal).came.length=S.came.length:=by
 have hday:=I.left (left:=[]) (by rw [List.append_nil];exact D) (Int.le_refl goal) (by simp)
 have o:=I.ok.throw goal
 refine ⟨⟨h0,h1,fun p hp=>?_,fun p hp=>?_,o.lotK,o.lineK,o.len,o.n⟩,I.gave,I.came⟩
 ·have h2:=o.lot p hp
  exact ⟨h2.1,of_decide_eq_true (List.mem_filter.mp hp).2,h2.2.2⟩
 ·have h2:=o.line p hp
  exact ⟨h2.1,hday p hp,h2.2.2⟩
theorem nodup_len {α:Type}:∀ {l m:List α},l.Nodup->(∀ x∈l,x∈m)->l.length<=m.length
 | [],m,_,_=>Nat.zero_le _
 | x::l,m,hn,h=>by
  obtain ⟨h1,h2⟩:=List.nodup_cons.mp hn
  obtain ⟨a,b,rfl⟩:=List.append_of_mem (h x (.head _))
  have:=nodup_len (m:=a++b) h2 fun y hy=>by
   rcases List.mem_append.mp (h y (.tail _ hy)) with q | q
   ·exact List.mem_append_left _ q
   ·rcases List.mem_cons.mp q with q | q
    ·rw [q] at hy;exact absurd hy h1
    ·exact List.mem_append_right _ q
  rw [List.length_append] at this ⊢
  rw [List.length_cons,List.length_cons]
  (exact Ar.l03 (.le (.a (.v 0) (.k 1)) (.a (.v 1) (.a (.v 2) (.k 1)))) [(.le (.v 0) (.a (.v 1) (.v 2)))] (by kernel_rfl) this)
section
variable {f:Str->Value} {H:HA} {S:HS}
noncomputable def quad' (x:Int × NRow):V:=quad x.1 x.2
theorem S_go_to {goal:Int} (hH:Hs c.k f H S σ) (hF:H.free c.F) (ok:S.Ok) (h0:S.day<=goal) (h1:goal<=1000000000000)
  (h:∀ ds S₁ fnd σ',DaysTo S goal ds->Days S ds S₁ fnd->Hs c.k f H (S₁.goTo goal) σ'->Oth H σ σ'->P (.lst (fnd.map quad')) σ'):CallS c (d+8) (f "go_to") [.ref H.a,.int goal] σ P X:=by
 have hzn:=ok.nn
 refine zai hH.K.f_go_to ?_
 repeat' walk_at "h"
 refine zbw hH.K.things ?_
 repeat' walk_at "h"
 all_goals try (exfalso;lia)
 refine ⟨_,[H.n],by simpa using owned_of hH.n,Iter_dict (c:=c.pro [H.n]) hH.n (by simp [Cx.pro]) (by rw [linesV,List.length_map];(exact Ar.l01 (.le (.v 0) (.k 1000)) [(.le (.v 0) (.k 62))] (by kernel_rfl) hzn)),fun D=>?_⟩
 rw [show (linesV S.lines).map (fun kv=>V.int kv.1)=S.lines.map (fun p=>V.int p.1) by rw [linesV,List.map_map];rfl]
 refine jcomp_fm (fun p:Int × Line=>.int p.1) (fun p=>.int p.2.day) (fun p=>decide (p.2.day<goal)) S.lines [] (fun p hp=>⟨_,rfl,?_,fun z1=>?_⟩) ?_
 ·repeat' walk_at "h"
  refine zbx (c:=(c.pro [H.n]).hide D) hH ok.ndn hp ?_
  repeat' walk_at "h"
  exact ⟨rfl,rfl⟩
 ·repeat' walk_at "h"
  refine zbx (c:=(c.pro [H.n]).hide D) hH ok.ndn hp ?_
  repeat' walk_at "h"
  exact ⟨rfl,rfl⟩
 refine made_f ?_
 rw [List.nil_append,show (S.lines.filter fun p=>decide (p.2.day<goal)).map (fun p=>V.int p.2.day)=((S.lines.filter fun p=>decide (p.2.day<goal)).map fun p=>p.2.day).map V.int by rw [List.map_map];rfl]
 repeat' walk_at "h"
 refine Call_set_int hH.hd (.lst _) (by rw [List.length_map];exact Nat.le_trans (List.length_filter_le _ _) (by (exact Ar.l01 (.le (.v 0) (.k 1000)) [(.le (.v 0) (.k 62))] (by kernel_rfl) hzn))) fun ks hkn hkm=>?_
 repeat' walk_at "h"
 have hkl:ks.length<=62:=by
  have h2:ks.length<=((S.lines.filter fun p=>decide (p.2.day<goal)).map fun p=>p.2.day).length:=nodup_len hkn fun x hx=>(hkm x).mp hx
  rw [List.length_map] at h2
  exact Nat.le_trans h2 (Nat.le_trans (List.length_filter_le _ _) hzn)
 refine Call_sorted_setI hH.hd (lid60 hkl) fun ys hyp hys=>?_
 have hD:DaysTo S goal ys:=by
  refine ⟨?_,fun x=>?_⟩
  ·have hn:ys.Nodup:=hyp.nodup_iff.mpr hkn
   exact (hys.and hn).imp fun {a b} q=>by have h1:=q.1;have h2:a≠b:=q.2;(exact Ar.l20 (.ilt (.v 0) (.v 1)) [(.an (.ile (.v 0) (.v 1)) (.no (.ieq (.v 0) (.v 1))))] (by kernel_rfl) q)
  ·rw [hyp.mem_iff,hkm,List.mem_map]
   constructor
   ·rintro ⟨p,hp,rfl⟩
    obtain ⟨h2,h3⟩:=List.mem_filter.mp hp
    exact ⟨⟨p,h2,rfl⟩,of_decide_eq_true h3⟩
   ·rintro ⟨⟨p,hp,rfl⟩,h3⟩
    exact ⟨p,List.mem_filter.mpr ⟨hp,decide_eq_true h3⟩,rfl⟩
 have hyl:ys.length<=62:=by rw [hyp.length_eq];exact hkl
 clear hkn hkm hyp hys
 repeat' walk_at "h"
 refine ⟨_,[],by simp,zaf,?_⟩
 refine zal V.int (fun fnd:List (Int × NRow)=>[(4,.lst (fnd.map quad')),(1,.int goal),(0,.ref H.a)]) (fun left fnd σ'=>∃ done S₁,ys=done++left/\Days S done S₁ fnd/\Hs c.k f H S₁ σ'/\Oth H σ σ') ys [] _ σ ?_ ?_ (fun fnd here left σ₁ hj=>?_) fun fnd ρ σ₁ hm hj=>?_
 ·walk_at "sub"
 ·exact ⟨[],S,rfl,.nil,hH,.refl⟩
 ·obtain ⟨done,S₁,e,hds,h₁,o₁⟩:=hj
  have hF':H.free (c.pro []).F:=hF
  have I:=hds.ok ok
  have hdl:done.length<=62:=by rw [e,List.length_append] at hyl;(exact Ar.l02 (.le (.v 0) (.k 62)) [(.le (.a (.v 0) (.v 1)) (.k 62))] (by kernel_rfl) hyl)
  repeat' walk_at "h"
  refine ⟨_,mth h₁ rfl rfl rfl,?_⟩
  repeat' walk_at "h"
  refine S_throw (c:=c.pro []) h₁ hF' I.ok fun σ₂ h₂ o₂=>?_
  repeat' walk_at "h"
  refine ⟨_,mth h₂ rfl rfl rfl,?_⟩
  repeat' walk_at "h"
  refine S_deal (c:=c.pro []) h₂ hF' (I.ok.throw here) fun R σ₃ hR h₃ o₃=>?_
  have hlt:((S₁.throw here).told here R).length<=3600:=Nat.le_trans (List.length_filter_le _ _) (hR.row (I.ok.throw here)).2
  repeat' walk_at "h"
  refine Op_addl (.lst _) (.lst _) (by rw [List.length_map,List.length_map];have:=I.len;(exact Ar.l03 (.le (.a (.v 0) (.v 1)) (.k 1000000)) [(.le (.v 2) (.k 62)),(.le (.v 1) (.k 3600)),(.le (.v 0) (.m 3600 (.v 2)))] (by kernel_rfl) hdl hlt this)) ?_
  rw [show fnd.map quad'++((S₁.throw here).told here R).map (quad here)=(fnd++((S₁.throw here).told here R).map fun x=>(here,x)).map quad' by rw [List.map_append,List.map_map];rfl]
  repeat' walk_at "h"
  refine ⟨rfl,_,?_,done++[here],_,by rw [e];simp,hds.snoc hR,h₃,(o₁.trans o₂).trans o₃⟩
  walk_at "sub"
 obtain ⟨done,S₁,e,hds,h₁,o₁⟩:=hj
 rw [List.append_nil] at e
 subst e
 have I:=hds.ok ok
 refine JB_sub hm ?_
 clear hm
 repeat' walk_at "h"
 refine ⟨_,mth h₁ rfl rfl rfl,?_⟩
 repeat' walk_at "h"
 refine S_throw h₁ hF I.ok fun σ₂ h₂ o₂=>?_
 repeat' walk_at "h"
 refine Set_attr h₂.a hF.1 (h₂.K.fld _ (by simp)) (by simp [HA.fs]) ?_
 repeat' walk_at "h"
 exact h ys S₁ fnd _ hD hds h₂.up_a ((o₁.trans o₂).trans (.upd HA.pa h₂.a))
end
theorem HS.Ok.apart {S:HS} (o:S.Ok):S.lots.Pairwise fun p q=>p.1.toNat≠q.1.toNat:=by
 have:=o.lotK
 rw [List.pairwise_map] at this
 refine List.Pairwise.imp_of_mem ?_ this
 intro p q hp hq h
 have:=(o.lot p hp).2.2.1
 lia
theorem mod_nn (m:Int) {k:Int} (h:0<k):0<=m % k:=Int.emod_nonneg m (Int.ne_of_gt h)
noncomputable def over_ (m:Int):Int:=if m % 8=0 then m / 8 % 1000000000001 else if m % 8=1 then m / 8 % 1000 else m / 8 % 4
theorem mod_le (m:Int) {k n:Int} (h:0<k) (hk:k<=n+1):0<=m % k/\m % k<=n:=⟨mod_nn m h,Int.le_of_lt_add_one (Int.lt_of_lt_of_le (Int.emod_lt_of_pos m h) hk)⟩
theorem over_ok (m:Int):0<=over_ m/\over_ m<=1000000000000:=by
 unfold over_
 by_cases a:m % 8=0
 ·rw [if_pos a];exact mod_le _ (by decide) (by decide)
 ·rw [if_neg a]
  by_cases b:m % 8=1
  ·rw [if_pos b];exact mod_le _ (by decide) (by decide)
  ·rw [if_neg b];exact mod_le _ (by decide) (by decide)
theorem S_over (hf:FnT c.k "_law_over" 1 t_law_over) {m:Int} (h:P (.int (over_ m)) σ):CallN c (d+1) "_law_over" [.int m] σ P X:=by
 refine zae hf ?_
 unfold over_ at h
 repeat' walk_at "x"
 ·rename_i q1;rw [if_pos q1] at h;exact h
 ·rename_i q1 q2;rw [if_neg q1,if_pos q2] at h;exact h
 ·rename_i q1 q2;rw [if_neg q1,if_neg q2] at h;exact h
structure HouseM (k:Base) (f:Str->Value):Prop where
 f_need_number:FnV k (f "need_number") 3 t_House_need_number
 f_given:FnV k (f "given") 2 t_House_given
 f_thrown:FnV k (f "thrown") 2 t_House_thrown
 f_got:FnV k (f "got") 2 t_House_got
section
variable {f:Str->Value} {H:HA} {S:HS}
theorem zb7 (hM:HouseM c.k f) (hH:Hs c.k f H S σ) {i:Int} {a:Addr} {vs:List V} (hl:σ.lookup a=some (.list vs)) (h0:0<=i) (h1:i<vs.length) (h:P .none σ):CallS c (d+3) (f "need_number") [.ref H.a,.int i,.ref a] σ P X:=by
 refine zai hM.f_need_number ?_
 repeat' walk_at "h"
 refine zbw hH.K.things ?_
 repeat' walk_at "h"
 all_goals try (exfalso;lia)
 refine zag (.ref hl) ?_
 repeat' walk_at "h"
 all_goals first | (exfalso;lia) | exact zbo h
theorem S_given (hM:HouseM c.k f) (hH:Hs c.k f H S σ) {i:Int} (h0:0<=i) (h1:i<S.gave.length) (h:P (.int (S.gave.getD i.toNat 0)) σ):CallS c (d+4) (f "given") [.ref H.a,.int i] σ P X:=by
 refine zai hM.f_given ?_
 repeat' walk_at "h"
 refine ⟨_,mth hH rfl rfl rfl,?_⟩
 repeat' walk_at "h"
 refine zb7 hM hH hH.g h0 (by rw [List.length_map];exact h1) ?_
 repeat' walk_at "h"
 exact za2 hH.g h0 (by lia) (zbc h)
theorem S_thrown (hM:HouseM c.k f) (hH:Hs c.k f H S σ) {i:Int} (h0:0<=i) (h1:i<S.wasted.length) (h:P (.int (S.wasted.getD i.toNat 0)) σ):CallS c (d+4) (f "thrown") [.ref H.a,.int i] σ P X:=by
 refine zai hM.f_thrown ?_
 repeat' walk_at "h"
 refine ⟨_,mth hH rfl rfl rfl,?_⟩
 repeat' walk_at "h"
 refine zb7 hM hH hH.w h0 (by rw [List.length_map];exact h1) ?_
 repeat' walk_at "h"
 exact za2 hH.w h0 (by lia) (zbc h)
theorem S_got (hM:HouseM c.k f) (hH:Hs c.k f H S σ) {i:Int} (h0:0<=i) (h1:i<S.came.length) (h:P (.int (S.came.getD i.toNat 0)) σ):CallS c (d+4) (f "got") [.ref H.a,.int i] σ P X:=by
 refine zai hM.f_got ?_
 repeat' walk_at "h"
 refine ⟨_,mth hH rfl rfl rfl,?_⟩
 repeat' walk_at "h"
 refine zb7 hM hH hH.m h0 (by rw [List.length_map];exact h1) ?_
 repeat' walk_at "h"
 exact za2 hH.m h0 (by lia) (zbc h)
end
theorem map_snoc {α β:Type} {f:α->β} {l:List α} {x:α}:l.map f++[f x]=(l++[x]).map f:=by rw [List.map_append];rfl
section
variable {O:OA} {L:List (Int × Lot)} {N:List (Int × Line)} {T:List (List (Int × NRow))}
end
structure Errs (k:Base) (ad:Str->Addr):Prop where
 lot:Exc k "LotError" (ad "LotError") VE
 no:Exc k "NoNumber" (ad "NoNumber") (.ref (ad "LotError")::VE)
namespace Deal
section
variable {κ ι:Type} [DecidableEq κ] [DecidableEq ι]
noncomputable def amtL (D:List (ι × κ × Int)) (l:ι):Int:=((D.filter fun x=>decide (x.1=l)).map (·.2.2)).sum
theorem amtL_append (D D':List (ι × κ × Int)) (l:ι):amtL (D++D') l=amtL D l+amtL D' l:=by
 unfold amtL;rw [List.filter_append,List.map_append,List.sum_append]
theorem amtL_none {D:List (ι × κ × Int)} {l:ι} (h:∀ x∈D,x.1≠l):amtL D l=0:=by
 unfold amtL
 rw [List.filter_eq_nil_iff.mpr fun x hx=>by simpa using h x hx];rfl
theorem amtL_one (l:ι) (xs:List (κ × Int)):amtL (xs.map (Prod.mk l)) l=(xs.map (·.2)).sum:=by
 unfold amtL
 rw [List.filter_eq_self.mpr fun x hx=>by obtain ⟨y,_,rfl⟩:=List.mem_map.mp hx;exact decide_eq_true rfl,List.map_map];rfl
theorem amtL_filter {D:List (ι × κ × Int)} (h:∀ x∈D,0<x.2.2) (q:ι × κ × Int->Bool) (l:ι):amtL (D.filter q) l<=amtL D l:=by
 induction D with
 | nil=>exact Int.le_refl 0
 | cons x D ih=>
  have ih:=ih fun y hy=>h y (.tail _ hy)
  have hx:=h x (.head _)
  have e:amtL (x::D) l=(if x.1=l then x.2.2 else 0)+amtL D l:=by
   unfold amtL
   rw [List.filter_cons]
   by_cases z:x.1=l
   ·rw [if_pos (decide_eq_true z),if_pos z];rfl
   ·rw [if_neg (by simpa using z),if_neg z,Int.zero_add]
  have e2:amtL (x::D.filter q) l=(if x.1=l then x.2.2 else 0)+amtL (D.filter q) l:=by
   unfold amtL
   rw [List.filter_cons]
   by_cases z:x.1=l
   ·rw [if_pos (decide_eq_true z),if_pos z];rfl
   ·rw [if_neg (by simpa using z),if_neg z,Int.zero_add]
  rw [e,List.filter_cons]
  by_cases z:q x=true
  ·rw [if_pos z,e2];exact Int.add_le_add_left ih _
  ·rw [if_neg z]
   refine Int.le_trans ih (Int.le_add_of_nonneg_left ?_)
   split
   ·exact Int.le_of_lt hx
   ·exact Int.le_refl 0
theorem tk_sum {gd:κ->Bool} {ts:List κ} {w:Int} {r:κ->Int} (hw:0<=w):((tk gd ts w r).map (·.2)).sum<=w:=by
 induction ts generalizing w with
 | nil=>exact hw
 | cons t ts ih=>
  by_cases q:0<min w (r t)/\gd t=true
  ·rw [tk_yes q,List.map_cons,List.sum_cons]
   have:=ih (w:=w - min w (r t)) (Int.sub_nonneg_of_le (Int.min_le_left _ _))
   exact Int.le_trans (Int.add_le_add_left this _) (Int.le_of_eq (by rw [Int.add_comm,Int.sub_add_cancel]))
  ·rw [tk_no q];exact ih hw
theorem pl_line {gd:κ->ι->Bool} {want:ι->Int} {ts:List κ} {ls:List ι} {r:κ->Int} (hn:ls.Nodup) (l:ι) (hw:0<=want l):amtL (pl gd want ts ls r) l<=want l:=by
 induction ls generalizing r with
 | nil=>exact hw
 | cons k ls ih=>
  obtain ⟨h1,h2⟩:=List.nodup_cons.mp hn
  rw [pl_cons,amtL_append]
  by_cases e:k=l
  ·subst e
   rw [amtL_one,amtL_none (D:=pl ..) fun x hx (z:x.1=k)=>h1 (by rw [← z];exact (pl_row x hx).1),Int.add_zero]
   exact tk_sum hw
  ·rw [amtL_none (D:=List.map ..) fun x hx z=>by obtain ⟨y,_,rfl⟩:=List.mem_map.mp hx;exact e z,Int.zero_add]
   exact ih h2
end
end Deal
theorem amtN_none {T:List NRow} {i:Int} (h:∀ x∈T,x.2.1≠i):amtN T i=0:=by
 unfold amtN
 rw [List.filter_eq_nil_iff.mpr fun x hx=>by simpa using h x hx];rfl
noncomputable def addG (g:List Int) (x:NRow):List Int:=g.set x.2.1.toNat (g.getD x.2.1.toNat 0+x.2.2)
noncomputable def addC (g:List Int) (x:NRow):List Int:=g.set x.1.toNat (g.getD x.1.toNat 0+x.2.2)
theorem take_gave (T:List NRow) (S:HS):(T.foldl HS.take S).gave=T.foldl addG S.gave/\(T.foldl HS.take S).came=T.foldl addC S.came:=by
 induction T generalizing S with
 | nil=>exact ⟨rfl,rfl⟩
 | cons x T ih=>exact ih (S.take x)
theorem addG_get {T:List NRow} {g:List Int} {i:Nat} (hi:i<g.length) (h:∀ x∈T,0<=x.2.1):(T.foldl addG g).getD i 0=g.getD i 0+amtN T i:=by
 induction T generalizing g with
 | nil=>exact (Int.add_zero _).symm
 | cons x T ih=>
  have hx:=h x (.head _)
  rw [List.foldl_cons,ih (g:=addG g x) (by unfold addG;rw [List.length_set];exact hi) fun y hy=>h y (.tail _ hy)]
  unfold addG amtN
  rw [Deal.getD_set,List.filter_cons]
  by_cases e:x.2.1=(i:Int)
  ·rw [if_pos ⟨by rw [e];rfl,by rw [e];exact hi⟩,if_pos (decide_eq_true e),e,Int.toNat_natCast,List.map_cons,List.sum_cons,Int.add_assoc]
  ·rw [if_neg fun z=>e (by rw [← z.1];exact (Int.toNat_of_nonneg hx).symm),if_neg (by simpa using e)]
theorem addC_get {T:List NRow} {g:List Int} {i:Nat} (hi:i<g.length) (h:∀ x∈T,0<=x.1):(T.foldl addC g).getD i 0=g.getD i 0+Deal.amtL T (i:Int):=by
 induction T generalizing g with
 | nil=>exact (Int.add_zero _).symm
 | cons x T ih=>
  have hx:=h x (.head _)
  rw [List.foldl_cons,ih (g:=addC g x) (by unfold addC;rw [List.length_set];exact hi) fun y hy=>h y (.tail _ hy)]
  unfold addC Deal.amtL
  rw [Deal.getD_set,List.filter_cons]
  by_cases e:x.1=(i:Int)
  ·rw [if_pos ⟨by rw [e];rfl,by rw [e];exact hi⟩,if_pos (decide_eq_true e),e,Int.toNat_natCast,List.map_cons,List.sum_cons,Int.add_assoc]
  ·rw [if_neg fun z=>e (by rw [← z.1];exact (Int.toNat_of_nonneg hx).symm),if_neg (by simpa using e)]
structure LotIn (L:List Lot) (G W:List Int) (p:Int × Lot):Prop where
 w:(L.getD p.1.toNat Lot.z).w=p.2.w
 last:(L.getD p.1.toNat Lot.z).last=p.2.last
 waste:W.getD p.1.toNat 0=0
 sum:G.getD p.1.toNat 0+p.2.n=(L.getD p.1.toNat Lot.z).n
structure LotOut (L:List Lot) (D:Int) (G W:List Int) (i:Nat):Prop where
 sum:G.getD i 0+W.getD i 0=(L.getD i Lot.z).n
 pos:0<=W.getD i 0
 late:0<W.getD i 0->(L.getD i Lot.z).last<D
structure Inv (L:List Lot) (N:List Line) (D:Int) (S:HS):Prop where
 nl:L.length=S.gave.length
 nn:N.length=S.came.length
 lot:∀ p∈S.lots,LotIn L S.gave S.wasted p
 out:∀ i,i<L.length->(i:Int)∉S.lots.map (·.1)->LotOut L D S.gave S.wasted i
 line:∀ p∈S.lines,N.getD p.1.toNat Line.z=p.2/\S.came.getD p.1.toNat 0=0
 came:∀ i,i<N.length->S.came.getD i 0<=(N.getD i Line.z).n
section
variable {L:List Lot} {N:List Line} {D D':Int} {S:HS}
theorem Inv.mono (h:Inv L N D S) (hD:D<=D'):Inv L N D' S:=⟨h.nl,h.nn,h.lot,fun i hi hk=>let o:=h.out i hi hk;⟨o.sum,o.pos,fun z=>Int.lt_of_lt_of_le (o.late z) hD⟩,h.line,h.came⟩
theorem Inv.start:Inv [] [] 0 ⟨0,[],[],[],[],[]⟩:=⟨rfl,rfl,(fun p hp=>nomatch hp),fun i hi=>absurd hi (Nat.not_lt_zero _),(fun p hp=>nomatch hp),fun i hi=>absurd hi (Nat.not_lt_zero _)⟩
theorem za5 {α:Type} {l:List α} {x z:α} {i:Nat} (h:i<l.length):(l++[x]).getD i z=l.getD i z:=by
 rw [List.getD_eq_getElem?_getD,List.getD_eq_getElem?_getD,List.getElem?_append_left h]
theorem zb5 {α:Type} {l:List α} {x z:α}:(l++[x]).getD l.length z=x:=by simp
theorem nat_lt {i:Int} {n:Nat} (h0:0<=i) (h:i<n):i.toNat<n:=by lia
theorem Inv.receive (h:Inv L N D S) (o:S.Ok) (l:Lot):Inv (L++[l]) N D (S.receive l):=by
 have hw:S.wasted.length=L.length:=o.len.trans h.nl.symm
 refine ⟨?_,h.nn,fun p hp=>?_,fun i hi hk=>?_,h.line,h.came⟩
 ·show _=(S.gave++[0]).length
  rw [List.length_append,List.length_append,h.nl];rfl
 ·rcases List.mem_append.mp hp with q | q
  ·have b:=(o.lot p q).2.2
   have hb:=nat_lt b.1 b.2
   have I:=h.lot p q
   have e:=za5 (x:=l) (z:=Lot.z) (h.nl ▸ hb:p.1.toNat<L.length)
   exact ⟨by rw [e];exact I.w,by rw [e];exact I.last,(za5 (by rw [o.len];exact hb)).trans I.waste,by rw [e];exact (congrArg (·+_) (za5 hb)).trans I.sum⟩
  ·rw [List.mem_singleton.mp q]
   have e:(L++[l]).getD ((S.gave.length:Int)).toNat Lot.z=l:=by rw [Int.toNat_natCast,← h.nl];exact zb5
   refine ⟨by rw [e],by rw [e],?_,?_⟩
   ·show (S.wasted++[0]).getD ((S.gave.length:Int)).toNat 0=0
    rw [Int.toNat_natCast,← o.len];exact zb5
   ·rw [e]
    show (S.gave++[0]).getD ((S.gave.length:Int)).toNat 0+l.n=_
    rw [Int.toNat_natCast,zb5,Int.zero_add]
 ·have hk':(i:Int)∉S.lots.map (·.1)/\(i:Int)≠S.gave.length:=by
   rw [show (S.receive l).lots=S.lots++[((S.gave.length:Int),l)] from rfl,List.map_append,List.mem_append,not_or] at hk
   exact ⟨hk.1,fun z=>hk.2 (by rw [z];exact .head _)⟩
  rw [List.length_append,List.length_singleton] at hi
  have hi':i<L.length:=by have:=hk'.2;have:=h.nl;lia
  have I:=h.out i hi' hk'.1
  have e1:(L++[l]).getD i Lot.z=L.getD i Lot.z:=za5 hi'
  have e2:(S.receive l).wasted.getD i 0=S.wasted.getD i 0:=za5 (by rw [hw];exact hi')
  have e3:(S.receive l).gave.getD i 0=S.gave.getD i 0:=za5 (by rw [← h.nl];exact hi')
  exact ⟨by rw [e1,e2,e3];exact I.sum,by rw [e2];exact I.pos,by rw [e1,e2];exact I.late⟩
theorem Inv.order (h:Inv L N D S) (o:S.Ok) {l:Line} (hl:0<=l.n):Inv L (N++[l]) D (S.order l):=by
 refine ⟨h.nl,?_,h.lot,h.out,fun p hp=>?_,fun i hi=>?_⟩
 ·show _=(S.came++[0]).length
  rw [List.length_append,List.length_append,h.nn];rfl
 ·rcases List.mem_append.mp hp with q | q
  ·have b:=(o.line p q).2.2
   have hb:=nat_lt b.1 b.2
   exact ⟨(za5 (h.nn ▸ hb)).trans (h.line p q).1,(za5 hb).trans (h.line p q).2⟩
  ·rw [List.mem_singleton.mp q]
   refine ⟨?_,?_⟩
   ·rw [Int.toNat_natCast,← h.nn];exact zb5
   ·rw [Int.toNat_natCast];exact zb5
 ·rw [List.length_append,List.length_singleton] at hi
  rcases Nat.lt_or_ge i N.length with z | z
  ·rw [za5 z]
   exact Int.le_trans (Int.le_of_eq (za5 (h.nn ▸ z))) (h.came i z)
  ·have e:i=N.length:=by (exact Ar.l02 (.eq (.v 0) (.v 1)) [(.lt (.v 0) (.a (.v 1) (.k 1))),(.le (.v 1) (.v 0))] (by kernel_rfl) hi z)
   rw [e,zb5,h.nn]
   exact Int.le_trans (Int.le_of_eq zb5) hl
theorem Inv.cancel (h:Inv L N D S) (i:Int):Inv L N D (S.cancel i):=⟨h.nl,h.nn,h.lot,h.out,fun p hp=>h.line p (List.mem_filter.mp hp).1,h.came⟩
theorem throwW_out {day:Int} {j:Nat} {ps:List (Int × Lot)} {w:List Int} (h:∀ p∈ps,p.2.last<day->p.1.toNat≠j):(throwW day w ps).getD j 0=w.getD j 0:=by
 induction ps generalizing w with
 | nil=>rfl
 | cons p ps ih=>
  show (throwW day (if p.2.last<day then w.set p.1.toNat p.2.n else w) ps).getD j 0=_
  rw [ih fun q hq=>h q (.tail _ hq)]
  split
  ·rename_i q
   rw [Deal.getD_set,if_neg fun z=>h p (.head _) q z.1]
  ·rfl
theorem throwW_in {day:Int} {ps:List (Int × Lot)} {w:List Int} {p:Int × Lot} (hp:p∈ps) (hd:p.2.last<day) (hb:p.1.toNat<w.length) (h:ps.Pairwise fun p q=>p.1.toNat≠q.1.toNat):(throwW day w ps).getD p.1.toNat 0=p.2.n:=by
 induction ps generalizing w with
 | nil=>cases hp
 | cons q ps ih=>
  obtain ⟨h1,h2⟩:=List.pairwise_cons.mp h
  show (throwW day (if q.2.last<day then w.set q.1.toNat q.2.n else w) ps).getD p.1.toNat 0=_
  rcases List.mem_cons.mp hp with e | e
  ·subst e
   rw [throwW_out fun r hr z1 z=>h1 r hr z.symm,if_pos hd,Deal.getD_set,if_pos ⟨rfl,hb⟩]
  ·refine ih e ?_ h2
   split
   ·rw [List.length_set];exact hb
   ·exact hb
theorem key_eq {S:HS} (o:S.Ok) {p q:Int × Lot} (hp:p∈S.lots) (hq:q∈S.lots) (e:p.1.toNat=q.1.toNat):p=q:=by
 have h1:=(o.lot p hp).2.2.1
 have h2:=(o.lot q hq).2.2.1
 have e1:p.1=q.1:=by lia
 have:=zab o.ndl hp
 rw [e1,zab o.ndl hq] at this
 exact Prod.ext e1 (Option.some.inj this).symm
theorem Inv.throw (h:Inv L N D S) (o:S.Ok) {day:Int} (hd:day<=D):Inv L N D (S.throw day):=by
 refine ⟨h.nl,h.nn,fun p hp=>?_,fun i hi hk=>?_,h.line,h.came⟩
 ·obtain ⟨hp,hl⟩:=List.mem_filter.mp hp
  have I:=h.lot p hp
  refine ⟨I.w,I.last,?_,I.sum⟩
  show (throwW day S.wasted S.lots).getD p.1.toNat 0=0
  rw [throwW_out fun q hq hl' e=>?_]
  ·exact I.waste
  ·have e:=key_eq o hq hp e
   subst e
   exact Int.not_lt.mpr (of_decide_eq_true hl) hl'
 ·by_cases hm:(i:Int)∈S.lots.map (·.1)
  ·obtain ⟨p,hp,e⟩:=List.mem_map.mp hm
   have hl:p.2.last<day:=by
    rcases Int.lt_or_le p.2.last day with z | z
    ·exact z
    ·exact absurd (List.mem_map.mpr ⟨p,List.mem_filter.mpr ⟨hp,decide_eq_true z⟩,e⟩) hk
   have I:=h.lot p hp
   have ei:p.1.toNat=i:=by rw [e];rfl
   have ew:(S.throw day).wasted.getD i 0=p.2.n:=by
    rw [← ei]
    exact throwW_in hp hl (by rw [ei,o.len,← h.nl];exact hi) o.apart
   have n0:=(o.lot p hp).1.n0
   refine ⟨?_,by rw [ew];(exact Ar.l10 (.ile (.k 0) (.v 0)) [(.ile (.k 1) (.v 0))] (by kernel_rfl) n0),fun z1=>?_⟩
   ·rw [ew];have:=I.sum;rw [ei] at this;exact this
   ·have:=I.last;rw [ei] at this;rw [this];exact Int.lt_of_lt_of_le hl hd
  ·have I:=h.out i hi hm
   have ew:(S.throw day).wasted.getD i 0=S.wasted.getD i 0:=throwW_out fun p hp z1 z=>hm (List.mem_map.mpr ⟨p,hp,by have:=(o.lot p hp).2.2.1;lia⟩)
   exact ⟨by rw [ew];exact I.sum,by rw [ew];exact I.pos,by rw [ew];exact I.late⟩
structure RowOf (S:HS) (x:NRow):Prop where
 line:∃ p∈S.lines,p.1=x.1/\∃ q∈S.lots,q.1=x.2.1/\q.2.w=p.2.w/\p.2.need<=q.2.last
 pos:0<x.2.2
theorem PlanOf.rows {S:HS} {R:List NRow} (o:S.Ok) (h:PlanOf S R):(∀ x∈R,RowOf S x)/\(∀ t,amtN R t<=S.rest t)/\∀ p∈S.lines,Deal.amtL R p.1<=p.2.n:=by
 obtain ⟨Q,⟨ts,ls,a1,a2,e⟩,hp⟩:=h.pln o
 subst e
 refine ⟨fun x hx=>?_,fun t=>?_,fun p hl=>?_⟩
 ·obtain ⟨h1,h2,h3,h4⟩:=Deal.pl_row x (hp.mem_iff.mp hx)
  obtain ⟨p,hp',e1⟩:=List.mem_map.mp (a2.perm.mem_iff.mp h1)
  obtain ⟨q,hq',e2⟩:=List.mem_map.mp (a1.perm.mem_iff.mp h2)
  unfold HS.gd at h3
  rw [← e1,← e2,lot_at o.ndl hq',line_at' o.ndn hp'] at h3
  obtain ⟨g1,g2⟩:=Bool.and_eq_true_iff.mp h3
  exact ⟨⟨p,hp',e1,q,hq',e2,of_decide_eq_true g1,of_decide_eq_true g2⟩,h4⟩
 ·have:=Deal.pl_le (gd:=S.gd) (want:=S.want) (ls:=ls) (p:=fun z1=>true) (a1.perm.nodup_iff.mpr o.ndl) (lots_nonneg o) t
  unfold Deal.amtR at this
  unfold amtN
  rw [sum_perm ((hp.filter _).map _)]
  simpa using this
 ·have hw:=(o.line p hl).1.n0
  have:=Deal.pl_line (gd:=S.gd) (want:=S.want) (ts:=ts) (r:=S.rest) (a2.perm.nodup_iff.mpr o.ndn) p.1 (by unfold HS.want;rw [line_at' o.ndn hl];(exact Ar.l10 (.ile (.k 0) (.v 0)) [(.ile (.k 1) (.v 0))] (by kernel_rfl) hw))
  unfold HS.want at this
  rw [line_at' o.ndn hl] at this
  unfold Deal.amtL at this ⊢
  rw [sum_perm ((hp.filter _).map _)]
  exact this
theorem Inv.dealt (h:Inv L N D S) (o:S.Ok) {day:Int} {R:List NRow} (hR:PlanOf S R):Inv L N D (S.dealt day (S.told day R)):=by
 obtain ⟨hrow,hl,hn⟩:=hR.rows o
 have K:=zbs (S.told day R) S
 have G:=take_gave (S.told day R) S
 have sub:∀ x∈S.told day R,x∈R:=fun x hx=>(List.mem_filter.mp hx).1
 have hT:∀ x∈S.told day R,0<=x.2.1/\0<=x.1/\x.1∈S.lines.map (·.1)/\x.2.1∈S.lots.map (·.1):=fun x hx=>by
  obtain ⟨p,hp,e1,q,hq,e2,_⟩:=(hrow x (sub x hx)).line
  exact ⟨e2 ▸ (o.lot q hq).2.2.1,e1 ▸ (o.line p hp).2.2.1,List.mem_map.mpr ⟨p,hp,e1⟩,List.mem_map.mpr ⟨q,hq,e2⟩⟩
 have hgave:∀ i,i<S.gave.length->(S.dealt day (S.told day R)).gave.getD i 0=S.gave.getD i 0+amtN (S.told day R) i:=fun i hi=>by
  show ((S.told day R).foldl HS.take S).gave.getD i 0=_
  rw [G.1];exact addG_get hi fun x hx=>(hT x hx).1
 have hcame:∀ i,i<S.came.length->(S.dealt day (S.told day R)).came.getD i 0=S.came.getD i 0+Deal.amtL (S.told day R) (i:Int):=fun i hi=>by
  show ((S.told day R).foldl HS.take S).came.getD i 0=_
  rw [G.2];exact addC_get hi fun x hx=>(hT x hx).2.1
 have hlots:(S.dealt day (S.told day R)).lots=(S.lots.map fun p=>(p.1,({ p.2 with n:=p.2.n - amtN (S.told day R) p.1 }:Lot))).filter fun p=>p.2.n != 0:=by
  show ((S.told day R).foldl HS.take S).lots.filter _=_
  rw [take_lots]
 have hwas:(S.dealt day (S.told day R)).wasted=S.wasted:=K.wasted
 have key:∀ q∈S.lots,((q.1.toNat:Nat):Int)=q.1/\q.1.toNat<S.gave.length:=fun q hq=>by
  have b:=(o.lot q hq).2.2
  exact ⟨Int.toNat_of_nonneg b.1,nat_lt b.1 b.2⟩
 refine ⟨h.nl.trans K.gave.symm,h.nn.trans K.came.symm,fun p hp=>?_,fun i hi hk=>?_,fun p hp=>?_,fun i hi=>?_⟩
 ·rw [hlots] at hp
  obtain ⟨q,hq,rfl⟩:=List.mem_map.mp (List.mem_filter.mp hp).1
  have I:=h.lot q hq
  obtain ⟨k1,k2⟩:=key q hq
  refine ⟨I.w,I.last,hwas ▸ I.waste,?_⟩
  have:=I.sum
  show (S.dealt day (S.told day R)).gave.getD q.1.toNat 0+(q.2.n - amtN (S.told day R) q.1)=_
  rw [hgave _ k2,k1]
  (exact Ar.l40 (.ieq (.a (.a (.v 0) (.v 1)) (.s (.v 2) (.v 1))) (.v 3)) [(.ieq (.a (.v 0) (.v 2)) (.v 3))] (by kernel_rfl) this)
 ·by_cases hm:(i:Int)∈S.lots.map (·.1)
  ·obtain ⟨q,hq,e⟩:=List.mem_map.mp hm
   have I:=h.lot q hq
   obtain ⟨k1,k2⟩:=key q hq
   have ei:q.1.toNat=i:=by rw [e];rfl
   have hz:q.2.n - amtN (S.told day R) q.1=0:=by
    by_cases z:q.2.n - amtN (S.told day R) q.1=0
    ·exact z
    ·exfalso
     apply hk
     rw [hlots]
     exact List.mem_map.mpr ⟨_,List.mem_filter.mpr ⟨List.mem_map.mpr ⟨q,hq,rfl⟩,by simpa using z⟩,e⟩
   have s1:=I.sum
   have s2:=I.waste
   rw [ei] at s1 s2 k2
   rw [e] at hz
   refine ⟨?_,?_,fun z=>?_⟩
   ·rw [hwas,hgave i k2,s2];(exact Ar.l40 (.ieq (.a (.a (.v 0) (.v 1)) (.k 0)) (.v 2)) [(.ieq (.s (.v 3) (.v 1)) (.k 0)),(.ieq (.a (.v 0) (.v 3)) (.v 2))] (by kernel_rfl) hz s1)
   ·rw [hwas,s2];exact Int.le_refl 0
   ·rw [hwas,s2] at z;exact absurd z (Int.lt_irrefl 0)
  ·have I:=h.out i hi hm
   have e:=hgave i (h.nl ▸ hi)
   rw [amtN_none fun x hx (z:x.2.1=i)=>hm (by rw [← z];exact (hT x hx).2.2.2),Int.add_zero] at e
   exact ⟨by rw [e,hwas];exact I.sum,by rw [hwas];exact I.pos,by rw [hwas];exact I.late⟩
 ·obtain ⟨hp,hd⟩:=List.mem_filter.mp hp
  have I:=h.line p hp
  have b:=(o.line p hp).2.2
  refine ⟨I.1,?_⟩
  rw [hcame _ (nat_lt b.1 b.2),I.2,Int.zero_add,Int.toNat_of_nonneg b.1]
  refine Deal.amtL_none fun x hx z=>?_
  have:=(List.mem_filter.mp hx).2
  rw [z,line_at' o.ndn hp] at this
  simp only [bne_iff_ne,ne_eq] at hd
  exact hd (eq_of_beq this)
 ·rw [hcame i (h.nn ▸ hi)]
  by_cases hm:(i:Int)∈S.lines.map (·.1)
  ·obtain ⟨p,hp,e⟩:=List.mem_map.mp hm
   have I:=h.line p hp
   have ei:p.1.toNat=i:=by rw [e];rfl
   rw [ei] at I
   rw [I.2,Int.zero_add,I.1,← e]
   exact Int.le_trans (Deal.amtL_filter (fun x hx=>(hrow x hx).pos) _ _) (hn p hp)
  ·rw [Deal.amtL_none (D:=S.told day R) fun x hx (z:x.1=(i:Int))=>hm (by rw [← z];exact (hT x hx).2.2.1),Int.add_zero]
   exact h.came i hi
structure Row12 (L:List Lot) (N:List Line) (S:HS) (goal:Int) (r:Int × NRow):Prop where
 ln:r.2.1∈S.lines.map (·.1)
 lt:r.2.2.1∈S.lots.map (·.1)
 pos:0<r.2.2.2
 day:(N.getD r.2.1.toNat Line.z).day=r.1
 w:(L.getD r.2.2.1.toNat Lot.z).w=(N.getD r.2.1.toNat Line.z).w
 good:(N.getD r.2.1.toNat Line.z).need<=(L.getD r.2.2.1.toNat Lot.z).last
 d0:S.day<=r.1
 d1:r.1<goal
structure Days12 (L:List Lot) (N:List Line) (S:HS) (goal:Int) (S₁:HS) (ds:List Int) (fnd:List (Int × NRow)):Prop where
 inv:Inv L N goal S₁
 keys:∀ k∈S₁.lots.map (·.1),k∈S.lots.map (·.1)
 rows:∀ r∈fnd,Row12 L N S goal r/\r.1∈ds
 rise:fnd.Pairwise fun a b=>a.1<=b.1
 gave:S₁.gave=(fnd.map (·.2)).foldl addG S.gave
 came:S₁.came=(fnd.map (·.2)).foldl addC S.came
theorem Days.law12 {goal:Int} (o:S.Ok) (hi:Inv L N S.day S) (hg:S.day<=goal) {ds:List Int} {S₁:HS} {fnd:List (Int × NRow)} (h:Days S ds S₁ fnd):∀ left,DaysTo S goal (ds++left)->Days12 L N S goal S₁ ds fnd:=by
 induction h with
 | nil=>exact fun left hD=>⟨hi.mono hg,fun k hk=>hk,(fun r hr=>nomatch hr),.nil,rfl,rfl⟩
 | @snoc ds S₁ fnd d R hd hR ih=>
  intro left hD
  rw [List.append_assoc] at hD
  have J:=ih _ hD
  have I:=hd.ok o
  have okt:=I.ok.throw d
  obtain ⟨⟨p0,hp0,ep0⟩,hdg⟩:=(hD.mem d).mp (by simp)
  have it:=J.inv.throw I.ok (Int.le_of_lt hdg)
  have G:=take_gave ((S₁.throw d).told d R) (S₁.throw d)
  have K:=zbs ((S₁.throw d).told d R) (S₁.throw d)
  have em:((S₁.throw d).told d R).map ((·.2)∘fun x=>(d,x))=(S₁.throw d).told d R:=by
   conv=>rhs;rw [← List.map_id ((S₁.throw d).told d R)]
   rfl
  refine ⟨it.dealt okt hR,fun k hk=>?_,fun r hr=>?_,?_,?_,?_⟩
  ·have h1:k∈((S₁.throw d).told d R |>.foldl HS.take (S₁.throw d)).lots.map (·.1):=List.Sublist.mem hk (List.filter_sublist.map _)
   rw [K.keys] at h1
   exact J.keys k (List.Sublist.mem h1 (List.filter_sublist.map _))
  ·rcases List.mem_append.mp hr with q | q
   ·exact ⟨(J.rows r q).1,List.mem_append_left _ (J.rows r q).2⟩
   ·obtain ⟨x,hx,rfl⟩:=List.mem_map.mp q
    obtain ⟨hx,hdx⟩:=List.mem_filter.mp hx
    have X:=(hR.rows okt).1 x hx
    obtain ⟨p,hp,e1,t,ht,e2,gw,gn⟩:=X.line
    have A:=it.lot t ht
    have B:=(it.line p hp).1
    have hp':p∈S.lines:=by have:=hp;rw [show (S₁.throw d).lines=S₁.lines from rfl,I.lines] at this;exact (List.mem_filter.mp this).1
    have ed:p.2.day=d:=by have:=hdx;rw [← e1,line_at' okt.ndn hp] at this;exact eq_of_beq this
    refine ⟨⟨List.mem_map.mpr ⟨p,hp',e1⟩,J.keys _ (List.mem_map.mpr ⟨t,(List.mem_filter.mp ht).1,e2⟩),X.pos,?_,?_,?_,?_,hdg⟩,by simp⟩
    ·show (N.getD x.1.toNat Line.z).day=d
     rw [← e1,B];exact ed
    ·show (L.getD x.2.1.toNat Lot.z).w=(N.getD x.1.toNat Line.z).w
     rw [← e1,← e2,B,A.w];exact gw
    ·show (N.getD x.1.toNat Line.z).need<=(L.getD x.2.1.toNat Lot.z).last
     rw [← e1,← e2,B,A.last];exact gn
    ·show S.day<=d
     rw [← ep0];exact (o.line p0 hp0).2.1
  ·refine List.pairwise_append.mpr ⟨J.rise,?_,fun a ha b hb=>?_⟩
   ·rw [List.pairwise_map]
    exact List.pairwise_of_forall fun z1 z2=>Int.le_refl d
   ·obtain ⟨x,_,rfl⟩:=List.mem_map.mp hb
    exact Int.le_of_lt ((List.pairwise_append.mp hD.rise).2.2 a.1 (J.rows a ha).2 d (by simp))
  ·rw [List.map_append,List.map_map,em,List.foldl_append,← J.gave]
   exact G.1
  ·rw [List.map_append,List.map_map,em,List.foldl_append,← J.came]
   exact G.2
end
noncomputable def t_law_put_12:T:=(.cons (.asgn (.var 4) (.call "_law_word" (.cons (.item (.var 1) (.str "base")) (.cons (.bin .Mod (.call "_law_mixed" (.cons (.var 2) (.cons (.int 1) .nil))) (.int 3)) .nil)))) (.cons (.asgn (.var 5) (.call "_law_later" (.cons (.var 3) (.cons (.call "_law_mixed" (.cons (.var 2) (.cons (.int 2) .nil))) .nil)))) (.cons (.asgn (.var 6) (.call "_law_count" (.cons (.call "_law_mixed" (.cons (.var 2) (.cons (.int 3) .nil))) .nil))) (.cons (.ite (.bo .And (.cons (.cmp .Eq (.bin .Mod (.var 2) (.int 2)) (.int 0)) (.cons (.cmp .Lt (.blt .len (.cons (.methI (.var 0) "there" .nil) .nil)) (.int 100)) .nil))) (.cons (.expr (.meth (.item (.var 1) (.str "lots")) "append" (.cons (.tup (.cons (.var 4) (.cons (.var 5) (.cons (.var 6) .nil)))) .nil))) (.cons (.expr (.meth (.item (.var 1) (.str "gave")) "append" (.cons (.int 0) .nil))) (.cons (.expr (.methI (.var 0) "receive" (.cons (.var 4) (.cons (.var 5) (.cons (.var 6) .nil))))) .nil))) (.cons (.ite (.bo .And (.cons (.cmp .Eq (.bin .Mod (.var 2) (.int 2)) (.int 1)) (.cons (.cmp .Lt (.blt .len (.cons (.methI (.var 0) "open_lines" .nil) .nil)) (.int 100)) .nil))) (.cons (.asgn (.var 7) (.call "_law_over" (.cons (.call "_law_mixed" (.cons (.var 2) (.cons (.int 4) .nil))) .nil))) (.cons (.expr (.meth (.item (.var 1) (.str "lines")) "append" (.cons (.tup (.cons (.var 4) (.cons (.var 5) (.cons (.var 7) (.cons (.var 6) .nil))))) .nil))) (.cons (.expr (.meth (.item (.var 1) (.str "had")) "append" (.cons (.int 0) .nil))) (.cons (.expr (.methI (.var 0) "order" (.cons (.var 4) (.cons (.var 5) (.cons (.var 7) (.cons (.var 6) .nil)))))) .nil)))) .nil) .nil)) .nil))))
noncomputable def n_law_put_12:List Str:=["_law_house","_law_own","_law_cell","_law_day","_law_ware","_law_one","_law_count_here","_law_over_here"]
noncomputable def t_law_row_12_e1:T:=(.int 1)
noncomputable def t_law_row_12_c1:T:=(.un .Not (.call "_law_whole" (.cons (.var 5) .nil)))
noncomputable def t_law_row_12_q1:T:=(.bo .Or (.cons (.un .Not (.isi (.var 1) .tuple)) (.cons (.cmp .NotEq (.blt .len (.cons (.var 1) .nil)) (.int 4)) (.cons (.cmp .Gt (.blt .len (.cons (.comp false true t_law_row_12_e1 [5] (.var 1) t_law_row_12_c1) .nil)) (.int 0)) .nil))))
noncomputable def t_law_row_12_q2:T:=(.bo .Or (.cons (.cmp .NotIn (.item (.var 1) (.int 1)) (.var 4)) (.cons (.cmp .NotIn (.item (.var 1) (.int 2)) (.var 3)) (.cons (.cmp .Lt (.item (.var 1) (.int 3)) (.int 1)) .nil))))
noncomputable def t_law_row_12:T:=(.cons (.ite (.cut t_law_row_12_q1) (.cons (.ret (.bool false)) .nil) .nil) (.cons (.ite (.cut t_law_row_12_q2) (.cons (.ret (.bool false)) .nil) .nil) (.cons (.asgn (.var 6) (.item (.item (.var 0) (.str "lines")) (.item (.var 1) (.int 1)))) (.cons (.asgn (.var 7) (.item (.item (.var 0) (.str "lots")) (.item (.var 1) (.int 2)))) (.cons (.asgn (.item (.item (.var 0) (.str "had")) (.item (.var 1) (.int 1))) (.bin .Add (.item (.item (.var 0) (.str "had")) (.item (.var 1) (.int 1))) (.item (.var 1) (.int 3)))) (.cons (.asgn (.item (.item (.var 0) (.str "gave")) (.item (.var 1) (.int 2))) (.bin .Add (.item (.item (.var 0) (.str "gave")) (.item (.var 1) (.int 2))) (.item (.var 1) (.int 3)))) (.cons (.ret (.bo .And (.cons (.cmp .Eq (.item (.var 1) (.int 0)) (.item (.var 6) (.int 1))) (.cons (.cmp .GtE (.item (.var 1) (.int 0)) (.var 2)) (.cons (.cmp .Eq (.item (.var 7) (.int 0)) (.item (.var 6) (.int 0))) (.cons (.cmp .GtE (.item (.var 7) (.int 1)) (.bin .Add (.item (.var 6) (.int 1)) (.item (.var 6) (.int 2)))) .nil)))))) .nil)))))))
noncomputable def n_law_row_12:List Str:=["_law_own","_law_row_here","_law_last","_law_there","_law_lines","_law_part","_law_line","_law_lot"]
noncomputable def t_law_go_12_e1:T:=(.item (.var 3) (.int 0))
noncomputable def t_law_go_12_e2:T:=(.item (.var 3) (.int 0))
noncomputable def t_law_go_12_q1:T:=(.bo .Or (.cons (.un .Not (.isi (.var 7) .list)) (.cons (.cmp .NotEq (.attr (.var 0) "day") (.var 2)) .nil)))
noncomputable def t_law_go_12_b1:T:=(.cons (.ite (.bo .Or (.cons (.un .Not (.call "_law_row" (.cons (.var 1) (.cons (.var 3) (.cons (.var 6) (.cons (.var 4) (.cons (.var 5) .nil))))))) (.cons (.cmp .GtE (.item (.var 3) (.int 0)) (.var 2)) .nil))) (.cons (.ret (.bool false)) .nil) .nil) (.cons (.asgn (.var 6) (.item (.var 3) (.int 0))) .nil))
noncomputable def t_law_go_12:T:=(.cons (.asgnC 4 false false t_law_go_12_e1 [3] (.methI (.var 0) "there" .nil) .nil) (.cons (.asgnC 5 false false t_law_go_12_e2 [3] (.methI (.var 0) "open_lines" .nil) .nil) (.cons (.asgn (.var 6) (.attr (.var 0) "day")) (.cons (.asgn (.var 7) (.methI (.var 0) "go_to" (.cons (.var 2) .nil))) (.cons (.ite (.cut t_law_go_12_q1) (.cons (.ret (.bool false)) .nil) .nil) (.cons (.for_ (.var 3) (.var 7) t_law_go_12_b1) (.cons (.ret (.bool true)) .nil)))))))
noncomputable def n_law_go_12:List Str:=["_law_house","_law_own","_law_day","_law_row_here","_law_there","_law_lines","_law_last","_law_found"]
noncomputable def t_law_refused_12_h1:T:=(.cons (.ret (.isx (.var 3) false ["NoNumber"])) .nil)
noncomputable def t_law_refused_12_t1:T:=(.cons (.ite (.cmp .Eq (.var 1) (.int 0)) (.cons (.expr (.methI (.var 0) "given" (.cons (.var 2) .nil))) .nil) (.cons (.ite (.cmp .Eq (.var 1) (.int 1)) (.cons (.expr (.methI (.var 0) "thrown" (.cons (.var 2) .nil))) .nil) (.cons (.expr (.methI (.var 0) "got" (.cons (.var 2) .nil))) .nil)) .nil)) .nil)
noncomputable def t_law_refused_12:T:=(.cons (.try_ t_law_refused_12_t1 (.cons (.handler "LotError" (some 3) t_law_refused_12_h1) .nil)) (.cons (.ret (.bool false)) .nil))
noncomputable def n_law_refused_12:List Str:=["_law_house","_law_kind","_law_number","error"]
noncomputable def t_law_sums_12_b1:T:=(.cons (.asgn (.item (.var 2) (.item (.var 3) (.int 0))) (.item (.var 3) (.int 3))) .nil)
noncomputable def t_law_sums_12_q1:T:=(.bo .Or (.cons (.un .Not (.call "_law_whole" (.cons (.var 5) .nil))) (.cons (.un .Not (.call "_law_whole" (.cons (.var 6) .nil))) (.cons (.cmp .NotEq (.var 5) (.item (.item (.var 1) (.str "gave")) (.var 4))) (.cons (.cmp .Lt (.var 6) (.int 0)) .nil)))))
noncomputable def t_law_sums_12_q2:T:=(.bo .Or (.cons (.cmp .NotEq (.bin .Add (.bin .Add (.var 5) (.var 6)) (.meth (.var 2) "get" (.cons (.var 4) (.cons (.int 0) .nil)))) (.item (.item (.item (.var 1) (.str "lots")) (.var 4)) (.int 2))) (.cons (.bo .And (.cons (.cmp .In (.var 4) (.var 2)) (.cons (.cmp .NotEq (.var 6) (.int 0)) .nil))) .nil)))
noncomputable def t_law_sums_12_q3:T:=(.bo .Or (.cons (.bo .And (.cons (.cmp .Gt (.var 6) (.int 0)) (.cons (.cmp .GtE (.item (.item (.item (.var 1) (.str "lots")) (.var 4)) (.int 1)) (.attr (.var 0) "day")) .nil))) (.cons (.bo .And (.cons (.cmp .In (.var 4) (.var 2)) (.cons (.cmp .Lt (.item (.item (.item (.var 1) (.str "lots")) (.var 4)) (.int 1)) (.attr (.var 0) "day")) .nil))) .nil)))
noncomputable def t_law_sums_12_b2:T:=(.cons (.asgn (.var 5) (.methI (.var 0) "given" (.cons (.var 4) .nil))) (.cons (.asgn (.var 6) (.methI (.var 0) "thrown" (.cons (.var 4) .nil))) (.cons (.ite (.cut t_law_sums_12_q1) (.cons (.ret (.bool false)) .nil) .nil) (.cons (.ite (.cut t_law_sums_12_q2) (.cons (.ret (.bool false)) .nil) .nil) (.cons (.ite (.cut t_law_sums_12_q3) (.cons (.ret (.bool false)) .nil) .nil) .nil)))))
noncomputable def t_law_sums_12_b3:T:=(.cons (.asgn (.var 7) (.methI (.var 0) "got" (.cons (.var 4) .nil))) (.cons (.ite (.bo .Or (.cons (.un .Not (.call "_law_whole" (.cons (.var 7) .nil))) (.cons (.cmp .NotEq (.var 7) (.item (.item (.var 1) (.str "had")) (.var 4))) (.cons (.cmp .Gt (.var 7) (.item (.item (.item (.var 1) (.str "lines")) (.var 4)) (.int 3))) .nil)))) (.cons (.ret (.bool false)) .nil) .nil) .nil))
noncomputable def t_law_sums_12:T:=(.cons (.asgn (.var 2) (.dict .nil .nil)) (.cons (.for_ (.var 3) (.methI (.var 0) "there" .nil) t_law_sums_12_b1) (.cons (.for_ (.var 4) (.blt .range (.cons (.blt .len (.cons (.item (.var 1) (.str "lots")) .nil)) .nil)) t_law_sums_12_b2) (.cons (.for_ (.var 4) (.blt .range (.cons (.blt .len (.cons (.item (.var 1) (.str "lines")) .nil)) .nil)) t_law_sums_12_b3) (.cons (.ret (.bool true)) .nil)))))
noncomputable def n_law_sums_12:List Str:=["_law_house","_law_own","_law_there","_law_row_here","_law_k","_law_gave","_law_lost","_law_got"]
noncomputable def t_law_12_q1:T:=(.bo .And (.cons (.cmp .Eq (.bin .Mod (.var 3) (.int 16)) (.int 9)) (.cons (.un .Not (.call "_law_sums" (.cons (.var 2) (.cons (.var 1) .nil)))) .nil)))
noncomputable def t_law_12_q2:T:=(.bo .And (.cons (.cmp .Eq (.var 5) (.int 6)) (.cons (.cmp .Gt (.blt .len (.cons (.var 6) .nil)) (.int 0)) .nil)))
noncomputable def t_law_12_q3:T:=(.cmp .Eq (.bin .Mod (.bin .FloorDiv (.var 4) (.int 8)) (.int 16)) (.int 5))
noncomputable def t_law_12_b1:T:=(.cons (.asgn (.var 4) (.item (.var 0) (.var 3))) (.cons (.asgn (.var 5) (.bin .Mod (.var 4) (.int 8))) (.cons (.asgn (.var 6) (.methI (.var 2) "open_lines" .nil)) (.cons (.ite (.cut t_law_12_q1) (.cons (.ret (.bool false)) .nil) .nil) (.cons (.ite (.cut t_law_12_q2) (.cons (.expr (.methI (.var 2) "cancel" (.cons (.item (.item (.var 6) (.bin .Mod (.call "_law_mixed" (.cons (.var 4) (.cons (.int 5) .nil))) (.blt .len (.cons (.var 6) .nil)))) (.int 0)) .nil))) .nil) (.cons (.ite (.cmp .Eq (.var 5) (.int 7)) (.cons (.asgn (.var 7) (.blt .min (.cons (.bin .Pow (.int 10) (.int 12)) (.cons (.bin .Add (.attr (.var 2) "day") (.bin .Mod (.call "_law_mixed" (.cons (.var 4) (.cons (.int 5) .nil))) (.int 7))) .nil)))) (.cons (.ite (.cut t_law_12_q3) (.cons (.asgn (.var 7) (.bin .Pow (.int 10) (.int 12))) .nil) .nil) (.cons (.ite (.un .Not (.call "_law_go" (.cons (.var 2) (.cons (.var 1) (.cons (.var 7) .nil))))) (.cons (.ret (.bool false)) .nil) .nil) .nil))) (.cons (.expr (.call "_law_put" (.cons (.var 2) (.cons (.var 1) (.cons (.bin .FloorDiv (.var 4) (.int 8)) (.cons (.attr (.var 2) "day") .nil)))))) .nil)) .nil)) .nil)))))
noncomputable def t_law_12_q4:T:=(.un .Not (.call "_law_sums" (.cons (.var 2) (.cons (.var 1) .nil))))
noncomputable def t_law_12_b2:T:=(.cons (.ite (.bo .Or (.cons (.un .Not (.call "_law_refused" (.cons (.var 2) (.cons (.var 5) (.cons (.var 8) .nil))))) (.cons (.un .Not (.call "_law_refused" (.cons (.var 2) (.cons (.var 5) (.cons (.blt .len (.cons (.item (.var 1) (.str "lots")) .nil)) .nil))))) .nil))) (.cons (.ret (.bool false)) .nil) .nil) .nil)
noncomputable def t_law_12:T:=(.cons (.asgn (.var 1) (.dictL ["base","lots","lines","gave","had"] (.cons (.call "_law_at" (.cons (.var 0) (.cons (.int 0) .nil))) (.cons (.lst true .nil) (.cons (.lst true .nil) (.cons (.lst true .nil) (.cons (.lst true .nil) .nil))))))) (.cons (.asgn (.var 2) (.call "House" .nil)) (.cons (.for_ (.var 3) (.blt .range (.cons (.int 1) (.cons (.blt .len (.cons (.var 0) .nil)) .nil))) t_law_12_b1) (.cons (.ite (.cut t_law_12_q4) (.cons (.ret (.bool false)) .nil) .nil) (.cons (.asgn (.var 8) (.item (.lst false (.cons (.bin .Sub (.int 0) (.int 1)) (.cons (.bool true) (.cons .none (.cons (.str "0") (.cons (.bin .Add (.blt .len (.cons (.item (.var 1) (.str "lots")) .nil)) (.bin .Pow (.int 10) (.int 6))) (.cons (.lst false (.cons (.int 0) .nil)) (.cons (.dict .nil .nil) .nil)))))))) (.bin .Mod (.call "_law_at" (.cons (.var 0) (.cons (.int 0) .nil))) (.int 7)))) (.cons (.for_ (.var 5) (.blt .range (.cons (.int 2) .nil)) t_law_12_b2) (.cons (.asgn (.var 8) (.item (.lst false (.cons (.bin .Sub (.int 0) (.int 1)) (.cons (.bool true) (.cons .none (.cons (.str "0") (.cons (.tup (.cons (.int 0) .nil)) (.cons (.lst false (.cons (.int 0) .nil)) .nil))))))) (.bin .Mod (.call "_law_at" (.cons (.var 0) (.cons (.int 0) .nil))) (.int 6)))) (.cons (.ret (.bo .And (.cons (.call "_law_refused" (.cons (.var 2) (.cons (.int 2) (.cons (.var 8) .nil)))) (.cons (.call "_law_refused" (.cons (.var 2) (.cons (.int 2) (.cons (.blt .len (.cons (.item (.var 1) (.str "lines")) .nil)) .nil)))) .nil)))) .nil))))))))
noncomputable def n_law_12:List Str:=["_law_script","_law_own","_law_house","_law_at_here","_law_cell","_law_kind","_law_lines","_law_day","_law_number"]
structure L12 (k:Base):Prop extends Helps k where
 f_law_whole:FnT k "_law_whole" 1 t_law_whole
 f_law_later:FnT k "_law_later" 2 t_law_later
 f_law_over:FnT k "_law_over" 1 t_law_over
 f_law_count:FnT k "_law_count" 1 t_law_count
 f_law_put:FnT k "_law_put" 4 t_law_put_12
 f_law_row:FnT k "_law_row" 5 t_law_row_12
 f_law_go:FnT k "_law_go" 3 t_law_go_12
 f_law_refused:FnT k "_law_refused" 3 t_law_refused_12
 f_law_sums:FnT k "_law_sums" 2 t_law_sums_12
 f_law:FnT k "law" 1 t_law_12
 house:∃ C f,HouseK k C f/\HouseM k f
 errs:∃ ad,Errs k ad
noncomputable def later_ (day m:Int):Int:=if m % 16=0 then day+m / 16 % (1000000000001 - day) else if m % 16=1 then min 1000000000000 (day+m / 16 % 2000) else min 1000000000000 (day+m / 16 % 9)
theorem min_mid {d z:Int} (h1:d<=1000000000000) (hz:0<=z):d<=min 1000000000000 (d+z)/\min 1000000000000 (d+z)<=1000000000000:=⟨Int.le_min.mpr ⟨h1,Int.le_add_of_nonneg_right hz⟩,Int.min_le_left _ _⟩
theorem later_ok {day:Int} (h0:0<=day) (h1:day<=1000000000000) (m:Int):day<=later_ day m/\later_ day m<=1000000000000:=by
 unfold later_
 have p0:0<1000000000001 - day:=Int.sub_pos.mpr (Int.lt_add_one_of_le h1)
 have p1:=mod_nn (m / 16) p0
 have p2:=Int.emod_lt_of_pos (m / 16) p0
 generalize m / 16 % (1000000000001 - day)=z at p1 p2 ⊢
 by_cases a:m % 16=0
 ·rw [if_pos a]
  exact ⟨Int.le_add_of_nonneg_right p1,Int.le_of_lt_add_one (by have:=Int.add_lt_of_lt_sub_left p2;exact this)⟩
 ·rw [if_neg a]
  by_cases b:m % 16=1
  ·rw [if_pos b];exact min_mid h1 (mod_nn _ (by decide))
  ·rw [if_neg b];exact min_mid h1 (mod_nn _ (by decide))
theorem S_later (hf:FnT c.k "_law_later" 2 t_law_later) {day m:Int} (h0:0<=day) (h1:day<=1000000000000) (h:P (.int (later_ day m)) σ):CallN c (d+1) "_law_later" [.int day,.int m] σ P X:=by
 refine zae hf ?_
 unfold later_ at h
 repeat' walk_at "x"
 ·rename_i q1;rw [if_pos q1] at h;exact h
 ·rename_i q1 q2;rw [if_neg q1,if_pos q2] at h;exact h
 ·rename_i q1 q2;rw [if_neg q1,if_neg q2] at h;exact h
noncomputable def notExc (o:O):Bool:=o.casesOn (fun z1=>true) (fun z1=>true) (fun z1=>true) (fun z1 z2 z3=>true) (fun z1=>false)
theorem All.noExc {L σ':Led} (h:All L σ') (o:∀ b,b∉L.map (·.1)->σ'.lookup b=σ.lookup b) (hn:NoExc σ) (hx:L.all (fun p=>notExc p.2)=true):NoExc σ':=fun a C e=>by
 by_cases q:a∈L.map (·.1)
 ·obtain ⟨p,hp,rfl⟩:=List.mem_map.mp q
  have h1:=h p hp
  rw [e] at h1
  have h2:=List.all_eq_true.mp hx p hp
  rw [← Option.some.inj h1] at h2
  exact Bool.false_ne_true h2
 ·rw [o a q] at e;exact hn a C e
theorem NoExc.cons {b:Addr} {o:O} (h:NoExc σ) (ho:notExc o=true):NoExc ((b,o)::σ):=fun a C e=>by
 rw [List.lookup_cons] at e
 cases q:a == b with
 | true=>rw [q] at e;cases e;exact Bool.false_ne_true ho
 | false=>rw [q] at e;exact h a C e
structure OB where
 o:Addr
 a:Addr
 b:Addr
 g:Addr
 h:Addr
noncomputable def OB.parts (B:OB):List Addr:=[B.o,B.a,B.b,B.g,B.h]
noncomputable def OB.kv (B:OB) (base:Int):List (Str × V):=[("base",.int base),("lots",.ref B.a),("lines",.ref B.b),("gave",.ref B.g),("had",.ref B.h)]
noncomputable def OB.objs (B:OB) (base:Int) (L:List Lot) (N:List Line) (G M:List Int):Led:=[(B.o,.dictS (B.kv base)),(B.a,.list (L.map Lot.v)),(B.b,.list (N.map Line.v)),(B.g,.list (G.map .int)),(B.h,.list (M.map .int))]
structure Tv (k:Base) (f:Str->Value) (H:HA) (S:HS) (B:OB) (base:Int) (L:List Lot) (N:List Line) (G M:List Int) (σ:Led):Prop where
 h:Hs k f H S σ
 nd:B.parts.Nodup
 all:All (B.objs base L N G M) σ
 sp:∀ x∈H.parts,x∉B.parts
 nx:NoExc σ
section
variable {k:Base} {f:Str->Value} {H:HA} {S S':HS} {B:OB} {base:Int} {L L':List Lot} {N N':List Line} {G G' M M':List Int} {σ':Led}
theorem Tv.o (A:Tv k f H S B base L N G M σ):σ.lookup B.o=some (.dictS (B.kv base)):=A.all (B.o,_) (.head _)
theorem Tv.a (A:Tv k f H S B base L N G M σ):σ.lookup B.a=some (.list (L.map Lot.v)):=A.all (B.a,_) (.tail _ (.head _))
theorem Tv.b (A:Tv k f H S B base L N G M σ):σ.lookup B.b=some (.list (N.map Line.v)):=A.all (B.b,_) (.tail _ (.tail _ (.head _)))
theorem Tv.g (A:Tv k f H S B base L N G M σ):σ.lookup B.g=some (.list (G.map .int)):=A.all (B.g,_) (.tail _ (.tail _ (.tail _ (.head _))))
theorem Tv.hd (A:Tv k f H S B base L N G M σ):σ.lookup B.h=some (.list (M.map .int)):=A.all (B.h,_) (.tail _ (.tail _ (.tail _ (.tail _ (.head _)))))
theorem Tv.upH (A:Tv k f H S B base L N G M σ) (h:Hs k f H S' σ') (o:Oth H σ σ'):Tv k f H S' B base L N G M σ':=
 ⟨h,A.nd,A.all.of fun x hx z e=>(o x fun q=>A.sp x q hx).trans e,A.sp,h.all.noExc o A.nx rfl⟩
theorem Tv.put {a:Addr} {o o':O} (A:Tv k f H S B base L N G M σ) (i:Nat) (hi:(B.objs base L N G M)[i]?=some (a,o')) (e:B.objs base L' N' G' M'=(B.objs base L N G M).set i (a,o)):Tv k f H S B base L' N' G' M' (upd a o σ):=by
 have hl:=A.all _ (List.mem_of_getElem? hi)
 have ha:a∈B.parts:=List.mem_map_of_mem (f:=Prod.fst) (List.mem_of_getElem? hi)
 have hA:All (B.objs base L' N' G' M') (upd a o σ):=e ▸ A.all.put A.nd i hi
 exact ⟨A.h.other (fun q=>A.sp a q ha) hl,A.nd,hA,A.sp,hA.noExc (fun b hb=>by rw [zbv hl,if_neg (show b≠a from fun q=>hb (q ▸ ha))]) A.nx rfl⟩
theorem Tv.cons {b:Addr} {o:O} (A:Tv k f H S B base L N G M σ) (hb:b∉owned σ) (ho:notExc o=true):Tv k f H S B base L N G M ((b,o)::σ):=
 ⟨A.h.cons hb,A.nd,A.all.of fun x hx z e=>za7 (ne_of_new e hb) e,A.sp,A.nx.cons ho⟩
end
section
variable {f:Str->Value} {H:HA} {S:HS} {B:OB} {base:Int} {L:List Lot} {N:List Line} {G M:List Int}
theorem Tv.i_base (A:Tv c.k f H S B base L N G M σ) (h:P (.int base) σ):Item c d (.ref B.o) (.str "base") σ P:=zby A.o rfl h
theorem Tv.i_lots (A:Tv c.k f H S B base L N G M σ) (h:P (.ref B.a) σ):Item c d (.ref B.o) (.str "lots") σ P:=zby A.o rfl h
theorem Tv.i_lines (A:Tv c.k f H S B base L N G M σ) (h:P (.ref B.b) σ):Item c d (.ref B.o) (.str "lines") σ P:=zby A.o rfl h
theorem Tv.i_gave (A:Tv c.k f H S B base L N G M σ) (h:P (.ref B.g) σ):Item c d (.ref B.o) (.str "gave") σ P:=zby A.o rfl h
theorem Tv.i_had (A:Tv c.k f H S B base L N G M σ) (h:P (.ref B.h) σ):Item c d (.ref B.o) (.str "had") σ P:=zby A.o rfl h
theorem Tv.app_lots {l:Lot} (A:Tv c.k f H S B base L N G M σ) (hF:∀ x∈B.parts,x∉c.F) (hz:L.length<=1000) (h:∀ σ',Tv c.k f H S B base (L++[l]) N G M σ'->P .none σ'):CallS c d (.builtin "list.append") [.ref B.a,.tup [.str l.w,.int l.last,.int l.n]] σ P X:=by
 refine zao A.a (hF _ (.tail _ (.head _))) (by rw [List.length_map];(exact Ar.l01 (.lt (.v 0) (.k 16777216)) [(.le (.v 0) (.k 1000))] (by kernel_rfl) hz)) (h _ ?_)
 rw [show L.map Lot.v++[.tup [.str l.w,.int l.last,.int l.n]]=(L++[l]).map Lot.v from map_snoc]
 exact A.put 1 rfl rfl
theorem Tv.app_lines {l:Line} (A:Tv c.k f H S B base L N G M σ) (hF:∀ x∈B.parts,x∉c.F) (hz:N.length<=1000) (h:∀ σ',Tv c.k f H S B base L (N++[l]) G M σ'->P .none σ'):CallS c d (.builtin "list.append") [.ref B.b,.tup [.str l.w,.int l.day,.int l.left,.int l.n]] σ P X:=by
 refine zao A.b (hF _ (.tail _ (.tail _ (.head _)))) (by rw [List.length_map];(exact Ar.l01 (.lt (.v 0) (.k 16777216)) [(.le (.v 0) (.k 1000))] (by kernel_rfl) hz)) (h _ ?_)
 rw [show N.map Line.v++[.tup [.str l.w,.int l.day,.int l.left,.int l.n]]=(N++[l]).map Line.v from map_snoc]
 exact A.put 2 rfl rfl
theorem Tv.app_gave {i:Int} (A:Tv c.k f H S B base L N G M σ) (hF:∀ x∈B.parts,x∉c.F) (hz:G.length<=1000) (h:∀ σ',Tv c.k f H S B base L N (G++[i]) M σ'->P .none σ'):CallS c d (.builtin "list.append") [.ref B.g,.int i] σ P X:=by
 refine zao A.g (hF _ (.tail _ (.tail _ (.tail _ (.head _))))) (by rw [List.length_map];(exact Ar.l01 (.lt (.v 0) (.k 16777216)) [(.le (.v 0) (.k 1000))] (by kernel_rfl) hz)) (h _ ?_)
 rw [show G.map V.int++[.int i]=(G++[i]).map V.int from map_snoc]
 exact A.put 3 rfl rfl
theorem Tv.app_had {i:Int} (A:Tv c.k f H S B base L N G M σ) (hF:∀ x∈B.parts,x∉c.F) (hz:M.length<=1000) (h:∀ σ',Tv c.k f H S B base L N G (M++[i]) σ'->P .none σ'):CallS c d (.builtin "list.append") [.ref B.h,.int i] σ P X:=by
 refine zao A.hd (hF _ (.tail _ (.tail _ (.tail _ (.tail _ (.head _)))))) (by rw [List.length_map];(exact Ar.l01 (.lt (.v 0) (.k 16777216)) [(.le (.v 0) (.k 1000))] (by kernel_rfl) hz)) (h _ ?_)
 rw [show M.map V.int++[.int i]=(M++[i]).map V.int from map_snoc]
 exact A.put 4 rfl rfl
theorem Tv.set_gave {i v:Int} {K:Led->Prop} (A:Tv c.k f H S B base L N G M σ) (hF:∀ x∈B.parts,x∉c.F) (h0:0<=i) (hi:i.toNat<G.length) (h:∀ σ',Tv c.k f H S B base L N (G.set i.toNat v) M σ'->K σ'):SetIt c d (.ref B.g) (.int i) (.int v) σ K:=by
 refine Set_list A.g (hF _ (.tail _ (.tail _ (.tail _ (.head _))))) h0 (by rw [List.length_map];exact hi) ?_
 rw [← List.map_set]
 exact h _ (A.put 3 rfl rfl)
theorem Tv.set_had {i v:Int} {K:Led->Prop} (A:Tv c.k f H S B base L N G M σ) (hF:∀ x∈B.parts,x∉c.F) (h0:0<=i) (hi:i.toNat<M.length) (h:∀ σ',Tv c.k f H S B base L N G (M.set i.toNat v) σ'->K σ'):SetIt c d (.ref B.h) (.int i) (.int v) σ K:=by
 refine Set_list A.hd (hF _ (.tail _ (.tail _ (.tail _ (.tail _ (.head _)))))) h0 (by rw [List.length_map];exact hi) ?_
 rw [← List.map_set]
 exact h _ (A.put 4 rfl rfl)
structure Tw (k:Base) (f:Str->Value) (H:HA) (S:HS) (B:OB) (base:Int) (L:List Lot) (N:List Line) (σ:Led):Prop where
 t:Tv k f H S B base L N S.gave S.came σ
 ok:S.Ok
 inv:Inv L N S.day S
theorem S_put (hp:L12 c.k) (A:Tw c.k f H S B base L N σ) (hF:H.free c.F) (hB:∀ x∈B.parts,x∉c.F) {cell:Int} (hx:Sz 1048600 cell) (hn:S.gave.length+S.came.length<62)
  (h:∀ S' L' N' σ',Tw c.k f H S' B base L' N' σ'->S'.gave.length+S'.came.length<=S.gave.length+S.came.length+1->P .none σ'):CallN c (d+5) "_law_put" [.ref H.a,.ref B.o,.int cell,.int S.day] σ P X:=by
 have hh:=hp.toHelps
 have ok:=A.ok
 have hH:=A.t.h
 have hLl:L.length<=1000:=by have:=A.inv.nl;(exact Ar.l03 (.le (.v 0) (.k 1000)) [(.lt (.a (.v 1) (.v 2)) (.k 62)),(.eq (.v 0) (.v 1))] (by kernel_rfl) hn this)
 have hNl:N.length<=1000:=by have:=A.inv.nn;(exact Ar.l03 (.le (.v 0) (.k 1000)) [(.lt (.a (.v 1) (.v 2)) (.k 62)),(.eq (.v 0) (.v 2))] (by kernel_rfl) hn this)
 have m3:0<=mixed cell 1 % 3/\mixed cell 1 % 3<3:=⟨mod_nn _ (by decide),Int.emod_lt_of_pos _ (by decide)⟩
 have hw:=(ware_word base (mixed cell 1 % 3)).wok
 have hl:=later_ok ok.day0 ok.day1 (mixed cell 2)
 have hc:=count_ok (mixed cell 3)
 have hv:=over_ok (mixed cell 4)
 have hl':(⟨word base (mixed cell 1 % 3),later_ S.day (mixed cell 2),count_ (mixed cell 3)⟩:Lot).ok:=⟨hw,Int.le_trans ok.day0 hl.1,hl.2,hc.1,hc.2⟩
 have hn':(⟨word base (mixed cell 1 % 3),later_ S.day (mixed cell 2),over_ (mixed cell 4),count_ (mixed cell 3)⟩:Line).ok:=⟨hw,Int.le_trans ok.day0 hl.1,hl.2,hv.1,hv.2,hc.1,hc.2⟩
 refine zae hp.f_law_put ?_
 repeat' walk_at "h"
 refine A.t.i_base ?_
 repeat' walk_at "h"
 refine S_mixed hh hx (by (exact Ar.l00 (.ile (.k 0) (.k 1)) [] (by kernel_rfl) )) (by (exact Ar.l00 (.ile (.k 1) (.k 1000)) [] (by kernel_rfl) )) ?_
 repeat' walk_at "h"
 refine S_word hh m3.1 (by (exact Ar.l10 (.ile (.v 0) (.k 1000)) [(.an (.ile (.k 0) (.v 0)) (.ilt (.v 0) (.k 3)))] (by kernel_rfl) m3)) ?_
 repeat' walk_at "h"
 refine S_mixed hh hx (by (exact Ar.l00 (.ile (.k 0) (.k 2)) [] (by kernel_rfl) )) (by (exact Ar.l00 (.ile (.k 2) (.k 1000)) [] (by kernel_rfl) )) ?_
 repeat' walk_at "h"
 refine S_later hp.f_law_later ok.day0 ok.day1 ?_
 repeat' walk_at "h"
 refine S_mixed hh hx (by (exact Ar.l00 (.ile (.k 0) (.k 3)) [] (by kernel_rfl) )) (by (exact Ar.l00 (.ile (.k 3) (.k 1000)) [] (by kernel_rfl) )) ?_
 repeat' walk_at "h"
 refine S_count hp.f_law_count ?_
 repeat' walk_at "h"
 ·refine ⟨_,mth hH rfl rfl rfl,?_⟩
  repeat' walk_at "h"
  refine S_there hH ok ?_
  repeat' walk_at "h"
  ·refine A.t.i_lots ?_
   repeat' walk_at "h"
   refine ⟨_,_,zan A.t.a,?_⟩
   repeat' walk_at "h"
   refine A.t.app_lots (l:=⟨word base (mixed cell 1 % 3),later_ S.day (mixed cell 2),count_ (mixed cell 3)⟩) hB hLl fun σ₁ A₁=>?_
   repeat' walk_at "h"
   refine A₁.i_gave ?_
   repeat' walk_at "h"
   refine ⟨_,_,zan A₁.g,?_⟩
   repeat' walk_at "h"
   refine A₁.app_gave hB (by (exact Ar.l02 (.le (.v 0) (.k 1000)) [(.lt (.a (.v 0) (.v 1)) (.k 62))] (by kernel_rfl) hn)) fun σ₂ A₂=>?_
   repeat' walk_at "h"
   refine ⟨_,mth A₂.h rfl rfl rfl,?_⟩
   repeat' walk_at "h"
   refine S_receive (l:=⟨word base (mixed cell 1 % 3),later_ S.day (mixed cell 2),count_ (mixed cell 3)⟩) A₂.h hF ok hl' hl.1 fun σ' h' o'=>?_
   repeat' walk_at "h"
   exact zbo (h _ _ _ σ' ⟨A₂.upH h' o',ok.receive hl' hl.1 hn,A.inv.receive ok _⟩ (by show (S.gave++[0]).length+S.came.length<=_;rw [List.length_append,List.length_singleton];(exact Ar.l02 (.le (.a (.a (.v 0) (.k 1)) (.v 1)) (.a (.a (.v 0) (.v 1)) (.k 1))) [] (by kernel_rfl) )))
  all_goals (exfalso;have:=ok.nl;lia)
 ·refine ⟨_,mth hH rfl rfl rfl,?_⟩
  repeat' walk_at "h"
  refine S_open_lines hH ok ?_
  repeat' walk_at "h"
  ·refine S_mixed hh hx (by (exact Ar.l00 (.ile (.k 0) (.k 4)) [] (by kernel_rfl) )) (by (exact Ar.l00 (.ile (.k 4) (.k 1000)) [] (by kernel_rfl) )) ?_
   repeat' walk_at "h"
   refine S_over hp.f_law_over ?_
   repeat' walk_at "h"
   refine A.t.i_lines ?_
   repeat' walk_at "h"
   refine ⟨_,_,zan A.t.b,?_⟩
   repeat' walk_at "h"
   refine A.t.app_lines (l:=⟨word base (mixed cell 1 % 3),later_ S.day (mixed cell 2),over_ (mixed cell 4),count_ (mixed cell 3)⟩) hB hNl fun σ₁ A₁=>?_
   repeat' walk_at "h"
   refine A₁.i_had ?_
   repeat' walk_at "h"
   refine ⟨_,_,zan A₁.hd,?_⟩
   repeat' walk_at "h"
   refine A₁.app_had hB (by (exact Ar.l02 (.le (.v 0) (.k 1000)) [(.lt (.a (.v 1) (.v 0)) (.k 62))] (by kernel_rfl) hn)) fun σ₂ A₂=>?_
   repeat' walk_at "h"
   refine ⟨_,mth A₂.h rfl rfl rfl,?_⟩
   repeat' walk_at "h"
   refine S_order (l:=⟨word base (mixed cell 1 % 3),later_ S.day (mixed cell 2),over_ (mixed cell 4),count_ (mixed cell 3)⟩) A₂.h hF ok hn' hl.1 fun σ' h' o'=>?_
   repeat' walk_at "h"
   exact zbo (h _ _ _ σ' ⟨A₂.upH h' o',ok.order hn' hl.1 hn,A.inv.order ok (by have:=hc.1;show 0<=count_ (mixed cell 3);(exact Ar.l10 (.ile (.k 0) (.v 0)) [(.an (.ile (.k 1) (.v 0)) (.ile (.v 0) (.k 1000000000000)))] (by kernel_rfl) hc))⟩ (by show S.gave.length+(S.came++[0]).length<=_;rw [List.length_append,List.length_singleton];(exact Ar.l02 (.le (.a (.v 0) (.a (.v 1) (.k 1))) (.a (.a (.v 0) (.v 1)) (.k 1))) [] (by kernel_rfl) )))
  all_goals (exfalso;have:=ok.nn;lia)
 ·exact zbo (h S L N σ A (Nat.le_succ _))
end
theorem isDs_ints:∀ ns:List Int,isDs (ns.map V.int)=true
 | []=>rfl
 | n::ns=>by simp only [List.map_cons,isDs,isD,isDs_ints ns,Bool.and_self]
theorem any_ints (x:Int):∀ ns:List Int,((toDs (ns.map V.int)).any fun y=>PyData.eqv y (.int x))=ns.any fun y=>y == x
 | []=>rfl
 | n::ns=>by simp only [List.map_cons,toDs,toD,List.any_cons,any_ints x ns];rfl
theorem Cmp_notIn_mem {x:Int} {ns:List Int} (hx:x∈ns) (h:P (.bool false) σ):Op2 c d (compareOp .NotIn) (.int x) (.lst (ns.map .int)) σ P:=by
 have hb:Dat σ (.lst (ns.map .int)) (.list (toDs (ns.map V.int))):=.val (v:=.lst (ns.map .int)) (by rw [isD];exact isDs_ints ns)
 refine Cmp_notIn_d (x:=.int x) (.val (v:=.int x) rfl) hb (by simp [PyData.depth]) ?_
 rw [any_ints,(List.any_eq_true.mpr ⟨x,hx,beq_self_eq_true x⟩:(ns.any fun y=>y == x)=true)];exact h
theorem addG_len {T:List NRow} {g:List Int}:(T.foldl addG g).length=g.length:=by
 induction T generalizing g with
 | nil=>rfl
 | cons x T ih=>exact ih.trans List.length_set
theorem addC_len {T:List NRow} {g:List Int}:(T.foldl addC g).length=g.length:=by
 induction T generalizing g with
 | nil=>rfl
 | cons x T ih=>exact ih.trans List.length_set
section
variable {f:Str->Value} {H:HA} {S S₁:HS} {B:OB} {base:Int} {L:List Lot} {N:List Line} {G M:List Int}
theorem Tv.i_line {i:Int} (A:Tv c.k f H S B base L N G M σ) (h0:0<=i) (hi:i.toNat<N.length) (h:P (N.getD i.toNat Line.z).v σ):Item c d (.ref B.b) (.int i) σ P:=
 za6 (.ref A.b) h0 (by rw [List.getElem?_map,getD_get? N _ Line.z hi];rfl) h
theorem Tv.i_lot {i:Int} (A:Tv c.k f H S B base L N G M σ) (h0:0<=i) (hi:i.toNat<L.length) (h:P (L.getD i.toNat Lot.z).v σ):Item c d (.ref B.a) (.int i) σ P:=
 za6 (.ref A.a) h0 (by rw [List.getElem?_map,getD_get? L _ Lot.z hi];rfl) h
theorem S_row (hp:L12 c.k) (A:Tv c.k f H S₁ B base L N G M σ) (hB:∀ x∈B.parts,x∉c.F) {r:Int × NRow} {goal last:Int} (R:Row12 L N S goal r) (hl:last<=r.1) (b0:0<=r.2.1) (b1:r.2.1.toNat<N.length) (b2:0<=r.2.2.1) (b3:r.2.2.1.toNat<L.length) (hG:G.length=L.length) (hM:M.length=N.length)
  (h:∀ σ',Tv c.k f H S₁ B base L N (addG G r.2) (addC M r.2) σ'->P (.bool true) σ') :
  CallN c (d+2) "_law_row" [.ref B.o,.tup [.int r.1,.int r.2.1,.int r.2.2.1,.int r.2.2.2],.int last,.lst ((S.lots.map (·.1)).map .int),.lst ((S.lines.map (·.1)).map .int)] σ P X:=by
 obtain ⟨r1,r2,r3,r4,r5,r6,r7,r8⟩:=R
 refine zae hp.f_law_row ?_
 repeat' walk_at "h"
 refine ⟨false,fun Q hQ=>?_,?_⟩
 ·repeat' walk_at "h"
  refine ⟨_,[],by simp,Iter_tup,fun D=>?_⟩
  refine jcomp_fm V.int (fun z1=>.int 1) (fun z1=>false) [r.1,r.2.1,r.2.2.1,r.2.2.2] [] (fun i hi=>⟨_,rfl,?_,fun q=>by cases q⟩) ?_
  ·repeat' walk_at "h"
   refine S_whole (c:=(c.pro []).hide D) hp.f_law_whole ?_
   repeat' walk_at "h"
   exact ⟨rfl,rfl⟩
  refine made_f ?_
  repeat' walk_at "h"
  exact hQ
 refine JB_go ?_
 repeat' walk_at "h"
 refine ⟨false,fun Q hQ=>?_,?_⟩
 ·repeat' walk_at "h"
  refine Cmp_notIn_mem r1 ?_
  repeat' walk_at "h"
  refine Cmp_notIn_mem r2 ?_
  repeat' walk_at "h"
  ·rename_i q;exact absurd q (by (exact Ar.l10 (.no (.ilt (.v 0) (.k 1))) [(.ilt (.k 0) (.v 0))] (by kernel_rfl) r3))
  ·exact hQ
 refine JB_go ?_
 repeat' walk_at "h"
 refine A.i_lines ?_
 repeat' walk_at "h"
 refine A.i_line b0 b1 ?_
 repeat' walk_at "h"
 refine A.i_lots ?_
 repeat' walk_at "h"
 refine A.i_lot b2 b3 ?_
 generalize N.getD r.2.1.toNat Line.z=ln at r4 r5 r6 ⊢
 generalize L.getD r.2.2.1.toNat Lot.z=lt at r5 r6 ⊢
 repeat' walk_at "h"
 refine A.i_had ?_
 repeat' walk_at "h"
 refine za2 A.hd b0 (hM ▸ b1) ?_
 repeat' walk_at "h"
 refine A.i_had ?_
 repeat' walk_at "h"
 refine A.set_had hB b0 (hM ▸ b1) fun σ₁ A₁=>?_
 repeat' walk_at "h"
 refine A₁.i_gave ?_
 repeat' walk_at "h"
 refine za2 A₁.g b2 (hG ▸ b3) ?_
 repeat' walk_at "h"
 refine A₁.i_gave ?_
 repeat' walk_at "h"
 refine A₁.set_gave hB b2 (hG ▸ b3) fun σ₂ A₂=>?_
 repeat' walk_at "h"
 ·rw [decide_eq_true (show ln.day+ln.left<=lt.last from r6)]
  exact h σ₂ A₂
 ·rename_i q;exact absurd r5 q
 ·rename_i q;exact absurd hl q
 ·rename_i q;exact absurd r4.symm q
theorem Inv.at {e:Int} (h:Inv L N e S) (day:Int):Inv L N e { S with day:=day }:=⟨h.nl,h.nn,fun p hp=>let i:=h.lot p hp;⟨i.w,i.last,i.waste,i.sum⟩,fun i hi hk=>let o:=h.out i hi hk;⟨o.sum,o.pos,o.late⟩,h.line,h.came⟩
theorem S_go (hp:L12 c.k) (A:Tw c.k f H S B base L N σ) (hF:H.free c.F) (hB:∀ x∈B.parts,x∉c.F) {goal:Int} (h0:S.day<=goal) (h1:goal<=1000000000000)
  (h:∀ S' σ',Tw c.k f H S' B base L N σ'->S'.gave.length+S'.came.length=S.gave.length+S.came.length->P (.bool true) σ'):CallN c (d+9) "_law_go" [.ref H.a,.ref B.o,.int goal] σ P X:=by
 have ok:=A.ok
 have hH:=A.t.h
 refine zae hp.f_law_go ?_
 repeat' walk_at "h"
 refine ⟨_,mth hH rfl rfl rfl,?_⟩
 repeat' walk_at "h"
 refine S_there hH ok ?_
 repeat' walk_at "h"
 refine ⟨_,[],by simp,zaf,fun D=>?_⟩
 refine zah lotRow (fun p=>.int p.1) S.lots [] (fun p hp=>⟨_,rfl,?_⟩) ?_
 ·repeat' walk_at "h"
  exact ⟨rfl,rfl⟩
 refine made_f ?_
 rw [List.nil_append,show (S.lots.map fun p=>V.int p.1)=(S.lots.map (·.1)).map V.int by rw [List.map_map];rfl]
 repeat' walk_at "h"
 refine ⟨_,mth hH rfl rfl rfl,?_⟩
 repeat' walk_at "h"
 refine S_open_lines hH ok ?_
 repeat' walk_at "h"
 refine ⟨_,[],by simp,zaf,fun D=>?_⟩
 refine zah lineRow (fun p=>.int p.1) S.lines [] (fun p hp=>⟨_,rfl,?_⟩) ?_
 ·repeat' walk_at "h"
  exact ⟨rfl,rfl⟩
 refine made_f ?_
 rw [List.nil_append,show (S.lines.map fun p=>V.int p.1)=(S.lines.map (·.1)).map V.int by rw [List.map_map];rfl]
 repeat' walk_at "h"
 refine ⟨_,mth hH rfl rfl rfl,?_⟩
 repeat' walk_at "h"
 refine S_go_to hH hF ok h0 h1 fun ds S₁ fnd σ₁ hD hds h₁ o₁=>?_
 have J:=hds.law12 ok A.inv h0 [] (by rw [List.append_nil];exact hD)
 have I:=hds.ok ok
 obtain ⟨ok',eg,ec⟩:=I.goTo hD (Int.le_trans ok.day0 h0) h1
 have A₁:=A.t.upH h₁ o₁
 have hkey:∀ r∈fnd,0<=r.2.1/\r.2.1.toNat<N.length/\0<=r.2.2.1/\r.2.2.1.toNat<L.length:=fun r hr=>by
  obtain ⟨R,_⟩:=J.rows r hr
  obtain ⟨p,hp,e⟩:=List.mem_map.mp R.ln
  obtain ⟨q,hq,e'⟩:=List.mem_map.mp R.lt
  have b:=(ok.line p hp).2.2
  have b':=(ok.lot q hq).2.2
  rw [e] at b
  rw [e'] at b'
  exact ⟨b.1,A.inv.nn ▸ nat_lt b.1 b.2,b'.1,A.inv.nl ▸ nat_lt b'.1 b'.2⟩
 repeat' walk_at "h"
 refine ⟨false,fun Q hQ=>?_,?_⟩
 ·repeat' walk_at "h"
  ·rename_i q;exact absurd rfl q
  ·exact hQ
 refine JB_go ?_
 repeat' walk_at "h"
 refine ⟨_,[],by simp,zaf,?_⟩
 refine zal quad' (fun last=>[(6,.int last),(5,.lst ((S.lines.map (·.1)).map .int)),(4,.lst ((S.lots.map (·.1)).map .int)),(2,.int goal),(1,.ref B.o),(0,.ref H.a)])
  (fun left last σ'=>∃ done,fnd=done++left/\Tv c.k f H (S₁.goTo goal) B base L N ((done.map (·.2)).foldl addG S.gave) ((done.map (·.2)).foldl addC S.came) σ'/\∀ r∈left,last<=r.1) fnd S.day _ _ ?_ ⟨[],rfl,A₁,fun r hr=>(J.rows r hr).1.d0⟩ (fun last r left σ₂ hj=>?_) fun last ρ σ₂ hm hj=>?_
 ·walk_at "sub"
 ·obtain ⟨done,e,A₂,hl⟩:=hj
  have hr:r∈fnd:=by rw [e];simp
  obtain ⟨b0,b1,b2,b3⟩:=hkey r hr
  have R:=(J.rows r hr).1
  show JA _ _ _ _ (.tup [.int r.1,.int r.2.1,.int r.2.2.1,.int r.2.2.2]) _ _ _
  repeat' walk_at "h"
  refine S_row (c:=c.pro []) hp A₂ hB R (hl r (.head _)) b0 b1 b2 b3 ?_ ?_ fun σ₃ A₃=>?_
  ·rw [addG_len];exact A.inv.nl.symm
  ·rw [addC_len];exact A.inv.nn.symm
  repeat' walk_at "h"
  ·rename_i q;exact absurd R.d1 (by (exact Ar.l20 (.no (.ilt (.v 0) (.v 1))) [(.ile (.v 1) (.v 0))] (by kernel_rfl) q))
  ·refine ⟨rfl,r.1,?_,done++[r],e.trans (List.append_cons ..),?_,fun x hx=>?_⟩
   ·walk_at "sub"
   ·rw [List.map_append,List.foldl_append,List.foldl_append];exact A₃
   ·have:=J.rise
    rw [e] at this
    exact (List.pairwise_cons.mp (List.pairwise_append.mp this).2.1).1 x hx
 ·obtain ⟨done,e,A₂,_⟩:=hj
  rw [List.append_nil] at e
  subst e
  refine JB_sub hm ?_
  repeat' walk_at "h"
  refine h (S₁.goTo goal) σ₂ ⟨?_,ok',?_⟩ ?_
  ·rw [← J.gave,← J.came] at A₂;exact A₂
  ·exact (J.inv.throw I.ok (Int.le_refl goal)).at goal
  ·rw [eg,ec]
end
theorem Isi_dict_int {a:Addr} {kvs:List (Int × V)} (hl:σ.lookup a=some (.dictI kvs)) (h:P (.bool false) σ):CallS c d (.builtin "isinstance") [.ref a,.raw (.type "int")] σ P X:=zbj (fun e hc q=>IsiPair.dict_int e hc (q _)) (cls_dict hl) h
inductive NoNum (n:Nat) (σ:Led):V->Prop
 | int {i:Int}:i<0\/(n:Int)<=i->NoNum n σ (.int i)
 | bool {b:Bool}:NoNum n σ (.bool b)
 | none:NoNum n σ .none
 | str {x:Str}:NoNum n σ (.str x)
 | tup {vs:List V}:NoNum n σ (.tup vs)
 | lst {vs:List V}:NoNum n σ (.lst vs)
 | dict {a:Addr}:σ.lookup a=some (.dictI [])->NoNum n σ (.ref a)
section
variable {f:Str->Value} {H:HA} {S:HS} {ad:Str->Addr}
theorem S_whole_no (hp:Things c.k) {n:Nat} {v:V} (hv:NoNum n σ v) (hi:∀ i,v≠.int i) (h:P (.bool false) σ):CallN c (d+1) "is_whole" [v] σ P X:=by
 refine zae hp.f_is_whole ?_
 cases hv with
 | int _=>exact absurd rfl (hi _)
 | dict hl=>
  repeat' first | walk_at "x" | refine Isi_dict_int hl ?_
  exact h
 | _=>
  repeat' first | walk_at "x" | refine Isi_none_int ?_
  exact h
theorem S_need_no (hE:Errs c.k ad) (hM:HouseM c.k f) (hH:Hs c.k f H S σ) {a:Addr} {vs:List V} (hl:σ.lookup a=some (.list vs)) {v:V} (hv:NoNum vs.length σ v) (h:X (.ref (ad "NoNumber")) σ):CallS c (d+3) (f "need_number") [.ref H.a,v,.ref a] σ P X:=by
 refine zai hM.f_need_number ?_
 by_cases q:∃ i,v=.int i
 ·obtain ⟨i,rfl⟩:=q
  have hb:i<0\/(vs.length:Int)<=i:=by cases hv;assumption
  repeat' walk_at "h"
  refine zbw hH.K.things ?_
  repeat' walk_at "h"
  ·refine zag (.ref hl) ?_
   repeat' walk_at "h"
   ·refine ⟨_,_,hE.no,?_⟩
    repeat' walk_at "h"
    exact h
   ·exfalso;lia
  ·refine ⟨_,_,hE.no,?_⟩
   repeat' walk_at "h"
   exact h
 ·repeat' walk_at "h"
  refine S_whole_no hH.K.things hv (fun i e=>q ⟨i,e⟩) ?_
  repeat' walk_at "h"
  refine ⟨_,_,hE.no,?_⟩
  repeat' walk_at "h"
  exact h
theorem S_given_no (hE:Errs c.k ad) (hM:HouseM c.k f) (hH:Hs c.k f H S σ) {v:V} (hv:NoNum S.gave.length σ v) (h:X (.ref (ad "NoNumber")) σ):CallS c (d+4) (f "given") [.ref H.a,v] σ P X:=by
 refine zai hM.f_given ?_
 repeat' walk_at "h"
 refine ⟨_,mth hH rfl rfl rfl,?_⟩
 repeat' walk_at "h"
 exact S_need_no hE hM hH hH.g (by rw [List.length_map];exact hv) h
theorem S_thrown_no (hE:Errs c.k ad) (hM:HouseM c.k f) (hH:Hs c.k f H S σ) {v:V} (hv:NoNum S.wasted.length σ v) (h:X (.ref (ad "NoNumber")) σ):CallS c (d+4) (f "thrown") [.ref H.a,v] σ P X:=by
 refine zai hM.f_thrown ?_
 repeat' walk_at "h"
 refine ⟨_,mth hH rfl rfl rfl,?_⟩
 repeat' walk_at "h"
 exact S_need_no hE hM hH hH.w (by rw [List.length_map];exact hv) h
theorem S_got_no (hE:Errs c.k ad) (hM:HouseM c.k f) (hH:Hs c.k f H S σ) {v:V} (hv:NoNum S.came.length σ v) (h:X (.ref (ad "NoNumber")) σ):CallS c (d+4) (f "got") [.ref H.a,v] σ P X:=by
 refine zai hM.f_got ?_
 repeat' walk_at "h"
 refine ⟨_,mth hH rfl rfl rfl,?_⟩
 repeat' walk_at "h"
 exact S_need_no hE hM hH hH.m (by rw [List.length_map];exact hv) h
theorem S_refused (hp:L12 c.k) (hM:HouseM c.k f) (hH:Hs c.k f H S σ) (nx:NoExc σ) {kind:Int} {v:V} (h0:kind=0->NoNum S.gave.length σ v) (h1:kind=1->NoNum S.wasted.length σ v) (h2:kind≠0->kind≠1->NoNum S.came.length σ v) (h:P (.bool true) σ):CallN c (d+5) "_law_refused" [.ref H.a,.int kind,v] σ P X:=by
 obtain ⟨ad,hE⟩:=hp.errs
 refine zae hp.f_law_refused ?_
 repeat' walk_at "h"
 refine ⟨fun cls σ'=>cls=.ref (ad "NoNumber")/\σ'=σ,?_,fun cls σ' hx=>?_⟩
 ·repeat' walk_at "h"
  ·rename_i q
   refine ⟨_,mth hH rfl rfl rfl,?_⟩
   repeat' walk_at "h"
   exact S_given_no hE hM hH (h0 q) ⟨rfl,rfl⟩
  ·rename_i q
   refine ⟨_,mth hH rfl rfl rfl,?_⟩
   repeat' walk_at "h"
   exact S_thrown_no hE hM hH (h1 q) ⟨rfl,rfl⟩
  ·rename_i q1 q2
   refine ⟨_,mth hH rfl rfl rfl,?_⟩
   repeat' walk_at "h"
   exact S_got_no hE hM hH (h2 q1 q2) ⟨rfl,rfl⟩
 ·obtain ⟨rfl,rfl⟩:=hx
  have hB:=hE.no
  refine ⟨_,rfl,nx,JH_as hB.own hE.lot (by simp) fun e=>HB_ret (HE_isx (.inl ⟨_,_,hB,rfl⟩) (HE_var rfl (Isi_exc (c:=c.un) zak hB.own (.own hB.own) ?_)))⟩
  rw [List.contains_cons,beq_self_eq_true,Bool.true_or]
  exact ret_drop (.cons _ (.refl _)) h
end
noncomputable abbrev thereV (l:List (Int × Lot)):List (Int × V):=(l.map fun p=>(p.1,p.2.n)).map fun p=>(p.1,V.int p.2)
structure SumOf (L:List Lot) (S:HS) (i:Nat) (n:Int) (b:Bool):Prop where
 look:((thereV S.lots).lookup (i:Int)).getD (.int 0)=.int n
 any:((thereV S.lots).any fun kv=>decide (kv.1=(i:Int)))=b
 pos:0<=S.wasted.getD i 0
 sum:S.gave.getD i 0+S.wasted.getD i 0+n=(L.getD i Lot.z).n
 here:b=true->S.wasted.getD i 0=0/\S.day<=(L.getD i Lot.z).last
 late:0<S.wasted.getD i 0->(L.getD i Lot.z).last<S.day
theorem Inv.sumOf {L:List Lot} {N:List Line} {S:HS} (h:Inv L N S.day S) (o:S.Ok) {i:Nat} (hi:i<L.length):∃ n b,SumOf L S i n b:=by
 have ea:((thereV S.lots).any fun kv=>decide (kv.1=(i:Int)))=S.lots.any fun p=>decide (p.1=(i:Int)):=by
  rw [thereV,List.map_map,List.any_map];rfl
 have el:∀ z:Option Int,(S.lots.map fun p=>(p.1,p.2.n)).lookup (i:Int)=z->((thereV S.lots).lookup (i:Int)).getD (.int 0)=.int (z.getD 0):=fun z e=>by
  rw [thereV,zat,e];cases z <;> rfl
 by_cases hm:(i:Int)∈S.lots.map (·.1)
 ·obtain ⟨p,hp,e⟩:=List.mem_map.mp hm
  have ei:p.1.toNat=i:=by rw [e];rfl
  obtain ⟨I1,I2,I3,I4⟩:=h.lot p hp
  rw [ei] at I2 I3 I4
  refine ⟨p.2.n,true,el (some p.2.n) ?_,ea.trans (List.any_eq_true.mpr ⟨p,hp,decide_eq_true e⟩),by rw [I3];exact Int.le_refl 0,by rw [I3,Int.add_zero];exact I4,fun z1=>⟨I3,by rw [I2];exact (o.lot p hp).2.1⟩,fun z=>by rw [I3] at z;exact absurd z (Int.lt_irrefl 0)⟩
  have hn:((S.lots.map fun p=>(p.1,p.2.n)).map (·.1)).Nodup:=by rw [List.map_map];exact o.ndl
  have:=zab hn (List.mem_map.mpr ⟨p,hp,rfl⟩)
  rw [← e];exact this
 ·obtain ⟨I1,I2,I3⟩:=h.out i hi hm
  have ha:(S.lots.any fun p=>decide (p.1=(i:Int)))=false:=by
   rw [List.any_eq_false]
   intro p hp
   simpa using fun e=>hm (List.mem_map.mpr ⟨p,hp,e⟩)
  refine ⟨0,false,el none ?_,ea.trans ha,I2,by rw [Int.add_zero];exact I1,(fun q=>nomatch q),I3⟩
  cases q:(S.lots.map fun p=>(p.1,p.2.n)).lookup (i:Int) with
  | none=>rfl
  | some z=>
   obtain ⟨p,hp,e⟩:=List.mem_map.mp (zb2 q)
   exact absurd (List.mem_map.mpr ⟨p,hp,congrArg (fun x:Int × Int=>x.1) e⟩) hm
section
variable {f:Str->Value} {H:HA} {S:HS} {B:OB} {base:Int} {L:List Lot} {N:List Line} {G M:List Int}
theorem S_sums (hp:L12 c.k) (hM:HouseM c.k f) (A:Tw c.k f H S B base L N σ) (h:P (.bool true) σ):CallN c (d+5) "_law_sums" [.ref H.a,.ref B.o] σ P X:=by
 have ok:=A.ok
 have hzl:=ok.nl
 have hLl:=A.inv.nl
 have hNl:=A.inv.nn
 have hn:=ok.n
 have hwl:=ok.len
 refine zae hp.f_law_sums ?_
 repeat' walk_at "h"
 intro w hwo hwF
 have hH₁:=A.t.h.cons (o:=.dictI []) hwo
 repeat' walk_at "h"
 refine ⟨_,mth hH₁ rfl rfl rfl,?_⟩
 repeat' walk_at "h"
 refine S_there hH₁ ok ?_
 repeat' walk_at "h"
 refine ⟨_,[],by simp,zaf,?_⟩
 refine zal lotRow (fun z1=>[(2,.ref w),(1,.ref B.o),(0,.ref H.a)]) (fun left done σ'=>S.lots=done++left/\σ'=(w,.dictI (thereV done))::σ) S.lots [] _ _ ?_ ⟨rfl,rfl⟩ (fun done p left σ₂ hj=>?_) fun done ρ σ₂ hm hj=>?_
 ·walk_at "sub"
 ·obtain ⟨e,rfl⟩:=hj
  have hdl:done.length<=1000:=by rw [e,List.length_append] at hzl;(exact Ar.l02 (.le (.v 0) (.k 1000)) [(.le (.a (.v 0) (.v 1)) (.k 62))] (by kernel_rfl) hzl)
  show JA _ _ _ _ (.tup [.int p.1,.str p.2.w,.int p.2.last,.int p.2.n]) _ _ _
  repeat' walk_at "h"
  refine Set_dict DK.int zak hwF (by rw [List.length_map,List.length_map];exact hdl) ?_
  rw [zbl,putV_map V.int,putK_new]
  ·repeat' walk_at "h"
   refine ⟨rfl,done++[p],?_,e.trans (List.append_cons ..),?_⟩
   ·walk_at "sub"
   ·simp
  ·intro q hq e'
   obtain ⟨r,hr,rfl⟩:=List.mem_map.mp hq
   have:=ok.ndl
   rw [e,List.map_append,List.map_cons,List.nodup_append] at this
   exact this.2.2 r.1 (List.mem_map.mpr ⟨r,hr,rfl⟩) p.1 (.head _) e'
 obtain ⟨e,rfl⟩:=hj
 rw [List.append_nil] at e
 subst e
 have T:=A.t.cons (o:=.dictI (thereV S.lots)) hwo rfl
 have hw:List.lookup w ((w,O.dictI (thereV S.lots))::σ)=some (.dictI (thereV S.lots)):=zak
 have hd:Ret P (.ret (.bool true)) [] ((w,O.dictI (thereV S.lots))::σ):=ret_drop (.cons _ (.refl _)) h
 generalize (w,O.dictI (thereV S.lots))::σ=τ at T hw hd hm ⊢
 have hH:=T.h
 refine JB_sub hm ?_
 clear hm h
 repeat' walk_at "h"
 refine T.i_lots ?_
 repeat' walk_at "h"
 refine zag (.ref T.a) ?_
 rw [List.length_map]
 repeat' walk_at "h"
 refine ⟨_,[],by simp,zbk (n:=L.length) (by (exact Ar.l03 (.le (.v 0) (.k 1000)) [(.eq (.v 0) (.v 1)),(.le (.a (.v 1) (.v 2)) (.k 62))] (by kernel_rfl) hLl hn)),?_⟩
 refine zal (fun i:Nat=>V.int i) (fun z1=>[(2,.ref w),(1,.ref B.o),(0,.ref H.a)]) (fun left (_:Unit) σ'=>σ'=τ/\∀ i∈left,i<L.length) (List.range L.length) () _ _ ?_ ⟨rfl,fun i hi=>List.mem_range.mp hi⟩ (fun z1 i left σ₂ hj=>?_) fun z1 ρ σ₂ hm hj=>?_
 ·walk_at "sub"
 ·obtain ⟨rfl,hj⟩:=hj
  have hi:=hj i (.head _)
  obtain ⟨n,b,s⟩:=A.inv.sumOf ok hi
  obtain ⟨s1,s2,s3,s4,s5,s6⟩:=s
  have hit:(i:Int).toNat=i:=Int.toNat_natCast i
  repeat' walk_at "h"
  refine ⟨_,mth hH rfl rfl rfl,?_⟩
  repeat' walk_at "h"
  refine S_given (c:=c.pro []) hM hH (Int.natCast_nonneg i) (by (exact Ar.l03 (.ilt (.c (.v 0)) (.c (.v 1))) [(.eq (.v 2) (.v 1)),(.lt (.v 0) (.v 2))] (by kernel_rfl) hLl hi)) ?_
  repeat' walk_at "h"
  refine ⟨_,mth hH rfl rfl rfl,?_⟩
  repeat' walk_at "h"
  refine S_thrown (c:=c.pro []) hM hH (Int.natCast_nonneg i) (by (exact Ar.l04 (.ilt (.c (.v 0)) (.c (.v 1))) [(.eq (.v 2) (.v 3)),(.eq (.v 1) (.v 3)),(.lt (.v 0) (.v 2))] (by kernel_rfl) hLl hwl hi)) ?_
  rw [hit]
  repeat' walk_at "h"
  refine ⟨false,fun Q hQ=>?_,?_⟩
  ·repeat' walk_at "h"
   refine S_whole (c:=c.pro []) hp.f_law_whole ?_
   repeat' walk_at "h"
   refine S_whole (c:=c.pro []) hp.f_law_whole ?_
   repeat' walk_at "h"
   refine T.i_gave (c:=c.pro []) ?_
   repeat' walk_at "h"
   refine za2 T.g (Int.natCast_nonneg i) (by (exact Ar.l04 (.lt (.v 0) (.v 1)) [(.eq (.v 2) (.v 1)),(.lt (.v 3) (.v 2)),(.eq (.v 0) (.v 3))] (by kernel_rfl) hLl hi hit)) ?_
   rw [hit]
   repeat' walk_at "h"
   ·rename_i q;exact absurd trivial q
   ·rename_i q;exact absurd q (Int.not_lt.mpr s3)
   ·exact hQ
  refine JB_go ?_
  repeat' walk_at "h"
  refine ⟨false,fun Q hQ=>?_,?_⟩
  ·repeat' walk_at "h"
   refine ⟨_,_,Meth_dget hw,?_⟩
   repeat' walk_at "h"
   refine Call_dget hw ?_
   rw [s1]
   repeat' walk_at "h"
   refine T.i_lots (c:=c.pro []) ?_
   repeat' walk_at "h"
   refine T.i_lot (c:=c.pro []) (Int.natCast_nonneg i) (by rw [hit];exact hi) ?_
   rw [hit]
   repeat' walk_at "h"
   ·rename_i q;exact absurd s4 q
   refine Cmp_in_dict DK.int hw ?_
   rw [s2]
   repeat' walk_at "h"
   ·rename_i q1 q2;exact absurd (s5 q1).1 q2
   ·exact hQ
   ·exact hQ
  refine JB_go ?_
  repeat' walk_at "h"
  refine ⟨false,fun Q hQ=>?_,?_⟩
  ·repeat' walk_at "h"
   ·rename_i q
    refine T.i_lots (c:=c.pro []) ?_
    repeat' walk_at "h"
    refine T.i_lot (c:=c.pro []) (Int.natCast_nonneg i) (by rw [hit];exact hi) ?_
    rw [hit]
    repeat' walk_at "h"
    ·rename_i q2;exact absurd (s6 q) (Int.not_lt.mpr q2)
    refine Cmp_in_dict DK.int hw ?_
    rw [s2]
    repeat' walk_at "h"
    ·rename_i q3;rw [(s5 q3).1] at q;exact absurd q (Int.lt_irrefl 0)
    ·exact hQ
   ·refine Cmp_in_dict DK.int hw ?_
    rw [s2]
    repeat' walk_at "h"
    ·rename_i q3
     refine T.i_lots (c:=c.pro []) ?_
     repeat' walk_at "h"
     refine T.i_lot (c:=c.pro []) (Int.natCast_nonneg i) (by rw [hit];exact hi) ?_
     rw [hit]
     repeat' walk_at "h"
     ·rename_i q4;exact absurd q4 (Int.not_lt.mpr (s5 q3).2)
     ·exact hQ
    ·exact hQ
  refine JB_go ?_
  exact ⟨rfl,(),by walk_at "sub",rfl,fun j hj'=>hj j (.tail _ hj')⟩
 obtain ⟨rfl,_⟩:=hj
 refine JB_sub hm ?_
 clear hm
 repeat' walk_at "h"
 refine T.i_lines ?_
 repeat' walk_at "h"
 refine zag (.ref T.b) ?_
 rw [List.length_map]
 repeat' walk_at "h"
 refine ⟨_,[],by simp,zbk (n:=N.length) (by (exact Ar.l03 (.le (.v 0) (.k 1000)) [(.eq (.v 0) (.v 1)),(.le (.a (.v 2) (.v 1)) (.k 62))] (by kernel_rfl) hNl hn)),?_⟩
 refine zal (fun i:Nat=>V.int i) (fun z1=>[(2,.ref w),(1,.ref B.o),(0,.ref H.a)]) (fun left (_:Unit) σ'=>σ'=σ₂/\∀ i∈left,i<N.length) (List.range N.length) () _ _ ?_ ⟨rfl,fun i hi=>List.mem_range.mp hi⟩ (fun z1 i left σ₃ hj=>?_) fun z1 ρ' σ₃ hm hj=>?_
 ·walk_at "sub"
 ·obtain ⟨rfl,hj⟩:=hj
  have hi:=hj i (.head _)
  have s:=A.inv.came i hi
  have hit:(i:Int).toNat=i:=Int.toNat_natCast i
  repeat' walk_at "h"
  refine ⟨_,mth hH rfl rfl rfl,?_⟩
  repeat' walk_at "h"
  refine S_got (c:=c.pro []) hM hH (Int.natCast_nonneg i) (by (exact Ar.l03 (.ilt (.c (.v 0)) (.c (.v 1))) [(.eq (.v 2) (.v 1)),(.lt (.v 0) (.v 2))] (by kernel_rfl) hNl hi)) ?_
  rw [hit]
  repeat' walk_at "h"
  refine S_whole (c:=c.pro []) hp.f_law_whole ?_
  repeat' walk_at "h"
  refine T.i_had (c:=c.pro []) ?_
  repeat' walk_at "h"
  refine za2 T.hd (Int.natCast_nonneg i) (by (exact Ar.l04 (.lt (.v 0) (.v 1)) [(.eq (.v 2) (.v 1)),(.lt (.v 3) (.v 2)),(.eq (.v 0) (.v 3))] (by kernel_rfl) hNl hi hit)) ?_
  rw [hit]
  repeat' walk_at "h"
  ·rename_i q;exact absurd trivial q
  refine T.i_lines (c:=c.pro []) ?_
  repeat' walk_at "h"
  refine T.i_line (c:=c.pro []) (Int.natCast_nonneg i) (by rw [hit];exact hi) ?_
  rw [hit]
  repeat' walk_at "h"
  ·rename_i q;exact absurd q (Int.not_lt.mpr s)
  exact ⟨rfl,(),by walk_at "sub",rfl,fun j hj'=>hj j (.tail _ hj')⟩
 obtain ⟨rfl,_⟩:=hj
 refine JB_sub hm ?_
 refine JB_go ?_
 exact hd
end
theorem Item_script {xs:List Int} {k:Int} (h0:0<=k) (h1:k<xs.length) (h:P (.int (at_ xs k)) σ):Item c d (.lst (xs.map .int)) (.int k) σ P:=
 za6 (.lst _) h0 (w:=.int (at_ xs k)) (by have hx:k.toNat<xs.length:=(by lia);unfold at_;simp [hx]) h
theorem Op_pow6 (h:P (.int 1000000) σ):Op2 c d (binaryOp .Pow) (.int 10) (.int 6) σ P:=Op_pow (x:=10) (n:=6) (by decide) (by decide) h
theorem NoExc.nil:NoExc []:=fun z1 z2 e=>nomatch e
theorem books_new {r a1 a2 a3 a4:Addr} {F:List Addr} {K:Led->Prop} {base:Int} (h1:a1∉owned [(r,O.dictS [])]) (h2:a2∉owned [(a1,O.list []),(r,O.dictS [])]) (h3:a3∉owned [(a2,O.list []),(a1,O.list []),(r,O.dictS [])]) (h4:a4∉owned [(a3,O.list []),(a2,O.list []),(a1,O.list []),(r,O.dictS [])]) (f0:r∉F) (f1:a1∉F) (f2:a2∉F) (f3:a3∉F) (f4:a4∉F)
  (h:∀ (B:OB) (σ':Led),B.o=r->(∀ x∈B.parts,x∉F)->B.parts.Nodup->All (B.objs base [] [] [] []) σ'->NoExc σ'->K σ') :
  List.lookup r [(a4,O.list []),(a3,O.list []),(a2,O.list []),(a1,O.list []),(r,O.dictS [])]=some (.dictS [])/\K (upd r (.dictS (List.zip (["base","lots","lines","gave","had"]:List Str) [V.int base,V.ref a1,V.ref a2,V.ref a3,V.ref a4])) [(a4,O.list []),(a3,O.list []),(a2,O.list []),(a1,O.list []),(r,O.dictS [])]):=by
 have n:=(((((New.one (σ:=[]) (fun q=>nomatch q) f0).step (L:=[(r,O.dictS [])]) h1 f1).step (L:=[(a1,O.list []),(r,O.dictS [])]) h2 f2).step (L:=[(a2,O.list []),(a1,O.list []),(r,O.dictS [])]) h3 f3).step (L:=[(a3,O.list []),(a2,O.list []),(a1,O.list []),(r,O.dictS [])]) h4 f4).rev
 have all:All [(r,O.dictS []),(a1,O.list []),(a2,O.list []),(a3,O.list []),(a4,O.list [])] [(a4,O.list []),(a3,O.list []),(a2,O.list []),(a1,O.list []),(r,O.dictS [])]:=New.allR n.nd
 have nx:NoExc [(a4,O.list []),(a3,O.list []),(a2,O.list []),(a1,O.list []),(r,O.dictS [])]:=((((NoExc.nil.cons rfl).cons rfl).cons rfl).cons rfl).cons rfl
 have hl:=all (r,_) (.head _)
 have all':=all.put (o:=.dictS (OB.kv ⟨r,a1,a2,a3,a4⟩ base)) n.nd 0 rfl
 exact ⟨hl,h ⟨r,a1,a2,a3,a4⟩ _ rfl n.fr n.nd all' (all'.noExc (fun b hb=>by rw [zbv hl,if_neg (show b≠r from fun q=>hb (q ▸ .head _))]) nx rfl)⟩
noncomputable abbrev S12:HS:=⟨0,[],[],[],[],[]⟩
theorem ok12:S12.Ok:=⟨Int.le_refl 0,by decide,by simp,by simp,.nil,.nil,rfl,Nat.zero_le _⟩
theorem odd7 {σ:Led} {n:Nat} {a:Addr} (ha:σ.lookup a=some (.dictI [])) (x:Int):∃ v,[V.int (0 - 1),.bool true,.none,.str "0",.int ((n:Int)+1000000),.lst [.int 0],.ref a][(x % 7).toNat]?=some v/\NoNum n σ v:=by
 have:x % 7=0\/x % 7=1\/x % 7=2\/x % 7=3\/x % 7=4\/x % 7=5\/x % 7=6:=by lia
 rcases this with z | z | z | z | z | z | z <;> rw [z]
 ·exact ⟨_,rfl,.int (.inl (by decide))⟩
 ·exact ⟨_,rfl,.bool⟩
 ·exact ⟨_,rfl,.none⟩
 ·exact ⟨_,rfl,.str⟩
 ·exact ⟨_,rfl,.int (.inr (by (exact Ar.l01 (.ile (.c (.v 0)) (.a (.c (.v 0)) (.k 1000000))) [] (by kernel_rfl) )))⟩
 ·exact ⟨_,rfl,.lst⟩
 ·exact ⟨_,rfl,.dict ha⟩
theorem odd6 {σ:Led} {n:Nat} (x:Int):∃ v,[V.int (0 - 1),.bool true,.none,.str "0",.tup [.int 0],.lst [.int 0]][(x % 6).toNat]?=some v/\NoNum n σ v:=by
 have:x % 6=0\/x % 6=1\/x % 6=2\/x % 6=3\/x % 6=4\/x % 6=5:=by lia
 rcases this with z | z | z | z | z | z <;> rw [z]
 ·exact ⟨_,rfl,.int (.inl (by decide))⟩
 ·exact ⟨_,rfl,.bool⟩
 ·exact ⟨_,rfl,.none⟩
 ·exact ⟨_,rfl,.str⟩
 ·exact ⟨_,rfl,.tup⟩
 ·exact ⟨_,rfl,.lst⟩
noncomputable def J12 (k:Base) (f:Str->Value) (H:HA) (B:OB) (xs left:List Int) (σ:Led):Prop:=∃ S L N,Tw k f H S B (at_ xs 0) L N σ/\S.gave.length+S.came.length+left.length<=62/\∀ k∈left,1<=k/\k<xs.length
noncomputable abbrev rho12 (H:HA) (B:OB) (xs:List Int):Rho:=[(2,.ref H.a),(1,.ref B.o),(0,.lst (xs.map .int))]
theorem body12 {f:Str->Value} {H:HA} {B:OB} {K:Fl->Rho->Led->Prop} (hp:L12 c.k) (hM:HouseM c.k f) (hF:H.free c.F) (hB:∀ x∈B.parts,x∉c.F) {xs left:List Int} {k:Int} (hb:∀ x∈xs,Builtin.Int.intBits x<=1048576) (hj:J12 c.k f H B xs (k::left) σ)
  (h:∀ ρ' σ',RSub (rho12 H B xs) ρ'->J12 c.k f H B xs left σ'->K .next ρ' σ'):JB c (d+10) NoX t_law_12_b1 ((3,.int k)::rho12 H B xs) σ K:=by
 obtain ⟨S,L,N,A,hn,hk⟩:=hj
 have hh:=hp.toHelps
 have hk0:=hk k (.head _)
 rw [List.length_cons] at hn
 have hH:=A.t.h
 have ok:=A.ok
 have hsz:Sz 1048600 (at_ xs k):=(at_sz hb k).mono (by (exact Ar.l00 (.le (.k 1048577) (.k 1048600)) [] (by kernel_rfl) ))
 have fin:∀ S' L' N' σ',Tw c.k f H S' B (at_ xs 0) L' N' σ'->S'.gave.length+S'.came.length<=S.gave.length+S.came.length+1->J12 c.k f H B xs left σ':=fun S' L' N' σ' A' h'=>⟨S',L',N',A',by (exact Ar.l05 (.le (.a (.a (.v 0) (.v 1)) (.v 2)) (.k 62)) [(.le (.a (.a (.v 3) (.v 4)) (.a (.v 2) (.k 1))) (.k 62)),(.le (.a (.v 0) (.v 1)) (.a (.a (.v 3) (.v 4)) (.k 1)))] (by kernel_rfl) hn h'),fun i hi=>hk i (.tail _ hi)⟩
 refine JB_go ?_
 repeat' walk_at "h"
 refine Item_script (by (exact Ar.l11 (.ile (.k 0) (.v 0)) [(.an (.ile (.k 1) (.v 0)) (.ilt (.v 0) (.c (.v 0))))] (by kernel_rfl) hk0)) hk0.2 ?_
 repeat' walk_at "h"
 refine ⟨_,mth hH rfl rfl rfl,?_⟩
 repeat' walk_at "h"
 refine S_open_lines hH ok ?_
 repeat' walk_at "h"
 refine ⟨false,fun Q hQ=>?_,?_⟩
 ·repeat' walk_at "h"
  ·refine S_sums hp hM A ?_
   repeat' walk_at "h"
   exact hQ
  ·exact hQ
 refine JB_go ?_
 repeat' walk_at "h"
 refine ⟨at_ xs k % 8 == 6 && decide (0<(S.lines.length:Int)),fun Q hQ=>?_,?_⟩
 ·repeat' walk_at "h"
  ·rename_i q1 q2
   rw [beq_iff_eq.mpr q1,decide_eq_true q2] at hQ;exact hQ
  ·rename_i q1 q2
   rw [beq_iff_eq.mpr q1,decide_eq_false q2] at hQ;exact hQ
  ·rename_i q1
   rw [beq_eq_false_iff_ne.mpr q1,Bool.false_and] at hQ;exact hQ
 refine br_intro (fun hq=>?_) fun z1=>?_
 ·have hlp:(0:Int)<S.lines.length:=by
   have:=(Bool.and_eq_true_iff.mp hq).2
   simpa using this
  clear hq
  repeat' walk_at "h"
  refine ⟨_,mth hH rfl rfl rfl,?_⟩
  repeat' walk_at "h"
  refine S_mixed hh hsz (by (exact Ar.l00 (.ile (.k 0) (.k 5)) [] (by kernel_rfl) )) (by (exact Ar.l00 (.ile (.k 5) (.k 1000)) [] (by kernel_rfl) )) ?_
  repeat' walk_at "h"
  have hi0:=Int.emod_nonneg (mixed (at_ xs k) 5) (show (S.lines.length:Int)≠0 by (exact Ar.l01 (.no (.ieq (.c (.v 0)) (.k 0))) [(.ilt (.k 0) (.c (.v 0)))] (by kernel_rfl) hlp))
  have hi1:=Int.emod_lt_of_pos (mixed (at_ xs k) 5) hlp
  have hi2:(mixed (at_ xs k) 5 % (S.lines.length:Int)).toNat<S.lines.length:=by lia
  refine za6 (.lst _) (w:=lineRow (S.lines.getD (mixed (at_ xs k) 5 % (S.lines.length:Int)).toNat (0,Line.z))) (by simpa using hi0) (by simp [hi2]) ?_
  repeat' walk_at "h"
  refine S_cancel hH hF ok (no_idx (0,Line.z) hi2).2.2 fun σ₂ h₂ o₂=>?_
  repeat' walk_at "h"
  exact JB_nil (h _ σ₂ (by walk_at "sub") (fin (S.cancel (S.lines.getD (mixed (at_ xs k) 5 % (S.lines.length:Int)).toNat (0,Line.z)).1) L N σ₂ ⟨A.t.upH h₂ o₂,ok.cancel _,A.inv.cancel _⟩ (Nat.le_succ _)))
 ·repeat' walk_at "h"
  ·refine S_mixed hh hsz (by (exact Ar.l00 (.ile (.k 0) (.k 5)) [] (by kernel_rfl) )) (by (exact Ar.l00 (.ile (.k 5) (.k 1000)) [] (by kernel_rfl) )) ?_
   repeat' walk_at "h"
   obtain ⟨g1,g2⟩:=min_mid ok.day1 (mod_nn (mixed (at_ xs k) 5) (show (0:Int)<7 by decide))
   generalize min 1000000000000 (S.day+mixed (at_ xs k) 5 % 7)=g at g1 g2 ⊢
   refine ⟨at_ xs k / 8 % 16 == 5,fun Q hQ=>?_,?_⟩
   ·refine JT_go ?_
    exact hQ
   refine br_intro (fun z1=>?_) fun z1=>?_
   ·refine JB_go ?_
    repeat' walk_at "h"
    refine S_go hp A hF hB ok.day1 (Int.le_refl _) fun S' σ' A' h'=>?_
    repeat' walk_at "h"
    exact JB_nil (JB_nil (h _ σ' (by walk_at "sub") (fin S' L N σ' A' (h' ▸ Nat.le_succ _))))
   ·refine JB_go ?_
    repeat' walk_at "h"
    refine S_go hp A hF hB g1 g2 fun S' σ' A' h'=>?_
    repeat' walk_at "h"
    exact JB_nil (JB_nil (h _ σ' (by walk_at "sub") (fin S' L N σ' A' (h' ▸ Nat.le_succ _))))
  ·refine S_put hp A hF hB (hsz.div (by decide)) (by (exact Ar.l03 (.lt (.a (.v 0) (.v 1)) (.k 62)) [(.le (.a (.a (.v 0) (.v 1)) (.a (.v 2) (.k 1))) (.k 62))] (by kernel_rfl) hn)) fun S' L' N' σ' A' h'=>?_
   repeat' walk_at "h"
   exact JB_nil (JB_nil (h _ σ' (by walk_at "sub") (fin S' L' N' σ' A' h')))
theorem S_law (hp:L12 c.k) {xs:List Int} (hlen:xs.length<=63) (hb:∀ x∈xs,Builtin.Int.intBits x<=1048576):CallN c (d+11) "law" [.lst (xs.map .int)] [] (fun v z1=>v=.bool true) X:=by
 have hh:=hp.toHelps
 obtain ⟨C,f,K,hM⟩:=hp.house
 refine zae hp.f_law ?_
 repeat' walk_at "h"
 refine JD_of (by simp) (by decide) fun r hro hrF=>?_
 refine JP_cons ?_
 repeat' walk_at "h"
 refine JP_cons ?_
 repeat' walk_at "h"
 intro a1 h1o h1F
 refine JP_cons ?_
 repeat' walk_at "h"
 intro a2 h2o h2F
 refine JP_cons ?_
 repeat' walk_at "h"
 intro a3 h3o h3F
 refine JP_cons ?_
 repeat' walk_at "h"
 intro a4 h4o h4F
 refine JP_nil (books_new h1o h2o h3o h4o hrF h1F h2F h3F h4F fun B σ₁ eB hBF nd all nx=>?_)
 clear h1o h2o h3o h4o h1F h2F h3F h4F hro hrF
 subst eB
 repeat' walk_at "h"
 refine S_new K fun H σ₂ n0 hF hH0 o0=>?_
 have A:Tw c.k f H S12 B (at_ xs 0) [] [] σ₂:=⟨⟨hH0,nd,all.of fun x hx z e=>o0.new n0 x z e,fun x hx q=>by obtain ⟨v,e⟩:=all.has x q;exact n0 x hx (owned_of e),hH0.all.noExc o0 nx rfl⟩,ok12,Inv.start⟩
 clear hH0 n0 o0 nx all
 repeat' walk_at "h"
 refine ⟨_,[],by simp,Iter_rng (by decide) (by decide) (by (exact Ar.l01 (.ile (.g (.k 1000000000000000)) (.c (.v 0))) [] (by kernel_rfl) )) (by (exact Ar.l01 (.ile (.c (.v 0)) (.k 1000000000000000)) [(.le (.v 0) (.k 63))] (by kernel_rfl) hlen)) (by (exact Ar.l01 (.ile (.s (.c (.v 0)) (.k 1)) (.k 16777216)) [(.le (.v 0) (.k 63))] (by kernel_rfl) hlen)),?_⟩
 refine zal V.int (fun z1=>rho12 H B xs) (fun left (_:Unit) σ'=>J12 c.k f H B xs left σ') _ () _ _ ?_ ⟨S12,[],[],A,?_,fun k hk=>?_⟩ (fun z1 k left σ₃ hj=>?_) fun z1 ρ σ₃ hm hj=>?_
 ·walk_at "sub"
 ·rw [zb1];show 0+0+_<=62;lia
 ·rw [mem_rangeL] at hk;(exact Ar.l11 (.an (.ile (.k 1) (.v 0)) (.ilt (.v 0) (.c (.v 0)))) [(.an (.ile (.k 1) (.v 0)) (.ilt (.v 0) (.c (.v 0))))] (by kernel_rfl) hk)
 ·exact JA_var (body12 (c:=c.pro []) hp hM hF hBF hb hj fun ρ' σ' r J=>⟨rfl,(),r,J⟩)
 obtain ⟨S,L,N,A,hn,_⟩:=hj
 refine JB_sub hm ?_
 clear hm
 repeat' walk_at "h"
 refine ⟨false,fun Q hQ=>?_,?_⟩
 ·repeat' walk_at "h"
  refine S_sums hp hM A ?_
  repeat' walk_at "h"
  exact hQ
 refine JB_go ?_
 repeat' walk_at "h"
 refine A.t.i_lots ?_
 repeat' walk_at "h"
 refine zag (.ref A.t.a) ?_
 rw [List.length_map]
 repeat' walk_at "h"
 refine Op_pow6 ?_
 repeat' walk_at "h"
 intro e heo heF
 repeat' walk_at "h"
 obtain ⟨v,ev,hv⟩:=odd7 (σ:=(e,dictO .nil)::σ₃) (n:=L.length) (a:=e) zak (at_ xs 0)
 have T:Tv c.k f H S B (at_ xs 0) L N S.gave S.came ((e,dictO .nil)::σ₃):=A.t.cons heo rfl
 have inv:=A.inv
 have ok:=A.ok
 refine za6 (.lst _) (mod_nn _ (by decide)) ev ?_
 clear ev heo heF A
 generalize (e,dictO .nil)::σ₃=τ at T hv ⊢
 repeat' walk_at "h"
 refine ⟨_,[],by simp,zbk (n:=2) (by decide),?_⟩
 refine zal (fun i:Nat=>V.int i) (fun z1=>(8,v)::rho12 H B xs) (fun left (_:Unit) σ'=>σ'=τ/\∀ i∈left,i<2) (List.range 2) () _ _ ?_ ⟨rfl,fun i hi=>List.mem_range.mp hi⟩ (fun z1 i left σ₄ hj=>?_) fun z1 ρ' σ₄ hm hj=>?_
 ·walk_at "sub"
 ·obtain ⟨rfl,hj⟩:=hj
  have hi:=hj i (.head _)
  have e0:=inv.nl
  have e1:=ok.len.trans e0.symm
  repeat' walk_at "h"
  refine S_refused (c:=c.pro []) hp hM T.h T.nx (fun z1=>e0 ▸ hv) (fun z1=>e1 ▸ hv) (fun z1 z2=>by exfalso;(exact Ar.f01 [(.lt (.v 0) (.k 2)),(.no (.ieq (.c (.v 0)) (.k 0))),(.no (.ieq (.c (.v 0)) (.k 1)))] (by kernel_rfl) hi z1 z2)) ?_
  repeat' walk_at "h"
  refine T.i_lots (c:=c.pro []) ?_
  repeat' walk_at "h"
  refine zag (.ref T.a) ?_
  rw [List.length_map]
  repeat' walk_at "h"
  refine S_refused (c:=c.pro []) hp hM T.h T.nx (fun z1=>.int (.inr (by rw [e0];exact Int.le_refl _))) (fun z1=>.int (.inr (by rw [e1];exact Int.le_refl _))) (fun z1 z2=>by exfalso;(exact Ar.f01 [(.lt (.v 0) (.k 2)),(.no (.ieq (.c (.v 0)) (.k 0))),(.no (.ieq (.c (.v 0)) (.k 1)))] (by kernel_rfl) hi z1 z2)) ?_
  repeat' walk_at "h"
  exact ⟨rfl,(),by walk_at "sub",rfl,fun j hj'=>hj j (.tail _ hj')⟩
 obtain ⟨rfl,_⟩:=hj
 refine JB_sub hm ?_
 clear hm
 repeat' walk_at "h"
 obtain ⟨v,ev,hv⟩:=odd6 (σ:=σ₄) (n:=S.came.length) (at_ xs 0)
 refine za6 (.lst _) (mod_nn _ (by decide)) ev ?_
 repeat' walk_at "h"
 refine S_refused hp hM T.h T.nx (fun z=>by cases z) (fun z=>by cases z) (fun z1 z2=>hv) ?_
 repeat' walk_at "h"
 refine T.i_lines ?_
 repeat' walk_at "h"
 refine zag (.ref T.b) ?_
 rw [List.length_map]
 repeat' walk_at "h"
 refine S_refused hp hM T.h T.nx (fun z=>by cases z) (fun z=>by cases z) (fun z1 z2=>.int (.inr (by rw [inv.nn];exact Int.le_refl _))) ?_
 exact zbc rfl
inductive OwnX (h:Heap) (name:Str) (bm:List Value):Prop
 | mk (C N:Addr) (nm:_) (q:_) (bs:_) (hdct:_) (sn:_) (sub:_) (ab:_) (col:_) (dd:_) (k0:_) (k1:_) (k2:_) (k3:_) (k5:_):h.nsMap mainGlobals name=some (.ref C)->h.get? C=some (excClassObj nm q C N bs bm hdct sn sub ab col dd k0 k1 k2 k3 k5 VN)->h.Ns N (h.nsMap N)->OwnX h name bm
noncomputable def adOf (h:Heap) (x:Str):Addr:=match h.nsMap mainGlobals x with
 | some (.ref a)=>a
 | _=>0
theorem ownE_of0 {h:Heap} {name:Str} {chain:List Str} (x:h.ownExcOk name chain VE VN=true):OwnX h name ((chain.map fun n=>(h.nsMap mainGlobals n).getD .none)++VE):=by
 obtain ⟨C,N,nm,q,bs,hdct,sn,sub,ab,col,dd,k0,k1,k2,k3,k5,hb,hC,hN,_⟩:=Heap.ownExc_of_ok x
 exact ⟨C,N,nm,q,bs,hdct,sn,sub,ab,col,dd,k0,k1,k2,k3,k5,hb,hC,hN⟩
theorem ownE_of {h:Heap} {name:Str} {chain:List Str} (x:h.ownExcOk name chain VE VN=true) (y:hushOk0 h name=true) (T:OwnTl h ((chain.map fun n=>(h.nsMap mainGlobals n).getD .none)++VE)) :
  h.nsMap mainGlobals name=some (.ref (adOf h name))/\OwnE h (adOf h name) ((chain.map fun n=>(h.nsMap mainGlobals n).getD .none)++VE):=by
 obtain ⟨C,N,nm,q,bs,hdct,sn,sub,ab,col,dd,k0,k1,k2,k3,k5,hb,hC,hN⟩:=ownE_of0 x
 have ea:adOf h name=C:=by unfold adOf;rw [hb]
 rw [ea]
 refine ⟨hb,⟨nm,q,N,bs,hdct,sn,sub,ab,col,dd,k0,k1,k2,k3,k5,_,hC,hN,fun n hn=>?_⟩,T⟩
 unfold hushOk0 at y
 cases hf:h.clsAt mainGlobals name with
 | none=>rw [hf] at y;cases y
 | some z=>
  obtain ⟨C',o',cd'⟩:=z
  rw [hf] at y
  obtain ⟨hn',ho',hd'⟩:=Heap.clsAt_spec hf
  rw [hb] at hn'
  obtain rfl:C=C':=by injection hn' with q1;injection q1
  rw [hC] at ho'
  obtain rfl:=Option.some.inj ho'
  obtain rfl:_=cd':=by injection hd'
  exact Option.isNone_iff_eq_none.mp (List.all_eq_true.mp y n hn)
theorem errs_of {k:Base} {h0:Heap} (hc:errChk0 h0=true) (hk:∀ b o,h0.get? b=some o->k.h0.get? b=some o) (hg:k.h0.Ns mainGlobals k.mg):∃ ad,Errs k ad:=by
 obtain ⟨hc,c3⟩:=and_tt hc
 obtain ⟨c1,c2⟩:=and_tt hc
 obtain ⟨c2,c5⟩:=and_tt c2
 obtain ⟨c3,c6⟩:=and_tt c3
 have em:k.mg=h0.nsMap mainGlobals:=by
  have h1:k.h0.Ns mainGlobals (h0.nsMap mainGlobals):=(Heap.Ns.of_isNs c1).keeps hk
  rw [hg.eq_nsMap,h1.eq_nsMap]
 obtain ⟨l1,l2⟩:=ownE_of (chain:=[]) c2 c5 .base
 have hl:OwnTl h0 (((["LotError"]:List Str).map fun n=>(h0.nsMap mainGlobals n).getD .none)++VE):=by
  obtain ⟨nm,q,N,bs,hdct,sn,sub,ab,col,dd,k0,k1,k2,k3,k5,mN,h1,h2,h3⟩:=l2.at_
  show OwnTl h0 ((h0.nsMap mainGlobals "LotError").getD .none::VE)
  rw [l1]
  exact .own h1 h2 h3 .base
 refine ⟨adOf h0,⟨by rw [em];exact l1,l2.keeps hk⟩,?_⟩
 obtain ⟨s1,s2⟩:=ownE_of c3 c6 hl
 rw [show (((["LotError"]:List Str).map fun n=>(h0.nsMap mainGlobals n).getD .none)++VE)=.ref (adOf h0 "LotError")::VE by show (h0.nsMap mainGlobals "LotError").getD .none::VE=_;rw [l1];rfl] at s2
 exact ⟨by rw [em];exact s1,s2.keeps hk⟩
end Mine
end
section
open PySem PySem.W PyProof.Rows
set_option maxRecDepth 100000
set_option maxHeartbeats 8000000
namespace Mine
noncomputable def gl:Glob:=⟨[("MOST",1000000000000),("MOST_ROWS",100),("MOST_SIGNS",12)],[("LETTERS","abcdefghijklmnopqrstuvwxyz")],["is_whole","is_ware","is_day","is_count","is_lot","is_line","need","good","need_rows","best","_law_at","_law_whole","_law_mixed","_law_word","_law_count","_law_later","_law_over","_law_put","_law_row","_law_go","_law_refused","_law_sums","law","House"]⟩
theorem fn_is_whole {k:Base} (hp:TopAt k vw (looseW vw [])):Fn k "is_whole" (stAt pw 13):=hp.def2 (i:=11) (by kernel_rfl) (by kernel_rfl) (by kernel_rfl) (by kernel_rfl) (by kernel_rfl)
theorem fn_is_ware {k:Base} (hp:TopAt k vw (looseW vw [])):Fn k "is_ware" (stAt pw 14):=hp.def2 (i:=12) (by kernel_rfl) (by kernel_rfl) (by kernel_rfl) (by kernel_rfl) (by kernel_rfl)
theorem fn_is_day {k:Base} (hp:TopAt k vw (looseW vw [])):Fn k "is_day" (stAt pw 15):=hp.def2 (i:=13) (by kernel_rfl) (by kernel_rfl) (by kernel_rfl) (by kernel_rfl) (by kernel_rfl)
theorem fn_is_count {k:Base} (hp:TopAt k vw (looseW vw [])):Fn k "is_count" (stAt pw 16):=hp.def2 (i:=14) (by kernel_rfl) (by kernel_rfl) (by kernel_rfl) (by kernel_rfl) (by kernel_rfl)
theorem fn_is_lot {k:Base} (hp:TopAt k vw (looseW vw [])):Fn k "is_lot" (stAt pw 17):=hp.def2 (i:=15) (by kernel_rfl) (by kernel_rfl) (by kernel_rfl) (by kernel_rfl) (by kernel_rfl)
theorem fn_is_line {k:Base} (hp:TopAt k vw (looseW vw [])):Fn k "is_line" (stAt pw 18):=hp.def2 (i:=16) (by kernel_rfl) (by kernel_rfl) (by kernel_rfl) (by kernel_rfl) (by kernel_rfl)
theorem fn_need {k:Base} (hp:TopAt k vw (looseW vw [])):Fn k "need" (stAt pw 19):=hp.def2 (i:=17) (by kernel_rfl) (by kernel_rfl) (by kernel_rfl) (by kernel_rfl) (by kernel_rfl)
theorem fn_good {k:Base} (hp:TopAt k vw (looseW vw [])):Fn k "good" (stAt pw 20):=hp.def2 (i:=18) (by kernel_rfl) (by kernel_rfl) (by kernel_rfl) (by kernel_rfl) (by kernel_rfl)
theorem fn_need_rows {k:Base} (hp:TopAt k vw (looseW vw [])):Fn k "need_rows" (stAt pw 21):=hp.def2 (i:=19) (by kernel_rfl) (by kernel_rfl) (by kernel_rfl) (by kernel_rfl) (by kernel_rfl)
theorem fn_best {k:Base} (hp:TopAt k vw (looseW vw [])):Fn k "best" (stAt pw 23):=hp.def2 (i:=20) (by kernel_rfl) (by kernel_rfl) (by kernel_rfl) (by kernel_rfl) (by kernel_rfl)
theorem fn_law_at {k:Base} (hp:TopAt k vw (looseW vw [])):Fn k "_law_at" (stAt pw 27):=hp.def2 (i:=22) (by kernel_rfl) (by kernel_rfl) (by kernel_rfl) (by kernel_rfl) (by kernel_rfl)
theorem fn_law_whole {k:Base} (hp:TopAt k vw (looseW vw [])):Fn k "_law_whole" (stAt pw 28):=hp.def2 (i:=23) (by kernel_rfl) (by kernel_rfl) (by kernel_rfl) (by kernel_rfl) (by kernel_rfl)
theorem fn_law_mixed {k:Base} (hp:TopAt k vw (looseW vw [])):Fn k "_law_mixed" (stAt pw 29):=hp.def2 (i:=24) (by kernel_rfl) (by kernel_rfl) (by kernel_rfl) (by kernel_rfl) (by kernel_rfl)
theorem fn_law_word {k:Base} (hp:TopAt k vw (looseW vw [])):Fn k "_law_word" (stAt pw 30):=hp.def2 (i:=25) (by kernel_rfl) (by kernel_rfl) (by kernel_rfl) (by kernel_rfl) (by kernel_rfl)
theorem fn_law_count {k:Base} (hp:TopAt k vw (looseW vw [])):Fn k "_law_count" (stAt pw 31):=hp.def2 (i:=26) (by kernel_rfl) (by kernel_rfl) (by kernel_rfl) (by kernel_rfl) (by kernel_rfl)
theorem fn_law_later {k:Base} (hp:TopAt k vw (looseW vw [])):Fn k "_law_later" (stAt pw 32):=hp.def2 (i:=27) (by kernel_rfl) (by kernel_rfl) (by kernel_rfl) (by kernel_rfl) (by kernel_rfl)
theorem fn_law_over {k:Base} (hp:TopAt k vw (looseW vw [])):Fn k "_law_over" (stAt pw 33):=hp.def2 (i:=28) (by kernel_rfl) (by kernel_rfl) (by kernel_rfl) (by kernel_rfl) (by kernel_rfl)
theorem fn_law_put {k:Base} (hp:TopAt k vw (looseW vw [])):Fn k "_law_put" (stAt pw 34):=hp.def2 (i:=29) (by kernel_rfl) (by kernel_rfl) (by kernel_rfl) (by kernel_rfl) (by kernel_rfl)
theorem fn_law_row {k:Base} (hp:TopAt k vw (looseW vw [])):Fn k "_law_row" (stAt pw 35):=hp.def2 (i:=30) (by kernel_rfl) (by kernel_rfl) (by kernel_rfl) (by kernel_rfl) (by kernel_rfl)
theorem fn_law_go {k:Base} (hp:TopAt k vw (looseW vw [])):Fn k "_law_go" (stAt pw 36):=hp.def2 (i:=31) (by kernel_rfl) (by kernel_rfl) (by kernel_rfl) (by kernel_rfl) (by kernel_rfl)
theorem fn_law_refused {k:Base} (hp:TopAt k vw (looseW vw [])):Fn k "_law_refused" (stAt pw 37):=hp.def2 (i:=32) (by kernel_rfl) (by kernel_rfl) (by kernel_rfl) (by kernel_rfl) (by kernel_rfl)
theorem fn_law_sums {k:Base} (hp:TopAt k vw (looseW vw [])):Fn k "_law_sums" (stAt pw 38):=hp.def2 (i:=33) (by kernel_rfl) (by kernel_rfl) (by kernel_rfl) (by kernel_rfl) (by kernel_rfl)
theorem fn_law {k:Base} (hp:TopAt k vw (looseW vw [])):Fn k "law" (stAt pw 39):=hp.def2 (i:=34) (by kernel_rfl) (by kernel_rfl) (by kernel_rfl) (by kernel_rfl) (by kernel_rfl)
theorem gl_ok {k:Base} (hd:k.hd=true) (hp:TopAt k vw (looseW vw [])) (hh:Def k "House"):GlobOk k gl:=by
 refine .of hp.ok (all_cons (hp.constI (by kernel_rfl)) (all_cons (hp.constI (by kernel_rfl)) (all_cons (hp.constI (by kernel_rfl)) all_nil))) (all_cons (hp.constS (by kernel_rfl)) all_nil) (all_cons (fn_is_whole hp).def (all_cons (fn_is_ware hp).def (all_cons (fn_is_day hp).def (all_cons (fn_is_count hp).def (all_cons (fn_is_lot hp).def (all_cons (fn_is_line hp).def (all_cons (fn_need hp).def (all_cons (fn_good hp).def (all_cons (fn_need_rows hp).def (all_cons (fn_best hp).def (all_cons (fn_law_at hp).def (all_cons (fn_law_whole hp).def (all_cons (fn_law_mixed hp).def (all_cons (fn_law_word hp).def (all_cons (fn_law_count hp).def (all_cons (fn_law_later hp).def (all_cons (fn_law_over hp).def (all_cons (fn_law_put hp).def (all_cons (fn_law_row hp).def (all_cons (fn_law_go hp).def (all_cons (fn_law_refused hp).def (all_cons (fn_law_sums hp).def (all_cons (fn_law hp).def (all_cons hh all_nil)))))))))))))))))))))))) (fun f=>?_) hd
 cases f <;> exact hp.blt (by decide +kernel) (by decide) (by rfl)
noncomputable def hcl:List ClsRec:=plainsOf vw (looseW vw [])
theorem hcl_len:0<hcl.length:=by decide +kernel
noncomputable def hcr:ClsRec:=(hcl[0]'hcl_len).withCmp
noncomputable def mst (i:Nat):Stmt:=(clsB (stAt pw 25)).getD i (.Pass ⟨0,0,0,0⟩)
theorem hm_len:hcr.meths.length=14:=by decide +kernel
noncomputable def hm (i:Nat) (h:i<14):MethRec:=hcr.meths[i]'(by rw [hm_len];exact h)
theorem hm_mem (i:Nat) (h:i<14):hm i h∈hcr.meths:=List.getElem_mem _
theorem house_of {k:Base} (hd:k.hd=true) (hp:TopAt k vw (looseW vw [])) (hE:TopE vw (looseW vw []) k.mg k.h0) (hT:GlobOk k gl->Things k/\FnT k "best" 2 t_best):∃ C f,(HouseK k C f/\HouseM k f)/\GlobOk k gl:=by
 obtain ⟨C,N,mN,hC,P⟩:=hE (hcl[0]'hcl_len) (List.getElem_mem _)
 replace P:PlainAt k.h0 hcr C N mN:=P
 replace hC:k.mg "House"=some (.ref C):=hC
 have hG:=gl_ok hd hp ⟨_,hC,.inr (.inr (.inr ⟨C,N,mN,rfl,P.cls⟩))⟩
 have hK:Cls k C N mN:=⟨P.cls,P.quiet _ (by decide +kernel),P.quiet _ (by decide +kernel),P.quiet _ (by decide +kernel)⟩
 have m0:=zar P hK (x:="__init__") (hm_mem 0 (by decide)) (by kernel_rfl) (st:=mst 0) (by kernel_rfl) (by kernel_rfl) (by kernel_rfl) (by kernel_rfl) (by kernel_rfl) (by kernel_rfl) (y:=some (.builtin "object.__init__")) (by rw [typeLookup_type,builtinLookup_eq_fast];kernel_rfl)
 have m1:=zar P hK (x:="receive") (hm_mem 1 (by decide)) (by kernel_rfl) (st:=mst 1) (by kernel_rfl) (by kernel_rfl) (by kernel_rfl) (by kernel_rfl) (by kernel_rfl) (by kernel_rfl) (y:=none) (by rw [typeLookup_type,builtinLookup_eq_fast];kernel_rfl)
 have m2:=zar P hK (x:="order") (hm_mem 2 (by decide)) (by kernel_rfl) (st:=mst 2) (by kernel_rfl) (by kernel_rfl) (by kernel_rfl) (by kernel_rfl) (by kernel_rfl) (by kernel_rfl) (y:=none) (by rw [typeLookup_type,builtinLookup_eq_fast];kernel_rfl)
 have m3:=zar P hK (x:="cancel") (hm_mem 3 (by decide)) (by kernel_rfl) (st:=mst 3) (by kernel_rfl) (by kernel_rfl) (by kernel_rfl) (by kernel_rfl) (by kernel_rfl) (by kernel_rfl) (y:=none) (by rw [typeLookup_type,builtinLookup_eq_fast];kernel_rfl)
 have m4:=zar P hK (x:="plan") (hm_mem 4 (by decide)) (by kernel_rfl) (st:=mst 4) (by kernel_rfl) (by kernel_rfl) (by kernel_rfl) (by kernel_rfl) (by kernel_rfl) (by kernel_rfl) (y:=none) (by rw [typeLookup_type,builtinLookup_eq_fast];kernel_rfl)
 have m5:=zar P hK (x:="throw") (hm_mem 5 (by decide)) (by kernel_rfl) (st:=mst 5) (by kernel_rfl) (by kernel_rfl) (by kernel_rfl) (by kernel_rfl) (by kernel_rfl) (by kernel_rfl) (y:=none) (by rw [typeLookup_type,builtinLookup_eq_fast];kernel_rfl)
 have m6:=zar P hK (x:="deal") (hm_mem 6 (by decide)) (by kernel_rfl) (st:=mst 6) (by kernel_rfl) (by kernel_rfl) (by kernel_rfl) (by kernel_rfl) (by kernel_rfl) (by kernel_rfl) (y:=none) (by rw [typeLookup_type,builtinLookup_eq_fast];kernel_rfl)
 have m7:=zar P hK (x:="go_to") (hm_mem 7 (by decide)) (by kernel_rfl) (st:=mst 7) (by kernel_rfl) (by kernel_rfl) (by kernel_rfl) (by kernel_rfl) (by kernel_rfl) (by kernel_rfl) (y:=none) (by rw [typeLookup_type,builtinLookup_eq_fast];kernel_rfl)
 have m8:=zar P hK (x:="there") (hm_mem 8 (by decide)) (by kernel_rfl) (st:=mst 8) (by kernel_rfl) (by kernel_rfl) (by kernel_rfl) (by kernel_rfl) (by kernel_rfl) (by kernel_rfl) (y:=none) (by rw [typeLookup_type,builtinLookup_eq_fast];kernel_rfl)
 have m9:=zar P hK (x:="open_lines") (hm_mem 9 (by decide)) (by kernel_rfl) (st:=mst 9) (by kernel_rfl) (by kernel_rfl) (by kernel_rfl) (by kernel_rfl) (by kernel_rfl) (by kernel_rfl) (y:=none) (by rw [typeLookup_type,builtinLookup_eq_fast];kernel_rfl)
 have m10:=zar P hK (x:="need_number") (hm_mem 10 (by decide)) (by kernel_rfl) (st:=mst 10) (by kernel_rfl) (by kernel_rfl) (by kernel_rfl) (by kernel_rfl) (by kernel_rfl) (by kernel_rfl) (y:=none) (by rw [typeLookup_type,builtinLookup_eq_fast];kernel_rfl)
 have m11:=zar P hK (x:="given") (hm_mem 11 (by decide)) (by kernel_rfl) (st:=mst 11) (by kernel_rfl) (by kernel_rfl) (by kernel_rfl) (by kernel_rfl) (by kernel_rfl) (by kernel_rfl) (y:=none) (by rw [typeLookup_type,builtinLookup_eq_fast];kernel_rfl)
 have m12:=zar P hK (x:="thrown") (hm_mem 12 (by decide)) (by kernel_rfl) (st:=mst 12) (by kernel_rfl) (by kernel_rfl) (by kernel_rfl) (by kernel_rfl) (by kernel_rfl) (by kernel_rfl) (y:=none) (by rw [typeLookup_type,builtinLookup_eq_fast];kernel_rfl)
 have m13:=zar P hK (x:="got") (hm_mem 13 (by decide)) (by kernel_rfl) (st:=mst 13) (by kernel_rfl) (by kernel_rfl) (by kernel_rfl) (by kernel_rfl) (by kernel_rfl) (by kernel_rfl) (y:=none) (by rw [typeLookup_type,builtinLookup_eq_fast];kernel_rfl)
 obtain ⟨fI,oI,i1,i2,i3⟩:=m0.2.2
 refine ⟨C,fun x=>(mN x).getD .none,⟨⟨?_,?_,⟨N,mN,fI,oI,hK,i1,by rw [i1];rfl,i2,i3⟩,hC,.of (N:=n_House_init) m0.2.1 hG (by kernel_rfl),.of (N:=n_House_receive) m1.2.1 hG (by kernel_rfl),.of (N:=n_House_order) m2.2.1 hG (by kernel_rfl),.of (N:=n_House_cancel) m3.2.1 hG (by kernel_rfl),fun loc=>.of (N:=n_House_plan) m4.2.1 hG (by cases loc <;> kernel_rfl),.of (N:=n_House_throw) m5.2.1 hG (by kernel_rfl),.of (N:=n_House_deal) m6.2.1 hG (by kernel_rfl),.of (N:=n_House_go_to) m7.2.1 hG (by kernel_rfl),.of (N:=n_House_there) m8.2.1 hG (by kernel_rfl),.of (N:=n_House_open_lines) m9.2.1 hG (by kernel_rfl),(hT hG).1,(hT hG).2⟩,⟨.of (N:=n_House_need_number) m10.2.1 hG (by kernel_rfl),.of (N:=n_House_given) m11.2.1 hG (by kernel_rfl),.of (N:=n_House_thrown) m12.2.1 hG (by kernel_rfl),.of (N:=n_House_got) m13.2.1 hG (by kernel_rfl)⟩⟩,hG⟩
 ·refine (all_cons ⟨N,mN,hK,P.quiet _ (by decide +kernel),by rw [typeLookup_type,builtinLookup_eq_fast];kernel_rfl⟩ (all_cons ⟨N,mN,hK,P.quiet _ (by decide +kernel),by rw [typeLookup_type,builtinLookup_eq_fast];kernel_rfl⟩ (all_cons ⟨N,mN,hK,P.quiet _ (by decide +kernel),by rw [typeLookup_type,builtinLookup_eq_fast];kernel_rfl⟩ (all_cons ⟨N,mN,hK,P.quiet _ (by decide +kernel),by rw [typeLookup_type,builtinLookup_eq_fast];kernel_rfl⟩ (all_cons ⟨N,mN,hK,P.quiet _ (by decide +kernel),by rw [typeLookup_type,builtinLookup_eq_fast];kernel_rfl⟩ (all_cons ⟨N,mN,hK,P.quiet _ (by decide +kernel),by rw [typeLookup_type,builtinLookup_eq_fast];kernel_rfl⟩ all_nil))))))
 ·refine (all_cons m1.1 (all_cons m2.1 (all_cons m3.1 (all_cons m4.1 (all_cons m5.1 (all_cons m6.1 (all_cons m7.1 (all_cons m8.1 (all_cons m9.1 (all_cons m10.1 (all_cons m11.1 (all_cons m12.1 (all_cons m13.1 all_nil)))))))))))))
theorem pg_of {k:Base} (hd:k.hd=true) (hp:TopAt k vw (looseW vw [])) (errs:∃ ad,Errs k ad) (hE:TopE vw (looseW vw []) k.mg k.h0):L12 k:=by
 obtain ⟨C,f,hh,hG⟩:=house_of hd hp hE fun hG=>⟨⟨.of (N:=n_is_whole) (fn_is_whole hp) hG (by kernel_rfl),.of (N:=n_is_ware) (fn_is_ware hp) hG (by kernel_rfl),.of (N:=n_is_day) (fn_is_day hp) hG (by kernel_rfl),.of (N:=n_is_count) (fn_is_count hp) hG (by kernel_rfl),.of (N:=n_is_lot) (fn_is_lot hp) hG (by kernel_rfl),.of (N:=n_is_line) (fn_is_line hp) hG (by kernel_rfl),.of (N:=n_need) (fn_need hp) hG (by kernel_rfl),.of (N:=n_good) (fn_good hp) hG (by kernel_rfl),.of (N:=n_need_rows) (fn_need_rows hp) hG (by kernel_rfl)⟩,.of (N:=n_best) (fn_best hp) hG (by kernel_rfl)⟩
 have house:∃ C f,HouseK k C f/\HouseM k f:=⟨C,f,hh⟩
 have things:=hh.1.things
 have best:=hh.1.best
 have f_law_at:FnT k "_law_at" 2 t_law_at:=.of (N:=n_law_at) (fn_law_at hp) hG (by kernel_rfl)
 have f_law_word:FnT k "_law_word" 2 t_law_word:=.of (N:=n_law_word) (fn_law_word hp) hG (by kernel_rfl)
 have f_law_mixed:FnT k "_law_mixed" 2 t_law_mixed:=.of (N:=n_law_mixed) (fn_law_mixed hp) hG (by kernel_rfl)
 have f_law_whole:FnT k "_law_whole" 1 t_law_whole:=.of (N:=n_law_whole) (fn_law_whole hp) hG (by kernel_rfl)
 have f_law_later:FnT k "_law_later" 2 t_law_later:=.of (N:=n_law_later) (fn_law_later hp) hG (by kernel_rfl)
 have f_law_over:FnT k "_law_over" 1 t_law_over:=.of (N:=n_law_over) (fn_law_over hp) hG (by kernel_rfl)
 have f_law_count:FnT k "_law_count" 1 t_law_count:=.of (N:=n_law_count) (fn_law_count hp) hG (by kernel_rfl)
 have f_law_put:FnT k "_law_put" 4 t_law_put_12:=.of (N:=n_law_put_12) (fn_law_put hp) hG (by kernel_rfl)
 have f_law_row:FnT k "_law_row" 5 t_law_row_12:=.of (N:=n_law_row_12) (fn_law_row hp) hG (by kernel_rfl)
 have f_law_go:FnT k "_law_go" 3 t_law_go_12:=.of (N:=n_law_go_12) (fn_law_go hp) hG (by kernel_rfl)
 have f_law_refused:FnT k "_law_refused" 3 t_law_refused_12:=.of (N:=n_law_refused_12) (fn_law_refused hp) hG (by kernel_rfl)
 have f_law_sums:FnT k "_law_sums" 2 t_law_sums_12:=.of (N:=n_law_sums_12) (fn_law_sums hp) hG (by kernel_rfl)
 have f_law:FnT k "law" 1 t_law_12:=.of (N:=n_law_12) (fn_law hp) hG (by kernel_rfl)
 constructor <;> (repeat (first | assumption | constructor))
theorem ldef_some:(defOf vw (Str.ofString "law")).isSome=true:=by kernel_rfl
noncomputable def ldef:DefRec × List (Str × Expr):=(defOf vw (Str.ofString "law")).get ldef_some
theorem ldef_eq:defOf vw Challenge.rw_uf040031_12.row.name=some (ldef.1,ldef.2):=by kernel_rfl
theorem ldef_p:Challenge.rw_uf040031_12.row.prog.theDef Challenge.rw_uf040031_12.row.name=some (ldef.1.params,ldef.1.body,ldef.1.scope):=by kernel_rfl
theorem ldef_k:kwWritten? ldef.1.params.kwonlyargs ldef.1.params.kw_defaults=some ldef.2:=by kernel_rfl
theorem said:Challenge.rw_uf040031_12.wellSaid=true:=by
 unfold OpenLaw.wellSaid
 repeat' with_reducible first | refine look_both ?_ ?_ | unfold OpenRow.wellSaid | unfold OpenRow.partSaid | unfold looksOpen
 all_goals decide +kernel
end Mine
theorem PySem.Challenge.cw_uf040031_12_holds : PySem.Challenge.rw_uf040031_12.Holds := by
 w_on
 refine holds_law Mine.said fun said=>?_
 refine holds_open (q:=Mine.vw) (loose:=[]) (Xt:=Mine.xt) (XP:=XL Mine.vw []) (Yf:=Hook.obs Mine.errHook0) (Ya:=Hook.val Mine.errHook0) (YP:=Hook.says Mine.errHook0) (N:=9000) Mine.left (Hook.of Mine.errHook0) (Hook.keeps Mine.errHook0) (fun s e=>xl_of s (Bool.and_eq_true_iff.mp e).1) XL.keeps (d:=Mine.ldef.1) (kwd:=Mine.ldef.2) Mine.ldef_eq Mine.ldef_p Mine.ldef_k (fun s e=>recFacts_of (Bool.and_eq_true_iff.mp e).2) (by rfl) (by first | assumption | decide +kernel) (by decide +kernel) ⟨rfl,rfl,rfl,rfl,rfl,by decide +kernel⟩ ?hw ?hc
 clear said
 (case hw=>w_witness2)
 intro w s₀ s₁ mg mb G Y fa o pm cd doc dV kV ho hd hcd hD hmg hg args vals as hpre hlay hrd hwl hlo
 refine Ground.open G ?_
 intro T B D TE TW
 try (refine guard_noD D (by decide +kernel) ?_;clear D)
 have hmg':mg (Str.ofString "law")=some (.ref fa):=hmg
 clear hd hcd hD hmg ho
 wrow_args hpre hlay hrd hwl hlo
 rename Well _ _ _ _=>hW
 rename Heap.IsList _ _ _=>hL
 rename IntsAre _ _=>hI
 rename (¬ (_:Int)<_)=>hlen
 rename (PyData.list _).layable0=true=>hbits
 have hk:(Mine.Base.mk Challenge.rw_uf040031_12.row.prog w s₁.heap mg mb true).OK:=⟨T.g,T.b,T.nolimit⟩
 have htop:Mine.TopAt (Mine.Base.mk Challenge.rw_uf040031_12.row.prog w s₁.heap mg mb true) Mine.vw (looseW Mine.vw []):=⟨hk,T.fn,T.const,T.free,T.builtins⟩
 obtain ⟨h0,hY1,hY2⟩:=(show ∃ h0,Mine.errChk0 h0=true/\∀ b o,h0.get? b=some o->s₁.heap.get? b=some o from Y)
 have he:=Mine.errs_of (k:=Mine.Base.mk Challenge.rw_uf040031_12.row.prog w s₁.heap mg mb true) hY1 hY2 T.g
 have hpg:Mine.L12 (Mine.Base.mk Challenge.rw_uf040031_12.row.prog w s₁.heap mg mb true):=Mine.pg_of rfl htop he TE
 refine Mine.law_head hk hW hL hI (by omega) hg ?_
 obtain ⟨f,hf,hcall⟩:=Mine.S_law (c:=⟨Mine.Base.mk Challenge.rw_uf040031_12.row.prog w s₁.heap mg mb true,[],[]⟩) (d:=79) (X:=Mine.NoX) hpg (by omega) (Mine.bits_of_layable hbits)
 have hf':mg (Str.ofString "law")=some f:=hf
 rw [hmg'] at hf';cases hf'
 exact hcall
end
